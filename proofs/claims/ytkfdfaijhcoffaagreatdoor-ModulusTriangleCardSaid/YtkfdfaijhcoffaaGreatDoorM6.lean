/-
  A part of the proof of the statements of this seat (texts that the law's own text leans on): no condition.
-/
import Derived.Test.YtkfdfaijhcoffaaGreatDoorM5
import Derived.Test.YtkfdfaijhcoffaaGreatDoorM4
import Derived.Test.YtkfdfaijhcoffaaGreatDoorM3
set_option linter.unusedVariables false
set_option linter.unusedSimpArgs false
/-
  One digit of a long quotient: the function.
-/
namespace Go.Cv
variable {G : Nat → Option (List AV)} {T : Tbl} {g : Nat}

theorem put_self {h : Heap} {b : Nat} {l : List Nat} (H : Holds h b l) : put h b l = h := by
  have := H.at_
  cases h with
  | mk bs fs =>
    simp only [put] at *
    congr 1
    apply List.ext_getElem?
    intro i
    by_cases hi : b = i
    · subst hi
      rw [List.getElem?_set_self (by have := (List.getElem?_eq_some_iff.1 this).1; exact this), this]
    · rw [List.getElem?_set_ne hi]

theorem step_facts2 {W V : List Nat} {n : Nat} (p : StepPre W V n) : ∃ P t, t = dg W n * 4294967296 + dg W (n - 1) ∧ 0 < P ∧ (dg V (n - 1) * 4294967296 + dg V (n - 2)) * P ≤ val V ∧ val V ≤ (dg V (n - 1) * 4294967296 + dg V (n - 2) + 1) * P ∧
    (t * 4294967296 + dg W (n - 2)) * P ≤ val W ∧ val W < (t * 4294967296 + dg W (n - 2) + 1) * P ∧
    t < dg V (n - 1) * 4294967296 + 4294967296 ∧ val W / val V ≤ t / dg V (n - 1) ∧ 0 < val V := by
  obtain ⟨P, h⟩ := step_facts p
  exact ⟨P, _, rfl, h⟩

theorem nat_step (hT : HasA g T) {h : Heap} {bu bv n : Nat} {A C V V2 W : List Nat} (HU : Holds h bu (A ++ W ++ C)) (HV : Holds h bv (V ++ V2)) (hne : bv ≠ bu) (p : StepPre W V n) :
    ∃ W', kJ G c_nat_step.res (evL G T c_nat_step.body (numE 0 [.own bu A.length (n + 1) 1, .own bv 0 n 1]) h) = some (.int .u32 ((val W / val V : Nat) : Int), put h bu (A ++ W' ++ C)) ∧ W'.length = n + 1 ∧ Dg W' ∧ val W' = val W % val V := by
  obtain ⟨P, t, hte, hP, f1, f2, f3, f4, f5, f6, f7⟩ := step_facts2 p
  obtain ⟨hn, hs, hW, hV, dW, dV, top, lt⟩ := p
  have x0 := dW.dg n
  have x1 := dW.dg (n - 1)
  have y1 := dV.dg (n - 1)
  have ht : t < 18446744073709551616 := by omega
  have hmod := Nat.mod_lt t (y := dg V (n - 1)) (by omega)
  have hdm := Nat.div_add_mod t (dg V (n - 1))
  rw [Nat.mul_comm] at hdm
  obtain ⟨_, hr, e, q', rfl, hq1, hq2, hq3⟩ := step_guess (G := G) (T := T) (t := t) HU HV hW hV hn (by omega) dV dW rfl rfl rfl f7 f1 f2 f3 f4 lt (by omega) f5 ht _ _ (by omega) hdm f6
  obtain ⟨_, hr2, e2, W1, c, w, rfl, hW1, dW1, hc, hw, hv1⟩ := step_take (G := G) hT HU HV hne hV (by omega) dV hq1 n 0 W 0 0 (by omega) hW dW (by decide) (by decide) (by simp [val])
  rw [put_self HU, cast0] at hr2
  have HU1 := HU.put (A ++ W1 ++ C)
  have l0 := load_w (G := G) HU (i := n) (by omega)
  have l1 := load_w (G := G) HU (i := n - 1) (by omega)
  have l2 := load_v (G := G) HV (i := n - 1) (by omega)
  have l3 := load_w (G := G) HU1 (i := n) (by omega)
  have i1 : (n : Int) - 1 = ((n - 1 : Nat) : Int) := by omega
  have w0 : (dg W n : Int) % 18446744073709551616 = dg W n := by omega
  have w1 : (dg W (n - 1) : Int) % 18446744073709551616 = dg W (n - 1) := by omega
  have w2 := shl32_or x0 x1
  rw [← hte] at w2
  have w3 : (dg V (n - 1) : Int) % 18446744073709551616 = dg V (n - 1) := by omega
  have h2 : ¬ (dg V (n - 1) : Int) = 0 := by omega
  have hbig : t / dg V (n - 1) < 18446744073709551616 := Nat.lt_of_le_of_lt (Nat.div_le_self _ _) ht
  have w4 : (t : Int).tdiv (dg V (n - 1) : Int) = ((t / dg V (n - 1) : Nat) : Int) := rfl
  have w5 : (t : Int).tmod (dg V (n - 1) : Int) = ((t % dg V (n - 1) : Nat) : Int) := rfl
  generalize t / dg V (n - 1) = tq at *
  generalize t % dg V (n - 1) = tm at *
  have w6 : (tq : Int) % 18446744073709551616 = tq := by omega
  have w7 : (c : Int) % 4294967296 = c := by omega
  obtain ⟨d, z, hd, hz, hdz⟩ := sub_dig (dW1.dg n) hc hw
  have call := bits_Sub32 (G := G) hT (dW1.dg n) hc hw hd hz hdz
  have st := store_w HU1 (i := n) (x := d) (by omega)
  rw [put_put] at st
  have hset := val_set (l := W1) (j := n) d (by omega)
  have hlen2 : (W1.set n d).length = n + 1 := by rw [List.length_set]; exact hW1
  have dW2 := Dg_set (i := n) dW1 hd
  have hlt2 := val_lt dW2
  rw [hlen2] at hlt2
  have key : val (W1.set n d) + q' * val V = val W + 4294967296 ^ (n + 1) * z := by
    rw [Nat.pow_succ, Nat.mul_assoc]
    have h1 : 4294967296 ^ n * d + 4294967296 ^ n * c + 4294967296 ^ n * w = 4294967296 ^ n * dg W1 n + 4294967296 ^ n * (4294967296 * z) := by rw [← Nat.mul_add, ← Nat.mul_add, hdz, Nat.mul_add]
    rw [Nat.mul_add] at hv1
    generalize 4294967296 ^ n * (4294967296 * z) = a1 at *
    generalize 4294967296 ^ n * d = a2 at *
    generalize 4294967296 ^ n * c = a3 at *
    generalize 4294967296 ^ n * w = a4 at *
    generalize 4294967296 ^ n * dg W1 n = a5 at *
    generalize q' * val V = a6 at *
    omega
  by_cases hz0 : z = 0
  · subst hz0
    rw [Nat.mul_zero, Nat.add_zero] at key
    obtain ⟨k1, k2⟩ := step_fin0 f7 key hq2
    refine ⟨W1.set n d, ?_, hlen2, dW2, k2⟩
    rw [← k1]
    rw [cast0] at call
    have w8 : (q' : Int) % 4294967296 = q' := by omega
    clear key k1 k2 hset hdm hlt2 f1 f2 f3 f4 f5 f6 hv1 lt hq2 hq3
    repeat (first | (simp (maxSteps := 1000000) only [evB, if_true, if_false, ne_eq, Nat.reduceEqDiff, Nat.reduceAdd, reduceCtorEq, Int.reduceLE, Int.reduceLT, Int.reduceEq, Int.reduceNeg, Int.reduceToNat, Int.reducePow, Int.reduceMod, Int.reduceDiv, Int.reduceSub, Int.reduceAdd, Int.reduceMul, Nat.reduceMul, Nat.reduceSub, Nat.reducePow, c_nat_step, l0, l1, l2, l3, i1, w0, w1, w2, w3, w4, w5, w6, w7, w8, h2, hr, hr2, call, st ]) | (simp (disch := omega) only [dsB,  iaddr_off]))
  · obtain rfl : z = 1 := by omega
    rw [Nat.mul_one] at key
    have HU2 := HU.put (A ++ W1.set n d ++ C)
    have HV2 := HV.other (l := A ++ W1.set n d ++ C) hne
    obtain ⟨_, hr3, e3, W3, w', rfl, hW3, dW3, hw3, hv3, hn3⟩ := step_back (G := G) (q := q') hT HU2 HV2 hne hV (by omega) dV n 0 (W1.set n d) 0 (by omega) hlen2 dW2 (by decide) (by simp [val]) rfl
    rw [put_put, put_put, cast0] at hr3
    have HU3 := HU.put (A ++ W3 ++ C)
    have l4 := load_w (G := G) HU3 (i := n) (by omega)
    have x3 := dW3.dg n
    have w9 : ((dg W3 n : Int) + w') % 4294967296 = (((dg W3 n + w') % 4294967296 : Nat) : Int) := by omega
    have hdd : dg W3 n + w' = (dg W3 n + w') % 4294967296 + 4294967296 * ((dg W3 n + w') / 4294967296) := by omega
    have hd3 : (dg W3 n + w') % 4294967296 < 4294967296 := Nat.mod_lt _ (by decide)
    generalize (dg W3 n + w') % 4294967296 = d3 at *
    generalize (dg W3 n + w') / 4294967296 = k3 at *
    have st3 := store_w HU3 (i := n) (x := d3) (by omega)
    rw [put_put] at st3
    have hset3 := val_set (l := W3) (j := n) d3 (by omega)
    have hlen4 : (W3.set n d3).length = n + 1 := by rw [List.length_set]; exact hW3
    have dW4 := Dg_set (i := n) dW3 hd3
    have hlt4 := val_lt dW4
    rw [hlen4] at hlt4
    have key4 : val (W3.set n d3) + 4294967296 ^ (n + 1) * k3 = val (W1.set n d) + val V := by
      rw [Nat.pow_succ, Nat.mul_assoc]
      have h1 : 4294967296 ^ n * dg W3 n + 4294967296 ^ n * w' = 4294967296 ^ n * d3 + 4294967296 ^ n * (4294967296 * k3) := by rw [← Nat.mul_add, ← Nat.mul_add, hdd]
      generalize 4294967296 ^ n * (4294967296 * k3) = a1 at *
      generalize 4294967296 ^ n * d3 = a2 at *
      generalize 4294967296 ^ n * w' = a3 at *
      generalize 4294967296 ^ n * dg W3 n = a4 at *
      omega
    have hYB : val V ≤ 4294967296 ^ (n + 1) := by
      have h1 := val_lt dV
      rw [hV] at h1
      exact Nat.le_of_lt (Nat.lt_of_lt_of_le h1 (Nat.pow_le_pow_right (by decide) (Nat.le_succ n)))
    obtain ⟨k1, k2⟩ := step_fin1 f7 hYB key hlt2 hq3 key4 hlt4
    refine ⟨W3.set n d3, ?_, hlen4, dW4, k2⟩
    have hq : val W / val V = q' - 1 := by rw [k1, Nat.add_sub_cancel]
    have hq0 : 1 ≤ q' := by rw [k1]; exact Nat.le_add_left 1 _
    rw [hq]
    rw [show ((1 : Nat) : Int) = 1 from rfl] at call
    have w8 : ((q' : Int) - 1) % 18446744073709551616 = ((q' - 1 : Nat) : Int) := by omega
    have w10 : ((q' - 1 : Nat) : Int) % 4294967296 = ((q' - 1 : Nat) : Int) := by omega
    clear key k1 k2 hset hdm hlt2 f1 f2 f3 f4 f5 f6 hv1 lt hq2 hq3 key4 hset3 hYB hdd hv3 hlt4 hq
    repeat (first | (simp (maxSteps := 1000000) only [evB, if_true, if_false, ne_eq, Nat.reduceEqDiff, Nat.reduceAdd, reduceCtorEq, Int.reduceLE, Int.reduceLT, Int.reduceEq, Int.reduceNeg, Int.reduceToNat, Int.reducePow, Int.reduceMod, Int.reduceDiv, Int.reduceSub, Int.reduceAdd, Int.reduceMul, Nat.reduceMul, Nat.reduceSub, Nat.reducePow, c_nat_step, l0, l1, l2, l3, l4, i1, w0, w1, w2, w3, w4, w5, w6, w7, w8, w9, w10, h2, hr, hr2, hr3, call, st, st3 ]) | (simp (disch := omega) only [dsB,  iaddr_off]))
end Go.Cv

/-
  Numbers shifted up into a block of the caller's.
-/
namespace Go.Cv
variable {G : Nat → Option (List AV)} {T : Tbl} {g : Nat}

/-- What was in blocks of a heap is there still; and the value is in none of them. -/
def KeepsAll (h0 h : Heap) (v : AV) : Prop := ∀ bv lv, Holds h0 bv lv → Holds h bv lv ∧ ∀ b o n s, v = .own b o n s → b ≠ bv

theorem app_keeps {h0 h : Heap} {v : AV} {l : List Nat} (B : Bld h v l) (K : KeepsAll h0 h v) {w : Int} (hw : 0 ≤ w) (hl : l.length < 1099511627776) :
    KeepsAll h0 (appH h v w) (.own (h.b.length + 1) 0 (l.length + 1) 1) := by
  intro bv lv H0
  obtain ⟨HH, hne⟩ := K bv lv H0
  obtain ⟨hf, hB⟩ := B
  have e0 : sliceCells (Heap.mem ⟨h.b ++ [⟨[.int .u32 w], false⟩], h.f⟩) 1 (.own h.b.length 0 1 1) = some (1, cells [w.toNat]) := by
    have : (Heap.mem ⟨h.b ++ [⟨[.int .u32 w], false⟩], h.f⟩) h.b.length = some ⟨cells [w.toNat], false⟩ := by
      simp [Heap.mem, cells, Int.toNat_of_nonneg hw]
    simp [sliceCells, rdBlk, this, cells]
  have key : ∃ h', appV ⟨h.b ++ [⟨[.int .u32 w], false⟩], h.f⟩ 1 4 v (.own h.b.length 0 1 1) = some (.own (h.b.length + 1) 0 (l.length + 1) 1, h') ∧
      h'.f = h.f ∧ h'.b[bv]? = h.b[bv]? := by
    rcases hB with ⟨rfl, rfl⟩ | ⟨b, l2, rfl, H⟩
    · refine ⟨⟨(h.b ++ [⟨[.int .u32 w], false⟩]) ++ [⟨cells [w.toNat], false⟩], h.f⟩, ?_, rfl, ?_⟩
      · simp only [appV, e0, Nat.succ_ne_zero, if_false]
        rw [if_pos (by decide)]
        simp
      · show (h.b ++ _ ++ _)[bv]? = _
        rw [List.getElem?_append_left (by simp only [List.length_append]; have := HH.lt; omega), List.getElem?_append_left HH.lt]
    · refine ⟨⟨(h.b ++ [(⟨[.int .u32 w], false⟩ : Blk)]).set b ⟨cells (l ++ l2), true⟩ ++ [⟨cells (l ++ [w.toNat]), false⟩], h.f⟩, ?_, rfl, ?_⟩
      · simp only [appV, e0]
        rw [List.getElem?_append_left H.lt, H.at_]
        simp only
        rw [if_pos ⟨trivial, trivial, H.fre, by rw [cells_len, List.length_append]; omega, by simp only [boundBytes]; omega⟩]
        simp only [List.length_append, List.length_cons, List.length_nil, List.drop_zero, Nat.mul_one]
        rw [cells_take, List.take_left' rfl, cells_app, Nat.zero_add]
      · have hb : b ≠ bv := hne _ _ _ _ rfl
        show ((h.b ++ _).set b _ ++ _)[bv]? = _
        rw [List.getElem?_append_left (by rw [List.length_set, List.length_append]; have := HH.lt; omega), List.getElem?_set_ne hb, List.getElem?_append_left HH.lt]
  obtain ⟨h', k1, k2, k3⟩ := key
  have e : appH h v w = h' := by simp only [appH, k1, Option.getD_some]
  rw [e]
  refine ⟨⟨by rw [k3]; exact HH.at_, by rw [k2]; exact HH.fre⟩, ?_⟩
  intro b o n s hv
  have := HH.lt
  injection hv with hb
  omega

theorem up_loop2 {h0 : Heap} {a : List Nat} {z : Bool} {q s : Nat} (ha : Dg a) (hs : s < 32) (hb : q + a.length < 549755813888) : ∀ (m i : Nat) (h : Heap) (v : AV) (l : List Nat) (c : Nat),
    m + i = a.length → Bld h v l → KeepsAll h0 h v → Dg l → l.length = q + i → c < 2 ^ s → val l + 4294967296 ^ (q + i) * c = 4294967296 ^ q * 2 ^ s * val (a.take i) →
    Post (evL G T c_nat_up_l1 [(5, v), (6, .int .i64 (s : Int)), (7, .int .u32 (c : Int)), (24, D z a), (25, .int .i64 ((a.length : Nat) : Int)), (26, .int .i64 (i : Int))] h) fun r =>
      ∃ e h' v' l', ∃ c' : Nat, r = (.exit 0, (5, v') :: (6, .int .i64 (s : Int)) :: (7, .int .u32 (c' : Int)) :: e, h') ∧ Bld h' v' l' ∧ KeepsAll h0 h' v' ∧ Dg l' ∧ l'.length = q + a.length ∧ c' < 2 ^ s ∧ val (l' ++ [c']) = 4294967296 ^ q * 2 ^ s * val a
  | 0, i, h, v, l, c, hm, B, K, hd, hl, hc, he => by
    rw [s_loopc G T (c := c_nat_up_l1) rfl]
    have h1 : ¬ (i : Int) < a.length := by omega
    repeat (first | (simp (maxSteps := 1000000) only [evB, if_true, if_false, ne_eq, Nat.reduceEqDiff, Nat.reduceAdd, reduceCtorEq, Int.reduceLE, Int.reduceLT, Int.reduceEq, Int.reduceNeg, Int.reduceToNat, Int.reducePow, Int.reduceMod, Int.reduceDiv, Int.reduceSub, Int.reduceAdd, Int.reduceMul, Nat.reduceMul, Nat.reduceSub, Nat.reducePow, c_nat_up_b1, h1]) | (simp (disch := omega) only [dsB]))
    refine Post.some ⟨_, _, _, _, _, rfl, B, K, hd, by omega, hc, ?_⟩
    rw [List.take_of_length_le (by omega)] at he
    rw [val_snoc, hl, he]
  | m + 1, i, h, v, l, c, hm, B, K, hd, hl, hc, he => by
    rw [s_loopc G T (c := c_nat_up_l1) rfl]
    have ha' := ha.dg i
    have e7 : (i : Int) + 1 = ((i + 1 : Nat) : Int) := by omega
    have h1 : (i : Int) < a.length := by omega
    have hk := carry_lt hc ha'
    have hp : (2 : Nat) ^ s ≤ 2 ^ 31 := Nat.pow_le_pow_right (by decide) (by omega)
    have w1 : (dg a i : Int) % 18446744073709551616 = dg a i := by omega
    have w2 : min s 32 = s := by omega
    have w3 : (dg a i : Int) * 2 ^ s % 4294967296 = ((dg a i * 2 ^ s % 4294967296 : Nat) : Int) := by
      rw [pow_cast, ← Int.natCast_mul]; omega
    have w4 : orI .u32 ((dg a i * 2 ^ s % 4294967296 : Nat) : Int) (c : Int) = ((c + dg a i * 2 ^ s % 4294967296 : Nat) : Int) := by
      rw [or32 (by omega) (by omega), Nat.or_comm, shl_mod (by omega), or_add hc]
    have w5 : (32 - (s : Int)) = ((32 - s : Nat) : Int) := by omega
    have w6 : min (32 - s) 64 = 32 - s := by omega
    have w7 : (dg a i : Int) / 2 ^ (32 - s) = ((dg a i / 2 ^ (32 - s) : Nat) : Int) := by rw [pow_cast]; rfl
    have hsm : dg a i * 2 ^ s % 4294967296 + c < 4294967296 := by
      have e0 := shl_mod (x := dg a i) (s := s) (by omega)
      have e1 : dg a i % 2 ^ (32 - s) < 2 ^ (32 - s) := Nat.mod_lt _ (Nat.two_pow_pos _)
      have e2 : (dg a i % 2 ^ (32 - s) + 1) * 2 ^ s ≤ 2 ^ (32 - s) * 2 ^ s := Nat.mul_le_mul_right _ e1
      rw [← Nat.pow_add, show 32 - s + s = 32 by omega, Nat.add_mul] at e2
      omega
    have hcd : (dg a i * 2 ^ s % 4294967296 + c) + 4294967296 * (dg a i * 2 ^ s / 4294967296) = c + dg a i * 2 ^ s := by omega
    have hcl : dg a i * 2 ^ s / 4294967296 < 2 ^ s := by
      refine Nat.lt_of_le_of_lt ?_ hk
      exact Nat.div_le_div_right (by omega)
    have w8 : ((dg a i / 2 ^ (32 - s) : Nat) : Int) % 4294967296 = ((dg a i * 2 ^ s / 4294967296 : Nat) : Int) := by
      rw [shr_carry (by omega)]; omega
    repeat (first | (simp (maxSteps := 1000000) only [evB, if_true, if_false, ne_eq, Nat.reduceEqDiff, Nat.reduceAdd, reduceCtorEq, Int.reduceLE, Int.reduceLT, Int.reduceEq, Int.reduceNeg, Int.reduceToNat, Int.reducePow, Int.reduceMod, Int.reduceDiv, Int.reduceSub, Int.reduceAdd, Int.reduceMul, Nat.reduceMul, Nat.reduceSub, Nat.reducePow, c_nat_up_b1, h1, w1, w2, w3, w4, w5, w6, w7, w8 ]) | (simp (disch := omega) only [dsB,  app_b B]))
    rw [e7]
    refine up_loop2 ha hs hb m (i + 1) _ _ _ _ (by omega) (Bld_app B (by omega) (by omega)).2 (app_keeps B K (by omega) (by omega)) (Dg_snoc hd (by omega)) (by rw [List.length_append, hl]; rfl) hcl ?_
    rw [val_take_succ']
    refine up_step (j := q + i) (q := q) (i := i) hl rfl he ?_
    rw [Int.toNat_natCast, Nat.add_comm c]; exact hcd


theorem nat_up_h (hT : HasA g T) {h : Heap} (hf : FreH h) {z : Bool} {a n : Nat} (ha : a ≠ 0) (hs : (dl a).length < 137438953472) (hn : n < 1099511627776) :
    ∃ b l2 h', kJ G c_nat_up.res (evL G T c_nat_up.body (numE 0 [D z (dl a), .int .i64 (n : Int)]) h) = some (.own b 0 (dl (a * 2 ^ n)).length 1, h') ∧ Holds h' b (dl (a * 2 ^ n) ++ l2) ∧ Dg l2 ∧ FreH h' ∧ KeepsAll h h' (.own b 0 (dl (a * 2 ^ n)).length 1) := by
  have h0 : ¬ ((dl a).length : Int) = 0 := by
    intro hc
    exact ha (dl_eq_nil.1 (List.length_eq_zero_iff.1 (by omega)))
  have hnm : n / 32 ≤ n / 32 + (dl a).length + 1 := by omega
  have K0 : KeepsAll h (new h (List.replicate (n / 32 + (dl a).length + 1) 0)) (.own h.b.length 0 (n / 32) 1) := fun bv lv H => ⟨H.new, fun b o n s hv => by have := H.lt; injection hv with hb; omega⟩
  obtain ⟨r, hr, e, h', v', l', c', rfl, B, K, hd, hl, hc, hv⟩ := up_loop2 (G := G) (T := T) (z := z) (q := n / 32) (s := n % 32) (Dg_dl a) (by omega) (by omega) (dl a).length 0 _ _ _ 0 rfl (Bld_newc hf (n / 32) _ hnm) K0 (Dg_rep _) (by simp) (Nat.two_pow_pos _) (by simp [val_rep, val])
  rw [cast0] at hr
  have hp : c' < 4294967296 := by
    have : (2 : Nat) ^ (n % 32) ≤ 2 ^ 31 := Nat.pow_le_pow_right (by decide) (by omega)
    omega
  have m1 : (((n / 32 : Nat) : Int) + ((dl a).length : Nat) + 1).toNat = n / 32 + (dl a).length + 1 := by omega
  obtain ⟨hap, HB, B2⟩ := Bld_app3 B (w := (c' : Int)) (by omega) (by omega)
  have K2 := app_keeps B K (w := (c' : Int)) (by omega) (by omega)
  rw [Int.toNat_natCast] at HB
  have hd2 := Dg_snoc hd hp
  have hlen : (l' ++ [c']).length = l'.length + 1 := by rw [List.length_append]; rfl
  obtain ⟨n', e', ht, hn', htk⟩ := trim_own (G := G) (T := T) HB hd2 (by omega) (l'.length + 1) (by omega)
  rw [← hlen, List.take_length, hv, val_dl, pow32, ← Nat.pow_add, show 32 * (n / 32) + n % 32 = n by omega, Nat.mul_comm] at htk
  have hn2 : n' = (dl (a * 2 ^ n)).length := by rw [← htk, List.length_take]; omega
  subst hn2
  have hw1 : IntKind.i64.wrap ((n / 32 : Nat) : Int) = ((n / 32 : Nat) : Int) := wrap_i64 (by omega)
  refine ⟨h'.b.length + 1, (l' ++ [c']).drop (dl (a * 2 ^ n)).length, appH h' v' c', ?_, ?_, hd2.drop _, B2.1, ?_⟩
  · repeat (first | (simp (maxSteps := 1000000) only [evB, if_true, if_false, ne_eq, Nat.reduceEqDiff, Nat.reduceAdd, reduceCtorEq, Int.reduceLE, Int.reduceLT, Int.reduceEq, Int.reduceNeg, Int.reduceToNat, Int.reducePow, Int.reduceMod, Int.reduceDiv, Int.reduceSub, Int.reduceAdd, Int.reduceMul, Nat.reduceMul, Nat.reduceSub, Nat.reducePow, c_nat_up, h0, hw1, m1, hr, hap, st_callk G T hT.nat_trim, c_nat_trim, ht]) | (simp (disch := omega) only [dsB]))
  · rw [← htk, List.length_take, Nat.min_eq_left hn', List.take_append_drop]; exact HB
  · intro bv lv H
    obtain ⟨k1, k2⟩ := K2 bv lv H
    exact ⟨k1, fun b o n s hv => by injection hv with hb; subst hb; exact k2 _ _ _ _ rfl⟩
end Go.Cv

/-
  A long quotient: the digits one after the other.
-/
namespace Go.Cv
variable {G : Nat → Option (List AV)} {T : Tbl} {g : Nat}

theorem sl_mid {h : Heap} {b n : Nat} {l : List Nat} (H : Holds h b l) (hn : n ≤ l.length) {lo hi : Nat} (h1 : lo ≤ hi ∧ hi ≤ n ∧ lo < n) :
    evSlice h.mem 1 (.own b 0 n 1) (some (.int .i64 (lo : Int))) (some (.int .i64 (hi : Int))) = some (.own b lo (hi - lo) 1) := by
  simp only [evSlice, lenA, capA, bound, H.mem, Bool.false_eq_true, if_false, Nat.succ_ne_zero, cells_len]
  rw [if_pos (by refine ⟨by omega, by omega, ?_⟩; omega), if_pos ⟨trivial, Or.inr (by omega)⟩]
  have e0 : ((hi : Int) - (lo : Int)).toNat = hi - lo := by omega
  rw [e0, Int.toNat_natCast, Nat.mul_one, Nat.zero_add]

theorem long_pre {n j N : Nat} {U0 R V : List Nat} (hn : 2 ≤ n) (hs : N < 17179869184) (hV : V.length = n) (dV : Dg V) (d0 : Dg U0) (dR : Dg R) (top : 2147483648 ≤ dg V (n - 1)) (hU : U0.length = N) (hR : R.length = N - (j + 1)) (hj : j + 1 + n ≤ N) (hlt : val R < val V) :
    StepPre ((dg U0 j :: R).take (n + 1)) V n ∧ val ((dg U0 j :: R).take (n + 1)) = dg U0 j + 4294967296 * val R ∧ val ((dg U0 j :: R).drop (n + 1)) = 0 := by
  have dX : Dg (dg U0 j :: R) := Dg_cons.2 ⟨d0.dg j, dR⟩
  have hX : val (dg U0 j :: R) < 4294967296 * val V := by
    rw [val_cons]; have := d0.dg j; omega
  have hVb := val_lt dV
  rw [hV] at hVb
  have hB : val (dg U0 j :: R) < 4294967296 ^ (n + 1) := by
    rw [Nat.pow_succ, Nat.mul_comm]
    exact Nat.lt_of_lt_of_le hX (Nat.mul_le_mul_left _ (Nat.le_of_lt hVb))
  have e1 := val_take dX (n + 1)
  have e2 := val_drop dX (n + 1)
  rw [Nat.mod_eq_of_lt hB] at e1
  rw [Nat.div_eq_of_lt hB] at e2
  refine ⟨⟨hn, by omega, ?_, hV, dX.take _, dV, top, by rw [e1]; exact hX⟩, by rw [e1, val_cons], e2⟩
  rw [List.length_take, List.length_cons]; omega

theorem long_step {U0 Q V : List Nat} {j q r X R : Nat} (hj : j < U0.length) (hq : j < Q.length) (h : val (U0.drop (j + 1)) = val (Q.drop (j + 1)) * val V + R) (hX : X = dg U0 j + 4294967296 * R) :
    val (U0.drop j) = val ((Q.set j (X / val V)).drop j) * val V + X % val V := by
  rw [drop_cons hj, drop_set hq, val_cons, val_cons, h]
  have h2 := Nat.div_add_mod X (val V)
  generalize X / val V = a at *
  generalize X % val V = b at *
  rw [Nat.mul_add, Nat.add_mul, Nat.mul_assoc, Nat.mul_comm a]
  generalize val (Q.drop (j + 1)) * val V = c at *
  omega

theorem long_loop (hT : HasA g T) {bu bv bq n N m : Nat} {U0 C V V2 : List Nat} {s : AV} (h1 : bv ≠ bu) (h2 : bq ≠ bu) (h3 : bv ≠ bq) (hn : 2 ≤ n) (hs : N < 17179869184) (hV : V.length = n) (dV : Dg V) (d0 : Dg U0) (top : 2147483648 ≤ dg V (n - 1)) (hU : U0.length = N) (hm : N = m + n) :
    ∀ (j : Nat) (h : Heap) (R Q : List Nat), j ≤ m → Holds h bu (U0.take j ++ R ++ C) → Holds h bv (V ++ V2) → Holds h bq Q → Dg R → R.length = N - j → Dg Q → Q.length = m → val R < val V → val (U0.drop j) = val (Q.drop j) * val V + val R →
    Post (evL G T c_nat_long_l1 [(6, s), (7, .own bv 0 n 1), (8, .own bu 0 N 1), (9, .int .i64 (n : Int)), (10, .own bq 0 m 1), (11, .int .i64 ((j : Int) - 1))] h) fun r =>
      ∃ e h' R' Q', r = (.exit 2, (6, s) :: (7, .own bv 0 n 1) :: (8, .own bu 0 N 1) :: (9, .int .i64 (n : Int)) :: (10, .own bq 0 m 1) :: e, h') ∧ Holds h' bu (R' ++ C) ∧ Holds h' bq Q' ∧ Dg R' ∧ R'.length = N ∧ Dg Q' ∧ Q'.length = m ∧ val R' < val V ∧ val U0 = val Q' * val V + val R'
  | 0, h, R, Q, hj, HU, HV, HQ, dR, hR, dQ, hQ, hlt, he => by
    rw [s_loopc G T (c := c_nat_long_l1) rfl]
    have c1 : ¬ (0 : Int) ≤ ((0 : Nat) : Int) - 1 := by omega
    repeat (first | (simp (maxSteps := 1000000) only [evB, if_true, if_false, ne_eq, Nat.reduceEqDiff, Nat.reduceAdd, reduceCtorEq, Int.reduceLE, Int.reduceLT, Int.reduceEq, Int.reduceNeg, Int.reduceToNat, Int.reducePow, Int.reduceMod, Int.reduceDiv, Int.reduceSub, Int.reduceAdd, Int.reduceMul, Nat.reduceMul, Nat.reduceSub, Nat.reducePow, c_nat_long_b1, c1]) | (simp (disch := omega) only [dsB]))
    rw [List.take_zero, List.nil_append] at HU
    exact Post.some ⟨_, _, _, _, rfl, HU, HQ, dR, hR, dQ, hQ, hlt, he⟩
  | j + 1, h, R, Q, hj, HU, HV, HQ, dR, hR, dQ, hQ, hlt, he => by
    rw [s_loopc G T (c := c_nat_long_l1) rfl]
    have e1 : ((j + 1 : Nat) : Int) - 1 = (j : Int) := by omega
    have c1 : (0 : Int) ≤ (j : Int) := by omega
    obtain ⟨p, v1, v2⟩ := long_pre (j := j) (U0 := U0) (R := R) (N := N) hn hs hV dV d0 dR top hU hR (by omega) hlt
    have hls := long_step (U0 := U0) (Q := Q) (V := V) (j := j) (q := 0) (r := 0) (by omega) (by omega) he v1
    have hlen : (dg U0 j :: R).length = N - j := by rw [List.length_cons]; omega
    have dX : Dg (dg U0 j :: R) := Dg_cons.2 ⟨d0.dg j, dR⟩
    have hsp : U0.take (j + 1) ++ R ++ C = U0.take j ++ (dg U0 j :: R).take (n + 1) ++ ((dg U0 j :: R).drop (n + 1) ++ C) := by
      rw [take_snoc (by omega)]
      simp only [List.append_assoc, List.singleton_append]
      rw [← List.append_assoc (List.take (n + 1) _), List.take_append_drop, List.cons_append]
    have hcl : N ≤ (U0.take (j + 1) ++ R ++ C).length := by
      simp only [List.length_append, List.length_take]; omega
    have sl := sl_mid HU hcl (lo := j) (hi := j + n + 1) ⟨by omega, by omega, by omega⟩
    rw [show j + n + 1 - j = n + 1 by omega] at sl
    have e2 : (j : Int) + (n : Int) + 1 = ((j + n + 1 : Nat) : Int) := by omega
    rw [hsp] at HU
    have htl : (U0.take j).length = j := by rw [List.length_take]; omega
    obtain ⟨W', hst, hW', dW', hv'⟩ := nat_step (G := G) hT HU HV h1 p
    rw [htl] at hst
    simp only [numE_cons, numE_nil, Nat.reduceAdd, Nat.zero_add] at hst
    have hlt' : val W' < val V := by rw [hv']; exact Nat.mod_lt _ (by have := val_lt dV; omega)
    have HU' := HU.put (U0.take j ++ W' ++ ((dg U0 j :: R).drop (n + 1) ++ C))
    have HV' := HV.other (l := U0.take j ++ W' ++ ((dg U0 j :: R).drop (n + 1) ++ C)) h1
    have HQ' := HQ.other (l := U0.take j ++ W' ++ ((dg U0 j :: R).drop (n + 1) ++ C)) h2
    have st := store_n HQ' (i := j) (x := val (List.take (n + 1) (dg U0 j :: R)) / val V) (by omega)
    have hqd : val (List.take (n + 1) (dg U0 j :: R)) / val V < 4294967296 := div_lt_le p.lt (Nat.le_refl _)
    have HU2 := HU'.other (l := Q.set j (val (List.take (n + 1) (dg U0 j :: R)) / val V)) h2.symm
    have HV2 := HV'.other (l := Q.set j (val (List.take (n + 1) (dg U0 j :: R)) / val V)) h3
    have HQ2 := HQ'.put (Q.set j (val (List.take (n + 1) (dg U0 j :: R)) / val V))
    rw [e1]
    repeat (first | (simp (maxSteps := 1000000) only [evB, if_true, if_false, ne_eq, Nat.reduceEqDiff, Nat.reduceAdd, reduceCtorEq, Int.reduceLE, Int.reduceLT, Int.reduceEq, Int.reduceNeg, Int.reduceToNat, Int.reducePow, Int.reduceMod, Int.reduceDiv, Int.reduceSub, Int.reduceAdd, Int.reduceMul, Nat.reduceMul, Nat.reduceSub, Nat.reducePow, c_nat_long_b1, c1, e2, sl, st_callk G T hT.nat_step, hst, st]) | (simp (disch := omega) only [dsB]))
    have hR2 : val (W' ++ (dg U0 j :: R).drop (n + 1)) = val W' := by rw [val_app, v2, Nat.mul_zero, Nat.add_zero]
    have hl : U0.take j ++ (W' ++ (dg U0 j :: R).drop (n + 1)) ++ C = U0.take j ++ W' ++ ((dg U0 j :: R).drop (n + 1) ++ C) := by simp only [List.append_assoc]
    refine long_loop hT h1 h2 h3 hn hs hV dV d0 top hU hm j _ (W' ++ (dg U0 j :: R).drop (n + 1)) _ (by omega) (by rw [hl]; exact HU2) HV2 HQ2 (Dg_app.2 ⟨dW', dX.drop _⟩) ?_ (Dg_set dQ hqd) (by rw [List.length_set]; exact hQ) (by rw [hR2]; exact hlt') ?_
    · rw [List.length_append, List.length_drop, hW', hlen]; omega
    · rw [hR2, hv']; exact hls
end Go.Cv

/-
  A long quotient.
-/
namespace Go.Cv
variable {G : Nat → Option (List AV)} {T : Tbl} {g : Nat}

theorem ext_loop {h0 h : Heap} {b La : Nat} {L C A : List Nat} {za : Bool} {s6 s7 : AV} (H : Holds h b (L ++ C)) (hf : FreH h) (dL : Dg L) (hL : L.length = La) (hs : A.length < 17179869184) (hlen : La = A.length ∨ La = A.length + 1) (K : KeepsAll h0 h (.own b 0 La 1)) :
    Post (evL G T c_nat_long_l2 [(0, D za A), (6, s6), (7, s7), (8, .own b 0 La 1)] h) fun r =>
      ∃ e h' b' C' U, r = (.exit 0, (0, D za A) :: (6, s6) :: (7, s7) :: (8, .own b' 0 (A.length + 1) 1) :: e, h') ∧ Holds h' b' (U ++ C') ∧ FreH h' ∧ U.length = A.length + 1 ∧ Dg U ∧ val U = val L ∧ KeepsAll h0 h' (.own b' 0 (A.length + 1) 1) := by
  subst hL
  rw [s_loopc G T (c := c_nat_long_l2) rfl]
  rcases hlen with hl | hl
  · have c1 : ((L.length : Nat) : Int) ≤ ((A.length : Nat) : Int) := by omega
    have B : Bld h (.own b 0 L.length 1) L := ⟨hf, Or.inr ⟨b, C, rfl, H⟩⟩
    obtain ⟨ha1, ha2, ha3⟩ := Bld_app3 B (w := 0) (by decide) (by omega)
    have K2 := app_keeps B K (w := 0) (by decide) (by omega)
    have c2 : ¬ (((L.length + 1 : Nat) : Int) ≤ ((A.length : Nat) : Int)) := by omega
    have e : Post (evL G T c_nat_long_l2 [(0, D za A), (6, s6), (7, s7), (8, .own (h.b.length + 1) 0 (L.length + 1) 1)] (appH h (.own b 0 L.length 1) 0)) fun r =>
      ∃ e h' b' C' U, r = (.exit 0, (0, D za A) :: (6, s6) :: (7, s7) :: (8, .own b' 0 (A.length + 1) 1) :: e, h') ∧ Holds h' b' (U ++ C') ∧ FreH h' ∧ U.length = A.length + 1 ∧ Dg U ∧ val U = val L ∧ KeepsAll h0 h' (.own b' 0 (A.length + 1) 1) := by
      rw [s_loopc G T (c := c_nat_long_l2) rfl]
      repeat (first | (simp (maxSteps := 1000000) only [evB, if_true, if_false, ne_eq, Nat.reduceEqDiff, Nat.reduceAdd, reduceCtorEq, Int.reduceLE, Int.reduceLT, Int.reduceEq, Int.reduceNeg, Int.reduceToNat, Int.reducePow, Int.reduceMod, Int.reduceDiv, Int.reduceSub, Int.reduceAdd, Int.reduceMul, Nat.reduceMul, Nat.reduceSub, Nat.reducePow, c_nat_long_b2, c2]) | (simp (disch := omega) only [dsB]))
      refine Post.some ⟨_, _, _, [], L ++ [0], by rw [hl], by rw [List.append_nil]; exact ha2, ha3.1, by rw [List.length_append, hl]; rfl, Dg_snoc dL (by decide), by rw [val_snoc, Nat.mul_zero, Nat.add_zero], by rw [← hl]; exact K2⟩
    repeat (first | (simp (maxSteps := 1000000) only [evB, if_true, if_false, ne_eq, Nat.reduceEqDiff, Nat.reduceAdd, reduceCtorEq, Int.reduceLE, Int.reduceLT, Int.reduceEq, Int.reduceNeg, Int.reduceToNat, Int.reducePow, Int.reduceMod, Int.reduceDiv, Int.reduceSub, Int.reduceAdd, Int.reduceMul, Nat.reduceMul, Nat.reduceSub, Nat.reducePow, c_nat_long_b2, c1, ha1]) | (simp (disch := omega) only [dsB]))
    exact e
  · have c1 : ¬ (((L.length : Nat) : Int) ≤ ((A.length : Nat) : Int)) := by omega
    repeat (first | (simp (maxSteps := 1000000) only [evB, if_true, if_false, ne_eq, Nat.reduceEqDiff, Nat.reduceAdd, reduceCtorEq, Int.reduceLE, Int.reduceLT, Int.reduceEq, Int.reduceNeg, Int.reduceToNat, Int.reducePow, Int.reduceMod, Int.reduceDiv, Int.reduceSub, Int.reduceAdd, Int.reduceMul, Nat.reduceMul, Nat.reduceSub, Nat.reducePow, c_nat_long_b2, c1]) | (simp (disch := omega) only [dsB]))
    exact Post.some ⟨_, _, _, C, L, by rw [hl], H, hf, hl, dL, rfl, by rw [← hl]; exact K⟩

/-- The divisor shifted up so that its highest bit is 1. -/
theorem long_top {b n s : Nat} (hn : (dl b).length = n) (h0 : 0 < n) (hs : s = 32 - blen (dg (dl b) (n - 1))) : s < 32 ∧ (dl (b * 2 ^ s)).length = n ∧ 2147483648 ≤ dg (dl (b * 2 ^ s)) (n - 1) := by
  have hb0 : b ≠ 0 := by rintro rfl; rw [dl_zero] at hn; simp at hn; omega
  have hbl := blen_dl hb0
  rw [hn] at hbl
  have ht : blen (dg (dl b) (n - 1)) ≤ 32 := blen_le.2 ((Dg_dl b).dg _)
  have hb1 := dl_len_blen b
  rw [hn] at hb1
  have hm := blen_mul hb0 s
  have e1 : blen (b * 2 ^ s) = 32 * n := by omega
  have e2 : (dl (b * 2 ^ s)).length = n := by rw [dl_len_blen]; omega
  have hm0 : b * 2 ^ s ≠ 0 := Nat.mul_ne_zero hb0 (Nat.ne_of_gt (Nat.two_pow_pos s))
  have e3 := blen_dl hm0
  rw [e2, e1] at e3
  have e4 : 31 < blen (dg (dl (b * 2 ^ s)) (n - 1)) := by omega
  exact ⟨by omega, e2, lt_blen.1 e4⟩

theorem long_first {a b s m n N : Nat} {U : List Nat} (dU : Dg U) (hN : U.length = N) (hU : val U = a * 2 ^ s) (ha : (dl a).length + 1 = N) (hb : (dl b).length = n) (h0 : 0 < n) (hm : N = m + n) : val (U.drop m) < b * 2 ^ s := by
  rw [val_drop dU, hU]
  apply Nat.div_lt_of_lt_mul
  have h1 : a < 4294967296 ^ (N - 1) := dl_len.1 (by omega)
  have h2 : 4294967296 ^ (n - 1) ≤ b := by
    apply Classical.byContradiction; intro hc
    have := dl_len.2 (Nat.lt_of_not_le hc)
    omega
  have h3 : a < 4294967296 ^ m * b := by
    refine Nat.lt_of_lt_of_le h1 ?_
    rw [show N - 1 = m + (n - 1) by omega, Nat.pow_add]
    exact Nat.mul_le_mul_left _ h2
  rw [← Nat.mul_assoc]
  exact Nat.mul_lt_mul_of_pos_right h3 (Nat.two_pow_pos s)

theorem nat_long (hT : HasA g T) {z y : Bool} {a b : Nat} (hb : 2 ≤ (dl b).length) (hab : b ≤ a) (hs : (dl a).length < 8589934592) : ∃ z1 z2, run G T 109 [D z (dl a), D y (dl b)] = some (.tup [D z1 (dl (a / b)), D z2 (dl (a % b))]) := by
  obtain ⟨n, hn⟩ : ∃ n, n = (dl b).length := ⟨_, rfl⟩
  obtain ⟨s, hs1⟩ : ∃ s, s = 32 - blen (dg (dl b) (n - 1)) := ⟨_, rfl⟩
  obtain ⟨t1, t2, t3⟩ := long_top hn.symm (by omega) hs1
  have hb0 : b ≠ 0 := by rintro rfl; rw [dl_zero] at hb; exact absurd hb (by decide)
  have ha0 : a ≠ 0 := by omega
  have hle : (dl b).length ≤ (dl a).length := by
    have h1 := blen_mono hab
    have h2 := dl_len_blen a
    have h3 := dl_len_blen b
    omega
  obtain ⟨bv, V2, h1, r1, H1, dV2, F1, K1⟩ := nat_up_h (G := G) (z := y) hT (h := .nil) FreH.nil hb0 (by omega) (n := s) (by omega)
  obtain ⟨bu, l2, h2, r2, H2, d2, F2, K2⟩ := nat_up_h (G := G) (z := z) hT (h := h1) F1 ha0 (by omega) (n := s) (by omega)
  simp only [numE_cons, numE_nil, Nat.reduceAdd, Nat.zero_add] at r1 r2
  have hLa : (dl (a * 2 ^ s)).length = (dl a).length ∨ (dl (a * 2 ^ s)).length = (dl a).length + 1 := by
    rw [dl_len_blen, dl_len_blen, blen_mul ha0]; omega
  obtain ⟨_, r3, e3, h3, bu3, C3, U, rfl, H3, F3, hUl, dU, hUv, K3⟩ := ext_loop (G := G) (T := T) (h0 := h1) (za := z) (s6 := .int .i64 (s : Int)) (s7 := .own bv 0 n 1) H2 F2 (Dg_dl _) rfl (A := dl a) (by omega) hLa K2
  rw [val_dl] at hUv
  obtain ⟨HV3, hne3⟩ := K3 _ _ H1
  obtain ⟨m, hm⟩ : ∃ m, (dl a).length + 1 = m + n := ⟨(dl a).length + 1 - n, by omega⟩
  have hfirst := long_first dU hUl hUv rfl hn.symm (by omega) hm
  have HQ := Holds_new F3 (List.replicate m 0)
  have HU4 := H3.new (m := List.replicate m 0)
  have HV4 := HV3.new (m := List.replicate m 0)
  have q1 : bv ≠ bu3 := (hne3 _ _ _ _ rfl).symm
  have q2 : h3.b.length ≠ bu3 := by have := H3.lt; omega
  have q3 : bv ≠ h3.b.length := by have := HV3.lt; omega
  have vV : val (dl (b * 2 ^ s)) = b * 2 ^ s := val_dl _
  obtain ⟨_, r4, e4, h4, R, Q, rfl, HU5, HQ5, dR, hR, dQ, hQ, hlt, hv⟩ := long_loop (G := G) (m := m) (N := (dl a).length + 1) (n := n) (s := .int .i64 (s : Int)) hT q1 q2 q3 (by omega) (by omega) t2 (Dg_dl _) dU t3 hUl hm m (new h3 (List.replicate m 0)) (U.drop m) (List.replicate m 0) (Nat.le_refl _) (by rw [List.take_append_drop]; exact HU4) HV4 HQ (dU.drop _) (by rw [List.length_drop, hUl]) (Dg_rep _) (List.length_replicate ..) (by rw [vV]; exact hfirst) (by
    have : (List.replicate m 0).drop m = [] := List.drop_eq_nil_of_le (by rw [List.length_replicate]; exact Nat.le_refl _)
    rw [this]; simp [val])
  rw [vV] at hlt hv
  rw [hUv] at hv
  have hq : val Q = a / b := by
    have h1 := (divmod_of hlt hv).1
    rw [h1, Nat.mul_div_mul_right _ _ (Nat.two_pow_pos s)]
  have hr : val R = a % b * 2 ^ s := by
    have h1 := (divmod_of hlt hv).2
    rw [h1, Nat.mul_mod_mul_right]
  have hRn : val (R.take n) = val R := by
    rw [val_take dR, Nat.mod_eq_of_lt]
    refine Nat.lt_of_lt_of_le hlt ?_
    have := val_lt (Dg_dl (b * 2 ^ s))
    rw [t2, val_dl] at this
    exact Nat.le_of_lt this
  obtain ⟨z1, hz1⟩ := nat_trim (G := G) (T := T) hT (z := false) dQ (by omega)
  obtain ⟨z2, hz2⟩ := nat_trim (G := G) (T := T) hT (z := false) (dR.take n) (by rw [List.length_take]; omega)
  rw [hRn, hr] at hz2
  rw [hq] at hz1
  have hsb : (dl (a % b * 2 ^ s)).length ≤ n := by
    have := dl_len.1 (Nat.le_refl (dl (b * 2 ^ s)).length)
    rw [t2] at this
    exact dl_len.2 (Nat.lt_of_le_of_lt (Nat.mul_le_mul_right _ (Nat.le_of_lt (Nat.mod_lt a (by omega)))) this)
  obtain ⟨z3, hz3⟩ := nat_down (G := G) (T := T) hT (z := z2) (a := a % b * 2 ^ s) (n := s) (by omega) (by omega)
  rw [Nat.mul_div_cancel _ (Nat.two_pow_pos s)] at hz3
  have hsl : (dl (a % b)).length < 1099511627776 := by
    have h1 := blen_mono (Nat.le_of_lt (Nat.mod_lt a (Nat.pos_of_ne_zero hb0)))
    have h2 := dl_len_blen (a % b)
    have h3 := dl_len_blen b
    omega
  obtain ⟨z4, hz4⟩ := nat_trim (G := G) (T := T) hT (z := z3) (Dg_dl (a % b)) hsl
  rw [val_dl] at hz4
  have sq := snap_own HQ5 (n := m) (by omega)
  rw [← hQ, List.take_length, hQ] at sq
  have su := snap_own HU5 (n := n) (by rw [List.length_append]; omega)
  rw [List.take_append_of_le_length (by omega)] at su
  have slu := sl_own (n := (dl a).length + 1) (off := 0) (k := .i64) (j := (n : Int)) HU5.mem ⟨by omega, by rw [Int.toNat_natCast]; omega⟩
  rw [Int.toNat_natCast] at slu
  have i1 : ((dl b).length : Int) - 1 = (((dl b).length - 1 : Nat) : Int) := by omega
  have lz := bits_Lz (G := G) hT ((Dg_dl b).dg (n - 1))
  rw [← hs1] at lz
  have w1 : (((dl a).length + 1 : Nat) : Int) - (n : Int) = (m : Int) := by omega
  have mm : ∀ f : List Nat, (⟨h4.b, f⟩ : Heap).mem = h4.mem := fun _ => rfl
  refine ⟨z1, z4, ?_⟩
  rw [run_k G T hT.nat_long]
  clear hLa hUv hfirst hlt hv hq hr hRn hsb hsl
  subst hn
  rw [t2] at r1
  repeat (first | (simp (maxSteps := 1000000) only [evB, if_true, if_false, ne_eq, Nat.reduceEqDiff, Nat.reduceAdd, reduceCtorEq, Int.reduceLE, Int.reduceLT, Int.reduceEq, Int.reduceNeg, Int.reduceToNat, Int.reducePow, Int.reduceMod, Int.reduceDiv, Int.reduceSub, Int.reduceAdd, Int.reduceMul, Nat.reduceMul, Nat.reduceSub, Nat.reducePow, c_nat_long, i1, lz, st_callk G T hT.nat_up, r1, r2, r3, r4, w1, sq, hz1, slu, su, hz2, hz3, hz4, mm, frz_own]) | (simp (disch := omega) only [dsB]))
end Go.Cv

/-
  The program's quotients.
-/
namespace Go.Cv
variable {G : Nat → Option (List AV)} {T : Tbl} {g : Nat}

theorem all_loop (e : Env) (h : Heap) : evL G T c_nat_all_l1 e h = kS G T (evL G T c_nat_all_b1 (keepE [5, 6, 7] e) h) c_nat_all_l1 := s_loopc G T rfl e h
theorem ia1_0 (x y : AV) (k : IntKind) : iaddrV 1 (.imm 2 [x, y]) (.int k 0) = some (.iptr [x, y] 0) := rfl
theorem ia1_1 (x y : AV) (k : IntKind) : iaddrV 1 (.imm 2 [x, y]) (.int k 1) = some (.iptr [x, y] 1) := rfl
theorem rd1_0 (h : Mem) (x y : AV) : rdAt G h 1 (.iptr [x, y] 0) = some [x] := rfl
theorem rd1_1 (h : Mem) (x y : AV) : rdAt G h 1 (.iptr [x, y] 1) = some [y] := rfl

theorem nat_all (hT : HasA g T) {z y : Bool} {a b : List Nat} : run G T 106 [.imm 2 [D z a, D y b]] = some (.bool (mayL a && mayL b)) := by
  rw [run_k G T hT.nat_all]
  have h1 := nat_May (G := G) hT z a
  have h2 := nat_May (G := G) hT y b
  cases ha : mayL a <;> cases hb : mayL b <;> (
    rw [ha] at h1
    rw [hb] at h2
    repeat' (first | (simp (maxSteps := 1000000) only [evB, if_true, if_false, ne_eq, Nat.reduceEqDiff, Nat.reduceAdd, reduceCtorEq, Int.reduceLE, Int.reduceLT, Int.reduceEq, Int.reduceNeg, Int.reduceToNat, Int.reducePow, Int.reduceMod, Int.reduceDiv, Int.reduceSub, Int.reduceAdd, Int.reduceMul, Nat.reduceMul, Nat.reduceSub, Nat.reducePow, exB, resC_ptr, res_cell, nilb, nilf, faddr_p, c_nat_all, h1, h2, all_loop, c_nat_all_b1, ia1_0, ia1_1, rd1_0, rd1_1]) | (simp (maxSteps := 1000000) (disch := first | with_reducible assumption | omega) only [dxB]) | (simp only [kI_d, kG_dt, kG_df]; split) | (simp only [kI_v, kG_vt, kG_vf]; split))
    all_goals rfl)

theorem app_nil {h : Heap} {z : Bool} {l : List Nat} (hl : l ≠ []) (hs : l.length < 549755813888) : appV h 1 4 .nil (D z l) = some (.own h.b.length 0 l.length 1, new h l) := by
  cases l with
  | nil => exact absurd rfl hl
  | cons a l =>
    have e : sliceCells h.mem 1 (D z (a :: l)) = some ((a :: l).length, cells (a :: l)) := by
      simp [D, sliceCells, cells]
    simp only [appV, e]
    rw [if_neg (by simp), if_pos (by simp only [boundBytes]; omega)]
    rfl
theorem app_nil0 {h : Heap} {z : Bool} : appV h 1 4 .nil (D z []) = some (.nil, h) := by
  cases z <;> rfl

theorem cmpN_neg {a b : Nat} : cmpN a b < 0 ↔ a < b := by
  unfold cmpN; split
  · constructor <;> intro <;> omega
  · split <;> constructor <;> intro <;> omega

theorem snap_new {h : Heap} (hf : FreH h) (l : List Nat) : snapG (new h l).mem 3 h.b.length 0 l.length 1 = some (D false l) := by
  have := snap_own (Holds_new hf l) (n := l.length) (Nat.le_refl _)
  rw [List.take_length] at this; exact this

theorem nat_QuoRem (hT : HasA g T) {z y : Bool} {a b : Nat} (ha : mayL (dl a) = true) (hb : mayL (dl b) = true) (h0 : b ≠ 0) :
    ∃ z1 z2, run G T 77 [D z (dl a), D y (dl b)] = some (.tup [D z1 (dl (a / b)), D z2 (dl (a % b)), .int .i64 0]) := by
  have la := (mayL_iff.1 ha).1
  have lb := (mayL_iff.1 hb).1
  have h1 := nat_all (G := G) hT (z := z) (y := y) (a := dl a) (b := dl b)
  rw [ha, hb, Bool.and_self] at h1
  have h2 := nat_cmp (G := G) hT (z := z) (y := y) (a := a) (b := b) (by omega) (by omega)
  have hl0 : ¬ ((dl b).length : Int) = 0 := by
    intro hc; exact h0 (dl_len0.1 (by omega))
  by_cases hab : a < b
  · have c1 : cmpN a b < 0 := cmpN_neg.2 hab
    rw [Nat.div_eq_of_lt hab, Nat.mod_eq_of_lt hab, dl_zero]
    by_cases ha0 : a = 0
    · subst ha0
      rw [dl_zero] at *
      refine ⟨true, true, ?_⟩
      rw [run_k G T hT.nat_QuoRem]
      clear la lb ha hb hab
      repeat' (first | (simp (maxSteps := 1000000) only [evB, if_true, if_false, ne_eq, Nat.reduceEqDiff, Nat.reduceAdd, reduceCtorEq, Int.reduceLE, Int.reduceLT, Int.reduceEq, Int.reduceNeg, Int.reduceToNat, Int.reducePow, Int.reduceMod, Int.reduceDiv, Int.reduceSub, Int.reduceAdd, Int.reduceMul, Nat.reduceMul, Nat.reduceSub, Nat.reducePow, exB, resC_ptr, res_cell, nilb, nilf, faddr_p, c_nat_QuoRem, h1, h2, hl0, c1, app_nil0]) | (simp (maxSteps := 1000000) (disch := first | with_reducible assumption | omega) only [dxB]) | (simp only [kI_d, kG_dt, kG_df]; split) | (simp only [kI_v, kG_vt, kG_vf]; split))
      rfl
    · have hne : dl a ≠ [] := fun hc => ha0 (dl_eq_nil.1 hc)
      refine ⟨true, false, ?_⟩
      rw [run_k G T hT.nat_QuoRem]
      clear ha hb hab
      repeat' (first | (simp (maxSteps := 1000000) only [evB, if_true, if_false, ne_eq, Nat.reduceEqDiff, Nat.reduceAdd, reduceCtorEq, Int.reduceLE, Int.reduceLT, Int.reduceEq, Int.reduceNeg, Int.reduceToNat, Int.reducePow, Int.reduceMod, Int.reduceDiv, Int.reduceSub, Int.reduceAdd, Int.reduceMul, Nat.reduceMul, Nat.reduceSub, Nat.reducePow, exB, resC_ptr, res_cell, nilb, nilf, faddr_p, c_nat_QuoRem, h1, h2, hl0, c1 ]) | (simp (maxSteps := 1000000) (disch := first | with_reducible assumption | omega) only [dxB,  app_nil]) | (simp only [kI_d, kG_dt, kG_df]; split) | (simp only [kI_v, kG_vt, kG_vf]; split))
      have hsn := snap_new (h := { b := [{ cs := [D z (dl a), D y (dl b)] }], f := fz1 (AV.bool true) [0] }) (fun c hc => absurd hc List.not_mem_nil) (dl a)
      simp only [List.length_cons, List.length_nil, Nat.zero_add] at hsn
      rw [hsn]
      rfl
  · have c1 : ¬ cmpN a b < 0 := fun hc => hab (cmpN_neg.1 hc)
    by_cases hb1 : (dl b).length = 1
    · have hd0 : dl b = [b] := by
        have e1 : b < 4294967296 := by have := dl_len.1 (Nat.le_of_eq hb1); simpa using this
        rw [dl_pos h0, Nat.mod_eq_of_lt e1, Nat.div_eq_of_lt e1, dl_zero]
      have e1 : b < 4294967296 := by have := dl_len.1 (Nat.le_of_eq hb1); simpa using this
      have hr : a % b < b := Nat.mod_lt _ (by omega)
      obtain ⟨z1, hz1⟩ := nat_small (G := G) hT (z := z) (a := a) (d := b) (by omega) e1 (by omega)
      obtain ⟨z2, hz2⟩ := nat_trim (G := G) hT (z := false) (l := [a % b]) (Dg_cons.2 ⟨by omega, Dg.nil⟩) (by simp)
      rw [show val [a % b] = a % b by simp [val]] at hz2
      have hz2 : run G T 94 [.imm 1 [.int .u32 ((a % b : Nat) : Int)]] = some (D z2 (dl (a % b))) := hz2
      have hdb : dg (dl b) 0 = b := by rw [hd0]; rfl
      have hb1' : ((dl b).length : Int) = 1 := by omega
      refine ⟨z1, z2, ?_⟩
      rw [run_k G T hT.nat_QuoRem]
      clear ha hb hab hr
      repeat' (first | (simp (maxSteps := 1000000) only [evB, if_true, if_false, ne_eq, Nat.reduceEqDiff, Nat.reduceAdd, reduceCtorEq, Int.reduceLE, Int.reduceLT, Int.reduceEq, Int.reduceNeg, Int.reduceToNat, Int.reducePow, Int.reduceMod, Int.reduceDiv, Int.reduceSub, Int.reduceAdd, Int.reduceMul, Nat.reduceMul, Nat.reduceSub, Nat.reducePow, exB, resC_ptr, res_cell, nilb, nilf, faddr_p, c_nat_QuoRem, h1, h2, hl0, c1, hb1', hdb, hz1, hz2]) | (simp (maxSteps := 1000000) (disch := first | with_reducible assumption | omega) only [dxB]) | (simp only [kI_d, kG_dt, kG_df]; split) | (simp only [kI_v, kG_vt, kG_vf]; split))
    · have hb2 : ¬ ((dl b).length : Int) = 1 := by omega
      have hb3 : ¬ (dl b).length = 0 := by omega
      obtain ⟨z1, z2, hz⟩ := nat_long (G := G) hT (z := z) (y := y) (a := a) (b := b) (by omega) (by omega) (by omega)
      refine ⟨z1, z2, ?_⟩
      rw [run_k G T hT.nat_QuoRem]
      clear ha hb hab
      repeat' (first | (simp (maxSteps := 1000000) only [evB, if_true, if_false, ne_eq, Nat.reduceEqDiff, Nat.reduceAdd, reduceCtorEq, Int.reduceLE, Int.reduceLT, Int.reduceEq, Int.reduceNeg, Int.reduceToNat, Int.reducePow, Int.reduceMod, Int.reduceDiv, Int.reduceSub, Int.reduceAdd, Int.reduceMul, Nat.reduceMul, Nat.reduceSub, Nat.reducePow, exB, resC_ptr, res_cell, nilb, nilf, faddr_p, c_nat_QuoRem, h1, h2, hl0, c1, hb2, hz]) | (simp (maxSteps := 1000000) (disch := first | with_reducible assumption | omega) only [dxB]) | (simp only [kI_d, kG_dt, kG_df]; split) | (simp only [kI_v, kG_vt, kG_vf]; split))
end Go.Cv

/-
  The program's roots.
-/
namespace Go.Cv
variable {G : Nat → Option (List AV)} {T : Tbl} {g : Nat}

theorem sum_loop (hT : HasA g T) {h : Heap} {b N : Nat} {Q X l0 : List Nat} {zq zx : Bool} {va : AV} (H : Holds h b l0) (dQ : Dg Q) (dX : Dg X) (hs : N < 17179869184) : ∀ (m i : Nat) (l : List Nat) (c : Nat), m + i = N → l.length = N → Dg l → c ≤ 1 → val (l.take i) + 4294967296 ^ i * c = val (Q.take i) + val (X.take i) →
    Post (evL G T c_nat_Root_l1 [(0, va), (5, D zx X), (6, D zq Q), (9, .own b 0 N 1), (10, .int .u32 (c : Int)), (42, .int .i64 (N : Int)), (43, .int .i64 (i : Int))] (put h b l)) fun r =>
      ∃ e l' c', r = (.exit 2, (0, va) :: (5, D zx X) :: (6, D zq Q) :: (9, .own b 0 N 1) :: (10, .int .u32 ((c' : Nat) : Int)) :: e, put h b l') ∧ l'.length = N ∧ Dg l' ∧ val l' + 4294967296 ^ N * c' = val (Q.take N) + val (X.take N)
  | 0, i, l, c, hm, hl, dl', hc, he => by
    rw [s_loopc G T (c := c_nat_Root_l1) rfl]
    have h1 : ¬ (i : Int) < (N : Int) := by omega
    repeat (first | (simp (maxSteps := 1000000) only [evB, if_true, if_false, ne_eq, Nat.reduceEqDiff, Nat.reduceAdd, reduceCtorEq, Int.reduceLE, Int.reduceLT, Int.reduceEq, Int.reduceNeg, Int.reduceToNat, Int.reducePow, Int.reduceMod, Int.reduceDiv, Int.reduceSub, Int.reduceAdd, Int.reduceMul, Nat.reduceMul, Nat.reduceSub, Nat.reducePow, c_nat_Root_b1, h1]) | (simp (disch := omega) only [dsB]))
    obtain rfl : i = N := by omega
    rw [List.take_of_length_le (by omega)] at he
    exact Post.some ⟨_, _, _, rfl, hl, dl', he⟩
  | m + 1, i, l, c, hm, hl, dl', hc, he => by
    rw [s_loopc G T (c := c_nat_Root_l1) rfl]
    have h1 : (i : Int) < (N : Int) := by omega
    have e7 : (i : Int) + 1 = ((i + 1 : Nat) : Int) := by omega
    have HU := H.put l
    have hx := dX.dg i
    have hq := dQ.dg i
    obtain ⟨d, z, hd1, hz, hdz⟩ := add_dig hq hx hc
    have call := bits_Add32 (G := G) hT hq hx hc hd1 hz hdz
    have st := store_n HU (i := i) (x := d) (by omega)
    rw [put_put] at st
    have fin := sum_loop hT (zq := zq) (zx := zx) (va := va) H dQ dX hs m (i + 1) (l.set i d) z (by omega) (by rw [List.length_set]; exact hl) (Dg_set dl' hd1) hz (by
      rw [take_set (by omega), val_take_succ', val_take_succ']
      exact add_step (by rw [List.length_take]; omega) he (by omega))
    by_cases c1 : (i : Int) < (Q.length : Int)
    · by_cases c2 : (i : Int) < (X.length : Int)
      · repeat (first | (simp (maxSteps := 1000000) only [evB, if_true, if_false, ne_eq, Nat.reduceEqDiff, Nat.reduceAdd, reduceCtorEq, Int.reduceLE, Int.reduceLT, Int.reduceEq, Int.reduceNeg, Int.reduceToNat, Int.reducePow, Int.reduceMod, Int.reduceDiv, Int.reduceSub, Int.reduceAdd, Int.reduceMul, Nat.reduceMul, Nat.reduceSub, Nat.reducePow, c_nat_Root_b1, h1, c1, c2, e7, call, st]) | (simp (disch := omega) only [dsB]))
        exact fin
      · have z2 : dg X i = 0 := dg_ge (by omega)
        rw [z2, cast0] at call
        repeat (first | (simp (maxSteps := 1000000) only [evB, if_true, if_false, ne_eq, Nat.reduceEqDiff, Nat.reduceAdd, reduceCtorEq, Int.reduceLE, Int.reduceLT, Int.reduceEq, Int.reduceNeg, Int.reduceToNat, Int.reducePow, Int.reduceMod, Int.reduceDiv, Int.reduceSub, Int.reduceAdd, Int.reduceMul, Nat.reduceMul, Nat.reduceSub, Nat.reducePow, c_nat_Root_b1, h1, c1, c2, e7, call, st]) | (simp (disch := omega) only [dsB]))
        exact fin
    · have z1 : dg Q i = 0 := dg_ge (by omega)
      rw [z1, cast0] at call
      by_cases c2 : (i : Int) < (X.length : Int)
      · repeat (first | (simp (maxSteps := 1000000) only [evB, if_true, if_false, ne_eq, Nat.reduceEqDiff, Nat.reduceAdd, reduceCtorEq, Int.reduceLE, Int.reduceLT, Int.reduceEq, Int.reduceNeg, Int.reduceToNat, Int.reducePow, Int.reduceMod, Int.reduceDiv, Int.reduceSub, Int.reduceAdd, Int.reduceMul, Nat.reduceMul, Nat.reduceSub, Nat.reducePow, c_nat_Root_b1, h1, c1, c2, e7, call, st]) | (simp (disch := omega) only [dsB]))
        exact fin
      · have z2 : dg X i = 0 := dg_ge (by omega)
        rw [z2, cast0] at call
        repeat (first | (simp (maxSteps := 1000000) only [evB, if_true, if_false, ne_eq, Nat.reduceEqDiff, Nat.reduceAdd, reduceCtorEq, Int.reduceLE, Int.reduceLT, Int.reduceEq, Int.reduceNeg, Int.reduceToNat, Int.reducePow, Int.reduceMod, Int.reduceDiv, Int.reduceSub, Int.reduceAdd, Int.reduceMul, Nat.reduceMul, Nat.reduceSub, Nat.reducePow, c_nat_Root_b1, h1, c1, c2, e7, call, st]) | (simp (disch := omega) only [dsB]))
        exact fin

/-- Newton's step (plain). -/
theorem newton {a x : Nat} (ha : 0 < a) (hx : 0 < x) : a < ((a / x + x) / 2 + 1) * ((a / x + x) / 2 + 1) ∧ 0 < (a / x + x) / 2 := by
  have h1 := Nat.div_add_mod a x
  have h2 := Nat.mod_lt a hx
  generalize hq : a / x = q at *
  constructor
  · obtain ⟨w, hw⟩ : ∃ w, w = (q + x) / 2 + 1 := ⟨_, rfl⟩
    rw [← hw]
    have h3 : q + x + 1 ≤ 2 * w := by omega
    have h4 : (q + 1 + x) * (q + 1 + x) ≤ (2 * w) * (2 * w) := Nat.mul_le_mul (by omega) (by omega)
    have h5 : 4 * ((q + 1) * x) ≤ (q + 1 + x) * (q + 1 + x) := by
      rcases Nat.le_total (q + 1) x with h | h
      · obtain ⟨d, rfl⟩ := Nat.exists_eq_add_of_le h
        generalize q + 1 = p
        have : (p + (p + d)) * (p + (p + d)) = 4 * (p * (p + d)) + d * d := by
          simp only [Nat.mul_add, Nat.add_mul, Nat.mul_comm d p]; omega
        omega
      · obtain ⟨d, hd⟩ := Nat.exists_eq_add_of_le h
        rw [hd]
        have : (x + d + x) * (x + d + x) = 4 * ((x + d) * x) + d * d := by
          simp only [Nat.mul_add, Nat.add_mul, Nat.mul_comm d x]; omega
        omega
    have h6 : (2 * w) * (2 * w) = 4 * (w * w) := by
      rw [Nat.mul_mul_mul_comm]
    have h7 : a < (q + 1) * x := by rw [Nat.add_mul, Nat.one_mul, Nat.mul_comm]; omega
    omega
  · apply Classical.byContradiction
    intro hc
    have h3 : q + x ≤ 1 := by omega
    obtain rfl : x = 1 := by omega
    obtain rfl : q = 0 := by omega
    omega
theorem newton_end {a x : Nat} (hx : 0 < x) (h : x ≤ (a / x + x) / 2) : x * x ≤ a := by
  have h1 : x ≤ a / x := by omega
  exact (Nat.le_div_iff_mul_le hx).1 h1
end Go.Cv

/-
  The program's root.
-/
namespace Go.Cv
variable {G : Nat → Option (List AV)} {T : Tbl} {g : Nat}

theorem reach_own {h : Heap} {b : Nat} {l : List Nat} (H : Holds h b l) : reachG h.mem 3 b = [b] := by
  cases h with
  | mk bs fs => rw [rg_x, H.at_, rgO_some, rl_cells]
theorem FreH_fz {h : Heap} {b : Nat} {l : List Nat} (H : Holds h b l) (hf : FreH h) (r : AV) : FreH ⟨h.b, fz1 r [b] ++ h.f⟩ := by
  intro c hc
  rcases List.mem_append.1 hc with h1 | h1
  · unfold fz1 at h1
    split at h1
    · have := List.mem_singleton.1 h1; subst this; exact H.lt
    · exact absurd h1 List.not_mem_nil
  · exact hf c h1
theorem cmpN_zero {a b : Nat} : cmpN a b = 0 ↔ a = b := by
  unfold cmpN; split
  · constructor <;> intro <;> omega
  · split <;> constructor <;> intro <;> omega

theorem root_loop (hT : HasA g T) {z : Bool} {a : Nat} (ha : mayL (dl a) = true) (ha0 : 0 < a) : ∀ (x : Nat) (h : Heap) (zx : Bool), FreH h → 0 < x → mayL (dl x) = true → a < (x + 1) * (x + 1) →
    Post (evL G T c_nat_Root_l2 [(0, D z (dl a)), (5, D zx (dl x))] h) fun R =>
      ∃ e h' r z', R = (.ret, (2, D z' (dl r)) :: (3, .bool (decide (r * r = a))) :: (4, .int .i64 0) :: e, h') ∧ r * r ≤ a ∧ a < (r + 1) * (r + 1) := by
  intro x
  induction x using Nat.strongRecOn with
  | ind x ih =>
    intro h zx hf hx hmx hlt
    rw [s_loopc G T (c := c_nat_Root_l2) rfl]
    have la := (mayL_iff.1 ha).1
    have lx := (mayL_iff.1 hmx).1
    obtain ⟨zq, zr, hq⟩ := nat_QuoRem (G := G) hT (z := z) (y := zx) ha hmx (by omega)
    have hqa : a / x ≤ a := Nat.div_le_self _ _
    have lq : (dl (a / x)).length ≤ 4096 := by
      have h1 := blen_mono hqa
      have h2 := dl_len_blen (a / x)
      have h3 := dl_len_blen a
      omega
    obtain ⟨nw1, nw2⟩ := newton ha0 hx
    have nw3 := newton_end (a := a) hx
    generalize a / x = q at *
    obtain ⟨N, hN⟩ : ∃ N, N = max (dl q).length (dl x).length + 1 := ⟨_, rfl⟩
    have e1 : max ((dl q).length : Int) ((dl x).length : Int) + 1 = (N : Int) := by omega
    have H0 := Holds_new hf (List.replicate N 0)
    obtain ⟨_, hr, e, l', c', rfl, hl, dl2, hv⟩ := sum_loop (G := G) (zq := zq) (zx := zx) (va := D z (dl a)) hT H0 (Dg_dl q) (Dg_dl x) (N := N) (by omega) N 0 (List.replicate N 0) 0 (by omega) (List.length_replicate ..) (Dg_rep _) (by decide) (by simp [val])
    rw [put_self H0, cast0] at hr
    rw [List.take_of_length_le (by omega), List.take_of_length_le (by omega), val_dl, val_dl] at hv
    have hl4 := val_lt dl2
    rw [hl] at hl4
    have hsum : q + x < 4294967296 ^ N := by
      have h1 : q < 4294967296 ^ (N - 1) := dl_len.1 (by omega)
      have h2 : x < 4294967296 ^ (N - 1) := dl_len.1 (by omega)
      have h3 : 4294967296 ^ N = 4294967296 ^ (N - 1) * 4294967296 := by rw [← Nat.pow_succ, show (N - 1).succ = N by omega]
      rw [h3]; omega
    have hval : val l' = q + x := by
      rcases Nat.eq_zero_or_pos c' with h1 | h1
      · subst h1; rw [Nat.mul_zero] at hv; omega
      · have : 4294967296 ^ N * 1 ≤ 4294967296 ^ N * c' := Nat.mul_le_mul_left _ h1
        omega
    have H1 := H0.put l'
    have hsn := snap_own H1 (n := N) (by omega)
    rw [← hl, List.take_length, hl] at hsn
    obtain ⟨z1, hz1⟩ := nat_trim (G := G) hT (z := false) dl2 (by omega)
    rw [hval] at hz1
    have lsum : (dl (q + x)).length ≤ N := dl_len.2 hsum
    obtain ⟨z2, hz2⟩ := nat_down (G := G) hT (z := z1) (a := q + x) (n := 1) (by omega) (by decide)
    rw [Nat.pow_one, show ((1 : Nat) : Int) = 1 from rfl] at hz2
    generalize hy : (q + x) / 2 = y at *
    have ly : (dl y).length ≤ N := by
      have h1 := blen_mono (a := y) (b := q + x) (by omega)
      have h2 := dl_len_blen y
      have h3 := dl_len_blen (q + x)
      omega
    have hc := nat_cmp (G := G) hT (z := z2) (y := zx) (a := y) (b := x) (by omega) (by omega)
    have hf2 : FreH ⟨(put (new h (List.replicate N 0)) h.b.length l').b, fz1 (D z1 (dl (q + x))) [h.b.length] ++ (put (new h (List.replicate N 0)) h.b.length l').f⟩ := FreH_fz H1 ((hf.new _).put _ _) _
    have hre := reach_own H1
    by_cases c1 : y < x
    · have c2 : ¬ 0 ≤ cmpN y x := by have := cmpN_neg.2 c1; omega
      have hmy : mayL (dl y) = true := by
        rw [mayL_iff]; refine ⟨?_, Nm_dl _⟩
        have h1 := blen_mono (Nat.le_of_lt c1)
        have h2 := dl_len_blen y
        have h3 := dl_len_blen x
        omega
      have fin := ih y c1 _ z2 hf2 nw2 hmy nw1
      clear nw1 nw3 ih hv hl4 hsum hlt hy
      repeat (first | (simp (maxSteps := 1000000) only [evB, if_true, if_false, ne_eq, Nat.reduceEqDiff, Nat.reduceAdd, reduceCtorEq, Int.reduceLE, Int.reduceLT, Int.reduceEq, Int.reduceNeg, Int.reduceToNat, Int.reducePow, Int.reduceMod, Int.reduceDiv, Int.reduceSub, Int.reduceAdd, Int.reduceMul, Nat.reduceMul, Nat.reduceSub, Nat.reducePow, c_nat_Root_b2, hq, mm_max2, e1, hr, hsn, hz1, hz2, hc, c2, frz_own, hre]) | (simp (disch := omega) only [dsB]))
      exact fin
    · have c2 : 0 ≤ cmpN y x := by
        have : ¬ cmpN y x < 0 := fun hh => c1 (cmpN_neg.1 hh)
        omega
      obtain ⟨z3, hz3⟩ := nat_mul (G := G) hT (z := zx) (y := zx) (a := x) (b := x) (by omega)
      have lxx : (dl (x * x)).length ≤ 8192 := by
        have h1 := dl_len_blen (x * x)
        have h2 := dl_len_blen x
        have h3 : blen (x * x) ≤ blen x + blen x := by
          rw [blen_le, Nat.pow_add]
          exact Nat.mul_lt_mul'' (lt_pow_blen x) (lt_pow_blen x)
        omega
      have hc3 := nat_cmp (G := G) hT (z := z3) (y := z) (a := x * x) (b := a) (by omega) (by omega)
      have hd : decide (cmpN (x * x) a = 0) = decide (x * x = a) := decide_eq_decide.2 cmpN_zero
      have fin := nw3 (by omega)
      clear nw1 nw3 ih hv hl4 hsum hy
      repeat (first | (simp (maxSteps := 1000000) only [evB, if_true, if_false, ne_eq, Nat.reduceEqDiff, Nat.reduceAdd, reduceCtorEq, Int.reduceLE, Int.reduceLT, Int.reduceEq, Int.reduceNeg, Int.reduceToNat, Int.reducePow, Int.reduceMod, Int.reduceDiv, Int.reduceSub, Int.reduceAdd, Int.reduceMul, Nat.reduceMul, Nat.reduceSub, Nat.reducePow, c_nat_Root_b2, hq, mm_max2, e1, hr, hsn, hz1, hz2, hc, c2, frz_own, hre, hz3, hc3, hd]) | (simp (disch := omega) only [dsB]))
      exact Post.some ⟨_, _, _, _, rfl, fin, hlt⟩
end Go.Cv

/-
  The program's root, whole.
-/
namespace Go.Cv
variable {G : Nat → Option (List AV)} {T : Tbl} {g : Nat}

theorem nat_Root (hT : HasA g T) {z : Bool} {a : Nat} (ha : mayL (dl a) = true) :
    ∃ r z', run G T 81 [D z (dl a)] = some (.tup [D z' (dl r), .bool (decide (r * r = a)), .int .i64 0]) ∧ r * r ≤ a ∧ a < (r + 1) * (r + 1) := by
  have la := (mayL_iff.1 ha).1
  have h1 := nat_May (G := G) hT z (dl a)
  rw [ha] at h1
  by_cases h0 : a = 0
  · subst h0
    rw [dl_zero] at *
    refine ⟨0, true, ?_, by decide, by decide⟩
    rw [run_k G T hT.nat_Root, dl_zero]
    clear la ha
    repeat' (first | (simp (maxSteps := 1000000) only [evB, if_true, if_false, ne_eq, Nat.reduceEqDiff, Nat.reduceAdd, reduceCtorEq, Int.reduceLE, Int.reduceLT, Int.reduceEq, Int.reduceNeg, Int.reduceToNat, Int.reducePow, Int.reduceMod, Int.reduceDiv, Int.reduceSub, Int.reduceAdd, Int.reduceMul, Nat.reduceMul, Nat.reduceSub, Nat.reducePow, exB, resC_ptr, res_cell, nilb, nilf, faddr_p, c_nat_Root, h1]) | (simp (maxSteps := 1000000) (disch := first | with_reducible assumption | omega) only [dxB]) | (simp only [kI_d, kG_dt, kG_df]; split) | (simp only [kI_v, kG_vt, kG_vf]; split))
    rfl
  · have hl : ¬ ((dl a).length : Int) = 0 := fun hc => h0 (dl_len0.1 (by omega))
    have h2 := nat_Len (G := G) hT (z := z) ha
    have hb : blen a ≤ 131072 := may_blen ha
    have w1 : ((blen a : Nat) : Int) + 1 = ((blen a + 1 : Nat) : Int) := by omega
    have w2 : ((blen a + 1 : Nat) : Int).tdiv 2 = (((blen a + 1) / 2 : Nat) : Int) := rfl
    have w3 : ((blen a + 1 : Nat) : Int) / 2 = (((blen a + 1) / 2 : Nat) : Int) := rfl
    have ltb := lt_pow_blen a
    have hk : blen a ≤ 2 * ((blen a + 1) / 2) := by omega
    have hk2 : (blen a + 1) / 2 ≤ 65536 := by omega
    generalize (blen a + 1) / 2 = k at *
    have d1 : dl 1 = [1] := by rw [dl_pos (by decide), Nat.mod_eq_of_lt (by decide), Nat.div_eq_of_lt (by decide), dl_zero]
    obtain ⟨zx, hz⟩ := nat_up (G := G) hT (z := false) (a := 1) (n := k) (by rw [d1]; decide) (by omega)
    rw [Nat.one_mul, d1] at hz
    have hz2 : run G T 91 [.imm 1 [.int .u32 1], .int .i64 (k : Int)] = some (D zx (dl (2 ^ k))) := hz
    have H0 : Holds ⟨[⟨[.int .u32 1], false⟩], []⟩ 0 [1] := ⟨rfl, rfl⟩
    have hre := reach_own H0
    have hf : FreH ⟨[⟨[.int .u32 1], false⟩], fz1 (D zx (dl (2 ^ k))) [0] ++ []⟩ := FreH_fz H0 (fun c hc => absurd hc List.not_mem_nil) _
    rw [List.append_nil] at hf
    have hmx : mayL (dl (2 ^ k)) = true := mayL_small (by
      have := blen_eq (n := 2 ^ k) (k := k) (Nat.le_refl _) (Nat.pow_lt_pow_right (by decide) (Nat.lt_succ_self k)); omega)
    have hlt : a < (2 ^ k + 1) * (2 ^ k + 1) := by
      have e1 : a < 2 ^ k * 2 ^ k := by
        rw [← Nat.pow_add]
        exact Nat.lt_of_lt_of_le ltb (Nat.pow_le_pow_right (by decide) (by omega))
      exact Nat.lt_of_lt_of_le e1 (Nat.mul_le_mul (by omega) (by omega))
    obtain ⟨_, hr, e, h', r, z', rfl, p1, p2⟩ := root_loop (G := G) hT (z := z) ha (by omega) (2 ^ k) _ zx hf (Nat.two_pow_pos k) hmx hlt
    refine ⟨r, z', ?_, p1, p2⟩
    rw [run_k G T hT.nat_Root]
    clear ltb hk hlt hmx p1 p2 ha hf
    repeat' (first | (simp (maxSteps := 1000000) only [evB, if_true, if_false, ne_eq, Nat.reduceEqDiff, Nat.reduceAdd, reduceCtorEq, Int.reduceLE, Int.reduceLT, Int.reduceEq, Int.reduceNeg, Int.reduceToNat, Int.reducePow, Int.reduceMod, Int.reduceDiv, Int.reduceSub, Int.reduceAdd, Int.reduceMul, Nat.reduceMul, Nat.reduceSub, Nat.reducePow, exB, resC_ptr, res_cell, nilb, nilf, faddr_p, c_nat_Root, h1, h2, hl, w1, w2, w3, hz, hz2, hre, hr]) | (simp (maxSteps := 1000000) (disch := first | with_reducible assumption | omega) only [dxB]) | (simp only [kI_d, kG_dt, kG_df]; split) | (simp only [kI_v, kG_vt, kG_vf]; split))
end Go.Cv

/-
  The document's quotient: bit by bit.
-/
namespace Go.Cv
variable {G : Nat → Option (List AV)} {T : Tbl} {g : Nat}

end Go.Cv

/-
  The document's quotient: its loop.
-/
namespace Go.Cv
variable {G : Nat → Option (List AV)} {T : Tbl} {g : Nat}

end Go.Cv

/-
  The document's quotient, whole.
-/
namespace Go.Cv
variable {G : Nat → Option (List AV)} {T : Tbl} {g : Nat}

end Go.Cv

/-
  The document's root (plain part).
-/
namespace Go.Cv
variable {G : Nat → Option (List AV)} {T : Tbl} {g : Nat}

theorem root_uniq {r t a : Nat} (h1 : r * r ≤ a) (h2 : a < (r + 1) * (r + 1)) (h3 : t * t ≤ a) (h4 : a < (t + 1) * (t + 1)) : r = t := by
  rcases Nat.lt_trichotomy r t with h | h | h
  · have : (r + 1) * (r + 1) ≤ t * t := Nat.mul_le_mul h h
    omega
  · exact h
  · have : (t + 1) * (t + 1) ≤ r * r := Nat.mul_le_mul h h
    omega
end Go.Cv

/-
  The document's root: the loop.
-/
namespace Go.Cv
variable {G : Nat → Option (List AV)} {T : Tbl} {g : Nat}

end Go.Cv

/-
  The document's root, whole.
-/
namespace Go.Cv
variable {G : Nat → Option (List AV)} {T : Tbl} {g : Nat}

end Go.Cv

/-
  Numbers cut: the document's; how many bits may be asked for.
-/
namespace Go.Cv
variable {G : Nat → Option (List AV)} {T : Tbl} {g : Nat}

theorem dyad_asked (hT : HasC g T) {n : Nat} (h : 1 ≤ n ∧ n ≤ 8192) : run G T 75 [.int .i64 (n : Int)] = some (.int .i64 0) := by
  rw [run_k G T hT.dyad_asked]
  have c1 : ¬ (n : Int) < 1 := by omega
  have c2 : ¬ (8192 : Int) < (n : Int) := by omega
  repeat' (first | (simp (maxSteps := 1000000) only [evB, if_true, if_false, ne_eq, Nat.reduceEqDiff, Nat.reduceAdd, reduceCtorEq, Int.reduceLE, Int.reduceLT, Int.reduceEq, Int.reduceNeg, Int.reduceToNat, Int.reducePow, Int.reduceMod, Int.reduceDiv, Int.reduceSub, Int.reduceAdd, Int.reduceMul, Nat.reduceMul, Nat.reduceSub, Nat.reducePow, exB, resC_ptr, res_cell, nilb, nilf, faddr_p, c_dyad_asked, c1, c2]) | (simp (maxSteps := 1000000) (disch := first | with_reducible assumption | omega) only [dxB]) | (simp only [kI_d, kG_dt, kG_df]; split) | (simp only [kI_v, kG_vt, kG_vf]; split))

end Go.Cv

/-
  A quotient that was reckoned with some bits more is cut.
-/
namespace Go.Cv
variable {G : Nat → Option (List AV)} {T : Tbl} {g : Nat}

theorem dyad_made (hA : HasA g T) (hG : Glob G g) (hT : HasC g T) {z n more : Bool} {q k s : Nat} {e : Int} (hm : mayL (dl q) = true) (hk : blen q = k + s) (h0 : 0 < s) (he : -16000000 < e ∧ e < 16000000) :
    ∃ z', run G T 78 [.bool n, D z (dl q), .int .i64 e, .bool more, .int .i64 (k : Int)] = some (.tup [DyA z' (mkD n (q / 2 ^ s) (e + s)), .bool (!decide (q % 2 ^ s = 0) || more), .int .i64 0]) := by
  have hb := may_blen hm
  have l1 := nat_Len (G := G) hA (z := z) hm
  obtain ⟨z1, h1⟩ := nat_Shift_down (G := G) hA hG (z := z) (a := q) (n := s) hm h0 (by omega)
  have hbd := blen_div q s
  have hm2 : mayL (dl (q / 2 ^ s)) = true := mayL_small (by omega)
  have htz : tz (q / 2 ^ s) ≤ 131072 ∨ q / 2 ^ s = 0 := by
    by_cases hz : q / 2 ^ s = 0
    · exact Or.inr hz
    · left; have := tz_blen hz; omega
  obtain ⟨z2, h2⟩ := dyad_Make (G := G) hA hG hT (n := n) (z := z1) (a := q / 2 ^ s) (e := e + s) hm2 (by
    rcases htz with h | h
    · right; omega
    · left; exact h) (by omega)
  have w1 : max (0 : Int) ((blen q : Int) - (k : Int)) = (s : Int) := by omega
  have w2 : (0 : Int) - (s : Int) = -(s : Int) := by omega
  have w3 : IntKind.i64.wrap (e + (s : Int)) = e + s := wrap_i64 (by omega)
  have w4 : IntKind.i64.wrap ((blen q : Int) - (k : Int)) = (blen q : Int) - (k : Int) := wrap_i64 (by omega)
  have w5 : IntKind.i64.wrap (-(s : Int)) = -(s : Int) := wrap_i64 (by omega)
  refine ⟨z2, ?_⟩
  rw [run_k G T hT.dyad_made]
  clear hm2 htz hbd hk hb hm
  simp only [DyA, A3] at *
  generalize decide (q % 2 ^ s = 0) = o at *
  cases o <;> cases more <;> repeat' (first | (simp (maxSteps := 1000000) only [evB, if_true, if_false, ne_eq, Nat.reduceEqDiff, Nat.reduceAdd, reduceCtorEq, Int.reduceLE, Int.reduceLT, Int.reduceEq, Int.reduceNeg, Int.reduceToNat, Int.reducePow, Int.reduceMod, Int.reduceDiv, Int.reduceSub, Int.reduceAdd, Int.reduceMul, Nat.reduceMul, Nat.reduceSub, Nat.reducePow, exB, resC_ptr, res_cell, nilb, nilf, faddr_p, c_dyad_made, l1, w1, w2, w3, w4, w5, mm_max2, h1, h2]) | (simp (maxSteps := 1000000) (disch := first | with_reducible assumption | omega) only [dxB]) | (simp only [kI_d, kG_dt, kG_df]; split) | (simp only [kI_v, kG_vt, kG_vf]; split))
end Go.Cv

/-
  The document's quotient of dyadic numbers.
-/
namespace Go.Cv
variable {G : Nat → Option (List AV)} {T : Tbl} {g : Nat}

end Go.Cv

/-
  Numbers cut, in their one form (plain).
-/
namespace Go.Cv

end Go.Cv

/-
  A number that is short enough is not cut.
-/
namespace Go.Cv
variable {G : Nat → Option (List AV)} {T : Tbl} {g : Nat}

end Go.Cv

/-
  The document's quotient of dyadic numbers.
-/
namespace Go.Cv
variable {G : Nat → Option (List AV)} {T : Tbl} {g : Nat}

end Go.Cv

/-
  The document's quotient of dyadic numbers.
-/
namespace Go.Cv
variable {G : Nat → Option (List AV)} {T : Tbl} {g : Nat}

end Go.Cv

/-
  The program's quotient of dyadic numbers.
-/
namespace Go.Cv
variable {G : Nat → Option (List AV)} {T : Tbl} {g : Nat}

theorem both_loop (e : Env) (h : Heap) : evL G T c_dyad_both_l1 e h = kS G T (evL G T c_dyad_both_b1 (keepE [5, 6, 7] e) h) c_dyad_both_l1 := s_loopc G T rfl e h

theorem dyad_both (hA : HasA g T) (hT : HasC g T) {n z n' z' : Bool} {l l' : List Nat} (hd : Dg l) (hd' : Dg l') {e e' : Int} :
    run G T 74 [.imm 2 [.bool n, D z l, .int .i64 e, .bool n', D z' l', .int .i64 e']] = some (.bool (mayD n l e && mayD n' l' e')) := by
  rw [run_k G T hT.dyad_both]
  have h2 := dyad_May (G := G) (T := T) hA hT (n := n) (z := z) hd (e := e)
  have h3 := dyad_May (G := G) (T := T) hA hT (n := n') (z := z') hd' (e := e')
  simp only [A3] at *
  cases hm : mayD n l e <;> cases hm' : mayD n' l' e' <;> (
    rw [hm] at h2
    rw [hm'] at h3
    repeat' (first | (simp (maxSteps := 1000000) only [evB, if_true, if_false, ne_eq, Nat.reduceEqDiff, Nat.reduceAdd, reduceCtorEq, Int.reduceLE, Int.reduceLT, Int.reduceEq, Int.reduceNeg, Int.reduceToNat, Int.reducePow, Int.reduceMod, Int.reduceDiv, Int.reduceSub, Int.reduceAdd, Int.reduceMul, Nat.reduceMul, Nat.reduceSub, Nat.reducePow, exB, resC_ptr, res_cell, nilb, nilf, faddr_p, c_dyad_both, h2, h3, both_loop, c_dyad_both_b1, iad20, iad21, rd_ip]) | (simp (maxSteps := 1000000) (disch := first | with_reducible assumption | omega) only [dxB]) | (simp only [kI_d, kG_dt, kG_df]; split) | (simp only [kI_v, kG_vt, kG_vf]; split))
    all_goals rfl)
end Go.Cv

/-
  The program's quotient of dyadic numbers.
-/
namespace Go.Cv
variable {G : Nat → Option (List AV)} {T : Tbl} {g : Nat}

end Go.Cv

/-
  The program's root of a dyadic number.
-/
namespace Go.Cv
variable {G : Nat → Option (List AV)} {T : Tbl} {g : Nat}

/-- A number shifted, up or down; is something lost? -/
def shN (m : Nat) (n : Int) : Nat := if 0 ≤ n then m * 2 ^ n.toNat else m / 2 ^ (-n).toNat
def shB (m : Nat) (n : Int) : Bool := if 0 ≤ n then false else !decide (m % 2 ^ (-n).toNat = 0)

theorem shN_blen {m : Nat} (h : m ≠ 0) {n : Int} (hn : 0 ≤ (blen m : Int) + n) : (blen (shN m n) : Int) = blen m + n := by
  unfold shN; split
  · rw [blen_mul h]; omega
  · rw [blen_div]; omega

theorem nat_Shift_sh (hA : HasA g T) (hG : Glob G g) {z : Bool} {m : Nat} {n : Int} (hm : mayL (dl m) = true) (h1 : (blen m : Int) + n ≤ 131072) (h2 : -1099511627776 < n ∧ n < 1099511627776) :
    ∃ z', run G T 50 [D z (dl m), .int .i64 n] = some (.tup [D z' (dl (shN m n)), .bool (shB m n), .int .i64 0]) := by
  unfold shN shB
  by_cases h : 0 ≤ n
  · obtain ⟨z', hz⟩ := nat_Shift_up (G := G) (T := T) hA (z := z) (a := m) (n := n.toNat) hm (by omega) (by omega)
    rw [if_pos h, if_pos h]
    rw [show ((n.toNat : Nat) : Int) = n by omega] at hz
    exact ⟨z', hz⟩
  · obtain ⟨z', hz⟩ := nat_Shift_down (G := G) (T := T) hA hG (z := z) (a := m) (n := (-n).toNat) hm (by omega) (by omega)
    rw [if_neg h, if_neg h]
    rw [show -(((-n).toNat : Nat) : Int) = n by omega] at hz
    exact ⟨z', hz⟩

theorem root_blen {k r M : Nat} (h1 : 2 ^ k * 2 ^ k ≤ M) (h2 : M < (r + 1) * (r + 1)) : k < blen r := by
  rw [lt_blen]
  rcases Nat.lt_or_ge r (2 ^ k) with h | h
  · have := Nat.mul_le_mul (show r + 1 ≤ 2 ^ k by omega) (show r + 1 ≤ 2 ^ k by omega)
    omega
  · exact h

theorem and1_i64 (x : Int) : andI .i64 x 1 = x % 2 := by
  rw [andI_eq]
  unfold andI0
  have h1 : (BitVec.ofInt IntKind.i64.bits x &&& BitVec.ofInt IntKind.i64.bits 1).toNat = (x % 18446744073709551616).toNat % 2 := by
    rw [BitVec.toNat_and]
    rw [show (BitVec.ofInt IntKind.i64.bits 1).toNat = 1 from rfl, BitVec.toNat_ofInt]
    rw [show ((2 : Nat) ^ IntKind.i64.bits : Nat) = 18446744073709551616 from rfl]
    exact and_one _
  rw [h1]
  rw [wrap_i64 (by omega)]
  omega

set_option maxHeartbeats 2000000 in
theorem dyad_Root (hA : HasA g T) (hG : Glob G g) (hT : HasC g T) {z : Bool} {d : Dy} {k S : Nat} {n c : Int} {r : Nat} (dd : mayD d.n (dl d.m) d.e = true) (h0 : d.m ≠ 0) (hs : d.n = false)
    (hk : 1 ≤ k ∧ k ≤ 8192) (hn : n = 2 * k + 2 - blen d.m + (d.e - (2 * k + 2 - blen d.m)) % 2) (hc : d.e - n = 2 * c)
    (r1 : r * r ≤ shN d.m n) (r2 : shN d.m n < (r + 1) * (r + 1)) (hS : blen r = k + S) :
    ∃ z', run G T 43 [DyA z d, .int .i64 (k : Int)] = some (.tup [DyA z' (mkD false (r / 2 ^ S) (c + S)),
      .bool (!decide (r % 2 ^ S = 0) || (shB d.m n || !decide (r * r = shN d.m n))), .int .i64 0]) := by
  obtain ⟨f1, f2, f3, f4, f5⟩ := mayD_facts dd
  obtain ⟨ng, m, e⟩ := d
  simp only at *
  subst hs
  have hbm := may_blen f1
  have hbp := blen_pos h0
  have hbs := shN_blen h0 (n := n) (by omega)
  have hrk : k < blen r := root_blen (k := k) (r := r) (M := shN m n) (by
    have := pow_blen_le (n := shN m n) (by intro hc; rw [hc, blen_zero] at hbs; omega)
    rw [← Nat.pow_add]
    exact Nat.le_trans (Nat.pow_le_pow_right (by decide) (by omega)) this) r2
  have b0 := dyad_May (G := G) (T := T) hA hT false z (Dg_dl m) e
  rw [dd] at b0
  have a0 := dyad_asked (G := G) (T := T) hT hk
  have l1 := nat_Len (G := G) (T := T) hA (z := z) f1
  obtain ⟨z1, h1⟩ := nat_Shift_sh (G := G) (T := T) hA hG (z := z) (m := m) (n := n) f1 (by omega) (by omega)
  have mM : mayL (dl (shN m n)) = true := mayL_small (by omega)
  obtain ⟨r', z2, h2, q1, q2⟩ := nat_Root (G := G) (T := T) hA (z := z1) (a := shN m n) mM
  have hrr : r' = r := root_uniq q1 q2 r1 r2
  subst hrr
  have hbr : blen r' ≤ blen (shN m n) := blen_mono (Nat.le_trans (Nat.le_mul_self r') r1)
  have mr : mayL (dl r') = true := mayL_small (by omega)
  obtain ⟨z5, h4⟩ := dyad_made (G := G) (T := T) hA hG hT (n := false) (z := z2) (more := shB m n || !decide (r' * r' = shN m n)) (q := r') (k := k) (s := S) (e := c) mr hS (by omega) (by omega)
  have c1 : ¬ ((dl m).length : Int) = 0 := fun hc => h0 (dl_len0.1 (by omega))
  refine ⟨z5, ?_⟩
  rw [run_k G T hT.dyad_Root]
  simp only [DyA, A3] at *
  have wa : IntKind.i64.wrap (2 * (k : Int)) = 2 * (k : Int) := wrap_i64 (by omega)
  have wb : IntKind.i64.wrap (2 * (k : Int) + 2) = 2 * (k : Int) + 2 := wrap_i64 (by omega)
  have wc : IntKind.i64.wrap (2 * (k : Int) + 2 - (blen m : Int)) = 2 * (k : Int) + 2 - (blen m : Int) := wrap_i64 (by omega)
  have wd : IntKind.i64.wrap (e - (2 * (k : Int) + 2 - (blen m : Int))) = e - (2 * (k : Int) + 2 - (blen m : Int)) := wrap_i64 (by omega)
  have we : IntKind.i64.wrap (e - n) = e - n := wrap_i64 (by omega)
  have wt : IntKind.i64.wrap ((e - n).tdiv 2) = c := by rw [hc, Int.mul_tdiv_cancel_left _ (by decide)]; exact wrap_i64 (by omega)
  have wx := and1_i64 (e - (2 * (k : Int) + 2 - (blen m : Int)))
  have hpar : ((e - (2 * (k : Int) + 2 - (blen m : Int))) % 2 = 0 ∧ n = 2 * (k : Int) + 2 - (blen m : Int)) ∨
     ((e - (2 * (k : Int) + 2 - (blen m : Int))) % 2 = 1 ∧ IntKind.i64.wrap (2 * (k : Int) + 2 - (blen m : Int) + 1) = n) := by
    rcases Int.emod_two_eq (e - (2 * (k : Int) + 2 - (blen m : Int))) with hp | hp
    · left; exact ⟨hp, by omega⟩
    · right; refine ⟨hp, ?_⟩; rw [wrap_i64 (by omega)]; omega
  clear hbs hrk hbr mr mM hS r1 r2 q1 q2 f1 f2 f3 f4 f5 dd hbm hbp hn
  generalize shB m n = o1 at *
  generalize decide (r' * r' = shN m n) = o2 at *
  generalize decide (r' % 2 ^ S = 0) = o at *
  generalize shN m n = M at *
  rcases hpar with ⟨hp, hn⟩ | ⟨hp, hn⟩
  · rw [hp] at wx
    rw [hn] at h1 we wt
    cases o1 <;> cases o2 <;> (simp only [Bool.false_or, Bool.true_or, Bool.not_true, Bool.not_false, Bool.or_false, Bool.or_true] at h4 ⊢; repeat' (first | (simp (maxSteps := 1000000) only [evB, if_true, if_false, ne_eq, Nat.reduceEqDiff, Nat.reduceAdd, reduceCtorEq, Int.reduceLE, Int.reduceLT, Int.reduceEq, Int.reduceNeg, Int.reduceToNat, Int.reducePow, Int.reduceMod, Int.reduceDiv, Int.reduceSub, Int.reduceAdd, Int.reduceMul, Nat.reduceMul, Nat.reduceSub, Nat.reducePow, exB, resC_ptr, res_cell, nilb, nilf, faddr_p, c_dyad_Root, b0, a0, c1, l1, wa, wb, wc, wd, we, wt, wx, h1, h2, h4]) | (simp (maxSteps := 1000000) (disch := first | with_reducible assumption | omega) only [dxB]) | (simp only [kI_d, kG_dt, kG_df]; split) | (simp only [kI_v, kG_vt, kG_vf]; split)); try rfl)
  · rw [hp] at wx
    cases o1 <;> cases o2 <;> (simp only [Bool.false_or, Bool.true_or, Bool.not_true, Bool.not_false, Bool.or_false, Bool.or_true] at h4 ⊢; repeat' (first | (simp (maxSteps := 1000000) only [evB, if_true, if_false, ne_eq, Nat.reduceEqDiff, Nat.reduceAdd, reduceCtorEq, Int.reduceLE, Int.reduceLT, Int.reduceEq, Int.reduceNeg, Int.reduceToNat, Int.reducePow, Int.reduceMod, Int.reduceDiv, Int.reduceSub, Int.reduceAdd, Int.reduceMul, Nat.reduceMul, Nat.reduceSub, Nat.reducePow, exB, resC_ptr, res_cell, nilb, nilf, faddr_p, c_dyad_Root, b0, a0, c1, l1, wa, wb, wc, wd, we, wt, wx, hn, h1, h2, h4]) | (simp (maxSteps := 1000000) (disch := first | with_reducible assumption | omega) only [dxB]) | (simp only [kI_d, kG_dt, kG_df]; split) | (simp only [kI_v, kG_vt, kG_vf]; split)); try rfl)
end Go.Cv

/-
  The document's root of a dyadic number.
-/
namespace Go.Cv
variable {G : Nat → Option (List AV)} {T : Tbl} {g : Nat}

end Go.Cv

/-
  Rounding a number that is told by its first bits and whether there is something behind them.
-/
namespace Go.Cv

/-- The word of Q (and something behind it, or not) times 2^E. -/
def sW (F : Fm) (md : Int) (neg : Bool) (Q : Nat) (more : Bool) (E : Int) : Nat × Nat :=
  wordOf F md neg (rdN md neg Q more (F.eOf (E + blen Q) - E).toNat).1 (rdN md neg Q more (F.eOf (E + blen Q) - E).toNat).2 (F.eOf (E + blen Q)) (E + blen Q) (rdN md neg Q more (blen Q - F.fr - 1)).1

theorem partW_sW (F : Fm) (md : Int) (neg : Bool) {w : Nat} (more : Bool) (top : Int) (hw : blen w = 64) : partW F md neg w more top = sW F md neg w more (top - 64) := by
  unfold partW sW
  have h1 : top - 64 + (blen w : Int) = top := by omega
  rw [h1, show F.eOf top - top + 64 = F.eOf top - (top - 64) by omega, show blen w - F.fr - 1 = 63 - F.fr by omega]

theorem sW_shift (F : Fm) (md : Int) (neg : Bool) {Q j : Nat} (more : Bool) (E : Int) (h : F.fr + 2 + j ≤ blen Q) :
    sW F md neg (Q / 2 ^ j) (more || decide (Q % 2 ^ j ≠ 0)) (E + j) = sW F md neg Q more E := by
  unfold sW
  have hb : (blen (Q / 2 ^ j) : Int) = blen Q - j := by rw [blen_div]; omega
  have hb' : blen (Q / 2 ^ j) = blen Q - j := by omega
  have e1 : E + j + (blen (Q / 2 ^ j) : Int) = E + blen Q := by omega
  have hE : E + (blen Q : Int) - F.fr - 1 ≤ F.eOf (E + blen Q) := by unfold Fm.eOf; omega
  have r1 := rdN_shift md neg Q more j (F.eOf (E + blen Q) - (E + j)).toNat (by omega)
  have r2 := rdN_shift md neg Q more j (blen Q - j - F.fr - 1) (by omega)
  rw [show j + (F.eOf (E + blen Q) - (E + j)).toNat = (F.eOf (E + blen Q) - E).toNat by omega] at r1
  rw [show j + (blen Q - j - F.fr - 1) = blen Q - F.fr - 1 by omega] at r2
  rw [e1, hb', r1, r2]

theorem headN_mul {M : Nat} (h : M ≠ 0) (t : Nat) : headN (M * 2 ^ t) = headN M ∧ behindN (M * 2 ^ t) = behindN M := by
  unfold headN behindN
  rw [blen_mul h]
  by_cases h1 : blen M ≤ 64
  · by_cases h2 : blen M + t ≤ 64
    · rw [if_pos h1, if_pos h2, if_pos h1, if_pos h2, Nat.mul_assoc, ← Nat.pow_add, show t + (64 - (blen M + t)) = 64 - blen M by omega]
      exact ⟨rfl, rfl⟩
    · rw [if_pos h1, if_neg h2, if_pos h1, if_neg h2]
      rw [div_pow_mul (by omega), mod_pow_mul (by omega), show t - (blen M + t - 64) = 64 - blen M by omega]
      exact ⟨rfl, rfl⟩
  · rw [if_neg h1, if_neg (by omega), if_neg h1, if_neg (by omega)]
    rw [div_pow_mul2 (by omega), mod_pow_mul2 (by omega), show blen M + t - 64 - t = blen M - 64 by omega]
    have hp := Nat.two_pow_pos t
    refine ⟨rfl, decide_eq_decide.2 ?_⟩
    constructor
    · intro h3 h4; exact h3 (by rw [h4, Nat.zero_mul])
    · intro h3 h4
      rcases Nat.mul_eq_zero.1 h4 with h5 | h5
      · exact h3 h5
      · omega

theorem mul_self_shift (t j : Nat) : t * 2 ^ j * (t * 2 ^ j) = t * t * 2 ^ (2 * j) := by
  rw [Nat.mul_mul_mul_comm, ← Nat.pow_add, show j + j = 2 * j by omega]

/-- The finer of two roots tells the same. -/
theorem root_fine {X r t j : Nat} (h1 : r * r ≤ X) (h2 : X < (r + 1) * (r + 1)) (h3 : t * t ≤ X / 2 ^ (2 * j)) (h4 : X / 2 ^ (2 * j) < (t + 1) * (t + 1)) :
    t = r / 2 ^ j ∧ ((t * t = X / 2 ^ (2 * j) ∧ X % 2 ^ (2 * j) = 0) ↔ (r * r = X ∧ r % 2 ^ j = 0)) := by
  have hp := Nat.two_pow_pos j
  have hq := Nat.two_pow_pos (2 * j)
  have g1 : t * 2 ^ j * (t * 2 ^ j) ≤ X := by
    rw [mul_self_shift]
    exact Nat.le_trans (Nat.mul_le_mul_right _ h3) (Nat.div_mul_le_self ..)
  have g2 : t * 2 ^ j ≤ r := by
    rcases Nat.lt_or_ge r (t * 2 ^ j) with h | h
    · have := Nat.mul_le_mul (show r + 1 ≤ t * 2 ^ j from h) (show r + 1 ≤ t * 2 ^ j from h); omega
    · exact h
  have g3 : r / 2 ^ j * (r / 2 ^ j) ≤ X / 2 ^ (2 * j) := by
    rw [Nat.le_div_iff_mul_le hq, ← mul_self_shift]
    exact Nat.le_trans (Nat.mul_le_mul (Nat.div_mul_le_self ..) (Nat.div_mul_le_self ..)) h1
  have g4 : r / 2 ^ j ≤ t := by
    rcases Nat.lt_or_ge t (r / 2 ^ j) with h | h
    · have := Nat.mul_le_mul (show t + 1 ≤ r / 2 ^ j from h) (show t + 1 ≤ r / 2 ^ j from h); omega
    · exact h
  have g5 : t = r / 2 ^ j := Nat.le_antisymm ((Nat.le_div_iff_mul_le hp).2 g2) g4
  refine ⟨g5, ?_⟩
  have m1 := Nat.div_add_mod X (2 ^ (2 * j))
  have m2 := Nat.div_add_mod r (2 ^ j)
  constructor
  · rintro ⟨a1, a2⟩
    have hX : t * 2 ^ j * (t * 2 ^ j) = X := by
      rw [mul_self_shift, a1, Nat.mul_comm]; omega
    have hr : t * 2 ^ j = r := by
      refine root_uniq (a := X) (Nat.le_of_eq hX) ?_ h1 h2
      rw [← hX]; exact Nat.mul_lt_mul_of_lt_of_le (Nat.lt_succ_self _) (Nat.le_succ _) (by omega)
    refine ⟨by rw [← hr]; exact hX, ?_⟩
    rw [← hr]; exact Nat.mul_mod_left ..
  · rintro ⟨a1, a2⟩
    have hr : r = t * 2 ^ j := by rw [g5, Nat.mul_comm]; omega
    have hX : X = t * t * 2 ^ (2 * j) := by rw [← a1, hr, mul_self_shift]
    refine ⟨?_, by rw [hX]; exact Nat.mul_mod_left ..⟩
    rw [hX, Nat.mul_div_cancel _ hq]

theorem sW_root (F : Fm) (md : Int) (neg : Bool) {X r t j : Nat} (E : Int) (h1 : r * r ≤ X) (h2 : X < (r + 1) * (r + 1)) (h3 : t * t ≤ X / 2 ^ (2 * j)) (h4 : X / 2 ^ (2 * j) < (t + 1) * (t + 1)) (h : F.fr + 2 ≤ blen t) :
    sW F md neg t (!decide (X % 2 ^ (2 * j) = 0) || !decide (t * t = X / 2 ^ (2 * j))) (E + j) = sW F md neg r (!decide (r * r = X)) E := by
  obtain ⟨e1, e2⟩ := root_fine h1 h2 h3 h4
  have hbl := blen_div r j
  rw [← e1] at hbl
  have h5 := sW_shift F md neg (Q := r) (j := j) (!decide (r * r = X)) E (by omega)
  rw [← e1] at h5
  rw [← h5]
  congr 1
  rw [Bool.eq_iff_iff]
  simp only [Bool.or_eq_true, Bool.not_eq_true', decide_eq_true_eq, decide_eq_false_iff_not, ne_eq]
  by_cases h6 : t * t = X / 2 ^ (2 * j) <;> by_cases h7 : X % 2 ^ (2 * j) = 0 <;> by_cases h8 : r * r = X <;> by_cases h9 : r % 2 ^ j = 0 <;> simp_all
end Go.Cv

/-
  Rounding of quotients and roots: the program's and the document's.
-/
namespace Go.Cv
variable {G : Nat → Option (List AV)} {T : Tbl} {g : Nat}

theorem head64 {w : Nat} (h : blen w = 64) : headN w = w ∧ behindN w = false := by
  unfold headN behindN
  rw [if_pos (by omega), if_pos (by omega), h]
  exact ⟨Nat.mul_one w, rfl⟩

theorem mk_head {n : Bool} {w : Nat} {e : Int} (h : blen w = 64) : headN (mkD n w e).m = w ∧ behindN (mkD n w e).m = false ∧ (mkD n w e).e + (blen (mkD n w e).m : Int) = e + 64 ∧ (mkD n w e).m ≠ 0 ∧ (mkD n w e).n = n := by
  have h0 : w ≠ 0 := by rintro rfl; rw [blen_zero] at h; omega
  have t1 := (tz_spec h0).1
  have hb := blen_div w (tz w)
  have hz := tz_blen h0
  have hm' : w / 2 ^ tz w ≠ 0 := by intro hc; rw [hc, blen_zero] at hb; omega
  obtain ⟨e1, e2⟩ := headN_mul hm' (tz w)
  rw [← t1] at e1 e2
  rw [mkD_pos h0]
  simp only
  rw [← e1, ← e2]
  exact ⟨(head64 h).1, (head64 h).2, by omega, hm', by trivial⟩

theorem fm_fr (F : Fm) : F.fr + 2 ≤ 54 := by cases F <;> decide

end Go.Cv

/-
  The document's rounding of quotients.
-/
namespace Go.Cv
variable {G : Nat → Option (List AV)} {T : Tbl} {g : Nat}

end Go.Cv

/-
  Rounding of roots: the program's and the document's.
-/
namespace Go.Cv
variable {G : Nat → Option (List AV)} {T : Tbl} {g : Nat}

theorem isq_ex : ∀ X : Nat, ∃ r, r * r ≤ X ∧ X < (r + 1) * (r + 1) := by
  intro X
  induction X with
  | zero => exact ⟨0, by decide, by decide⟩
  | succ X ih =>
    obtain ⟨r, h1, h2⟩ := ih
    by_cases h : X + 1 < (r + 1) * (r + 1)
    · exact ⟨r, by omega, h⟩
    · refine ⟨r + 1, by omega, ?_⟩
      have : (r + 1) * (r + 1) < (r + 1 + 1) * (r + 1 + 1) := Nat.mul_lt_mul_of_lt_of_le (Nat.lt_succ_self _) (Nat.le_succ _) (by omega)
      omega
/-- The whole root. -/
noncomputable def isq (X : Nat) : Nat := Classical.choose (isq_ex X)
theorem isq_spec (X : Nat) : isq X * isq X ≤ X ∧ X < (isq X + 1) * (isq X + 1) := Classical.choose_spec (isq_ex X)

def rootP (e : Int) : Nat := 130 + (e % 2).toNat
/-- The word of a root. -/
noncomputable def rootW (F : Fm) (md : Int) (d : Dy) : Nat × Nat :=
  sW F md false (isq (d.m * 2 ^ rootP d.e)) (!decide (isq (d.m * 2 ^ rootP d.e) * isq (d.m * 2 ^ rootP d.e) = d.m * 2 ^ rootP d.e)) ((d.e - (rootP d.e : Nat)) / 2)

theorem sh_fine {m P : Nat} {n : Int} (h : n ≤ P) : shN m n = m * 2 ^ P / 2 ^ ((P : Int) - n).toNat ∧ shB m n = !decide (m * 2 ^ P % 2 ^ ((P : Int) - n).toNat = 0) := by
  unfold shN shB
  by_cases h0 : 0 ≤ n
  · rw [if_pos h0, if_pos h0, div_pow_mul (by omega), mod_pow_mul (by omega), show P - ((P : Int) - n).toNat = n.toNat by omega]
    exact ⟨rfl, rfl⟩
  · rw [if_neg h0, if_neg h0, div_pow_mul2 (by omega), mod_pow_mul2 (by omega), show ((P : Int) - n).toNat - P = (-n).toNat by omega]
    have hp := Nat.two_pow_pos P
    refine ⟨rfl, ?_⟩
    congr 1
    refine decide_eq_decide.2 ?_
    constructor
    · intro h1; rw [h1, Nat.zero_mul]
    · intro h1
      rcases Nat.mul_eq_zero.1 h1 with h2 | h2
      · exact h2
      · omega

/-- A coarser root tells the same. -/
theorem rootW_sh (F : Fm) (md : Int) {m t : Nat} {e n c : Int} (h0 : n ≤ rootP e) (hc : e - n = 2 * c) (h1 : t * t ≤ shN m n) (h2 : shN m n < (t + 1) * (t + 1)) (hb : F.fr + 2 ≤ blen t) (s : Bool) :
    sW F md false t (shB m n || !decide (t * t = shN m n)) c = rootW F md ⟨s, m, e⟩ := by
  have hP : rootP e = 130 + (e % 2).toNat := rfl
  obtain ⟨e1, e2⟩ := sh_fine (m := m) h0
  obtain ⟨r1, r2⟩ := isq_spec (m * 2 ^ rootP e)
  have hj : ((rootP e : Nat) - n).toNat = 2 * (((rootP e : Nat) - n).toNat / 2) := by omega
  rw [hj] at e1 e2
  have h3 := sW_root F md false (X := m * 2 ^ rootP e) (r := isq (m * 2 ^ rootP e)) (t := t) (j := ((rootP e : Nat) - n).toNat / 2) ((e - (rootP e : Nat)) / 2) r1 r2 (by rw [← e1]; exact h1) (by rw [← e1]; exact h2) hb
  unfold rootW
  simp only
  rw [← h3, e2, e1, show (e - (rootP e : Nat)) / 2 + ((((rootP e : Nat) - n).toNat / 2 : Nat) : Int) = c by omega]

theorem round_Root (hA : HasA g T) (hC : HasC g T) (hG : Glob G g) (hD : HasD g T) (hT : HasE g T) (F : Fm) {m : Int} (hm : 1 ≤ m ∧ m ≤ 5) {z : Bool} {d : Dy} (dd : mayD d.n (dl d.m) d.e = true) (h0 : d.m ≠ 0) (hs : d.n = false) :
    run G T 18 [.int .u8 F.u, .int .u8 m, DyA z d] = some (.tup [.int .u64 ((rootW F m d).1 : Int), .int .u8 ((rootW F m d).2 : Int), .int .i64 0]) := by
  rw [run_k G T hT.round_Root]
  obtain ⟨f1, f2, f3, f4, f5⟩ := mayD_facts dd
  have o1 := round_open1 (G := G) (T := T) hA hC hT F hm (n := d.n) (z := z) (Dg_dl d.m) (e := d.e)
  rw [dd, if_pos rfl] at o1
  have s1 := dyad_Sign (G := G) (T := T) hA hC (n := d.n) (z := z) (Dg_dl d.m) (e := d.e)
  rw [sign_may dd, if_neg h0, hs, if_neg (by decide)] at s1
  have hbm := may_blen f1
  have hbp := blen_pos h0
  obtain ⟨n, hn⟩ : ∃ n : Int, n = 2 * ((64 : Nat) : Int) + 2 - blen d.m + (d.e - (2 * ((64 : Nat) : Int) + 2 - blen d.m)) % 2 := ⟨_, rfl⟩
  have hP : rootP d.e = 130 + (d.e % 2).toNat := rfl
  obtain ⟨c, hc⟩ : ∃ c : Int, d.e - n = 2 * c := ⟨(d.e - n) / 2, by omega⟩
  have hnP : n ≤ rootP d.e := by omega
  have hbs := shN_blen h0 (n := n) (by omega)
  obtain ⟨r, r1, r2⟩ := isq_ex (shN d.m n)
  have hrk : 64 < blen r := root_blen (k := 64) (r := r) (M := shN d.m n) (by
    have := pow_blen_le (n := shN d.m n) (by intro hc; rw [hc, blen_zero] at hbs; omega)
    rw [← Nat.pow_add]
    exact Nat.le_trans (Nat.pow_le_pow_right (by decide) (by omega)) this) r2
  obtain ⟨S, hS⟩ : ∃ S, blen r = 64 + S := ⟨blen r - 64, by omega⟩
  obtain ⟨zq, q1⟩ := dyad_Root (G := G) (T := T) hA hG hC (z := z) (d := d) (k := 64) (S := S) (n := n) (c := c) (r := r) dd h0 hs (by omega) hn hc r1 r2 hS
  rw [show ((64 : Nat) : Int) = 64 from rfl] at q1
  have bS := blen_div r S
  have hb64 : blen (r / 2 ^ S) = 64 := by omega
  have hbr : blen r ≤ blen (shN d.m n) := blen_mono (Nat.le_trans (Nat.le_mul_self r) r1)
  have hF := fm_fr F
  have W : rootW F m d = partW F m false (r / 2 ^ S) (!decide (r % 2 ^ S = 0) || (shB d.m n || !decide (r * r = shN d.m n))) (c + S + 64) := by
    rw [partW_sW _ _ _ _ _ hb64]
    have h1 := rootW_sh F m (m := d.m) (t := r) (e := d.e) (n := n) (c := c) hnP hc r1 r2 (by omega) d.n
    have h2 := sW_shift F m false (Q := r) (j := S) (shB d.m n || !decide (r * r = shN d.m n)) c (by omega)
    simp only [ne_eq, decide_not] at h2
    rw [show rootW F m d = rootW F m ⟨d.n, d.m, d.e⟩ from rfl, ← h1, ← h2, Bool.or_comm, show c + (S : Int) + 64 - 64 = c + S by omega]
  rw [W]
  clear W bS hrk
  have hX : -10000000 < c + (S : Int) ∧ c + (S : Int) < 10000000 := by omega
  clear hnP hP hc hn hbs hbr r1 r2 hS hF
  generalize (!decide (r % 2 ^ S = 0) || (shB d.m n || !decide (r * r = shN d.m n))) = lost at *
  generalize c + (S : Int) = X at *
  generalize r / 2 ^ S = Q at *
  have hQ0 : Q ≠ 0 := by rintro rfl; rw [blen_zero] at hb64; omega
  obtain ⟨k1, k2, k3, k4, k5⟩ := mk_head (n := false) (e := X) hb64
  have hd := mkD_pos (n := false) (m := Q) hQ0 X
  have tq := tz_blen hQ0
  have hmm : mayL (dl (mkD false Q X).m) = true := mayL_small (by
    have := blen_div Q (tz Q)
    rw [hd]; simp only; omega)
  have p1 := round_partOf (G := G) (T := T) hA hG hT (z := zq) (d := mkD false Q X) hmm k4 (by rw [hd]; simp only; omega)
  rw [k1, k2, k3] at p1
  have w1 := round_word (G := G) (T := T) hA hC hG hD hT F hm (neg := false) (more := lost) (w := Q) (top := X + 64) hb64 (by omega)
  clear k1 k2 k3 k4 k5 hd tq hmm hb64 f1 f2 f3 f4 f5 dd hX hQ0 hbm hbp
  obtain ⟨ng, mm, e⟩ := d
  simp only at *
  subst hs
  simp only [DyA, A3, fmA, partA] at *
  cases lost <;> (
    repeat' (first | (simp (maxSteps := 1000000) only [evB, if_true, if_false, ne_eq, Nat.reduceEqDiff, Nat.reduceAdd, reduceCtorEq, Int.reduceLE, Int.reduceLT, Int.reduceEq, Int.reduceNeg, Int.reduceToNat, Int.reducePow, Int.reduceMod, Int.reduceDiv, Int.reduceSub, Int.reduceAdd, Int.reduceMul, Nat.reduceMul, Nat.reduceSub, Nat.reducePow, exB, resC_ptr, res_cell, nilb, nilf, faddr_p, c_round_Root, o1, s1, q1, p1, w1]) | (simp (maxSteps := 1000000) (disch := first | with_reducible assumption | omega) only [dxB]) | (simp only [kI_d, kG_dt, kG_df]; split) | (simp only [kI_v, kG_vt, kG_vf]; split))
    all_goals try rfl)

end Go.Cv

/-
  The statement on quotients.
-/
namespace Go.Cv
variable {G : Nat → Option (List AV)} {T : Tbl} {g : Nat}

end Go.Cv

/-
  The statement on roots.
-/
namespace Go.Cv
variable {G : Nat → Option (List AV)} {T : Tbl} {g : Nat}

theorem round_Root_zero (hA : HasA g T) (hC : HasC g T) (hT : HasE g T) (F : Fm) {m : Int} (hm : 1 ≤ m ∧ m ≤ 5) {z : Bool} {d : Dy} (dd : mayD d.n (dl d.m) d.e = true) (h0 : d.m = 0) :
    run G T 18 [.int .u8 F.u, .int .u8 m, DyA z d] = some (.tup [.int .u64 0, .int .u8 0, .int .i64 0]) := by
  rw [run_k G T hT.round_Root]
  have o1 := round_open1 (G := G) (T := T) hA hC hT F hm (n := d.n) (z := z) (Dg_dl d.m) (e := d.e)
  rw [dd, if_pos rfl] at o1
  have s1 := dyad_Sign (G := G) (T := T) hA hC (n := d.n) (z := z) (Dg_dl d.m) (e := d.e)
  rw [sign_may dd, if_pos h0] at s1
  have hn : d.n = false := ((mayD_facts dd).2.1 (dl_len0.2 h0)).1
  simp only [DyA, A3, fmA, hn] at *
  repeat' (first | (simp (maxSteps := 1000000) only [evB, if_true, if_false, ne_eq, Nat.reduceEqDiff, Nat.reduceAdd, reduceCtorEq, Int.reduceLE, Int.reduceLT, Int.reduceEq, Int.reduceNeg, Int.reduceToNat, Int.reducePow, Int.reduceMod, Int.reduceDiv, Int.reduceSub, Int.reduceAdd, Int.reduceMul, Nat.reduceMul, Nat.reduceSub, Nat.reducePow, exB, resC_ptr, res_cell, nilb, nilf, faddr_p, c_round_Root, o1, s1]) | (simp (maxSteps := 1000000) (disch := first | with_reducible assumption | omega) only [dxB]) | (simp only [kI_d, kG_dt, kG_df]; split) | (simp only [kI_v, kG_vt, kG_vf]; split))
  all_goals try rfl
end Go.Cv

/-
  Products, column by column (in numbers).
-/
namespace Go.Cv

end Go.Cv

/-
  Products: the document's.
-/
namespace Go.Cv
variable {G : Nat → Option (List AV)} {T : Tbl} {g : Nat}

end Go.Cv

/-
  The statement on squares and products of words.
-/
namespace Go.Cv
variable {G : Nat → Option (List AV)} {T : Tbl} {g : Nat}

theorem mkD_oddp {n : Bool} {m : Nat} {e : Int} (h : m % 2 = 1) (j : Nat) : mkD n (m * 2 ^ j) (e - j) = ⟨n, m, e⟩ := by
  have hp := Nat.two_pow_pos j
  have h0 : m * 2 ^ j ≠ 0 := by
    intro hc
    rcases Nat.mul_eq_zero.1 hc with h1 | h1 <;> omega
  rw [mkD_pos h0, tz_unique h, Nat.mul_div_cancel _ hp, show e - (j : Int) + j = e by omega]
end Go.Cv

/-
  Sums, products, roots of words, in numbers.
-/
namespace Go.Cv

/-- The canonical NaN. -/
def Fm.nan (F : Fm) : Nat := F.most * 2 ^ F.fr + 2 ^ (F.fr - 1)

theorem w_split {F : Fm} {w : Nat} (h : w < 2 * F.sg) : w = w % F.sg + F.sgn (F.ng w) ∧ w % F.sg = 2 ^ F.fr * F.ex w + F.fc w ∧ F.fc w < 2 ^ F.fr ∧ F.ex w ≤ F.most := by
  have hp := Nat.two_pow_pos F.fr
  have hsg : F.sg = 2 ^ F.fr * (F.most + 1) := by cases F <;> decide
  have h0 : 0 < F.sg := by cases F <;> decide
  refine ⟨?_, (Nat.div_add_mod _ _).symm, Nat.mod_lt _ hp, ?_⟩
  · unfold Fm.ng Fm.sgn
    by_cases h1 : F.sg ≤ w
    · rw [decide_eq_true h1, if_pos rfl, Nat.mod_eq_sub_mod h1, Nat.mod_eq_of_lt (by omega)]; omega
    · rw [decide_eq_false h1, if_neg (by decide), Nat.mod_eq_of_lt (by omega)]; rfl
  · have h1 := Nat.mod_lt w h0
    have : w % F.sg / 2 ^ F.fr < F.most + 1 := Nat.div_lt_of_lt_mul (by rw [← hsg]; exact h1)
    unfold Fm.ex; omega
theorem cls_range (F : Fm) (w : Nat) : F.cls w = 1 ∨ F.cls w = 2 ∨ F.cls w = 3 ∨ F.cls w = 4 ∨ F.cls w = 5 := by
  unfold Fm.cls; repeat' split
  all_goals omega
theorem cls_one {F : Fm} {w : Nat} (h : w < 2 * F.sg) : F.cls w = 1 ↔ w % F.sg = 0 := by
  obtain ⟨h1, h2, h3, h4⟩ := w_split h
  have hp := Nat.two_pow_pos F.fr
  rw [h2]
  unfold Fm.cls
  generalize F.ex w = x at *
  generalize F.fc w = y at *
  constructor
  · intro hc
    have hx : x = 0 ∧ y = 0 := by
      by_cases a : x = 0
      · by_cases b : y = 0
        · exact ⟨a, b⟩
        · rw [if_pos a, if_neg b] at hc; omega
      · rw [if_neg a] at hc
        split at hc
        · omega
        · split at hc <;> omega
    rw [hx.1, hx.2]; rfl
  · intro hc
    have hy : y = 0 := by omega
    have hx : x = 0 := by
      rcases Nat.mul_eq_zero.1 (show 2 ^ F.fr * x = 0 by omega) with q | q
      · omega
      · exact q
    rw [if_pos hx, if_pos hy]
theorem cls_four {F : Fm} {w : Nat} (h : w < 2 * F.sg) : F.cls w = 4 ↔ w % F.sg = F.most * 2 ^ F.fr := by
  obtain ⟨h1, h2, h3, h4⟩ := w_split h
  have hp := Nat.two_pow_pos F.fr
  have hm0 : 0 < F.most := by cases F <;> decide
  rw [h2]
  unfold Fm.cls
  generalize F.ex w = x at *
  generalize F.fc w = y at *
  constructor
  · intro hc
    by_cases a : x = 0
    · rw [if_pos a] at hc; split at hc <;> omega
    · rw [if_neg a] at hc
      by_cases b : x < F.most
      · rw [if_pos b] at hc; omega
      · rw [if_neg b] at hc
        by_cases c : y = 0
        · rw [c, show x = F.most by omega, Nat.mul_comm]; rfl
        · rw [if_neg c] at hc; omega
  · intro hc
    have hx : x = F.most := by
      rcases Nat.lt_or_ge x F.most with q | q
      · have := Nat.mul_le_mul_left (2 ^ F.fr) q
        rw [Nat.mul_succ, Nat.mul_comm (2 ^ F.fr) F.most] at this
        omega
      · omega
    have hy : y = 0 := by rw [hx, Nat.mul_comm] at hc; omega
    rw [if_neg (by omega), if_neg (by omega), if_pos hy]
theorem cls_zero_w {F : Fm} {w : Nat} (h : w < 2 * F.sg) (hc : F.cls w = 1) : w = F.sgn (F.ng w) ∧ F.val w = ⟨false, 0, 0⟩ := by
  have h1 := (w_split h).1
  rw [(cls_one h).1 hc, Nat.zero_add] at h1
  refine ⟨h1, ?_⟩
  rw [h1]
  have := val_zero F (F.ng w)
  rw [Nat.zero_add] at this
  exact this
theorem cls_inf_w {F : Fm} {w : Nat} (h : w < 2 * F.sg) (hc : F.cls w = 4) : w = F.inf (F.ng w) := by
  have h1 := (w_split h).1
  rw [(cls_four h).1 hc] at h1
  exact h1
/-- An exact sum, rounded. -/
def sumW (F : Fm) (md : Int) (d : Dy) : Nat × Nat := if d.m = 0 then (F.sgn (decide (md = 5)), 0) else rndW F md d
/-- The sum of two parts (class, sign, value). -/
def addP (F : Fm) (md : Int) (c : Int) (n : Bool) (d : Dy) (c' : Int) (n' : Bool) (d' : Dy) : Nat × Nat :=
  if c = 5 ∨ c' = 5 then (F.nan, 0)
  else if c = 4 ∧ c' = 4 ∧ n ≠ n' then (F.nan, 1)
  else if c = 4 then (F.inf n, 0)
  else if c' = 4 then (F.inf n', 0)
  else if c = 1 ∧ c' = 1 ∧ n = n' then (F.sgn n, 0)
  else sumW F md (addD d d')
def mulD (a b : Dy) : Dy := mkD (a.n != b.n) (a.m * b.m) (a.e + b.e)
/-- A word's value; of one that is not finite, nought. -/
def Fm.vl (F : Fm) (w : Nat) : Dy := if F.fin w then F.val w else ⟨false, 0, 0⟩
def addW (F : Fm) (md : Int) (a b : Nat) : Nat × Nat := addP F md (F.cls a) (F.ng a) (F.vl a) (F.cls b) (F.ng b) (F.vl b)
def subW (F : Fm) (md : Int) (a b : Nat) : Nat × Nat := addP F md (F.cls a) (F.ng a) (F.vl a) (F.cls b) (!F.ng b) (negD (F.vl b))
theorem addD_comm {a b : Dy} (ha : Nz a) (hb : Nz b) : addD a b = addD b a := by
  unfold addD
  by_cases h1 : a.m = 0
  · by_cases h2 : b.m = 0
    · rw [if_pos h1, if_pos h2, ha.1 h1, hb.1 h2]
    · rw [if_pos h1, if_neg h2, if_pos h1]
  · by_cases h2 : b.m = 0
    · rw [if_neg h1, if_pos h2, if_pos h2]
    · rw [if_neg h1, if_neg h2, if_neg h2, if_neg h1, Int.min_comm b.e a.e]
      generalize a.m * 2 ^ (a.e - min a.e b.e).toNat = x
      generalize b.m * 2 ^ (b.e - min a.e b.e).toNat = y
      by_cases h3 : a.n = b.n
      · rw [if_pos h3, if_pos h3.symm, h3, Nat.add_comm]
      · rw [if_neg h3, if_neg (show ¬ b.n = a.n from fun h => h3 h.symm)]
        by_cases h4 : y ≤ x
        · by_cases h5 : x ≤ y
          · rw [if_pos h4, if_pos h5, show x = y by omega, Nat.sub_self]; rfl
          · rw [if_pos h4, if_neg h5]
        · rw [if_neg h4, if_pos (by omega)]
/-- The word with the other sign. -/
def Fm.flip (F : Fm) (w : Nat) : Nat := w % F.sg + F.sgn (!F.ng w)
theorem Nz_vl (F : Fm) (w : Nat) : Nz (F.vl w) := by
  unfold Fm.vl; split
  · unfold Fm.val; split <;> exact Nz_mk _ _ _
  · exact ⟨fun _ => rfl, fun h => absurd rfl h⟩
theorem Bd_vl (F : Fm) (w : Nat) : Bd (F.vl w) 4096 := by
  unfold Fm.vl; split
  · rename_i h; exact Bd_val F h
  · exact ⟨by simp only [blen_zero]; omega, by simp, by simp⟩
theorem fin_iff {F : Fm} {w : Nat} : F.fin w ↔ F.cls w = 1 ∨ F.cls w = 2 ∨ F.cls w = 3 := by
  have h1 := fin_cls F w
  have h2 := cls_range F w
  constructor
  · intro h; have := h1.1 h; omega
  · intro h; exact h1.2 (by omega)
end Go.Cv

/-
  The program's sums, differences, comparisons of numbers.
-/
namespace Go.Cv
variable {G : Nat → Option (List AV)} {T : Tbl} {g : Nat}

theorem val_set_take {l : List Nat} {i v : Nat} (h : i < l.length) : val ((l.set i v).take (i + 1)) = val (l.take i) + 4294967296 ^ i * v := by
  rw [val_take_succ', List.take_set_of_le (Nat.le_refl i)]
  congr 2
  rw [dg_lt (by rw [List.length_set]; exact h), List.getElem_set_self]

theorem nAdd_loop (hT : HasA g T) {A B : List Nat} {z y : Bool} {b : Nat} (hA : Dg A) (hB : Dg B) (hs : A.length < 17179869184) (ht : B.length ≤ A.length) : ∀ (m i : Nat) (h : Heap) (l : List Nat) (c : Nat),
    m + i = A.length → Holds h b l → Dg l → l.length = A.length + 1 → c ≤ 1 → val (l.take i) + 4294967296 ^ i * c = val (A.take i) + val (B.take i) →
    Post (evL G T c_nat_Add_l1 [(0, D z A), (1, D y B), (6, .own b 0 (A.length + 1) 1), (7, .int .u32 (c : Int)), (27, .int .i64 ((A.length : Nat) : Int)), (28, .int .i64 (i : Int))] h) fun r =>
      ∃ e h' l' c', r = (.exit 0, (0, D z A) :: (1, D y B) :: (6, .own b 0 (A.length + 1) 1) :: (7, .int .u32 ((c' : Nat) : Int)) :: e, h') ∧ Holds h' b l' ∧ Dg l' ∧ l'.length = A.length + 1 ∧ c' ≤ 1 ∧ val (l'.take A.length) + 4294967296 ^ A.length * c' = val A + val B
  | 0, i, h, l, c, hm, H, hd, hl, hc, he => by
    rw [s_loopc G T (c := c_nat_Add_l1) rfl]
    have h1 : ¬ (i : Int) < (A.length : Int) := by omega
    repeat (first | (simp (maxSteps := 1000000) only [evB, if_true, if_false, ne_eq, Nat.reduceEqDiff, Nat.reduceAdd, reduceCtorEq, Int.reduceLE, Int.reduceLT, Int.reduceEq, Int.reduceNeg, Int.reduceToNat, Int.reducePow, Int.reduceMod, Int.reduceDiv, Int.reduceSub, Int.reduceAdd, Int.reduceMul, Nat.reduceMul, Nat.reduceSub, Nat.reducePow, c_nat_Add_b1, h1]) | (simp (disch := omega) only [dsB]))
    obtain rfl : i = A.length := by omega
    rw [List.take_length, List.take_of_length_le ht] at he
    exact Post.some ⟨_, _, _, _, rfl, H, hd, hl, hc, he⟩
  | m + 1, i, h, l, c, hm, H, hd, hl, hc, he => by
    rw [s_loopc G T (c := c_nat_Add_l1) rfl]
    have h1 : (i : Int) < (A.length : Int) := by omega
    have e7 : (i : Int) + 1 = ((i + 1 : Nat) : Int) := by omega
    have hx := hA.dg i
    have hy := hB.dg i
    have hil : i < l.length := by omega
    have hb := bits_Add32 (G := G) (T := T) hT (x := dg A i) (y := dg B i) (w := c) (d := (dg A i + dg B i + c) % 4294967296) (z := (dg A i + dg B i + c) / 4294967296) hx hy hc (Nat.mod_lt _ (by decide)) (by omega) (by omega)
    have key : val ((l.set i ((dg A i + dg B i + c) % 4294967296)).take (i + 1)) + 4294967296 ^ (i + 1) * ((dg A i + dg B i + c) / 4294967296) = val (A.take (i + 1)) + val (B.take (i + 1)) := by
      rw [val_set_take hil, val_take_succ', val_take_succ', Nat.pow_succ, Nat.mul_assoc, Nat.add_assoc, ← Nat.mul_add, Nat.mod_add_div, Nat.mul_add, Nat.mul_add]
      omega
    have hz : (dg A i + dg B i + c) / 4294967296 ≤ 1 := by omega
    have hm1 : (dg A i + dg B i + c) % 4294967296 < 4294967296 := Nat.mod_lt _ (by decide)
    by_cases h2 : (i : Int) < (B.length : Int)
    · repeat (first | (simp (maxSteps := 1000000) only [evB, if_true, if_false, ne_eq, Nat.reduceEqDiff, Nat.reduceAdd, reduceCtorEq, Int.reduceLE, Int.reduceLT, Int.reduceEq, Int.reduceNeg, Int.reduceToNat, Int.reducePow, Int.reduceMod, Int.reduceDiv, Int.reduceSub, Int.reduceAdd, Int.reduceMul, Nat.reduceMul, Nat.reduceSub, Nat.reducePow, c_nat_Add_b1, h1, h2, hb, e7 ]) | (simp (disch := omega) only [dsB,  store_n H]))
      exact nAdd_loop hT hA hB hs ht m (i + 1) _ _ _ (by omega) (H.put _) (Dg_set hd hm1) (by rw [List.length_set]; exact hl) hz key
    · have hg : dg B i = 0 := dg_ge (by omega)
      rw [hg] at hb key hz hm1
      rw [cast0] at hb
      repeat (first | (simp (maxSteps := 1000000) only [evB, if_true, if_false, ne_eq, Nat.reduceEqDiff, Nat.reduceAdd, reduceCtorEq, Int.reduceLE, Int.reduceLT, Int.reduceEq, Int.reduceNeg, Int.reduceToNat, Int.reducePow, Int.reduceMod, Int.reduceDiv, Int.reduceSub, Int.reduceAdd, Int.reduceMul, Nat.reduceMul, Nat.reduceSub, Nat.reducePow, c_nat_Add_b1, h1, h2, hb, e7 ]) | (simp (disch := omega) only [dsB,  store_n H]))
      exact nAdd_loop hT hA hB hs ht m (i + 1) _ _ _ (by omega) (H.put _) (Dg_set hd hm1) (by rw [List.length_set]; exact hl) hz key

theorem nSub_loop (hT : HasA g T) {A B : List Nat} {z y : Bool} {b : Nat} (hA : Dg A) (hB : Dg B) (hs : A.length < 17179869184) (ht : B.length ≤ A.length) : ∀ (m i : Nat) (h : Heap) (l : List Nat) (c : Nat),
    m + i = A.length → Holds h b l → Dg l → l.length = A.length → c ≤ 1 → val (l.take i) + val (B.take i) = val (A.take i) + 4294967296 ^ i * c →
    Post (evL G T c_nat_sub_l1 [(0, D z A), (1, D y B), (5, .own b 0 A.length 1), (6, .int .u32 (c : Int)), (13, .int .i64 ((A.length : Nat) : Int)), (14, .int .i64 (i : Int))] h) fun r =>
      ∃ e h' l' c', r = (.exit 0, (0, D z A) :: (1, D y B) :: (5, .own b 0 A.length 1) :: (6, .int .u32 ((c' : Nat) : Int)) :: e, h') ∧ Holds h' b l' ∧ Dg l' ∧ l'.length = A.length ∧ c' ≤ 1 ∧ val l' + val B = val A + 4294967296 ^ A.length * c'
  | 0, i, h, l, c, hm, H, hd, hl, hc, he => by
    rw [s_loopc G T (c := c_nat_sub_l1) rfl]
    have h1 : ¬ (i : Int) < (A.length : Int) := by omega
    repeat (first | (simp (maxSteps := 1000000) only [evB, if_true, if_false, ne_eq, Nat.reduceEqDiff, Nat.reduceAdd, reduceCtorEq, Int.reduceLE, Int.reduceLT, Int.reduceEq, Int.reduceNeg, Int.reduceToNat, Int.reducePow, Int.reduceMod, Int.reduceDiv, Int.reduceSub, Int.reduceAdd, Int.reduceMul, Nat.reduceMul, Nat.reduceSub, Nat.reducePow, c_nat_sub_b1, h1]) | (simp (disch := omega) only [dsB]))
    obtain rfl : i = A.length := by omega
    rw [List.take_length, List.take_of_length_le ht, List.take_of_length_le (by omega)] at he
    exact Post.some ⟨_, _, _, _, rfl, H, hd, hl, hc, he⟩
  | m + 1, i, h, l, c, hm, H, hd, hl, hc, he => by
    rw [s_loopc G T (c := c_nat_sub_l1) rfl]
    have h1 : (i : Int) < (A.length : Int) := by omega
    have e7 : (i : Int) + 1 = ((i + 1 : Nat) : Int) := by omega
    have hx := hA.dg i
    have hy := hB.dg i
    have hil : i < l.length := by omega
    obtain ⟨d, q, hdq, hd1, hq⟩ : ∃ d q, d + dg B i + c = dg A i + 4294967296 * q ∧ d < 4294967296 ∧ q ≤ 1 := by
      by_cases hlt : dg A i < dg B i + c
      · exact ⟨dg A i + 4294967296 - (dg B i + c), 1, by omega, by omega, by omega⟩
      · exact ⟨dg A i - (dg B i + c), 0, by omega, by omega, by omega⟩
    have hb := bits_Sub32 (G := G) (T := T) hT (x := dg A i) (y := dg B i) (w := c) (d := d) (z := q) hx hy hc hd1 hq hdq
    have key : val ((l.set i d).take (i + 1)) + val (B.take (i + 1)) = val (A.take (i + 1)) + 4294967296 ^ (i + 1) * q := by
      rw [val_set_take hil, val_take_succ', val_take_succ', Nat.pow_succ, Nat.mul_assoc]
      have h2 : 4294967296 ^ i * d + 4294967296 ^ i * dg B i + 4294967296 ^ i * c = 4294967296 ^ i * dg A i + 4294967296 ^ i * (4294967296 * q) := by
        rw [← Nat.mul_add, ← Nat.mul_add, ← Nat.mul_add, hdq]
      omega
    by_cases h2 : (i : Int) < (B.length : Int)
    · repeat (first | (simp (maxSteps := 1000000) only [evB, if_true, if_false, ne_eq, Nat.reduceEqDiff, Nat.reduceAdd, reduceCtorEq, Int.reduceLE, Int.reduceLT, Int.reduceEq, Int.reduceNeg, Int.reduceToNat, Int.reducePow, Int.reduceMod, Int.reduceDiv, Int.reduceSub, Int.reduceAdd, Int.reduceMul, Nat.reduceMul, Nat.reduceSub, Nat.reducePow, c_nat_sub_b1, h1, h2, hb, e7 ]) | (simp (disch := omega) only [dsB,  store_n H]))
      exact nSub_loop hT hA hB hs ht m (i + 1) _ _ _ (by omega) (H.put _) (Dg_set hd hd1) (by rw [List.length_set]; exact hl) hq key
    · have hg : dg B i = 0 := dg_ge (by omega)
      rw [hg, cast0] at hb
      repeat (first | (simp (maxSteps := 1000000) only [evB, if_true, if_false, ne_eq, Nat.reduceEqDiff, Nat.reduceAdd, reduceCtorEq, Int.reduceLE, Int.reduceLT, Int.reduceEq, Int.reduceNeg, Int.reduceToNat, Int.reducePow, Int.reduceMod, Int.reduceDiv, Int.reduceSub, Int.reduceAdd, Int.reduceMul, Nat.reduceMul, Nat.reduceSub, Nat.reducePow, c_nat_sub_b1, h1, h2, hb, e7 ]) | (simp (disch := omega) only [dsB,  store_n H]))
      exact nSub_loop hT hA hB hs ht m (i + 1) _ _ _ (by omega) (H.put _) (Dg_set hd hd1) (by rw [List.length_set]; exact hl) hq key

theorem nat_bound (hT : HasA g T) {z : Bool} {l : List Nat} (h : l.length ≤ 4096) : run G T 117 [D z l] = some (.tup [D z l, .int .i64 0]) := by
  rw [run_k G T hT.nat_bound]
  have h1 : ¬ (4096 : Int) < (l.length : Int) := by omega
  repeat (first | (simp (maxSteps := 1000000) only [evB, if_true, if_false, ne_eq, Nat.reduceEqDiff, Nat.reduceAdd, reduceCtorEq, Int.reduceLE, Int.reduceLT, Int.reduceEq, Int.reduceNeg, Int.reduceToNat, Int.reducePow, Int.reduceMod, Int.reduceDiv, Int.reduceSub, Int.reduceAdd, Int.reduceMul, Nat.reduceMul, Nat.reduceSub, Nat.reducePow, c_nat_bound, h1]) | (simp (disch := omega) only [dsB]))

theorem nat_sub (hT : HasA g T) {z y : Bool} {a b : Nat} (ha : (dl a).length < 17179869184) (hab : b ≤ a) : ∃ z', run G T 116 [D z (dl a), D y (dl b)] = some (D z' (dl (a - b))) := by
  have hlen : (dl b).length ≤ (dl a).length := by
    rw [dl_len]; exact Nat.lt_of_le_of_lt hab (dl_len.1 (Nat.le_refl _))
  obtain ⟨_, hr, e, h', l', c', rfl, H, hd, hl, hc, hv⟩ := nSub_loop (G := G) (T := T) (z := z) (y := y) (b := Heap.nil.b.length) hT (Dg_dl a) (Dg_dl b) ha hlen (dl a).length 0 (new .nil (List.replicate (dl a).length 0)) _ 0 (by omega) (Holds_new FreH.nil _) (Dg_rep _) (by rw [List.length_replicate]) (by omega) (by simp [val])
  rw [cast0] at hr
  rw [val_dl, val_dl] at hv
  have hlt := val_lt hd
  have hc0 : c' = 0 := by
    rcases Nat.eq_zero_or_pos c' with q | q
    · exact q
    · have : c' = 1 := by omega
      rw [this, Nat.mul_one, ← hl] at hv; omega
  rw [hc0, Nat.mul_zero, Nat.add_zero] at hv
  have hv2 : val l' = a - b := by omega
  have hsn := snap_own H (n := (dl a).length) (by omega)
  rw [← hl, List.take_length] at hsn
  obtain ⟨z', hz⟩ := nat_trim (G := G) (T := T) hT (z := false) hd (by omega)
  rw [hl] at hsn
  refine ⟨z', ?_⟩
  rw [run_k G T hT.nat_sub, ← hv2]
  repeat (first | (simp (maxSteps := 1000000) only [evB, if_true, if_false, ne_eq, Nat.reduceEqDiff, Nat.reduceAdd, reduceCtorEq, Int.reduceLE, Int.reduceLT, Int.reduceEq, Int.reduceNeg, Int.reduceToNat, Int.reducePow, Int.reduceMod, Int.reduceDiv, Int.reduceSub, Int.reduceAdd, Int.reduceMul, Nat.reduceMul, Nat.reduceSub, Nat.reducePow, c_nat_sub, hr, hsn, hz]) | (simp (disch := omega) only [dsB]))

theorem nat_Sub (hT : HasA g T) {z y : Bool} {a b : Nat} (ha : mayL (dl a) = true) (hb : mayL (dl b) = true) (hab : b ≤ a) : ∃ z', run G T 103 [D z (dl a), D y (dl b)] = some (.tup [D z' (dl (a - b)), .int .i64 0]) := by
  have la := (mayL_iff.1 ha).1
  have lb := (mayL_iff.1 hb).1
  have h1 := nat_all (G := G) hT (z := z) (y := y) (a := dl a) (b := dl b)
  rw [ha, hb, Bool.and_self] at h1
  have h2 := nat_cmp (G := G) hT (z := z) (y := y) (a := a) (b := b) (by omega) (by omega)
  have h3 : ¬ cmpN a b < 0 := by rw [cmpN_neg]; omega
  obtain ⟨z', h4⟩ := nat_sub (G := G) (T := T) hT (z := z) (y := y) (a := a) (b := b) (by omega) hab
  refine ⟨z', ?_⟩
  rw [run_k G T hT.nat_Sub]
  repeat' (first | (simp (maxSteps := 1000000) only [evB, if_true, if_false, ne_eq, Nat.reduceEqDiff, Nat.reduceAdd, reduceCtorEq, Int.reduceLE, Int.reduceLT, Int.reduceEq, Int.reduceNeg, Int.reduceToNat, Int.reducePow, Int.reduceMod, Int.reduceDiv, Int.reduceSub, Int.reduceAdd, Int.reduceMul, Nat.reduceMul, Nat.reduceSub, Nat.reducePow, exB, resC_ptr, res_cell, nilb, nilf, faddr_p, c_nat_Sub, h1, h2, h3, h4]) | (simp (maxSteps := 1000000) (disch := first | with_reducible assumption | omega) only [dxB]) | (simp only [kI_d, kG_dt, kG_df]; split) | (simp only [kI_v, kG_vt, kG_vf]; split))

theorem nat_Cmp (hT : HasA g T) {z y : Bool} {a b : Nat} (ha : mayL (dl a) = true) (hb : mayL (dl b) = true) : run G T 104 [D z (dl a), D y (dl b)] = some (.tup [.int .i64 (cmpN a b), .int .i64 0]) := by
  have la := (mayL_iff.1 ha).1
  have lb := (mayL_iff.1 hb).1
  have h1 := nat_all (G := G) hT (z := z) (y := y) (a := dl a) (b := dl b)
  rw [ha, hb, Bool.and_self] at h1
  have h2 := nat_cmp (G := G) hT (z := z) (y := y) (a := a) (b := b) (by omega) (by omega)
  rw [run_k G T hT.nat_Cmp]
  repeat' (first | (simp (maxSteps := 1000000) only [evB, if_true, if_false, ne_eq, Nat.reduceEqDiff, Nat.reduceAdd, reduceCtorEq, Int.reduceLE, Int.reduceLT, Int.reduceEq, Int.reduceNeg, Int.reduceToNat, Int.reducePow, Int.reduceMod, Int.reduceDiv, Int.reduceSub, Int.reduceAdd, Int.reduceMul, Nat.reduceMul, Nat.reduceSub, Nat.reducePow, exB, resC_ptr, res_cell, nilb, nilf, faddr_p, c_nat_Cmp, h1, h2]) | (simp (maxSteps := 1000000) (disch := first | with_reducible assumption | omega) only [dxB]) | (simp only [kI_d, kG_dt, kG_df]; split) | (simp only [kI_v, kG_vt, kG_vf]; split))

/-- What comes after the loop of the sum. -/
theorem nat_Add_ord (hT : HasA g T) {z y : Bool} {a b : Nat} (ha : mayL (dl a) = true) (hb : mayL (dl b) = true) (hab : (dl b).length ≤ (dl a).length) (hs : (dl (a + b)).length ≤ 4096) : ∃ z', run G T 105 [D z (dl a), D y (dl b)] = some (.tup [D z' (dl (a + b)), .int .i64 0]) := by
  have la := (mayL_iff.1 ha).1
  have lb := (mayL_iff.1 hb).1
  have h1 := nat_all (G := G) hT (z := z) (y := y) (a := dl a) (b := dl b)
  rw [ha, hb, Bool.and_self] at h1
  have h2 : ¬ ((dl a).length : Int) < ((dl b).length : Int) := by omega
  obtain ⟨_, hr, e, h', l', c', rfl, H, hd, hl, hc, hv⟩ := nAdd_loop (G := G) (T := T) (z := z) (y := y) (b := 1) hT (Dg_dl a) (Dg_dl b) (by omega) hab (dl a).length 0 (new ⟨[⟨[D z (dl a), D y (dl b)], false⟩], fz1 (AV.bool true) [0]⟩ (List.replicate ((dl a).length + 1) 0)) _ 0 (by omega) (Holds_new (h := ⟨[⟨[D z (dl a), D y (dl b)], false⟩], fz1 (AV.bool true) [0]⟩) (fun _ h => absurd h List.not_mem_nil) _) (Dg_rep _) (by rw [List.length_replicate]) (by omega) (by simp [val])
  rw [cast0] at hr
  rw [val_dl, val_dl] at hv
  have hil : (dl a).length < l'.length := by omega
  have hvs := val_set_take (v := c') hil
  rw [hv, List.take_of_length_le (by rw [List.length_set]; omega)] at hvs
  have H2 := H.put (l'.set (dl a).length c')
  have hd2 : Dg (l'.set (dl a).length c') := Dg_set hd (by omega)
  have hl2 : (l'.set (dl a).length c').length = (dl a).length + 1 := by rw [List.length_set]; exact hl
  have hsn := snap_own H2 (n := (dl a).length + 1) (by omega)
  rw [← hl2, List.take_length] at hsn
  obtain ⟨z', hz⟩ := nat_trim (G := G) (T := T) hT (z := false) hd2 (by omega)
  rw [hl2] at hsn
  rw [hvs] at hz
  have hbd := nat_bound (G := G) (T := T) hT (z := z') hs
  have e8 : ((dl a).length : Int) + 1 = (((dl a).length + 1 : Nat) : Int) := by omega
  refine ⟨z', ?_⟩
  rw [run_k G T hT.nat_Add]
  repeat' (first | (simp (maxSteps := 1000000) only [evB, if_true, if_false, ne_eq, Nat.reduceEqDiff, Nat.reduceAdd, reduceCtorEq, Int.reduceLE, Int.reduceLT, Int.reduceEq, Int.reduceNeg, Int.reduceToNat, Int.reducePow, Int.reduceMod, Int.reduceDiv, Int.reduceSub, Int.reduceAdd, Int.reduceMul, Nat.reduceMul, Nat.reduceSub, Nat.reducePow, exB, resC_ptr, res_cell, nilb, nilf, faddr_p, c_nat_Add, h1, h2, e8, hr, hsn, hz, hbd ]) | (simp (maxSteps := 1000000) (disch := first | with_reducible assumption | omega) only [dxB,  store_n H]) | (simp only [kI_d, kG_dt, kG_df]; split) | (simp only [kI_v, kG_vt, kG_vf]; split))
theorem nat_Add (hT : HasA g T) {z y : Bool} {a b : Nat} (ha : mayL (dl a) = true) (hb : mayL (dl b) = true) (hs : (dl (a + b)).length ≤ 4096) : ∃ z', run G T 105 [D z (dl a), D y (dl b)] = some (.tup [D z' (dl (a + b)), .int .i64 0]) := by
  have la := (mayL_iff.1 ha).1
  have lb := (mayL_iff.1 hb).1
  by_cases hab : (dl b).length ≤ (dl a).length
  · exact nat_Add_ord hT ha hb hab hs
  have h1 := nat_all (G := G) hT (z := z) (y := y) (a := dl a) (b := dl b)
  rw [ha, hb, Bool.and_self] at h1
  have h2 : ((dl a).length : Int) < ((dl b).length : Int) := by omega
  obtain ⟨_, hr, e, h', l', c', rfl, H, hd, hl, hc, hv⟩ := nAdd_loop (G := G) (T := T) (z := y) (y := z) (b := 1) hT (Dg_dl b) (Dg_dl a) (by omega) (by omega) (dl b).length 0 (new ⟨[⟨[D z (dl a), D y (dl b)], false⟩], fz1 (AV.bool true) [0]⟩ (List.replicate ((dl b).length + 1) 0)) _ 0 (by omega) (Holds_new (h := ⟨[⟨[D z (dl a), D y (dl b)], false⟩], fz1 (AV.bool true) [0]⟩) (fun _ h => absurd h List.not_mem_nil) _) (Dg_rep _) (by rw [List.length_replicate]) (by omega) (by simp [val])
  rw [cast0] at hr
  rw [val_dl, val_dl, Nat.add_comm b a] at hv
  have hil : (dl b).length < l'.length := by omega
  have hvs := val_set_take (v := c') hil
  rw [hv, List.take_of_length_le (by rw [List.length_set]; omega)] at hvs
  have H2 := H.put (l'.set (dl b).length c')
  have hd2 : Dg (l'.set (dl b).length c') := Dg_set hd (by omega)
  have hl2 : (l'.set (dl b).length c').length = (dl b).length + 1 := by rw [List.length_set]; exact hl
  have hsn := snap_own H2 (n := (dl b).length + 1) (by omega)
  rw [← hl2, List.take_length] at hsn
  obtain ⟨z', hz⟩ := nat_trim (G := G) (T := T) hT (z := false) hd2 (by omega)
  rw [hl2] at hsn
  rw [hvs] at hz
  have hbd := nat_bound (G := G) (T := T) hT (z := z') hs
  have e8 : ((dl b).length : Int) + 1 = (((dl b).length + 1 : Nat) : Int) := by omega
  refine ⟨z', ?_⟩
  rw [run_k G T hT.nat_Add]
  repeat' (first | (simp (maxSteps := 1000000) only [evB, if_true, if_false, ne_eq, Nat.reduceEqDiff, Nat.reduceAdd, reduceCtorEq, Int.reduceLE, Int.reduceLT, Int.reduceEq, Int.reduceNeg, Int.reduceToNat, Int.reducePow, Int.reduceMod, Int.reduceDiv, Int.reduceSub, Int.reduceAdd, Int.reduceMul, Nat.reduceMul, Nat.reduceSub, Nat.reducePow, exB, resC_ptr, res_cell, nilb, nilf, faddr_p, c_nat_Add, h1, h2, e8, hr, hsn, hz, hbd ]) | (simp (maxSteps := 1000000) (disch := first | with_reducible assumption | omega) only [dxB,  store_n H]) | (simp only [kI_d, kG_dt, kG_df]; split) | (simp only [kI_v, kG_vt, kG_vf]; split))
end Go.Cv

/-
  The program's dyadic numbers: sums, differences, products.
-/
namespace Go.Cv
variable {G : Nat → Option (List AV)} {T : Tbl} {g : Nat}

theorem blen_mulC {x y a b : Nat} (hx : blen x ≤ a) (hy : blen y ≤ b) : blen (x * y) ≤ a + b := by
  refine blen_le.2 ?_
  rw [Nat.pow_add]
  exact Nat.mul_lt_mul_of_lt_of_lt (blen_le.1 hx) (blen_le.1 hy)
theorem nat_Mul (hA : HasA g T) (hU : HasG g T) {z y : Bool} {a b : Nat} (ha : mayL (dl a) = true) (hb : mayL (dl b) = true) (hs : (dl a).length + (dl b).length ≤ 4096) : ∃ z', run G T 197 [D z (dl a), D y (dl b)] = some (.tup [D z' (dl (a * b)), .int .i64 0]) := by
  have h1 := nat_all (G := G) hA (z := z) (y := y) (a := dl a) (b := dl b)
  rw [ha, hb, Bool.and_self] at h1
  obtain ⟨z', h2⟩ := nat_mul (G := G) (T := T) hA (z := z) (y := y) (a := a) (b := b) (by omega)
  have hl : (dl (a * b)).length ≤ 4096 := by
    have e1 := dl_len.1 (Nat.le_refl (dl a).length)
    have e2 := dl_len.1 (Nat.le_refl (dl b).length)
    have : (dl (a * b)).length ≤ (dl a).length + (dl b).length := by
      rw [dl_len, Nat.pow_add]; exact Nat.mul_lt_mul_of_lt_of_lt e1 e2
    omega
  have h3 := nat_bound (G := G) (T := T) hA (z := z') hl
  have c1 : ¬ (4096 : Int) < ((dl a).length : Int) + ((dl b).length : Int) - 1 := by omega
  refine ⟨z', ?_⟩
  rw [run_k G T hU.nat_Mul]
  by_cases k1 : (0 : Int) < ((dl a).length : Int)
  · by_cases k2 : (0 : Int) < ((dl b).length : Int)
    · repeat' (first | (simp (maxSteps := 1000000) only [evB, if_true, if_false, ne_eq, Nat.reduceEqDiff, Nat.reduceAdd, reduceCtorEq, Int.reduceLE, Int.reduceLT, Int.reduceEq, Int.reduceNeg, Int.reduceToNat, Int.reducePow, Int.reduceMod, Int.reduceDiv, Int.reduceSub, Int.reduceAdd, Int.reduceMul, Nat.reduceMul, Nat.reduceSub, Nat.reducePow, exB, resC_ptr, res_cell, nilb, nilf, faddr_p, c_nat_Mul, h1, h2, h3, c1, k1, k2]) | (simp (maxSteps := 1000000) (disch := first | with_reducible assumption | omega) only [dxB]) | (simp only [kI_d, kG_dt, kG_df]; split) | (simp only [kI_v, kG_vt, kG_vf]; split))
    · repeat' (first | (simp (maxSteps := 1000000) only [evB, if_true, if_false, ne_eq, Nat.reduceEqDiff, Nat.reduceAdd, reduceCtorEq, Int.reduceLE, Int.reduceLT, Int.reduceEq, Int.reduceNeg, Int.reduceToNat, Int.reducePow, Int.reduceMod, Int.reduceDiv, Int.reduceSub, Int.reduceAdd, Int.reduceMul, Nat.reduceMul, Nat.reduceSub, Nat.reducePow, exB, resC_ptr, res_cell, nilb, nilf, faddr_p, c_nat_Mul, h1, h2, h3, c1, k1, k2]) | (simp (maxSteps := 1000000) (disch := first | with_reducible assumption | omega) only [dxB]) | (simp only [kI_d, kG_dt, kG_df]; split) | (simp only [kI_v, kG_vt, kG_vf]; split))
  · repeat' (first | (simp (maxSteps := 1000000) only [evB, if_true, if_false, ne_eq, Nat.reduceEqDiff, Nat.reduceAdd, reduceCtorEq, Int.reduceLE, Int.reduceLT, Int.reduceEq, Int.reduceNeg, Int.reduceToNat, Int.reducePow, Int.reduceMod, Int.reduceDiv, Int.reduceSub, Int.reduceAdd, Int.reduceMul, Nat.reduceMul, Nat.reduceSub, Nat.reducePow, exB, resC_ptr, res_cell, nilb, nilf, faddr_p, c_nat_Mul, h1, h2, h3, c1, k1]) | (simp (maxSteps := 1000000) (disch := first | with_reducible assumption | omega) only [dxB]) | (simp only [kI_d, kG_dt, kG_df]; split) | (simp only [kI_v, kG_vt, kG_vf]; split))

theorem dyad_own (hU : HasG g T) {n z : Bool} {l : List Nat} {e : Int} (hl : l.length < 549755813888) : ∃ z', run G T 205 [A3 n (D z l) e] = some (A3 n (D z' l) e) := by
  apply exP
  rw [run_k G T hU.dyad_own]
  cases l with
  | nil =>
    simp only [A3] at *
    repeat' (first | (simp (maxSteps := 1000000) only [evB, if_true, if_false, ne_eq, Nat.reduceEqDiff, Nat.reduceAdd, reduceCtorEq, Int.reduceLE, Int.reduceLT, Int.reduceEq, Int.reduceNeg, Int.reduceToNat, Int.reducePow, Int.reduceMod, Int.reduceDiv, Int.reduceSub, Int.reduceAdd, Int.reduceMul, Nat.reduceMul, Nat.reduceSub, Nat.reducePow, exB, resC_ptr, res_cell, nilb, nilf, faddr_p, c_dyad_own, app_nil0]) | (simp (maxSteps := 1000000) (disch := first | with_reducible assumption | omega) only [dxB]) | (simp only [kI_d, kG_dt, kG_df]; split) | (simp only [kI_v, kG_vt, kG_vf]; split))
    exact ⟨_, rfl, true, rfl⟩
  | cons a l =>
    have ha : appV ⟨[⟨[.bool n, D z (a :: l), .int .i64 e], false⟩, ⟨[.bool false, .nil, .int .i64 0], false⟩], []⟩ 1 4 .nil (D z (a :: l)) =
        some (.own 2 0 (a :: l).length 1, ⟨[⟨[.bool n, D z (a :: l), .int .i64 e], false⟩, ⟨[.bool false, .nil, .int .i64 0], false⟩, ⟨cells (a :: l), false⟩], []⟩) :=
      app_nil (h := ⟨[⟨[.bool n, D z (a :: l), .int .i64 e], false⟩, ⟨[.bool false, .nil, .int .i64 0], false⟩], []⟩) (z := z) (l := a :: l) (by simp) hl
    simp only [A3] at *
    have hsub : sub (cells (a :: l)) 0 (l.length + 1) = some (cells (a :: l)) := sub_all (a :: l)
    repeat' (first | (simp (maxSteps := 1000000) only [evB, if_true, if_false, ne_eq, Nat.reduceEqDiff, Nat.reduceAdd, reduceCtorEq, Int.reduceLE, Int.reduceLT, Int.reduceEq, Int.reduceNeg, Int.reduceToNat, Int.reducePow, Int.reduceMod, Int.reduceDiv, Int.reduceSub, Int.reduceAdd, Int.reduceMul, Nat.reduceMul, Nat.reduceSub, Nat.reducePow, exB, resC_ptr, res_cell, nilb, nilf, faddr_p, c_dyad_own, ha, hsub, sl_cells]) | (simp (maxSteps := 1000000) (disch := first | with_reducible assumption | omega) only [dxB]) | (simp only [kI_d, kG_dt, kG_df]; split) | (simp only [kI_v, kG_vt, kG_vf]; split))
    exact ⟨_, rfl, false, rfl⟩

/-- The sum of two sizes with signs. -/
def joinD (p : Bool) (x : Nat) (q : Bool) (y : Nat) (e : Int) : Dy := if p = q then mkD p (x + y) e else if y ≤ x then mkD p (x - y) e else mkD q (y - x) e

theorem mk_rng {m : Nat} {e : Int} (hb : blen m ≤ 131072) (he : -16000000 < e ∧ e < 16000000) : m = 0 ∨ (-16777216 ≤ e + (tz m : Int) ∧ e + (tz m : Int) ≤ 16777216) := by
  by_cases h0 : m = 0
  · exact Or.inl h0
  · right; have := tz_blen h0; omega

theorem blen_add {x y : Nat} {K : Nat} (hx : blen x ≤ K) (hy : blen y ≤ K) : blen (x + y) ≤ K + 1 := by
  refine blen_le.2 ?_
  have h1 := blen_le.1 hx
  have h2 := blen_le.1 hy
  rw [Nat.pow_succ]; omega

theorem dyad_join (hA : HasA g T) (hG : Glob G g) (hC : HasC g T) (hU : HasG g T) {p q z y : Bool} {x w : Nat} {e : Int} (hx : blen x ≤ 131071) (hw : blen w ≤ 131071) (he : -16000000 < e ∧ e < 16000000) :
    ∃ z', run G T 208 [.bool p, D z (dl x), .bool q, D y (dl w), .int .i64 e] = some (.tup [DyA z' (joinD p x q w e), .int .i64 0]) := by
  have mx : mayL (dl x) = true := mayL_small (by omega)
  have mw : mayL (dl w) = true := mayL_small (by omega)
  have hxw := blen_add hx hw
  by_cases h1 : p = q
  · have hl := dl_len_blen (x + w)
    obtain ⟨z1, a1⟩ := nat_Add (G := G) (T := T) hA (z := z) (y := y) (a := x) (b := w) mx mw (by omega)
    obtain ⟨z2, a2⟩ := dyad_Make (G := G) (T := T) hA hG hC (n := p) (z := z1) (a := x + w) (e := e) (mayL_small (by omega)) (mk_rng (by omega) he) (by omega)
    refine ⟨z2, ?_⟩
    unfold joinD
    rw [if_pos h1, run_k G T hU.dyad_join]
    simp only [DyA, A3] at *
    subst h1
    cases p <;> repeat' (first | (simp (maxSteps := 1000000) only [evB, if_true, if_false, ne_eq, Nat.reduceEqDiff, Nat.reduceAdd, reduceCtorEq, Int.reduceLE, Int.reduceLT, Int.reduceEq, Int.reduceNeg, Int.reduceToNat, Int.reducePow, Int.reduceMod, Int.reduceDiv, Int.reduceSub, Int.reduceAdd, Int.reduceMul, Nat.reduceMul, Nat.reduceSub, Nat.reducePow, exB, resC_ptr, res_cell, nilb, nilf, faddr_p, c_dyad_join, a1, a2]) | (simp (maxSteps := 1000000) (disch := first | with_reducible assumption | omega) only [dxB]) | (simp only [kI_d, kG_dt, kG_df]; split) | (simp only [kI_v, kG_vt, kG_vf]; split))
  · have c0 := nat_Cmp (G := G) (T := T) hA (z := z) (y := y) (a := x) (b := w) mx mw
    by_cases h2 : w ≤ x
    · have hb := blen_mono (Nat.sub_le x w)
      have c1 : ¬ cmpN x w < 0 := by rw [cmpN_neg]; omega
      obtain ⟨z1, a1⟩ := nat_Sub (G := G) (T := T) hA (z := z) (y := y) (a := x) (b := w) mx mw h2
      obtain ⟨z2, a2⟩ := dyad_Make (G := G) (T := T) hA hG hC (n := p) (z := z1) (a := x - w) (e := e) (mayL_small (by omega)) (mk_rng (by omega) he) (by omega)
      refine ⟨z2, ?_⟩
      unfold joinD
      rw [if_neg h1, if_pos h2, run_k G T hU.dyad_join]
      simp only [DyA, A3] at *
      cases p <;> cases q <;> first | (exact absurd rfl h1) | (repeat' (first | (simp (maxSteps := 1000000) only [evB, if_true, if_false, ne_eq, Nat.reduceEqDiff, Nat.reduceAdd, reduceCtorEq, Int.reduceLE, Int.reduceLT, Int.reduceEq, Int.reduceNeg, Int.reduceToNat, Int.reducePow, Int.reduceMod, Int.reduceDiv, Int.reduceSub, Int.reduceAdd, Int.reduceMul, Nat.reduceMul, Nat.reduceSub, Nat.reducePow, exB, resC_ptr, res_cell, nilb, nilf, faddr_p, c_dyad_join, c0, c1, a1, a2]) | (simp (maxSteps := 1000000) (disch := first | with_reducible assumption | omega) only [dxB]) | (simp only [kI_d, kG_dt, kG_df]; split) | (simp only [kI_v, kG_vt, kG_vf]; split)))
    · have hb := blen_mono (Nat.sub_le w x)
      have c1 : cmpN x w < 0 := by rw [cmpN_neg]; omega
      obtain ⟨z1, a1⟩ := nat_Sub (G := G) (T := T) hA (z := y) (y := z) (a := w) (b := x) mw mx (by omega)
      obtain ⟨z2, a2⟩ := dyad_Make (G := G) (T := T) hA hG hC (n := q) (z := z1) (a := w - x) (e := e) (mayL_small (by omega)) (mk_rng (by omega) he) (by omega)
      refine ⟨z2, ?_⟩
      unfold joinD
      rw [if_neg h1, if_neg h2, run_k G T hU.dyad_join]
      simp only [DyA, A3] at *
      cases p <;> cases q <;> first | (exact absurd rfl h1) | (repeat' (first | (simp (maxSteps := 1000000) only [evB, if_true, if_false, ne_eq, Nat.reduceEqDiff, Nat.reduceAdd, reduceCtorEq, Int.reduceLE, Int.reduceLT, Int.reduceEq, Int.reduceNeg, Int.reduceToNat, Int.reducePow, Int.reduceMod, Int.reduceDiv, Int.reduceSub, Int.reduceAdd, Int.reduceMul, Nat.reduceMul, Nat.reduceSub, Nat.reducePow, exB, resC_ptr, res_cell, nilb, nilf, faddr_p, c_dyad_join, c0, c1, a1, a2]) | (simp (maxSteps := 1000000) (disch := first | with_reducible assumption | omega) only [dxB]) | (simp only [kI_d, kG_dt, kG_df]; split) | (simp only [kI_v, kG_vt, kG_vf]; split)))

theorem joinD_add {a b : Dy} (ha : a.m ≠ 0) (hb : b.m ≠ 0) (he : b.e ≤ a.e) : joinD a.n (a.m * 2 ^ (a.e - b.e).toNat) b.n b.m b.e = addD a b := by
  unfold joinD addD
  rw [if_neg ha, if_neg hb, Int.min_eq_right he, show (b.e - b.e).toNat = 0 by omega, Nat.pow_zero, Nat.mul_one]

theorem dyad_add_ord (hA : HasA g T) (hG : Glob G g) (hC : HasC g T) (hU : HasG g T) {z y : Bool} {a b : Dy} (ha : Bd a 16384) (hb : Bd b 16384) (na : a.m ≠ 0) (nb : b.m ≠ 0) (he : b.e ≤ a.e) :
    ∃ z', run G T 203 [DyA z a, DyA y b] = some (.tup [DyA z' (addD a b), .int .i64 0]) := by
  obtain ⟨a1, a2, a3⟩ := ha
  obtain ⟨b1, b2, b3⟩ := hb
  have ma : mayL (dl a.m) = true := mayL_small (by omega)
  have l1 := nat_Len (G := G) (T := T) hA (z := z) ma
  obtain ⟨z1, s1⟩ := nat_Shift_up (G := G) (T := T) hA (z := z) (a := a.m) (n := (a.e - b.e).toNat) ma (Or.inr (by omega)) (by omega)
  rw [show (((a.e - b.e).toNat : Nat) : Int) = a.e - b.e by omega] at s1
  have hbl := blen_mul na (a.e - b.e).toNat
  obtain ⟨z2, j1⟩ := dyad_join (G := G) (T := T) hA hG hC hU (p := a.n) (q := b.n) (z := z1) (y := y) (x := a.m * 2 ^ (a.e - b.e).toNat) (w := b.m) (e := b.e) (by omega) (by omega) (by omega)
  rw [joinD_add na nb he] at j1
  have c1 : ¬ ((dl a.m).length : Int) = 0 := fun hc => na (dl_len0.1 (by omega))
  have c2 : ¬ ((dl b.m).length : Int) = 0 := fun hc => nb (dl_len0.1 (by omega))
  have c3 : ¬ a.e < b.e := by omega
  have w1 : IntKind.i64.wrap (a.e - b.e) = a.e - b.e := wrap_i64 (by omega)
  have w2 : IntKind.i64.wrap (a.e - b.e + (blen a.m : Int)) = a.e - b.e + (blen a.m : Int) := wrap_i64 (by omega)
  have c4 : ¬ (131073 : Int) < a.e - b.e + (blen a.m : Int) := by omega
  have c5 : ¬ (131072 : Int) < a.e - b.e + (blen a.m : Int) := by omega
  refine ⟨z2, ?_⟩
  rw [run_k G T hU.dyad_add]
  generalize addD a b = d at *
  obtain ⟨n, m, e⟩ := a
  obtain ⟨n', m', e'⟩ := b
  clear hbl a1 a2 a3 b1 b2 b3
  simp only [DyA, A3] at *
  repeat' (first | (simp (maxSteps := 1000000) only [evB, if_true, if_false, ne_eq, Nat.reduceEqDiff, Nat.reduceAdd, reduceCtorEq, Int.reduceLE, Int.reduceLT, Int.reduceEq, Int.reduceNeg, Int.reduceToNat, Int.reducePow, Int.reduceMod, Int.reduceDiv, Int.reduceSub, Int.reduceAdd, Int.reduceMul, Nat.reduceMul, Nat.reduceSub, Nat.reducePow, exB, resC_ptr, res_cell, nilb, nilf, faddr_p, c_dyad_add, c1, c2, c3, c4, c5, w1, w2, l1, s1, j1]) | (simp (maxSteps := 1000000) (disch := first | with_reducible assumption | omega) only [dxB]) | (simp only [kI_d, kG_dt, kG_df]; split) | (simp only [kI_v, kG_vt, kG_vf]; split))

theorem dyad_add (hA : HasA g T) (hG : Glob G g) (hC : HasC g T) (hU : HasG g T) {z y : Bool} {a b : Dy} (ha : Bd a 16384) (hb : Bd b 16384) (za : Nz a) (zb : Nz b) :
    ∃ z', run G T 203 [DyA z a, DyA y b] = some (.tup [DyA z' (addD a b), .int .i64 0]) := by
  by_cases na : a.m = 0
  · have hl := dl_len_blen b.m
    have hbl := hb.bl
    obtain ⟨z1, h1⟩ := dyad_own (G := G) (T := T) hU (n := b.n) (z := y) (l := dl b.m) (e := b.e) (by omega)
    have c1 : ((dl a.m).length : Int) = 0 := by have := dl_len0.2 na; omega
    refine ⟨z1, ?_⟩
    rw [run_k G T hU.dyad_add]
    unfold addD
    rw [if_pos na]
    obtain ⟨n, m, e⟩ := a
    obtain ⟨n', m', e'⟩ := b
    simp only [DyA, A3] at *
    repeat' (first | (simp (maxSteps := 1000000) only [evB, if_true, if_false, ne_eq, Nat.reduceEqDiff, Nat.reduceAdd, reduceCtorEq, Int.reduceLE, Int.reduceLT, Int.reduceEq, Int.reduceNeg, Int.reduceToNat, Int.reducePow, Int.reduceMod, Int.reduceDiv, Int.reduceSub, Int.reduceAdd, Int.reduceMul, Nat.reduceMul, Nat.reduceSub, Nat.reducePow, exB, resC_ptr, res_cell, nilb, nilf, faddr_p, c_dyad_add, c1, h1]) | (simp (maxSteps := 1000000) (disch := first | with_reducible assumption | omega) only [dxB]) | (simp only [kI_d, kG_dt, kG_df]; split) | (simp only [kI_v, kG_vt, kG_vf]; split))
  · by_cases nb : b.m = 0
    · have hl := dl_len_blen a.m
      have hbl := ha.bl
      obtain ⟨z1, h1⟩ := dyad_own (G := G) (T := T) hU (n := a.n) (z := z) (l := dl a.m) (e := a.e) (by omega)
      have c1 : ¬ ((dl a.m).length : Int) = 0 := fun hc => na (dl_len0.1 (by omega))
      have c2 : ((dl b.m).length : Int) = 0 := by have := dl_len0.2 nb; omega
      refine ⟨z1, ?_⟩
      rw [run_k G T hU.dyad_add]
      unfold addD
      rw [if_neg na, if_pos nb]
      obtain ⟨n, m, e⟩ := a
      obtain ⟨n', m', e'⟩ := b
      simp only [DyA, A3] at *
      repeat' (first | (simp (maxSteps := 1000000) only [evB, if_true, if_false, ne_eq, Nat.reduceEqDiff, Nat.reduceAdd, reduceCtorEq, Int.reduceLE, Int.reduceLT, Int.reduceEq, Int.reduceNeg, Int.reduceToNat, Int.reducePow, Int.reduceMod, Int.reduceDiv, Int.reduceSub, Int.reduceAdd, Int.reduceMul, Nat.reduceMul, Nat.reduceSub, Nat.reducePow, exB, resC_ptr, res_cell, nilb, nilf, faddr_p, c_dyad_add, c1, c2, h1]) | (simp (maxSteps := 1000000) (disch := first | with_reducible assumption | omega) only [dxB]) | (simp only [kI_d, kG_dt, kG_df]; split) | (simp only [kI_v, kG_vt, kG_vf]; split))
    · by_cases he : b.e ≤ a.e
      · exact dyad_add_ord hA hG hC hU ha hb na nb he
      · obtain ⟨a1, a2, a3⟩ := ha
        obtain ⟨b1, b2, b3⟩ := hb
        have mb : mayL (dl b.m) = true := mayL_small (by omega)
        have l1 := nat_Len (G := G) (T := T) hA (z := y) mb
        obtain ⟨z1, s1⟩ := nat_Shift_up (G := G) (T := T) hA (z := y) (a := b.m) (n := (b.e - a.e).toNat) mb (Or.inr (by omega)) (by omega)
        rw [show (((b.e - a.e).toNat : Nat) : Int) = b.e - a.e by omega] at s1
        have hbl := blen_mul nb (b.e - a.e).toNat
        obtain ⟨z2, j1⟩ := dyad_join (G := G) (T := T) hA hG hC hU (p := b.n) (q := a.n) (z := z1) (y := z) (x := b.m * 2 ^ (b.e - a.e).toNat) (w := a.m) (e := a.e) (by omega) (by omega) (by omega)
        rw [joinD_add nb na (by omega), addD_comm zb za] at j1
        have c1 : ¬ ((dl a.m).length : Int) = 0 := fun hc => na (dl_len0.1 (by omega))
        have c2 : ¬ ((dl b.m).length : Int) = 0 := fun hc => nb (dl_len0.1 (by omega))
        have c3 : a.e < b.e := by omega
        have w1 : IntKind.i64.wrap (b.e - a.e) = b.e - a.e := wrap_i64 (by omega)
        have w2 : IntKind.i64.wrap (b.e - a.e + (blen b.m : Int)) = b.e - a.e + (blen b.m : Int) := wrap_i64 (by omega)
        have c4 : ¬ (131073 : Int) < b.e - a.e + (blen b.m : Int) := by omega
        have c5 : ¬ (131072 : Int) < b.e - a.e + (blen b.m : Int) := by omega
        refine ⟨z2, ?_⟩
        rw [run_k G T hU.dyad_add]
        generalize addD a b = d at *
        obtain ⟨n, m, e⟩ := a
        obtain ⟨n', m', e'⟩ := b
        clear hbl a1 a2 a3 b1 b2 b3
        simp only [DyA, A3] at *
        repeat' (first | (simp (maxSteps := 1000000) only [evB, if_true, if_false, ne_eq, Nat.reduceEqDiff, Nat.reduceAdd, reduceCtorEq, Int.reduceLE, Int.reduceLT, Int.reduceEq, Int.reduceNeg, Int.reduceToNat, Int.reducePow, Int.reduceMod, Int.reduceDiv, Int.reduceSub, Int.reduceAdd, Int.reduceMul, Nat.reduceMul, Nat.reduceSub, Nat.reducePow, exB, resC_ptr, res_cell, nilb, nilf, faddr_p, c_dyad_add, c1, c2, c3, c4, c5, w1, w2, l1, s1, j1]) | (simp (maxSteps := 1000000) (disch := first | with_reducible assumption | omega) only [dxB]) | (simp only [kI_d, kG_dt, kG_df]; split) | (simp only [kI_v, kG_vt, kG_vf]; split))

theorem dyad_Add (hA : HasA g T) (hG : Glob G g) (hC : HasC g T) (hU : HasG g T) {z y : Bool} {a b : Dy} (ha : Bd a 16384) (hb : Bd b 16384) (da : mayD a.n (dl a.m) a.e = true) (db : mayD b.n (dl b.m) b.e = true) :
    ∃ z', run G T 195 [DyA z a, DyA y b] = some (.tup [DyA z' (addD a b), .int .i64 0]) := by
  have h1 := dyad_both (G := G) (T := T) hA hC (n := a.n) (z := z) (n' := b.n) (z' := y) (Dg_dl a.m) (Dg_dl b.m) (e := a.e) (e' := b.e)
  rw [da, db, Bool.and_self] at h1
  obtain ⟨z', h2⟩ := dyad_add (G := G) (T := T) hA hG hC hU (z := z) (y := y) ha hb (mayD_nz da) (mayD_nz db)
  refine ⟨z', ?_⟩
  rw [run_k G T hU.dyad_Add]
  generalize addD a b = d at *
  obtain ⟨n, m, e⟩ := a
  obtain ⟨n', m', e'⟩ := b
  simp only [DyA, A3] at *
  repeat' (first | (simp (maxSteps := 1000000) only [evB, if_true, if_false, ne_eq, Nat.reduceEqDiff, Nat.reduceAdd, reduceCtorEq, Int.reduceLE, Int.reduceLT, Int.reduceEq, Int.reduceNeg, Int.reduceToNat, Int.reducePow, Int.reduceMod, Int.reduceDiv, Int.reduceSub, Int.reduceAdd, Int.reduceMul, Nat.reduceMul, Nat.reduceSub, Nat.reducePow, exB, resC_ptr, res_cell, nilb, nilf, faddr_p, c_dyad_Add, h1, h2]) | (simp (maxSteps := 1000000) (disch := first | with_reducible assumption | omega) only [dxB]) | (simp only [kI_d, kG_dt, kG_df]; split) | (simp only [kI_v, kG_vt, kG_vf]; split))

theorem dyad_Mul (hA : HasA g T) (hG : Glob G g) (hC : HasC g T) (hU : HasG g T) {z y : Bool} {a b : Dy} (ha : Bd a 16384) (hb : Bd b 16384) (da : mayD a.n (dl a.m) a.e = true) (db : mayD b.n (dl b.m) b.e = true) :
    ∃ z', run G T 182 [DyA z a, DyA y b] = some (.tup [DyA z' (mulD a b), .int .i64 0]) := by
  have h1 := dyad_both (G := G) (T := T) hA hC (n := a.n) (z := z) (n' := b.n) (z' := y) (Dg_dl a.m) (Dg_dl b.m) (e := a.e) (e' := b.e)
  rw [da, db, Bool.and_self] at h1
  obtain ⟨a1, a2, a3⟩ := ha
  obtain ⟨b1, b2, b3⟩ := hb
  have hl1 := dl_len_blen a.m
  have hl2 := dl_len_blen b.m
  obtain ⟨z1, h2⟩ := nat_Mul (G := G) (T := T) hA hU (z := z) (y := y) (a := a.m) (b := b.m) (mayL_small (by omega)) (mayL_small (by omega)) (by omega)
  have hb : blen (a.m * b.m) ≤ 32768 := by have := blen_mulC a1 b1; omega
  obtain ⟨z2, h3⟩ := dyad_Make (G := G) (T := T) hA hG hC (n := a.n != b.n) (z := z1) (a := a.m * b.m) (e := a.e + b.e) (mayL_small (by omega)) (mk_rng (by omega) (by omega)) (by omega)
  have w1 : IntKind.i64.wrap (a.e + b.e) = a.e + b.e := wrap_i64 (by omega)
  refine ⟨z2, ?_⟩
  rw [run_k G T hU.dyad_Mul]
  unfold mulD
  clear hb
  obtain ⟨n, m, e⟩ := a
  obtain ⟨n', m', e'⟩ := b
  have hne : (n != n') = !decide (n = n') := by cases n <;> cases n' <;> rfl
  simp only at *
  rw [hne] at h3 ⊢
  simp only [DyA, A3] at *
  repeat' (first | (simp (maxSteps := 1000000) only [evB, if_true, if_false, ne_eq, Nat.reduceEqDiff, Nat.reduceAdd, reduceCtorEq, Int.reduceLE, Int.reduceLT, Int.reduceEq, Int.reduceNeg, Int.reduceToNat, Int.reducePow, Int.reduceMod, Int.reduceDiv, Int.reduceSub, Int.reduceAdd, Int.reduceMul, Nat.reduceMul, Nat.reduceSub, Nat.reducePow, exB, resC_ptr, res_cell, nilb, nilf, faddr_p, c_dyad_Mul, h1, h2, w1, h3]) | (simp (maxSteps := 1000000) (disch := first | with_reducible assumption | omega) only [dxB]) | (simp only [kI_d, kG_dt, kG_df]; split) | (simp only [kI_v, kG_vt, kG_vf]; split))
end Go.Cv

/-
  The program's words: fields, classes, values.
-/
namespace Go.Cv
variable {G : Nat → Option (List AV)} {T : Tbl} {g : Nat}

theorem andn_nat {w k : Nat} (hk : k < 64) (hw : w < 2 ^ (k + 1)) : w &&& (2 ^ 64 - (2 ^ k + 1)) = w % 2 ^ k := by
  apply Nat.eq_of_testBit_eq
  intro i
  have hp : (2 : Nat) ^ k < 2 ^ 64 := Nat.pow_lt_pow_right (by decide) hk
  rw [Nat.testBit_and, Nat.testBit_mod_two_pow, Nat.testBit_two_pow_sub_succ hp, Nat.testBit_two_pow]
  by_cases h1 : i < k
  · rw [decide_eq_true h1, decide_eq_true (show i < 64 by omega), decide_eq_false (show ¬ k = i by omega)]; simp
  · rw [decide_eq_false h1]
    by_cases h2 : i = k
    · rw [decide_eq_true h2.symm]; simp
    · have : w.testBit i = false := Nat.testBit_lt_two_pow (Nat.lt_of_lt_of_le hw (Nat.pow_le_pow_right (by decide) (by omega)))
      rw [this]; simp
theorem andn64 {w k : Nat} (hk : k < 64) (hw : w < 2 ^ (k + 1)) : andNotI .u64 (w : Int) ((2 ^ k : Nat) : Int) = ((w % 2 ^ k : Nat) : Int) := by
  have hp : (2 : Nat) ^ k < 2 ^ 64 := Nat.pow_lt_pow_right (by decide) hk
  have hw2 : w < 2 ^ 64 := Nat.lt_of_lt_of_le hw (Nat.pow_le_pow_right (by decide) (by omega))
  have hlt : w % 2 ^ k < 2 ^ k := Nat.mod_lt _ (Nat.two_pow_pos k)
  rw [andNotI_eq]
  show IntKind.u64.wrap ((BitVec.ofInt 64 (w : Int) &&& ~~~BitVec.ofInt 64 ((2 ^ k : Nat) : Int)).toNat : Int) = _
  rw [show BitVec.ofInt 64 (w : Int) = BitVec.ofNat 64 w from rfl, show BitVec.ofInt 64 ((2 ^ k : Nat) : Int) = BitVec.ofNat 64 (2 ^ k) from rfl, BitVec.toNat_and, BitVec.toNat_not, BitVec.toNat_ofNat, BitVec.toNat_ofNat, Nat.mod_eq_of_lt hw2, Nat.mod_eq_of_lt hp,
    show 2 ^ 64 - 1 - 2 ^ k = 2 ^ 64 - (2 ^ k + 1) by omega, andn_nat hk hw, wrap_u64]
  omega
theorem andn_s {w : Nat} (h : w < 4294967296) : andNotI .u64 (w : Int) 2147483648 = ((w % 2147483648 : Nat) : Int) := andn64 (k := 31) (by decide) h
theorem andn_d {w : Nat} (h : w < 18446744073709551616) : andNotI .u64 (w : Int) 9223372036854775808 = ((w % 9223372036854775808 : Nat) : Int) := andn64 (k := 63) (by decide) h
theorem and_pow_lo {w k : Nat} (hw : w < 2 ^ k) : w &&& 2 ^ k = 0 := by
  apply Nat.eq_of_testBit_eq
  intro i
  rw [Nat.testBit_and, Nat.testBit_two_pow, Nat.zero_testBit]
  by_cases h : k = i
  · subst h; rw [Nat.testBit_lt_two_pow hw]; rfl
  · rw [decide_eq_false h, Bool.and_false]
theorem and_pow_hi {w k : Nat} (h1 : 2 ^ k ≤ w) (hw : w < 2 ^ (k + 1)) : w &&& 2 ^ k = 2 ^ k := by
  apply Nat.eq_of_testBit_eq
  intro i
  rw [Nat.testBit_and, Nat.testBit_two_pow]
  rw [Nat.pow_succ] at hw
  by_cases h : k = i
  · subst h
    have : w / 2 ^ k = 1 := Nat.div_eq_of_lt_le (by omega) (by omega)
    rw [Nat.testBit_eq_decide_div_mod_eq, this]; rfl
  · rw [decide_eq_false h, Bool.and_false]
theorem and_bit {w k : Nat} (hk : k < 64) (hw : w < 2 ^ (k + 1)) : andI .u64 (w : Int) ((2 ^ k : Nat) : Int) = if 2 ^ k ≤ w then ((2 ^ k : Nat) : Int) else 0 := by
  have hp : (2 : Nat) ^ k < 2 ^ 64 := Nat.pow_lt_pow_right (by decide) hk
  have hw2 : w < 2 ^ 64 := Nat.lt_of_lt_of_le hw (Nat.pow_le_pow_right (by decide) (by omega))
  rw [and64 (by omega) (by omega)]
  by_cases h : 2 ^ k ≤ w
  · rw [if_pos h, and_pow_hi h hw]
  · rw [if_neg h, and_pow_lo (by omega)]; rfl
theorem and_s {w : Nat} (h : w < 4294967296) : andI .u64 (w : Int) 2147483648 = if 2147483648 ≤ w then 2147483648 else 0 := and_bit (k := 31) (by decide) h
theorem and_d {w : Nat} (h : w < 18446744073709551616) : andI .u64 (w : Int) 9223372036854775808 = if 9223372036854775808 ≤ w then 9223372036854775808 else 0 := and_bit (k := 63) (by decide) h
theorem and_ms {w : Nat} (h : w < 18446744073709551616) : andI .u64 (w : Int) 8388607 = ((w % 8388608 : Nat) : Int) := and_mask (j := 23) h (by decide)
theorem and_md {w : Nat} (h : w < 18446744073709551616) : andI .u64 (w : Int) 4503599627370495 = ((w % 4503599627370496 : Nat) : Int) := and_mask (j := 52) h (by decide)
theorem or_s : orI .u64 2147483648 2147483647 = 4294967295 := by rw [orI_eq]; rfl
theorem or_d : orI .u64 9223372036854775808 9223372036854775807 = 18446744073709551615 := by rw [orI_eq]; rfl
theorem or_ns : orI .u64 2139095040 4194304 = 2143289344 := by rw [orI_eq]; rfl
theorem or_nd : orI .u64 9218868437227405312 2251799813685248 = 9221120237041090560 := by rw [orI_eq]; rfl

theorem wop_loop (e : Env) (h : Heap) : evL G T c_word_open_l1 e h = kS G T (evL G T c_word_open_b1 (keepE [4, 6, 18, 19, 20] e) h) c_word_open_l1 := s_loopc G T rfl e h
theorem ia11 (x : AV) (k : IntKind) : iaddrV 1 (.imm 1 [x]) (.int k 0) = some (.iptr [x] 0) := rfl
theorem rd11 (h : Mem) (x : AV) : rdAt G h 1 (.iptr [x] 0) = some [x] := rfl

theorem word_open1 (hT : HasD g T) (F : Fm) {w : Nat} (hw : w < 18446744073709551616) : run G T 95 [.int .u8 F.u, .imm 1 [.int .u64 (w : Int)]] = some (.tup [shA F, .int .i64 (if w < 2 * F.sg then 0 else 6)]) := by
  rw [run_k G T hT.word_open]
  have h1 := word_shapeOf (G := G) hT F
  have wr : IntKind.i64.wrap 1 = 1 := rfl
  by_cases hk : w < 2 * F.sg
  · rw [if_pos hk]
    cases F
    · simp only [shA, Fm.u, Fm.fr, Fm.sg, Fm.most, Int.cast_ofNat_Int, Nat.reduceMul] at *
      have c1 : ¬ (4294967295 : Int) < (w : Int) := by omega
      repeat' (first | (simp (maxSteps := 1000000) only [evB, if_true, if_false, ne_eq, Nat.reduceEqDiff, Nat.reduceAdd, reduceCtorEq, Int.reduceLE, Int.reduceLT, Int.reduceEq, Int.reduceNeg, Int.reduceToNat, Int.reducePow, Int.reduceMod, Int.reduceDiv, Int.reduceSub, Int.reduceAdd, Int.reduceMul, Nat.reduceMul, Nat.reduceSub, Nat.reducePow, exB, resC_ptr, res_cell, nilb, nilf, faddr_p, c_word_open, h1, wop_loop, c_word_open_b1, ia11, rd11, or_s, or_d, c1, wr]) | (simp (maxSteps := 1000000) (disch := first | with_reducible assumption | omega) only [dxB]) | (simp only [kI_d, kG_dt, kG_df]; split) | (simp only [kI_v, kG_vt, kG_vf]; split))
    · simp only [shA, Fm.u, Fm.fr, Fm.sg, Fm.most, Int.cast_ofNat_Int, Nat.reduceMul] at *
      have c1 : ¬ (18446744073709551615 : Int) < (w : Int) := by omega
      repeat' (first | (simp (maxSteps := 1000000) only [evB, if_true, if_false, ne_eq, Nat.reduceEqDiff, Nat.reduceAdd, reduceCtorEq, Int.reduceLE, Int.reduceLT, Int.reduceEq, Int.reduceNeg, Int.reduceToNat, Int.reducePow, Int.reduceMod, Int.reduceDiv, Int.reduceSub, Int.reduceAdd, Int.reduceMul, Nat.reduceMul, Nat.reduceSub, Nat.reducePow, exB, resC_ptr, res_cell, nilb, nilf, faddr_p, c_word_open, h1, wop_loop, c_word_open_b1, ia11, rd11, or_s, or_d, c1, wr]) | (simp (maxSteps := 1000000) (disch := first | with_reducible assumption | omega) only [dxB]) | (simp only [kI_d, kG_dt, kG_df]; split) | (simp only [kI_v, kG_vt, kG_vf]; split))
  · rw [if_neg hk]
    cases F
    · simp only [shA, Fm.u, Fm.fr, Fm.sg, Fm.most, Int.cast_ofNat_Int, Nat.reduceMul] at *
      have c1 : (4294967295 : Int) < (w : Int) := by omega
      repeat' (first | (simp (maxSteps := 1000000) only [evB, if_true, if_false, ne_eq, Nat.reduceEqDiff, Nat.reduceAdd, reduceCtorEq, Int.reduceLE, Int.reduceLT, Int.reduceEq, Int.reduceNeg, Int.reduceToNat, Int.reducePow, Int.reduceMod, Int.reduceDiv, Int.reduceSub, Int.reduceAdd, Int.reduceMul, Nat.reduceMul, Nat.reduceSub, Nat.reducePow, exB, resC_ptr, res_cell, nilb, nilf, faddr_p, c_word_open, h1, wop_loop, c_word_open_b1, ia11, rd11, or_s, or_d, c1, wr]) | (simp (maxSteps := 1000000) (disch := first | with_reducible assumption | omega) only [dxB]) | (simp only [kI_d, kG_dt, kG_df]; split) | (simp only [kI_v, kG_vt, kG_vf]; split))
    · simp only [Fm.sg] at hk; omega

theorem cls_spec (F : Fm) (w : Nat) : (F.ex w = 0 ∧ F.fc w = 0 ∧ F.cls w = 1) ∨ (F.ex w = 0 ∧ F.fc w ≠ 0 ∧ F.cls w = 2) ∨ (F.ex w ≠ 0 ∧ F.ex w < F.most ∧ F.cls w = 3) ∨ (F.ex w ≠ 0 ∧ ¬ F.ex w < F.most ∧ F.fc w = 0 ∧ F.cls w = 4) ∨ (F.ex w ≠ 0 ∧ ¬ F.ex w < F.most ∧ F.fc w ≠ 0 ∧ F.cls w = 5) := by
  unfold Fm.cls
  generalize F.ex w = x
  generalize F.fc w = y
  repeat' split
  all_goals omega
theorem ng_spec (F : Fm) (w : Nat) : (F.ng w = true ∧ F.sg ≤ w) ∨ (F.ng w = false ∧ w < F.sg) := by
  unfold Fm.ng
  by_cases h : F.sg ≤ w
  · left; exact ⟨decide_eq_true h, h⟩
  · right; exact ⟨decide_eq_false h, by omega⟩

theorem word_class (hD : HasD g T) (hU : HasG g T) (F : Fm) {w : Nat} (hw : w < 2 * F.sg) : run G T 201 [shA F, .int .u64 (w : Int)] = some (.int .u8 (F.cls w)) := by
  rw [run_k G T hU.word_shape_class]
  obtain ⟨q1, q2, q3, q4⟩ := w_split hw
  have hc := cls_spec F w
  have hlt : w % F.sg < F.sg := Nat.mod_lt _ (by cases F <;> decide)
  clear q1
  generalize F.cls w = c at *
  generalize F.ex w = x at *
  generalize F.fc w = y at *
  cases F
  · have h2 := andn_s (w := w) hw
    have hi := word_inf (G := G) (T := T) hD .s
    simp only [shA, Fm.u, Fm.fr, Fm.sg, Fm.most, Int.cast_ofNat_Int, Nat.reducePow, Nat.reduceMul] at *
    generalize w % 2147483648 = s at *
    repeat' (first | (simp (maxSteps := 1000000) only [evB, if_true, if_false, ne_eq, Nat.reduceEqDiff, Nat.reduceAdd, reduceCtorEq, Int.reduceLE, Int.reduceLT, Int.reduceEq, Int.reduceNeg, Int.reduceToNat, Int.reducePow, Int.reduceMod, Int.reduceDiv, Int.reduceSub, Int.reduceAdd, Int.reduceMul, Nat.reduceMul, Nat.reduceSub, Nat.reducePow, exB, resC_ptr, res_cell, nilb, nilf, faddr_p, c_word_shape_class, h2, hi]) | (simp (maxSteps := 1000000) (disch := first | with_reducible assumption | omega) only [dxB]) | (simp only [kI_d, kG_dt, kG_df]; split) | (simp only [kI_v, kG_vt, kG_vf]; split))
    all_goals (refine some_int ?_; omega)
  · have h2 := andn_d (w := w) hw
    have hi := word_inf (G := G) (T := T) hD .d
    simp only [shA, Fm.u, Fm.fr, Fm.sg, Fm.most, Int.cast_ofNat_Int, Nat.reducePow, Nat.reduceMul] at *
    generalize w % 9223372036854775808 = s at *
    repeat' (first | (simp (maxSteps := 1000000) only [evB, if_true, if_false, ne_eq, Nat.reduceEqDiff, Nat.reduceAdd, reduceCtorEq, Int.reduceLE, Int.reduceLT, Int.reduceEq, Int.reduceNeg, Int.reduceToNat, Int.reducePow, Int.reduceMod, Int.reduceDiv, Int.reduceSub, Int.reduceAdd, Int.reduceMul, Nat.reduceMul, Nat.reduceSub, Nat.reducePow, exB, resC_ptr, res_cell, nilb, nilf, faddr_p, c_word_shape_class, h2, hi]) | (simp (maxSteps := 1000000) (disch := first | with_reducible assumption | omega) only [dxB]) | (simp only [kI_d, kG_dt, kG_df]; split) | (simp only [kI_v, kG_vt, kG_vf]; split))
    all_goals (refine some_int ?_; omega)

theorem word_split (hU : HasG g T) (F : Fm) {w : Nat} (hw : w < 2 * F.sg) : run G T 200 [shA F, .int .u64 (w : Int)] = some (fldA (F.ng w) (F.ex w) (F.fc w)) := by
  rw [run_k G T hU.word_shape_split]
  have hlt : w % F.sg < F.sg := Nat.mod_lt _ (by cases F <;> decide)
  have hn := ng_spec F w
  have e2 : w % F.sg / 2 ^ F.fr = F.ex w := rfl
  have e3 : w % F.sg % 2 ^ F.fr = F.fc w := rfl
  have q4 := (w_split hw).2.2.2
  generalize F.ng w = n at *
  generalize F.ex w = x at *
  generalize F.fc w = y at *
  cases F
  · have h2 := andn_s (w := w) hw
    have h4 := and_s (w := w) hw
    simp only [shA, Fm.u, Fm.fr, Fm.sg, Fm.most, fldA, Int.cast_ofNat_Int, Nat.reducePow] at *
    generalize w % 2147483648 = s at *
    have h5 := and_ms (w := s) (by omega)
    rw [e3] at h5
    have w1 : (s : Int) / 8388608 = (x : Int) := by omega
    rcases hn with ⟨rfl, hn⟩ | ⟨rfl, hn⟩
    · rw [if_pos hn] at h4
      repeat' (first | (simp (maxSteps := 1000000) only [evB, if_true, if_false, ne_eq, Nat.reduceEqDiff, Nat.reduceAdd, reduceCtorEq, Int.reduceLE, Int.reduceLT, Int.reduceEq, Int.reduceNeg, Int.reduceToNat, Int.reducePow, Int.reduceMod, Int.reduceDiv, Int.reduceSub, Int.reduceAdd, Int.reduceMul, Nat.reduceMul, Nat.reduceSub, Nat.reducePow, exB, resC_ptr, res_cell, nilb, nilf, faddr_p, c_word_shape_split, h2, h4, h5, w1]) | (simp (maxSteps := 1000000) (disch := first | with_reducible assumption | omega) only [dxB]) | (simp only [kI_d, kG_dt, kG_df]; split) | (simp only [kI_v, kG_vt, kG_vf]; split))
    · rw [if_neg (by omega)] at h4
      repeat' (first | (simp (maxSteps := 1000000) only [evB, if_true, if_false, ne_eq, Nat.reduceEqDiff, Nat.reduceAdd, reduceCtorEq, Int.reduceLE, Int.reduceLT, Int.reduceEq, Int.reduceNeg, Int.reduceToNat, Int.reducePow, Int.reduceMod, Int.reduceDiv, Int.reduceSub, Int.reduceAdd, Int.reduceMul, Nat.reduceMul, Nat.reduceSub, Nat.reducePow, exB, resC_ptr, res_cell, nilb, nilf, faddr_p, c_word_shape_split, h2, h4, h5, w1]) | (simp (maxSteps := 1000000) (disch := first | with_reducible assumption | omega) only [dxB]) | (simp only [kI_d, kG_dt, kG_df]; split) | (simp only [kI_v, kG_vt, kG_vf]; split))
  · have h2 := andn_d (w := w) hw
    have h4 := and_d (w := w) hw
    simp only [shA, Fm.u, Fm.fr, Fm.sg, Fm.most, fldA, Int.cast_ofNat_Int, Nat.reducePow] at *
    generalize w % 9223372036854775808 = s at *
    have h5 := and_md (w := s) (by omega)
    rw [e3] at h5
    have w1 : (s : Int) / 4503599627370496 = (x : Int) := by omega
    rcases hn with ⟨rfl, hn⟩ | ⟨rfl, hn⟩
    · rw [if_pos hn] at h4
      repeat' (first | (simp (maxSteps := 1000000) only [evB, if_true, if_false, ne_eq, Nat.reduceEqDiff, Nat.reduceAdd, reduceCtorEq, Int.reduceLE, Int.reduceLT, Int.reduceEq, Int.reduceNeg, Int.reduceToNat, Int.reducePow, Int.reduceMod, Int.reduceDiv, Int.reduceSub, Int.reduceAdd, Int.reduceMul, Nat.reduceMul, Nat.reduceSub, Nat.reducePow, exB, resC_ptr, res_cell, nilb, nilf, faddr_p, c_word_shape_split, h2, h4, h5, w1]) | (simp (maxSteps := 1000000) (disch := first | with_reducible assumption | omega) only [dxB]) | (simp only [kI_d, kG_dt, kG_df]; split) | (simp only [kI_v, kG_vt, kG_vf]; split))
    · rw [if_neg (by omega)] at h4
      repeat' (first | (simp (maxSteps := 1000000) only [evB, if_true, if_false, ne_eq, Nat.reduceEqDiff, Nat.reduceAdd, reduceCtorEq, Int.reduceLE, Int.reduceLT, Int.reduceEq, Int.reduceNeg, Int.reduceToNat, Int.reducePow, Int.reduceMod, Int.reduceDiv, Int.reduceSub, Int.reduceAdd, Int.reduceMul, Nat.reduceMul, Nat.reduceSub, Nat.reducePow, exB, resC_ptr, res_cell, nilb, nilf, faddr_p, c_word_shape_split, h2, h4, h5, w1]) | (simp (maxSteps := 1000000) (disch := first | with_reducible assumption | omega) only [dxB]) | (simp only [kI_d, kG_dt, kG_df]; split) | (simp only [kI_v, kG_vt, kG_vf]; split))

theorem sg_64 {F : Fm} {w : Nat} (h : w < 2 * F.sg) : w < 18446744073709551616 := by
  have : 2 * F.sg ≤ 18446744073709551616 := by cases F <;> decide
  omega

theorem word_Class (hD : HasD g T) (hU : HasG g T) (F : Fm) {w : Nat} (hw : w < 2 * F.sg) : run G T 193 [.int .u8 F.u, .int .u64 (w : Int)] = some (.tup [.int .u8 (F.cls w), .int .i64 0]) := by
  rw [run_k G T hU.word_Class]
  have h1 := word_open1 (G := G) (T := T) hD F (sg_64 hw)
  rw [if_pos hw] at h1
  have h2 := word_class (G := G) (T := T) hD hU F hw
  generalize F.cls w = c at *
  simp only [shA] at *
  repeat' (first | (simp (maxSteps := 1000000) only [evB, if_true, if_false, ne_eq, Nat.reduceEqDiff, Nat.reduceAdd, reduceCtorEq, Int.reduceLE, Int.reduceLT, Int.reduceEq, Int.reduceNeg, Int.reduceToNat, Int.reducePow, Int.reduceMod, Int.reduceDiv, Int.reduceSub, Int.reduceAdd, Int.reduceMul, Nat.reduceMul, Nat.reduceSub, Nat.reducePow, exB, resC_ptr, res_cell, nilb, nilf, faddr_p, c_word_Class, h1, h2]) | (simp (maxSteps := 1000000) (disch := first | with_reducible assumption | omega) only [dxB]) | (simp only [kI_d, kG_dt, kG_df]; split) | (simp only [kI_v, kG_vt, kG_vf]; split))

theorem word_finite (hD : HasD g T) (hU : HasG g T) (F : Fm) {w : Nat} (hw : w < 2 * F.sg) : run G T 202 [.int .u8 F.u, .int .u64 (w : Int)] = some (.tup [shA F, .int .i64 (if F.fin w then 0 else 7)]) := by
  rw [run_k G T hU.word_finite]
  have h1 := word_open1 (G := G) (T := T) hD F (sg_64 hw)
  rw [if_pos hw] at h1
  have h2 := word_class (G := G) (T := T) hD hU F hw
  have h3 := fin_iff (F := F) (w := w)
  have h4 := cls_range F w
  by_cases hf : F.fin w
  · rw [if_pos hf]
    have h5 := h3.1 hf
    clear h3
    generalize F.cls w = c at *
    have c1 : ¬ (4 : Int) ≤ c := by omega
    simp only [shA] at *
    repeat' (first | (simp (maxSteps := 1000000) only [evB, if_true, if_false, ne_eq, Nat.reduceEqDiff, Nat.reduceAdd, reduceCtorEq, Int.reduceLE, Int.reduceLT, Int.reduceEq, Int.reduceNeg, Int.reduceToNat, Int.reducePow, Int.reduceMod, Int.reduceDiv, Int.reduceSub, Int.reduceAdd, Int.reduceMul, Nat.reduceMul, Nat.reduceSub, Nat.reducePow, exB, resC_ptr, res_cell, nilb, nilf, faddr_p, c_word_finite, h1, h2, c1]) | (simp (maxSteps := 1000000) (disch := first | with_reducible assumption | omega) only [dxB]) | (simp only [kI_d, kG_dt, kG_df]; split) | (simp only [kI_v, kG_vt, kG_vf]; split))
  · rw [if_neg hf]
    have h5 : ¬ (F.cls w = 1 ∨ F.cls w = 2 ∨ F.cls w = 3) := fun h => hf (h3.2 h)
    clear h3
    generalize F.cls w = c at *
    have c1 : (4 : Int) ≤ c := by omega
    simp only [shA] at *
    repeat' (first | (simp (maxSteps := 1000000) only [evB, if_true, if_false, ne_eq, Nat.reduceEqDiff, Nat.reduceAdd, reduceCtorEq, Int.reduceLE, Int.reduceLT, Int.reduceEq, Int.reduceNeg, Int.reduceToNat, Int.reducePow, Int.reduceMod, Int.reduceDiv, Int.reduceSub, Int.reduceAdd, Int.reduceMul, Nat.reduceMul, Nat.reduceSub, Nat.reducePow, exB, resC_ptr, res_cell, nilb, nilf, faddr_p, c_word_finite, h1, h2, c1]) | (simp (maxSteps := 1000000) (disch := first | with_reducible assumption | omega) only [dxB]) | (simp only [kI_d, kG_dt, kG_df]; split) | (simp only [kI_v, kG_vt, kG_vf]; split))

theorem or_fr {y k : Nat} (h : y < 2 ^ k) (hk : k < 63) : orI .u64 (y : Int) ((2 ^ k : Nat) : Int) = ((2 ^ k + y : Nat) : Int) := by
  have hp : (2 : Nat) ^ k < 2 ^ 64 := Nat.pow_lt_pow_right (by decide) (by omega)
  have e := or_add (c := y) (x := 1) (s := k) h
  rw [Nat.one_mul] at e
  rw [or64 (by omega) (by omega), e, Nat.add_comm]

theorem word_Value (hA : HasA g T) (hG : Glob G g) (hC : HasC g T) (hD : HasD g T) (hU : HasG g T) (F : Fm) {w : Nat} (hw : w < 2 * F.sg) :
    ∃ z k, run G T 194 [.int .u8 F.u, .int .u64 (w : Int)] = some (.tup [DyA z (F.vl w), .int .i64 k]) := by
  have h1 := word_finite (G := G) (T := T) hD hU F hw
  by_cases hf : F.fin w
  · rw [if_pos hf] at h1
    have h2 := word_split (G := G) (T := T) hU F hw
    have h3 := word_low (G := G) (T := T) hD F
    have hy : F.fc w < 2 ^ F.fr := Nat.mod_lt _ (Nat.two_pow_pos _)
    have hp : 2 ^ F.fr ≤ 4503599627370496 := by cases F <;> decide
    have hF := fm_facts F
    have hm : F.most ≤ 2047 := by cases F <;> decide
    have hvl : F.vl w = F.val w := if_pos hf
    rw [hvl]
    unfold Fm.fin at hf
    unfold Fm.val
    have hor := or_fr hy (by omega)
    generalize F.ex w = x at *
    generalize F.fc w = y at *
    generalize F.ng w = n at *
    have hb1 : blen y ≤ 53 := blen_le.2 (by omega)
    have hb2 : blen (2 ^ F.fr + y) ≤ 53 := blen_le.2 (by omega)
    have hmin : min F.fr 64 = F.fr := by omega
    have hp0 := Nat.two_pow_pos F.fr
    by_cases h0 : x = 0
    · subst h0
      obtain ⟨z1, o1⟩ := nat_Of (G := G) (T := T) hA (n := y) (by omega)
      obtain ⟨z2, o2⟩ := dyad_Make (G := G) (T := T) hA hG hC (n := n) (z := z1) (a := y) (e := F.low) (mayL_small (by omega)) (mk_rng (by omega) (by omega)) (by omega)
      have w1 : max (0 : Int) 1 = 1 := by decide
      have w2 : IntKind.i64.wrap (1 - 1) = 0 := rfl
      have w3 : IntKind.i64.wrap (0 + F.low) = F.low := by rw [Int.zero_add]; exact wrap_i64 (by omega)
      have w4 : IntKind.i64.wrap F.low = F.low := wrap_i64 (by omega)
      refine ⟨z2, 0, ?_⟩
      rw [if_pos rfl, run_k G T hU.word_Value]
      simp only [shA, fldA, cast0, DyA, A3] at *
      repeat' (first | (simp (maxSteps := 1000000) only [evB, if_true, if_false, ne_eq, Nat.reduceEqDiff, Nat.reduceAdd, reduceCtorEq, Int.reduceLE, Int.reduceLT, Int.reduceEq, Int.reduceNeg, Int.reduceToNat, Int.reducePow, Int.reduceMod, Int.reduceDiv, Int.reduceSub, Int.reduceAdd, Int.reduceMul, Nat.reduceMul, Nat.reduceSub, Nat.reducePow, exB, resC_ptr, res_cell, nilb, nilf, faddr_p, c_word_Value, h1, h2, h3, o1, w1, w2, w3, w4, mm_max2, o2, Int.zero_add]) | (simp (maxSteps := 1000000) (disch := first | with_reducible assumption | omega) only [dxB]) | (simp only [kI_d, kG_dt, kG_df]; split) | (simp only [kI_v, kG_vt, kG_vf]; split))
    · obtain ⟨z1, o1⟩ := nat_Of (G := G) (T := T) hA (n := 2 ^ F.fr + y) (by omega)
      obtain ⟨z2, o2⟩ := dyad_Make (G := G) (T := T) hA hG hC (n := n) (z := z1) (a := 2 ^ F.fr + y) (e := x - 1 + F.low) (mayL_small (by omega)) (mk_rng (by omega) (by omega)) (by omega)
      have c0 : (0 : Int) < (x : Int) := by omega
      have w1 : max (x : Int) 1 = x := by omega
      have w2 : IntKind.i64.wrap ((x : Int) - 1) = x - 1 := wrap_i64 (by omega)
      have w3 : IntKind.i64.wrap ((x : Int) - 1 + F.low) = x - 1 + F.low := wrap_i64 (by omega)
      have w5 : (1 * (2 : Int) ^ F.fr) % 18446744073709551616 = ((2 ^ F.fr : Nat) : Int) := by rw [pow_cast]; omega
      have w6 : ((2 : Int) ^ F.fr) % 18446744073709551616 = ((2 ^ F.fr : Nat) : Int) := by rw [pow_cast]; omega
      refine ⟨z2, 0, ?_⟩
      rw [if_neg h0, run_k G T hU.word_Value]
      simp only [shA, fldA, DyA, A3] at *
      repeat' (first | (simp (maxSteps := 1000000) only [evB, if_true, if_false, ne_eq, Nat.reduceEqDiff, Nat.reduceAdd, reduceCtorEq, Int.reduceLE, Int.reduceLT, Int.reduceEq, Int.reduceNeg, Int.reduceToNat, Int.reducePow, Int.reduceMod, Int.reduceDiv, Int.reduceSub, Int.reduceAdd, Int.reduceMul, Nat.reduceMul, Nat.reduceSub, Nat.reducePow, exB, resC_ptr, res_cell, nilb, nilf, faddr_p, c_word_Value, h1, h2, h3, c0, hmin, w5, w6, hor, o1, w1, w2, w3, mm_max2, o2]) | (simp (maxSteps := 1000000) (disch := first | with_reducible assumption | omega) only [dxB]) | (simp only [kI_d, kG_dt, kG_df]; split) | (simp only [kI_v, kG_vt, kG_vf]; split))
  · rw [if_neg hf] at h1
    refine ⟨true, 7, ?_⟩
    have hvl : F.vl w = ⟨false, 0, 0⟩ := if_neg hf
    rw [hvl, run_k G T hU.word_Value]
    simp only [shA, DyA, A3, dl_zero] at *
    repeat' (first | (simp (maxSteps := 1000000) only [evB, if_true, if_false, ne_eq, Nat.reduceEqDiff, Nat.reduceAdd, reduceCtorEq, Int.reduceLE, Int.reduceLT, Int.reduceEq, Int.reduceNeg, Int.reduceToNat, Int.reducePow, Int.reduceMod, Int.reduceDiv, Int.reduceSub, Int.reduceAdd, Int.reduceMul, Nat.reduceMul, Nat.reduceSub, Nat.reducePow, exB, resC_ptr, res_cell, nilb, nilf, faddr_p, c_word_Value, h1]) | (simp (maxSteps := 1000000) (disch := first | with_reducible assumption | omega) only [dxB]) | (simp only [kI_d, kG_dt, kG_df]; split) | (simp only [kI_v, kG_vt, kG_vf]; split))
    all_goals try rfl

theorem word_none (hU : HasG g T) (hD : HasD g T) (F : Fm) : run G T 204 [shA F] = some (.int .u64 (F.nan : Int)) := by
  rw [run_k G T hU.word_shape_none]
  have h := word_inf (G := G) hD F
  cases F <;> (
    simp only [shA, Fm.u, Fm.fr, Fm.sg, Fm.most, Fm.nan, Int.cast_ofNat_Int, Nat.reducePow, Nat.reduceMul, Nat.reduceSub, Nat.reduceAdd] at *
    repeat' (first | (simp (maxSteps := 1000000) only [evB, if_true, if_false, ne_eq, Nat.reduceEqDiff, Nat.reduceAdd, reduceCtorEq, Int.reduceLE, Int.reduceLT, Int.reduceEq, Int.reduceNeg, Int.reduceToNat, Int.reducePow, Int.reduceMod, Int.reduceDiv, Int.reduceSub, Int.reduceAdd, Int.reduceMul, Nat.reduceMul, Nat.reduceSub, Nat.reducePow, exB, resC_ptr, res_cell, nilb, nilf, faddr_p, c_word_shape_none, h, or_ns, or_nd]) | (simp (maxSteps := 1000000) (disch := first | with_reducible assumption | omega) only [dxB]) | (simp only [kI_d, kG_dt, kG_df]; split) | (simp only [kI_v, kG_vt, kG_vf]; split)))
theorem word_None (hU : HasG g T) (hD : HasD g T) (F : Fm) : run G T 196 [.int .u8 F.u] = some (.tup [.int .u64 (F.nan : Int), .int .i64 0]) := by
  rw [run_k G T hU.word_None]
  have h := word_named (G := G) hD F (n := false) (k := 204) (word_none hU hD F) (by cases F <;> decide)
  rw [show F.nan + F.sgn false = F.nan from rfl] at h
  repeat' (first | (simp (maxSteps := 1000000) only [evB, if_true, if_false, ne_eq, Nat.reduceEqDiff, Nat.reduceAdd, reduceCtorEq, Int.reduceLE, Int.reduceLT, Int.reduceEq, Int.reduceNeg, Int.reduceToNat, Int.reducePow, Int.reduceMod, Int.reduceDiv, Int.reduceSub, Int.reduceAdd, Int.reduceMul, Nat.reduceMul, Nat.reduceSub, Nat.reducePow, exB, resC_ptr, res_cell, nilb, nilf, faddr_p, c_word_None, h]) | (simp (maxSteps := 1000000) (disch := first | with_reducible assumption | omega) only [dxB]) | (simp only [kI_d, kG_dt, kG_df]; split) | (simp only [kI_v, kG_vt, kG_vf]; split))
end Go.Cv

/-
  The document's sums, products, quotients, roots of words.
-/
namespace Go.Cv
variable {G : Nat → Option (List AV)} {T : Tbl} {g : Nat}

theorem Nz_mul (a b : Dy) : Nz (mulD a b) := Nz_mk _ _ _
theorem Bd_mul {a b : Dy} {K : Nat} (ha : Bd a K) (hb : Bd b K) : Bd (mulD a b) (4 * K) := by
  obtain ⟨a1, a2, a3⟩ := ha
  obtain ⟨b1, b2, b3⟩ := hb
  have hb : blen (a.m * b.m) ≤ 2 * K := by
    refine blen_le.2 ?_
    rw [show 2 * K = K + K by omega, Nat.pow_add]
    exact Nat.mul_lt_mul_of_lt_of_lt (blen_le.1 a1) (blen_le.1 b1)
  exact Bd_mk (by omega) (by omega) (by omega)
theorem mayD_nzb {d : Dy} (h : Nz d) (b : Bd d 131072) : mayD d.n (dl d.m) d.e = true := by
  obtain ⟨b1, b2, b3⟩ := b
  have hm : mayL (dl d.m) = true := mayL_small b1
  simp only [mayD, hm, Bool.true_and]
  by_cases h0 : d.m = 0
  · rw [h.1 h0, dl_zero]; rfl
  · have h1 : ¬ (dl d.m).length = 0 := fun hc => h0 (dl_len0.1 hc)
    rw [if_neg h1, dg0]
    have h2 := h.2 h0
    simp only [Bool.and_eq_true, decide_eq_true_eq]
    exact ⟨h2, by omega, by omega⟩
theorem sgnD_zero {d : Dy} : sgnD d = 0 ↔ d.m = 0 := by
  unfold sgnD
  by_cases h : d.m = 0
  · rw [if_pos h]; exact ⟨fun _ => h, fun _ => rfl⟩
  · rw [if_neg h]
    constructor
    · intro hc; split at hc <;> omega
    · intro hc; exact absurd hc h

theorem ref03_None (hD : HasD g T) (hT : HasF g T) (F : Fm) : run G T 157 [.int .u8 F.u] = some (.int .u64 (F.nan : Int)) := by
  rw [run_k G T hT.ref03_None]
  have h1 := ref03_Most (G := G) (T := T) hD F
  have h2 := ref03_Frac (G := G) (T := T) hD F
  cases F
  · have h4 := ref03_Join (G := G) (T := T) hD .s (n := false) (x := 255) (w := 4194304) (by decide) (Or.inl (by decide))
    simp only [fldA, Fm.u, Fm.fr, Fm.most, Fm.nan, Fm.inf, Fm.sgn, Fm.sg, Int.cast_ofNat_Int, Nat.reducePow, Nat.reduceMul, Nat.reduceSub, Nat.reduceAdd, Bool.false_eq_true, if_false] at *
    repeat' (first | (simp (maxSteps := 1000000) only [evB, if_true, if_false, ne_eq, Nat.reduceEqDiff, Nat.reduceAdd, reduceCtorEq, Int.reduceLE, Int.reduceLT, Int.reduceEq, Int.reduceNeg, Int.reduceToNat, Int.reducePow, Int.reduceMod, Int.reduceDiv, Int.reduceSub, Int.reduceAdd, Int.reduceMul, Nat.reduceMul, Nat.reduceSub, Nat.reducePow, exB, resC_ptr, res_cell, nilb, nilf, faddr_p, c_ref03_None, h1, h2, h4]) | (simp (maxSteps := 1000000) (disch := first | with_reducible assumption | omega) only [dxB]) | (simp only [kI_d, kG_dt, kG_df]; split) | (simp only [kI_v, kG_vt, kG_vf]; split))
  · have h4 := ref03_Join (G := G) (T := T) hD .d (n := false) (x := 2047) (w := 2251799813685248) (by decide) (Or.inl (by decide))
    simp only [fldA, Fm.u, Fm.fr, Fm.most, Fm.nan, Fm.inf, Fm.sgn, Fm.sg, Int.cast_ofNat_Int, Nat.reducePow, Nat.reduceMul, Nat.reduceSub, Nat.reduceAdd, Bool.false_eq_true, if_false] at *
    repeat' (first | (simp (maxSteps := 1000000) only [evB, if_true, if_false, ne_eq, Nat.reduceEqDiff, Nat.reduceAdd, reduceCtorEq, Int.reduceLE, Int.reduceLT, Int.reduceEq, Int.reduceNeg, Int.reduceToNat, Int.reducePow, Int.reduceMod, Int.reduceDiv, Int.reduceSub, Int.reduceAdd, Int.reduceMul, Nat.reduceMul, Nat.reduceSub, Nat.reducePow, exB, resC_ptr, res_cell, nilb, nilf, faddr_p, c_ref03_None, h1, h2, h4]) | (simp (maxSteps := 1000000) (disch := first | with_reducible assumption | omega) only [dxB]) | (simp only [kI_d, kG_dt, kG_df]; split) | (simp only [kI_v, kG_vt, kG_vf]; split))

theorem ref05_nan (hD : HasD g T) (hF : HasF g T) (hU : HasH g T) (F : Fm) {w : Nat} (hw : w < 2 * F.sg) : run G T 230 [.int .u8 F.u, .int .u64 (w : Int)] = some (.bool (decide (F.cls w = 5))) := by
  rw [run_k G T hU.ref05_nan]
  have h1 := ref03_Class (G := G) (T := T) hD hF F (sg_64 hw)
  repeat' (first | (simp (maxSteps := 1000000) only [evB, if_true, if_false, ne_eq, Nat.reduceEqDiff, Nat.reduceAdd, reduceCtorEq, Int.reduceLE, Int.reduceLT, Int.reduceEq, Int.reduceNeg, Int.reduceToNat, Int.reducePow, Int.reduceMod, Int.reduceDiv, Int.reduceSub, Int.reduceAdd, Int.reduceMul, Nat.reduceMul, Nat.reduceSub, Nat.reducePow, exB, resC_ptr, res_cell, nilb, nilf, faddr_p, c_ref05_nan, h1]) | (simp (maxSteps := 1000000) (disch := first | with_reducible assumption | omega) only [dxB]) | (simp only [kI_d, kG_dt, kG_df]; split) | (simp only [kI_v, kG_vt, kG_vf]; split))
theorem ref05_inf (hD : HasD g T) (hF : HasF g T) (hU : HasH g T) (F : Fm) {w : Nat} (hw : w < 2 * F.sg) : run G T 231 [.int .u8 F.u, .int .u64 (w : Int)] = some (.bool (decide (F.cls w = 4))) := by
  rw [run_k G T hU.ref05_inf]
  have h1 := ref03_Class (G := G) (T := T) hD hF F (sg_64 hw)
  repeat' (first | (simp (maxSteps := 1000000) only [evB, if_true, if_false, ne_eq, Nat.reduceEqDiff, Nat.reduceAdd, reduceCtorEq, Int.reduceLE, Int.reduceLT, Int.reduceEq, Int.reduceNeg, Int.reduceToNat, Int.reducePow, Int.reduceMod, Int.reduceDiv, Int.reduceSub, Int.reduceAdd, Int.reduceMul, Nat.reduceMul, Nat.reduceSub, Nat.reducePow, exB, resC_ptr, res_cell, nilb, nilf, faddr_p, c_ref05_inf, h1]) | (simp (maxSteps := 1000000) (disch := first | with_reducible assumption | omega) only [dxB]) | (simp only [kI_d, kG_dt, kG_df]; split) | (simp only [kI_v, kG_vt, kG_vf]; split))
theorem ref05_zero (hD : HasD g T) (hF : HasF g T) (hU : HasH g T) (F : Fm) {w : Nat} (hw : w < 2 * F.sg) : run G T 232 [.int .u8 F.u, .int .u64 (w : Int)] = some (.bool (decide (F.cls w = 1))) := by
  rw [run_k G T hU.ref05_zero]
  have h1 := ref03_Class (G := G) (T := T) hD hF F (sg_64 hw)
  repeat' (first | (simp (maxSteps := 1000000) only [evB, if_true, if_false, ne_eq, Nat.reduceEqDiff, Nat.reduceAdd, reduceCtorEq, Int.reduceLE, Int.reduceLT, Int.reduceEq, Int.reduceNeg, Int.reduceToNat, Int.reducePow, Int.reduceMod, Int.reduceDiv, Int.reduceSub, Int.reduceAdd, Int.reduceMul, Nat.reduceMul, Nat.reduceSub, Nat.reducePow, exB, resC_ptr, res_cell, nilb, nilf, faddr_p, c_ref05_zero, h1]) | (simp (maxSteps := 1000000) (disch := first | with_reducible assumption | omega) only [dxB]) | (simp only [kI_d, kG_dt, kG_df]; split) | (simp only [kI_v, kG_vt, kG_vf]; split))
theorem ref05_Nothing (hD : HasD g T) (hU : HasH g T) (F : Fm) {md : Int} : run G T 234 [.int .u8 F.u, .int .u8 md] = some (.int .u64 ((F.sgn (decide (md = 5)) : Nat) : Int)) := by
  rw [run_k G T hU.ref05_Nothing]
  have h1 := ref03_Signed (G := G) (T := T) hD F (n := decide (md = 5)) (w := 0)
  rw [Nat.zero_mod, Nat.zero_add, cast0] at h1
  repeat' (first | (simp (maxSteps := 1000000) only [evB, if_true, if_false, ne_eq, Nat.reduceEqDiff, Nat.reduceAdd, reduceCtorEq, Int.reduceLE, Int.reduceLT, Int.reduceEq, Int.reduceNeg, Int.reduceToNat, Int.reducePow, Int.reduceMod, Int.reduceDiv, Int.reduceSub, Int.reduceAdd, Int.reduceMul, Nat.reduceMul, Nat.reduceSub, Nat.reducePow, exB, resC_ptr, res_cell, nilb, nilf, faddr_p, c_ref05_Nothing, h1]) | (simp (maxSteps := 1000000) (disch := first | with_reducible assumption | omega) only [dxB]) | (simp only [kI_d, kG_dt, kG_df]; split) | (simp only [kI_v, kG_vt, kG_vf]; split))

/-- The end of all: an exact number, rounded. -/
theorem ref_sum (hB : HasB g T) (hC : HasC g T) (hD : HasD g T) (hE : HasE g T) (hU : HasH g T) (F : Fm) {md : Int} (hm : 1 ≤ md ∧ md ≤ 5) {z : Bool} {d : Dy} (hz : Nz d) (hb : Bd d 131072) :
    run G T 16 [DyA z d] = some (.int .i64 (sgnD d)) ∧
    ((sgnD d = 0 ∧ run G T 234 [.int .u8 F.u, .int .u8 md] = some (.int .u64 ((sumW F md d).1 : Int)) ∧ (sumW F md d).2 = 0) ∨
     (¬ sgnD d = 0 ∧ run G T 12 [.int .u8 F.u, .int .u8 md, DyA z d] = some (.tup [.int .u64 ((sumW F md d).1 : Int), .int .u8 ((sumW F md d).2 : Int)]))) := by
  refine ⟨ref02_Sign (G := G) (T := T) hC, ?_⟩
  by_cases h0 : d.m = 0
  · left
    have h1 := ref05_Nothing (G := G) (T := T) hD hU F (md := md)
    unfold sumW
    rw [if_pos h0]
    exact ⟨sgnD_zero.2 h0, h1, rfl⟩
  · right
    have h1 := ref04_Round (G := G) (T := T) hB hC hD hE F hm (z := z) hz (hb.mono (by decide))
    unfold sumW
    rw [if_neg h0]
    exact ⟨fun h => h0 (sgnD_zero.1 h), h1⟩

theorem addW_split (F : Fm) (md : Int) {a b : Nat} (ha : a < 2 * F.sg) (hb : b < 2 * F.sg) :
    (F.cls a = 5 ∧ addW F md a b = (F.nan, 0)) ∨ (F.cls a ≠ 5 ∧ F.cls b = 5 ∧ addW F md a b = (F.nan, 0)) ∨
    (F.cls a = 4 ∧ F.cls b = 4 ∧ a = b ∧ addW F md a b = (a, 0)) ∨ (F.cls a = 4 ∧ F.cls b = 4 ∧ a ≠ b ∧ addW F md a b = (F.nan, 1)) ∨
    (F.cls a = 4 ∧ F.cls b ≠ 4 ∧ F.cls b ≠ 5 ∧ addW F md a b = (a, 0)) ∨ (F.cls a ≠ 4 ∧ F.cls a ≠ 5 ∧ F.cls b = 4 ∧ addW F md a b = (b, 0)) ∨
    (F.fin a ∧ F.fin b ∧ F.cls a = 1 ∧ a = b ∧ addW F md a b = (a, 0)) ∨ (F.fin a ∧ F.fin b ∧ (F.cls a ≠ 1 ∨ a ≠ b) ∧ addW F md a b = sumW F md (addD (F.vl a) (F.vl b))) := by
  unfold addW addP
  have ra := cls_range F a
  have rb := cls_range F b
  by_cases a5 : F.cls a = 5
  · left; exact ⟨a5, if_pos (Or.inl a5)⟩
  · right
    by_cases b5 : F.cls b = 5
    · left; exact ⟨a5, b5, if_pos (Or.inr b5)⟩
    · right
      rw [if_neg (by omega)]
      by_cases a4 : F.cls a = 4
      · have ea := cls_inf_w ha a4
        by_cases b4 : F.cls b = 4
        · have eb := cls_inf_w hb b4
          by_cases hn : F.ng a = F.ng b
          · left
            refine ⟨a4, b4, by rw [ea, eb, hn], ?_⟩
            rw [if_neg (fun h => h.2.2 hn), if_pos a4, ← ea]
          · right; left
            refine ⟨a4, b4, ?_, if_pos ⟨a4, b4, hn⟩⟩
            intro hc; exact hn (by rw [hc])
        · right; right; left
          refine ⟨a4, b4, b5, ?_⟩
          rw [if_neg (fun h => b4 h.2.1), if_pos a4, ← ea]
      · by_cases b4 : F.cls b = 4
        · right; right; right; left
          refine ⟨a4, a5, b4, ?_⟩
          rw [if_neg (fun h => a4 h.1), if_neg a4, if_pos b4, ← cls_inf_w hb b4]
        · right; right; right; right
          have fa : F.fin a := fin_iff.2 (by omega)
          have fb : F.fin b := fin_iff.2 (by omega)
          rw [if_neg (fun h => a4 h.1), if_neg a4, if_neg b4]
          by_cases h1 : F.cls a = 1 ∧ a = b
          · left
            refine ⟨fa, fb, h1.1, h1.2, ?_⟩
            rw [if_pos ⟨h1.1, by rw [← h1.2]; exact h1.1, by rw [h1.2]⟩, ← (cls_zero_w ha h1.1).1]
          · right
            refine ⟨fa, fb, ?_, ?_⟩
            · by_cases q : F.cls a = 1
              · exact Or.inr (fun hc => h1 ⟨q, hc⟩)
              · exact Or.inl q
            · rw [if_neg]
              rintro ⟨q1, q2, q3⟩
              exact h1 ⟨q1, by rw [(cls_zero_w ha q1).1, (cls_zero_w hb q2).1, q3]⟩

theorem vl_val {F : Fm} {w : Nat} (h : F.fin w) : F.vl w = F.val w := if_pos h

theorem ref05_Add (hA : HasA g T) (hB : HasB g T) (hC : HasC g T) (hD : HasD g T) (hE : HasE g T) (hF : HasF g T) (hU : HasH g T) (F : Fm) {md : Int} (hm : 1 ≤ md ∧ md ≤ 5) {a b : Nat} (ha : a < 2 * F.sg) (hb : b < 2 * F.sg) :
    run G T 219 [.int .u8 F.u, .int .u8 md, .int .u64 (a : Int), .int .u64 (b : Int)] = some (.tup [.int .u64 ((addW F md a b).1 : Int), .int .u8 ((addW F md a b).2 : Int)]) := by
  rw [run_k G T hU.ref05_Add]
  have na := ref05_nan (G := G) (T := T) hD hF hU F ha
  have nb := ref05_nan (G := G) (T := T) hD hF hU F hb
  have ia := ref05_inf (G := G) (T := T) hD hF hU F ha
  have ib := ref05_inf (G := G) (T := T) hD hF hU F hb
  have za := ref05_zero (G := G) (T := T) hD hF hU F ha
  have nn := ref03_None (G := G) (T := T) hD hF F
  have ra := cls_range F a
  have rb := cls_range F b
  rcases addW_split F md ha hb with ⟨h1, W⟩ | ⟨h1, h2, W⟩ | ⟨h1, h2, h3, W⟩ | ⟨h1, h2, h3, W⟩ | ⟨h1, h2, h3, W⟩ | ⟨h1, h2, h3, W⟩ | ⟨h1, h2, h3, h4, W⟩ | ⟨h1, h2, h3, W⟩
  · rw [W]
    rw [decide_eq_true h1] at na
    repeat' (first | (simp (maxSteps := 1000000) only [evB, if_true, if_false, ne_eq, Nat.reduceEqDiff, Nat.reduceAdd, reduceCtorEq, Int.reduceLE, Int.reduceLT, Int.reduceEq, Int.reduceNeg, Int.reduceToNat, Int.reducePow, Int.reduceMod, Int.reduceDiv, Int.reduceSub, Int.reduceAdd, Int.reduceMul, Nat.reduceMul, Nat.reduceSub, Nat.reducePow, exB, resC_ptr, res_cell, nilb, nilf, faddr_p, c_ref05_Add, na, nn]) | (simp (maxSteps := 1000000) (disch := first | with_reducible assumption | omega) only [dxB]) | (simp only [kI_d, kG_dt, kG_df]; split) | (simp only [kI_v, kG_vt, kG_vf]; split))
    all_goals rfl
  · rw [W]
    rw [decide_eq_false h1] at na
    rw [decide_eq_true h2] at nb
    repeat' (first | (simp (maxSteps := 1000000) only [evB, if_true, if_false, ne_eq, Nat.reduceEqDiff, Nat.reduceAdd, reduceCtorEq, Int.reduceLE, Int.reduceLT, Int.reduceEq, Int.reduceNeg, Int.reduceToNat, Int.reducePow, Int.reduceMod, Int.reduceDiv, Int.reduceSub, Int.reduceAdd, Int.reduceMul, Nat.reduceMul, Nat.reduceSub, Nat.reducePow, exB, resC_ptr, res_cell, nilb, nilf, faddr_p, c_ref05_Add, na, nb, nn]) | (simp (maxSteps := 1000000) (disch := first | with_reducible assumption | omega) only [dxB]) | (simp only [kI_d, kG_dt, kG_df]; split) | (simp only [kI_v, kG_vt, kG_vf]; split))
    all_goals rfl
  · rw [W]
    rw [decide_eq_false (by omega)] at na nb
    rw [decide_eq_true h1] at ia
    rw [decide_eq_true h2] at ib
    subst h3
    repeat' (first | (simp (maxSteps := 1000000) only [evB, if_true, if_false, ne_eq, Nat.reduceEqDiff, Nat.reduceAdd, reduceCtorEq, Int.reduceLE, Int.reduceLT, Int.reduceEq, Int.reduceNeg, Int.reduceToNat, Int.reducePow, Int.reduceMod, Int.reduceDiv, Int.reduceSub, Int.reduceAdd, Int.reduceMul, Nat.reduceMul, Nat.reduceSub, Nat.reducePow, exB, resC_ptr, res_cell, nilb, nilf, faddr_p, c_ref05_Add, na, nb, ia, ib]) | (simp (maxSteps := 1000000) (disch := first | with_reducible assumption | omega) only [dxB]) | (simp only [kI_d, kG_dt, kG_df]; split) | (simp only [kI_v, kG_vt, kG_vf]; split))
    all_goals rfl
  · rw [W]
    rw [decide_eq_false (by omega)] at na nb
    rw [decide_eq_true h1] at ia
    rw [decide_eq_true h2] at ib
    have hab : ¬ (a : Int) = (b : Int) := by omega
    repeat' (first | (simp (maxSteps := 1000000) only [evB, if_true, if_false, ne_eq, Nat.reduceEqDiff, Nat.reduceAdd, reduceCtorEq, Int.reduceLE, Int.reduceLT, Int.reduceEq, Int.reduceNeg, Int.reduceToNat, Int.reducePow, Int.reduceMod, Int.reduceDiv, Int.reduceSub, Int.reduceAdd, Int.reduceMul, Nat.reduceMul, Nat.reduceSub, Nat.reducePow, exB, resC_ptr, res_cell, nilb, nilf, faddr_p, c_ref05_Add, na, nb, ia, ib, hab, nn]) | (simp (maxSteps := 1000000) (disch := first | with_reducible assumption | omega) only [dxB]) | (simp only [kI_d, kG_dt, kG_df]; split) | (simp only [kI_v, kG_vt, kG_vf]; split))
    all_goals rfl
  · rw [W]
    rw [decide_eq_false (by omega)] at na nb
    rw [decide_eq_true h1] at ia
    rw [decide_eq_false h2] at ib
    repeat' (first | (simp (maxSteps := 1000000) only [evB, if_true, if_false, ne_eq, Nat.reduceEqDiff, Nat.reduceAdd, reduceCtorEq, Int.reduceLE, Int.reduceLT, Int.reduceEq, Int.reduceNeg, Int.reduceToNat, Int.reducePow, Int.reduceMod, Int.reduceDiv, Int.reduceSub, Int.reduceAdd, Int.reduceMul, Nat.reduceMul, Nat.reduceSub, Nat.reducePow, exB, resC_ptr, res_cell, nilb, nilf, faddr_p, c_ref05_Add, na, nb, ia, ib]) | (simp (maxSteps := 1000000) (disch := first | with_reducible assumption | omega) only [dxB]) | (simp only [kI_d, kG_dt, kG_df]; split) | (simp only [kI_v, kG_vt, kG_vf]; split))
    all_goals rfl
  · rw [W]
    rw [decide_eq_false (by omega)] at na nb
    rw [decide_eq_false h1] at ia
    rw [decide_eq_true h3] at ib
    repeat' (first | (simp (maxSteps := 1000000) only [evB, if_true, if_false, ne_eq, Nat.reduceEqDiff, Nat.reduceAdd, reduceCtorEq, Int.reduceLE, Int.reduceLT, Int.reduceEq, Int.reduceNeg, Int.reduceToNat, Int.reducePow, Int.reduceMod, Int.reduceDiv, Int.reduceSub, Int.reduceAdd, Int.reduceMul, Nat.reduceMul, Nat.reduceSub, Nat.reducePow, exB, resC_ptr, res_cell, nilb, nilf, faddr_p, c_ref05_Add, na, nb, ia, ib]) | (simp (maxSteps := 1000000) (disch := first | with_reducible assumption | omega) only [dxB]) | (simp only [kI_d, kG_dt, kG_df]; split) | (simp only [kI_v, kG_vt, kG_vf]; split))
    all_goals rfl
  · rw [W]
    have q1 := fin_iff.1 h1
    have q2 := fin_iff.1 h2
    rw [decide_eq_false (by omega)] at na nb ia ib
    rw [decide_eq_true h3] at za
    subst h4
    repeat' (first | (simp (maxSteps := 1000000) only [evB, if_true, if_false, ne_eq, Nat.reduceEqDiff, Nat.reduceAdd, reduceCtorEq, Int.reduceLE, Int.reduceLT, Int.reduceEq, Int.reduceNeg, Int.reduceToNat, Int.reducePow, Int.reduceMod, Int.reduceDiv, Int.reduceSub, Int.reduceAdd, Int.reduceMul, Nat.reduceMul, Nat.reduceSub, Nat.reducePow, exB, resC_ptr, res_cell, nilb, nilf, faddr_p, c_ref05_Add, na, nb, ia, ib, za]) | (simp (maxSteps := 1000000) (disch := first | with_reducible assumption | omega) only [dxB]) | (simp only [kI_d, kG_dt, kG_df]; split) | (simp only [kI_v, kG_vt, kG_vf]; split))
    all_goals rfl
  · rw [W]
    have q1 := fin_iff.1 h1
    have q2 := fin_iff.1 h2
    rw [decide_eq_false (by omega)] at na nb ia ib
    obtain ⟨z1, v1⟩ := ref03_Value (G := G) (T := T) hA hB hC hD hF F (sg_64 ha) h1
    obtain ⟨z2, v2⟩ := ref03_Value (G := G) (T := T) hA hB hC hD hF F (sg_64 hb) h2
    rw [← vl_val h1] at v1
    rw [← vl_val h2] at v2
    have b1 := Bd_vl F a
    have b2 := Bd_vl F b
    obtain ⟨z3, s1⟩ := ref02_Add (G := G) (T := T) hB hC (z := z1) (y := z2) (b1.mono (by decide)) (b2.mono (by decide))
    obtain ⟨g1, g2⟩ := ref_sum (G := G) (T := T) hB hC hD hE hU F hm (z := z3) (Nz_add (Nz_vl F a) (Nz_vl F b)) ((Bd_add b1 b2).mono (by decide))
    generalize sumW F md (addD (F.vl a) (F.vl b)) = S at *
    generalize addD (F.vl a) (F.vl b) = s at *
    generalize F.vl a = va at *
    generalize F.vl b = vb at *
    have hza : (F.cls a = 1 ∧ ¬ (a : Int) = (b : Int)) ∨ ¬ F.cls a = 1 := by omega
    clear b1 b2 W ra rb q1 q2 h3 nn
    simp only [DyA, A3] at *
    rcases hza with ⟨k1, k2⟩ | k1
    · rw [decide_eq_true k1] at za
      rcases g2 with ⟨g3, g4, g5⟩ | ⟨g3, g4⟩
      · rw [g5, cast0]
        repeat' (first | (simp (maxSteps := 1000000) only [evB, if_true, if_false, ne_eq, Nat.reduceEqDiff, Nat.reduceAdd, reduceCtorEq, Int.reduceLE, Int.reduceLT, Int.reduceEq, Int.reduceNeg, Int.reduceToNat, Int.reducePow, Int.reduceMod, Int.reduceDiv, Int.reduceSub, Int.reduceAdd, Int.reduceMul, Nat.reduceMul, Nat.reduceSub, Nat.reducePow, exB, resC_ptr, res_cell, nilb, nilf, faddr_p, c_ref05_Add, na, nb, ia, ib, za, k2, v1, v2, s1, g1, g3, g4]) | (simp (maxSteps := 1000000) (disch := first | with_reducible assumption | omega) only [dxB]) | (simp only [kI_d, kG_dt, kG_df]; split) | (simp only [kI_v, kG_vt, kG_vf]; split))
        all_goals try rfl
      · repeat' (first | (simp (maxSteps := 1000000) only [evB, if_true, if_false, ne_eq, Nat.reduceEqDiff, Nat.reduceAdd, reduceCtorEq, Int.reduceLE, Int.reduceLT, Int.reduceEq, Int.reduceNeg, Int.reduceToNat, Int.reducePow, Int.reduceMod, Int.reduceDiv, Int.reduceSub, Int.reduceAdd, Int.reduceMul, Nat.reduceMul, Nat.reduceSub, Nat.reducePow, exB, resC_ptr, res_cell, nilb, nilf, faddr_p, c_ref05_Add, na, nb, ia, ib, za, k2, v1, v2, s1, g1, g3, g4]) | (simp (maxSteps := 1000000) (disch := first | with_reducible assumption | omega) only [dxB]) | (simp only [kI_d, kG_dt, kG_df]; split) | (simp only [kI_v, kG_vt, kG_vf]; split))
        all_goals try rfl
    · rw [decide_eq_false k1] at za
      rcases g2 with ⟨g3, g4, g5⟩ | ⟨g3, g4⟩
      · rw [g5, cast0]
        repeat' (first | (simp (maxSteps := 1000000) only [evB, if_true, if_false, ne_eq, Nat.reduceEqDiff, Nat.reduceAdd, reduceCtorEq, Int.reduceLE, Int.reduceLT, Int.reduceEq, Int.reduceNeg, Int.reduceToNat, Int.reducePow, Int.reduceMod, Int.reduceDiv, Int.reduceSub, Int.reduceAdd, Int.reduceMul, Nat.reduceMul, Nat.reduceSub, Nat.reducePow, exB, resC_ptr, res_cell, nilb, nilf, faddr_p, c_ref05_Add, na, nb, ia, ib, za, v1, v2, s1, g1, g3, g4]) | (simp (maxSteps := 1000000) (disch := first | with_reducible assumption | omega) only [dxB]) | (simp only [kI_d, kG_dt, kG_df]; split) | (simp only [kI_v, kG_vt, kG_vf]; split))
        all_goals try rfl
      · repeat' (first | (simp (maxSteps := 1000000) only [evB, if_true, if_false, ne_eq, Nat.reduceEqDiff, Nat.reduceAdd, reduceCtorEq, Int.reduceLE, Int.reduceLT, Int.reduceEq, Int.reduceNeg, Int.reduceToNat, Int.reducePow, Int.reduceMod, Int.reduceDiv, Int.reduceSub, Int.reduceAdd, Int.reduceMul, Nat.reduceMul, Nat.reduceSub, Nat.reducePow, exB, resC_ptr, res_cell, nilb, nilf, faddr_p, c_ref05_Add, na, nb, ia, ib, za, v1, v2, s1, g1, g3, g4]) | (simp (maxSteps := 1000000) (disch := first | with_reducible assumption | omega) only [dxB]) | (simp only [kI_d, kG_dt, kG_df]; split) | (simp only [kI_v, kG_vt, kG_vf]; split))
        all_goals try rfl

end Go.Cv

/-
  The document's products, quotients, roots of words.
-/
namespace Go.Cv
variable {G : Nat → Option (List AV)} {T : Tbl} {g : Nat}

end Go.Cv

/-
  The program's words, taken apart for a sum, a product, a quotient.
-/
namespace Go.Cv
variable {G : Nat → Option (List AV)} {T : Tbl} {g : Nat}

theorem rp_0 (h : Mem) (x : AV) (l : List AV) : rdAt G h 1 (.iptr (x :: l) 0) = some [x] := by simp [rdAt]
theorem rp_1 (h : Mem) (x y : AV) (l : List AV) : rdAt G h 1 (.iptr (x :: y :: l) 1) = some [y] := by simp [rdAt]
theorem rp_2 (h : Mem) (x y z : AV) (l : List AV) : rdAt G h 1 (.iptr (x :: y :: z :: l) 2) = some [z] := by simp [rdAt]
theorem wr_1 : IntKind.i64.wrap (0 + 1) = 1 := rfl
theorem wr_2 : IntKind.i64.wrap (1 + 1) = 2 := rfl
theorem wr1 : IntKind.i64.wrap 1 = 1 := rfl
theorem wr2 : IntKind.i64.wrap 2 = 2 := rfl
end Go.Cv

/-
  The program's sums of parts.
-/
namespace Go.Cv
variable {G : Nat → Option (List AV)} {T : Tbl} {g : Nat}

section
variable (a1 a2 a3 a4 a5 b1 b2 b3 b4 b5 c1 c2 c3 c4 c5 : AV) (k : IntKind)
end

end Go.Cv

/-
  The program's sums, differences, products, quotients, roots of words.
-/
namespace Go.Cv
variable {G : Nat → Option (List AV)} {T : Tbl} {g : Nat}

end Go.Cv

/-
  The program's quotients, roots, fused products of words.
-/
namespace Go.Cv
variable {G : Nat → Option (List AV)} {T : Tbl} {g : Nat}

end Go.Cv

/-
  The program's fused product and sum of words.
-/
namespace Go.Cv
variable {G : Nat → Option (List AV)} {T : Tbl} {g : Nat}

end Go.Cv

/-
  The document's fused product and sum; what is refused ahead of all else.
-/
namespace Go.Cv
variable {G : Nat → Option (List AV)} {T : Tbl} {g : Nat}

theorem op5_loop (e : Env) (h : Heap) : evL G T c_ref05_Opens_l1 e h = kS G T (evL G T c_ref05_Opens_b1 (keepE [0, 2, 7] e) h) c_ref05_Opens_l1 := s_loopc G T rfl e h
theorem ref05_Opens_no (hD : HasD g T) (hU : HasG g T) {f md : Int} (h : ¬ (f = 1 ∨ f = 2)) {v : AV} : run G T 162 [.int .u8 f, .int .u8 md, v] = some (.int .i64 4) := by
  rw [run_k G T hU.ref05_Opens]
  have h1 := ref03_Is (G := G) (T := T) hD (f := f)
  rw [decide_eq_false h] at h1
  repeat' (first | (simp (maxSteps := 1000000) only [evB, if_true, if_false, ne_eq, Nat.reduceEqDiff, Nat.reduceAdd, reduceCtorEq, Int.reduceLE, Int.reduceLT, Int.reduceEq, Int.reduceNeg, Int.reduceToNat, Int.reducePow, Int.reduceMod, Int.reduceDiv, Int.reduceSub, Int.reduceAdd, Int.reduceMul, Nat.reduceMul, Nat.reduceSub, Nat.reducePow, exB, resC_ptr, res_cell, nilb, nilf, faddr_p, c_ref05_Opens, h1]) | (simp (maxSteps := 1000000) (disch := first | with_reducible assumption | omega) only [dxB]) | (simp only [kI_d, kG_dt, kG_df]; split) | (simp only [kI_v, kG_vt, kG_vf]; split))
theorem ref05_Opens_mode (hD : HasD g T) (hE : HasE g T) (hU : HasG g T) (F : Fm) {md : Int} (h : ¬ (1 ≤ md ∧ md ≤ 5)) {v : AV} : run G T 162 [.int .u8 F.u, .int .u8 md, v] = some (.int .i64 5) := by
  rw [run_k G T hU.ref05_Opens]
  have h1 := ref03_IsF (G := G) (T := T) hD F
  have h2 := ref04_Is (G := G) (T := T) hE (m := md)
  rw [decide_eq_false h] at h2
  repeat' (first | (simp (maxSteps := 1000000) only [evB, if_true, if_false, ne_eq, Nat.reduceEqDiff, Nat.reduceAdd, reduceCtorEq, Int.reduceLE, Int.reduceLT, Int.reduceEq, Int.reduceNeg, Int.reduceToNat, Int.reducePow, Int.reduceMod, Int.reduceDiv, Int.reduceSub, Int.reduceAdd, Int.reduceMul, Nat.reduceMul, Nat.reduceSub, Nat.reducePow, exB, resC_ptr, res_cell, nilb, nilf, faddr_p, c_ref05_Opens, h1, h2]) | (simp (maxSteps := 1000000) (disch := first | with_reducible assumption | omega) only [dxB]) | (simp only [kI_d, kG_dt, kG_df]; split) | (simp only [kI_v, kG_vt, kG_vf]; split))
theorem ref05_Opens0 (hD : HasD g T) (hE : HasE g T) (hU : HasG g T) (F : Fm) {md : Int} (hm : 1 ≤ md ∧ md ≤ 5) : run G T 162 [.int .u8 F.u, .int .u8 md, .nil] = some (.int .i64 0) := by
  rw [run_k G T hU.ref05_Opens]
  have h1 := ref03_IsF (G := G) (T := T) hD F
  have h2 := ref04_Is (G := G) (T := T) hE (m := md)
  rw [decide_eq_true hm] at h2
  repeat' (first | (simp (maxSteps := 1000000) only [evB, if_true, if_false, ne_eq, Nat.reduceEqDiff, Nat.reduceAdd, reduceCtorEq, Int.reduceLE, Int.reduceLT, Int.reduceEq, Int.reduceNeg, Int.reduceToNat, Int.reducePow, Int.reduceMod, Int.reduceDiv, Int.reduceSub, Int.reduceAdd, Int.reduceMul, Nat.reduceMul, Nat.reduceSub, Nat.reducePow, exB, resC_ptr, res_cell, nilb, nilf, faddr_p, c_ref05_Opens, h1, h2, op5_loop, c_ref05_Opens_b1]) | (simp (maxSteps := 1000000) (disch := first | with_reducible assumption | omega) only [dxB]) | (simp only [kI_d, kG_dt, kG_df]; split) | (simp only [kI_v, kG_vt, kG_vf]; split))
section
variable {f md a b c e : Int}
end
end Go.Cv

/-
  The document's fused product and sum.
-/
namespace Go.Cv
variable {G : Nat → Option (List AV)} {T : Tbl} {g : Nat}

end Go.Cv

/-
  The program's comparison of dyadic numbers.
-/
namespace Go.Cv
variable {G : Nat → Option (List AV)} {T : Tbl} {g : Nat}

end Go.Cv

/-
  The program's moduli.
-/
namespace Go.Cv
variable {G : Nat → Option (List AV)} {T : Tbl} {g : Nat}

def zA (a b : Nat) : AV := .agg [.int .u64 (a : Int), .int .u64 (b : Int)]
/-- What a number is as a whole. -/
def zcl (c c' : Int) : Int := if c = 4 ∨ c' = 4 then 3 else if c = 5 ∨ c' = 5 then 4 else if c = 1 ∧ c' = 1 then 1 else 2
def sqD (F : Fm) (a b : Nat) : Dy := addD (mulD (F.vl a) (F.vl a)) (mulD (F.vl b) (F.vl b))

theorem pair_Class (hD : HasD g T) (hU : HasG g T) (F : Fm) {a b : Nat} (ha : a < 2 * F.sg) (hb : b < 2 * F.sg) : run G T 189 [.int .u8 F.u, zA a b] = some (.tup [.int .u8 (zcl (F.cls a) (F.cls b)), .int .i64 0]) := by
  rw [run_k G T hU.pair_Class]
  have h1 := word_Class (G := G) (T := T) hD hU F ha
  have h2 := word_Class (G := G) (T := T) hD hU F hb
  unfold zcl
  generalize F.cls a = c at *
  generalize F.cls b = d at *
  simp only [zA] at *
  by_cases q4 : c = 4 ∨ d = 4
  · rw [if_pos q4]
    by_cases k : c = 4
    · repeat' (first | (simp (maxSteps := 1000000) only [evB, if_true, if_false, ne_eq, Nat.reduceEqDiff, Nat.reduceAdd, reduceCtorEq, Int.reduceLE, Int.reduceLT, Int.reduceEq, Int.reduceNeg, Int.reduceToNat, Int.reducePow, Int.reduceMod, Int.reduceDiv, Int.reduceSub, Int.reduceAdd, Int.reduceMul, Nat.reduceMul, Nat.reduceSub, Nat.reducePow, exB, resC_ptr, res_cell, nilb, nilf, faddr_p, c_pair_Class, h1, h2, k]) | (simp (maxSteps := 1000000) (disch := first | with_reducible assumption | omega) only [dxB]) | (simp only [kI_d, kG_dt, kG_df]; split) | (simp only [kI_v, kG_vt, kG_vf]; split))
    · have k2 : d = 4 := by omega
      repeat' (first | (simp (maxSteps := 1000000) only [evB, if_true, if_false, ne_eq, Nat.reduceEqDiff, Nat.reduceAdd, reduceCtorEq, Int.reduceLE, Int.reduceLT, Int.reduceEq, Int.reduceNeg, Int.reduceToNat, Int.reducePow, Int.reduceMod, Int.reduceDiv, Int.reduceSub, Int.reduceAdd, Int.reduceMul, Nat.reduceMul, Nat.reduceSub, Nat.reducePow, exB, resC_ptr, res_cell, nilb, nilf, faddr_p, c_pair_Class, h1, h2, k, k2]) | (simp (maxSteps := 1000000) (disch := first | with_reducible assumption | omega) only [dxB]) | (simp only [kI_d, kG_dt, kG_df]; split) | (simp only [kI_v, kG_vt, kG_vf]; split))
  · rw [if_neg q4]
    have k1 : ¬ c = 4 := by omega
    have k2 : ¬ d = 4 := by omega
    by_cases q5 : c = 5 ∨ d = 5
    · rw [if_pos q5]
      by_cases k : c = 5
      · subst k; repeat' (first | (simp (maxSteps := 1000000) only [evB, if_true, if_false, ne_eq, Nat.reduceEqDiff, Nat.reduceAdd, reduceCtorEq, Int.reduceLE, Int.reduceLT, Int.reduceEq, Int.reduceNeg, Int.reduceToNat, Int.reducePow, Int.reduceMod, Int.reduceDiv, Int.reduceSub, Int.reduceAdd, Int.reduceMul, Nat.reduceMul, Nat.reduceSub, Nat.reducePow, exB, resC_ptr, res_cell, nilb, nilf, faddr_p, c_pair_Class, h1, h2, k2]) | (simp (maxSteps := 1000000) (disch := first | with_reducible assumption | omega) only [dxB]) | (simp only [kI_d, kG_dt, kG_df]; split) | (simp only [kI_v, kG_vt, kG_vf]; split))
      · have k3 : d = 5 := by omega
        subst k3; repeat' (first | (simp (maxSteps := 1000000) only [evB, if_true, if_false, ne_eq, Nat.reduceEqDiff, Nat.reduceAdd, reduceCtorEq, Int.reduceLE, Int.reduceLT, Int.reduceEq, Int.reduceNeg, Int.reduceToNat, Int.reducePow, Int.reduceMod, Int.reduceDiv, Int.reduceSub, Int.reduceAdd, Int.reduceMul, Nat.reduceMul, Nat.reduceSub, Nat.reducePow, exB, resC_ptr, res_cell, nilb, nilf, faddr_p, c_pair_Class, h1, h2, k, k1]) | (simp (maxSteps := 1000000) (disch := first | with_reducible assumption | omega) only [dxB]) | (simp only [kI_d, kG_dt, kG_df]; split) | (simp only [kI_v, kG_vt, kG_vf]; split))
    · rw [if_neg q5]
      have k3 : ¬ c = 5 := by omega
      have k4 : ¬ d = 5 := by omega
      by_cases q1 : c = 1 ∧ d = 1
      · rw [if_pos q1]
        obtain ⟨rfl, rfl⟩ := q1
        repeat' (first | (simp (maxSteps := 1000000) only [evB, if_true, if_false, ne_eq, Nat.reduceEqDiff, Nat.reduceAdd, reduceCtorEq, Int.reduceLE, Int.reduceLT, Int.reduceEq, Int.reduceNeg, Int.reduceToNat, Int.reducePow, Int.reduceMod, Int.reduceDiv, Int.reduceSub, Int.reduceAdd, Int.reduceMul, Nat.reduceMul, Nat.reduceSub, Nat.reducePow, exB, resC_ptr, res_cell, nilb, nilf, faddr_p, c_pair_Class, h1, h2]) | (simp (maxSteps := 1000000) (disch := first | with_reducible assumption | omega) only [dxB]) | (simp only [kI_d, kG_dt, kG_df]; split) | (simp only [kI_v, kG_vt, kG_vf]; split))
      · rw [if_neg q1]
        by_cases k5 : c = 1
        · have k6 : ¬ d = 1 := fun h => q1 ⟨k5, h⟩
          subst k5; repeat' (first | (simp (maxSteps := 1000000) only [evB, if_true, if_false, ne_eq, Nat.reduceEqDiff, Nat.reduceAdd, reduceCtorEq, Int.reduceLE, Int.reduceLT, Int.reduceEq, Int.reduceNeg, Int.reduceToNat, Int.reducePow, Int.reduceMod, Int.reduceDiv, Int.reduceSub, Int.reduceAdd, Int.reduceMul, Nat.reduceMul, Nat.reduceSub, Nat.reducePow, exB, resC_ptr, res_cell, nilb, nilf, faddr_p, c_pair_Class, h1, h2, k2, k4, k6]) | (simp (maxSteps := 1000000) (disch := first | with_reducible assumption | omega) only [dxB]) | (simp only [kI_d, kG_dt, kG_df]; split) | (simp only [kI_v, kG_vt, kG_vf]; split))
        · repeat' (first | (simp (maxSteps := 1000000) only [evB, if_true, if_false, ne_eq, Nat.reduceEqDiff, Nat.reduceAdd, reduceCtorEq, Int.reduceLE, Int.reduceLT, Int.reduceEq, Int.reduceNeg, Int.reduceToNat, Int.reducePow, Int.reduceMod, Int.reduceDiv, Int.reduceSub, Int.reduceAdd, Int.reduceMul, Nat.reduceMul, Nat.reduceSub, Nat.reducePow, exB, resC_ptr, res_cell, nilb, nilf, faddr_p, c_pair_Class, h1, h2, k1, k2, k3, k4, k5]) | (simp (maxSteps := 1000000) (disch := first | with_reducible assumption | omega) only [dxB]) | (simp only [kI_d, kG_dt, kG_df]; split) | (simp only [kI_v, kG_vt, kG_vf]; split))
theorem Bd_sq (F : Fm) (a b : Nat) : Bd (sqD F a b) 65537 := (Bd_add (Bd_mul (Bd_vl F a) (Bd_vl F a)) (Bd_mul (Bd_vl F b) (Bd_vl F b))).mono (by decide)
theorem Nz_sq (F : Fm) (a b : Nat) : Nz (sqD F a b) := Nz_add (Nz_mul _ _) (Nz_mul _ _)
theorem mulD_self (d : Dy) : (mulD d d).n = false := by
  unfold mulD
  rw [show (d.n != d.n) = false by cases d.n <;> rfl]
  unfold mkD; split <;> rfl
theorem sq_pos (F : Fm) (a b : Nat) : (sqD F a b).n = false := by
  unfold sqD
  have h1 := mulD_self (F.vl a)
  have h2 := mulD_self (F.vl b)
  generalize mulD (F.vl a) (F.vl a) = x at *
  generalize mulD (F.vl b) (F.vl b) = y at *
  unfold addD
  rw [h1, h2]
  repeat' split
  all_goals first | assumption | (unfold mkD; split <;> rfl)

theorem modulus_square (hA : HasA g T) (hG : Glob G g) (hC : HasC g T) (hD : HasD g T) (hU : HasG g T) (F : Fm) {a b : Nat} (ha : a < 2 * F.sg) (hb : b < 2 * F.sg) :
    ∃ z, run G T 191 [.int .u8 F.u, zA a b] = some (DyA z (sqD F a b)) := by
  obtain ⟨z1, k1, v1⟩ := word_Value (G := G) (T := T) hA hG hC hD hU F ha
  obtain ⟨z2, k2, v2⟩ := word_Value (G := G) (T := T) hA hG hC hD hU F hb
  have b1 := Bd_vl F a
  have b2 := Bd_vl F b
  have y1 := mayD_nzb (Nz_vl F a) (b1.mono (by decide))
  have y2 := mayD_nzb (Nz_vl F b) (b2.mono (by decide))
  obtain ⟨z3, m1⟩ := dyad_Mul (G := G) (T := T) hA hG hC hU (z := z1) (y := z1) (b1.mono (by decide)) (b1.mono (by decide)) y1 y1
  obtain ⟨z4, m2⟩ := dyad_Mul (G := G) (T := T) hA hG hC hU (z := z2) (y := z2) (b2.mono (by decide)) (b2.mono (by decide)) y2 y2
  have b3 := Bd_mul b1 b1
  have b4 := Bd_mul b2 b2
  obtain ⟨z5, s1⟩ := dyad_Add (G := G) (T := T) hA hG hC hU (z := z3) (y := z4) b3 b4 (mayD_nzb (Nz_mul _ _) (b3.mono (by decide))) (mayD_nzb (Nz_mul _ _) (b4.mono (by decide)))
  refine ⟨z5, ?_⟩
  rw [run_k G T hU.modulus_square]
  unfold sqD
  generalize addD (mulD (F.vl a) (F.vl a)) (mulD (F.vl b) (F.vl b)) = d at *
  generalize mulD (F.vl a) (F.vl a) = p at *
  generalize mulD (F.vl b) (F.vl b) = q at *
  generalize F.vl a = va at *
  generalize F.vl b = vb at *
  clear b1 b2 b3 b4 y1 y2
  simp only [zA, DyA, A3] at *
  repeat' (first | (simp (maxSteps := 1000000) only [evB, if_true, if_false, ne_eq, Nat.reduceEqDiff, Nat.reduceAdd, reduceCtorEq, Int.reduceLE, Int.reduceLT, Int.reduceEq, Int.reduceNeg, Int.reduceToNat, Int.reducePow, Int.reduceMod, Int.reduceDiv, Int.reduceSub, Int.reduceAdd, Int.reduceMul, Nat.reduceMul, Nat.reduceSub, Nat.reducePow, exB, resC_ptr, res_cell, nilb, nilf, faddr_p, c_modulus_square, v1, v2, m1, m2, s1]) | (simp (maxSteps := 1000000) (disch := first | with_reducible assumption | omega) only [dxB]) | (simp only [kI_d, kG_dt, kG_df]; split) | (simp only [kI_v, kG_vt, kG_vf]; split))

def toldW (F : Fm) (c : Int) (X : Nat × Nat) : Nat × Nat := if c = 3 then (F.inf false, 0) else if c = 4 then (F.nan, 0) else X
theorem modulus_told (hA : HasA g T) (hG : Glob G g) (hC : HasC g T) (hD : HasD g T) (hE : HasE g T) (hU : HasG g T) (F : Fm) {md : Int} (hm : 1 ≤ md ∧ md ≤ 5) {a b : Nat} (ha : a < 2 * F.sg) (hb : b < 2 * F.sg) {k : Nat} {X : Nat × Nat}
    (hk : ∀ z, run G T k [.int .u8 F.u, .int .u8 md, DyA z (sqD F a b)] = some (.tup [.int .u64 (X.1 : Int), .int .u8 (X.2 : Int), .int .i64 0])) :
    run G T 186 [.int .u8 F.u, .int .u8 md, zA a b, .fn k []] = some (.tup [.int .u64 ((toldW F (zcl (F.cls a) (F.cls b)) X).1 : Int), .int .u8 ((toldW F (zcl (F.cls a) (F.cls b)) X).2 : Int), .int .i64 0]) := by
  rw [run_k G T hU.modulus_told]
  have o1 := round_Over (G := G) (T := T) hD hE F hm (neg := false)
  have c1 := pair_Class (G := G) (T := T) hD hU F ha hb
  have i1 := word_Inf (G := G) (T := T) hD F (n := false)
  have n1 := word_None (G := G) (T := T) hU hD F
  obtain ⟨z, s1⟩ := modulus_square (G := G) (T := T) hA hG hC hD hU F ha hb
  have hk := hk z
  unfold toldW
  generalize zcl (F.cls a) (F.cls b) = c at *
  generalize sqD F a b = d at *
  simp only [zA, DyA, A3] at *
  by_cases k3 : c = 3
  · rw [if_pos k3]
    repeat' (first | (simp (maxSteps := 1000000) only [evB, if_true, if_false, ne_eq, Nat.reduceEqDiff, Nat.reduceAdd, reduceCtorEq, Int.reduceLE, Int.reduceLT, Int.reduceEq, Int.reduceNeg, Int.reduceToNat, Int.reducePow, Int.reduceMod, Int.reduceDiv, Int.reduceSub, Int.reduceAdd, Int.reduceMul, Nat.reduceMul, Nat.reduceSub, Nat.reducePow, exB, resC_ptr, res_cell, nilb, nilf, faddr_p, c_modulus_told, o1, c1, k3, i1]) | (simp (maxSteps := 1000000) (disch := first | with_reducible assumption | omega) only [dxB]) | (simp only [kI_d, kG_dt, kG_df]; split) | (simp only [kI_v, kG_vt, kG_vf]; split))
    all_goals rfl
  · rw [if_neg k3]
    by_cases k4 : c = 4
    · rw [if_pos k4]
      subst k4
      repeat' (first | (simp (maxSteps := 1000000) only [evB, if_true, if_false, ne_eq, Nat.reduceEqDiff, Nat.reduceAdd, reduceCtorEq, Int.reduceLE, Int.reduceLT, Int.reduceEq, Int.reduceNeg, Int.reduceToNat, Int.reducePow, Int.reduceMod, Int.reduceDiv, Int.reduceSub, Int.reduceAdd, Int.reduceMul, Nat.reduceMul, Nat.reduceSub, Nat.reducePow, exB, resC_ptr, res_cell, nilb, nilf, faddr_p, c_modulus_told, o1, c1, n1]) | (simp (maxSteps := 1000000) (disch := first | with_reducible assumption | omega) only [dxB]) | (simp only [kI_d, kG_dt, kG_df]; split) | (simp only [kI_v, kG_vt, kG_vf]; split))
      all_goals rfl
    · rw [if_neg k4]
      repeat' (first | (simp (maxSteps := 1000000) only [evB, if_true, if_false, ne_eq, Nat.reduceEqDiff, Nat.reduceAdd, reduceCtorEq, Int.reduceLE, Int.reduceLT, Int.reduceEq, Int.reduceNeg, Int.reduceToNat, Int.reducePow, Int.reduceMod, Int.reduceDiv, Int.reduceSub, Int.reduceAdd, Int.reduceMul, Nat.reduceMul, Nat.reduceSub, Nat.reducePow, exB, resC_ptr, res_cell, nilb, nilf, faddr_p, c_modulus_told, o1, c1, k3, k4, s1, hk]) | (simp (maxSteps := 1000000) (disch := first | with_reducible assumption | omega) only [dxB]) | (simp only [kI_d, kG_dt, kG_df]; split) | (simp only [kI_v, kG_vt, kG_vf]; split))
      all_goals try rfl
/-- A root, of nought too. -/
noncomputable def rtW (F : Fm) (md : Int) (d : Dy) : Nat × Nat := if d.m = 0 then (0, 0) else rootW F md d
noncomputable def absZ (F : Fm) (md : Int) (a b : Nat) : Nat × Nat := toldW F (zcl (F.cls a) (F.cls b)) (rtW F md (sqD F a b))

theorem modulus_Abs (hA : HasA g T) (hG : Glob G g) (hC : HasC g T) (hD : HasD g T) (hE : HasE g T) (hU : HasG g T) (F : Fm) {md : Int} (hm : 1 ≤ md ∧ md ≤ 5) {a b : Nat} (ha : a < 2 * F.sg) (hb : b < 2 * F.sg) :
    run G T 169 [.int .u8 F.u, .int .u8 md, zA a b] = some (.tup [.int .u64 ((absZ F md a b).1 : Int), .int .u8 ((absZ F md a b).2 : Int), .int .i64 0]) := by
  rw [run_k G T hU.modulus_Abs]
  have hd := mayD_nzb (Nz_sq F a b) ((Bd_sq F a b).mono (show 65537 ≤ 131072 by decide))
  have h1 := modulus_told (G := G) (T := T) hA hG hC hD hE hU F hm ha hb (k := 18) (X := rtW F md (sqD F a b)) (fun z => by
    unfold rtW
    by_cases h0 : (sqD F a b).m = 0
    · rw [if_pos h0]; exact round_Root_zero (G := G) (T := T) hA hC hE F hm hd h0
    · rw [if_neg h0]; exact round_Root (G := G) (T := T) hA hC hG hD hE F hm hd h0 (sq_pos F a b))
  unfold absZ
  generalize toldW F (zcl (F.cls a) (F.cls b)) (rtW F md (sqD F a b)) = S at *
  simp only [zA] at *
  repeat' (first | (simp (maxSteps := 1000000) only [evB, if_true, if_false, ne_eq, Nat.reduceEqDiff, Nat.reduceAdd, reduceCtorEq, Int.reduceLE, Int.reduceLT, Int.reduceEq, Int.reduceNeg, Int.reduceToNat, Int.reducePow, Int.reduceMod, Int.reduceDiv, Int.reduceSub, Int.reduceAdd, Int.reduceMul, Nat.reduceMul, Nat.reduceSub, Nat.reducePow, exB, resC_ptr, res_cell, nilb, nilf, faddr_p, c_modulus_Abs, h1]) | (simp (maxSteps := 1000000) (disch := first | with_reducible assumption | omega) only [dxB]) | (simp only [kI_d, kG_dt, kG_df]; split) | (simp only [kI_v, kG_vt, kG_vf]; split))
  all_goals try rfl
end Go.Cv

/-
  The document's moduli; what is refused.
-/
namespace Go.Cv
variable {G : Nat → Option (List AV)} {T : Tbl} {g : Nat}

theorem gd_loop (e : Env) (h : Heap) : evL G T c_ref10_Good_l1 e h = kS G T (evL G T c_ref10_Good_b1 (keepE [0, 1, 5] e) h) c_ref10_Good_l1 := s_loopc G T rfl e h
section
variable (x y u v : AV) (k : IntKind)
theorem i2_20 : iaddrV 2 (.imm 2 [x, y, u, v]) (.int k 0) = some (.iptr [x, y, u, v] 0) := rfl
theorem i2_21 : iaddrV 2 (.imm 2 [x, y, u, v]) (.int k 1) = some (.iptr [x, y, u, v] 2) := rfl
theorem fa_i (off o : Nat) (cs : List AV) : faddrA off (.iptr cs o) = some (.iptr cs (o + off)) := rfl
theorem rp_3 (h : Mem) (l : List AV) : rdAt G h 1 (.iptr (x :: y :: u :: v :: l) 3) = some [v] := by simp [rdAt]
end
theorem st_bs2 (F : CallF) (d : Option Nat) (os : List IOper) (e : Env) (h : Heap) (n : Nat) (zero : List AV) (ps : List (Nat × Nat × IOpd)) : evOps G F (⟨d, .bslice n 2 zero ps, none⟩ :: os) e h =
    kBs G F (fillA (repA n zero) (ps.map fun (o, n, x) => (o, n, opd e x))) (.own h.b.length 0 n 2) d os e h := st_bslice G F d os e h n 2 zero ps
theorem ref10_Good2 (hD : HasD g T) (hF : HasF g T) (hU : HasG g T) (F : Fm) {a b c d : Nat} (ha : a < 18446744073709551616) (hb : b < 18446744073709551616) (hc : c < 18446744073709551616) (hd : d < 18446744073709551616) :
    run G T 185 [.int .u8 F.u, .imm 2 [.int .u64 (a : Int), .int .u64 (b : Int), .int .u64 (c : Int), .int .u64 (d : Int)]] = some (.int .i64 (if (a < 2 * F.sg ∧ b < 2 * F.sg) ∧ (c < 2 * F.sg ∧ d < 2 * F.sg) then 0 else 6)) := by
  rw [run_k G T hU.ref10_Good]
  have h1 := ref03_IsF (G := G) (T := T) hD F
  have h3 := ref03_Good (G := G) (T := T) hD hF F ha
  have h4 := ref03_Good (G := G) (T := T) hD hF F hb
  have h5 := ref03_Good (G := G) (T := T) hD hF F hc
  have h6 := ref03_Good (G := G) (T := T) hD hF F hd
  by_cases k1 : a < 2 * F.sg
  · rw [if_pos k1] at h3
    by_cases k2 : b < 2 * F.sg
    · rw [if_pos k2] at h4
      by_cases k3 : c < 2 * F.sg
      · rw [if_pos k3] at h5
        by_cases k4 : d < 2 * F.sg
        · rw [if_pos k4] at h6
          rw [if_pos ⟨⟨k1, k2⟩, k3, k4⟩]
          repeat' (first | (simp (maxSteps := 1000000) only [evB, if_true, if_false, ne_eq, Nat.reduceEqDiff, Nat.reduceAdd, reduceCtorEq, Int.reduceLE, Int.reduceLT, Int.reduceEq, Int.reduceNeg, Int.reduceToNat, Int.reducePow, Int.reduceMod, Int.reduceDiv, Int.reduceSub, Int.reduceAdd, Int.reduceMul, Nat.reduceMul, Nat.reduceSub, Nat.reducePow, exB, resC_ptr, res_cell, nilb, nilf, faddr_p, c_ref10_Good, h1, gd_loop, c_ref10_Good_b1, i2_20, i2_21, fa_i, rp_0, rp_1, rp_2, rp_3, wr_1, wr1, wr_2, wr2, h3, h4, h5, h6]) | (simp (maxSteps := 1000000) (disch := first | with_reducible assumption | omega) only [dxB]) | (simp only [kI_d, kG_dt, kG_df]; split) | (simp only [kI_v, kG_vt, kG_vf]; split))
        · rw [if_neg k4] at h6
          rw [if_neg (fun h => k4 h.2.2)]
          repeat' (first | (simp (maxSteps := 1000000) only [evB, if_true, if_false, ne_eq, Nat.reduceEqDiff, Nat.reduceAdd, reduceCtorEq, Int.reduceLE, Int.reduceLT, Int.reduceEq, Int.reduceNeg, Int.reduceToNat, Int.reducePow, Int.reduceMod, Int.reduceDiv, Int.reduceSub, Int.reduceAdd, Int.reduceMul, Nat.reduceMul, Nat.reduceSub, Nat.reducePow, exB, resC_ptr, res_cell, nilb, nilf, faddr_p, c_ref10_Good, h1, gd_loop, c_ref10_Good_b1, i2_20, i2_21, fa_i, rp_0, rp_1, rp_2, rp_3, wr_1, wr1, wr_2, wr2, h3, h4, h5, h6]) | (simp (maxSteps := 1000000) (disch := first | with_reducible assumption | omega) only [dxB]) | (simp only [kI_d, kG_dt, kG_df]; split) | (simp only [kI_v, kG_vt, kG_vf]; split))
      · rw [if_neg k3] at h5
        rw [if_neg (fun h => k3 h.2.1)]
        repeat' (first | (simp (maxSteps := 1000000) only [evB, if_true, if_false, ne_eq, Nat.reduceEqDiff, Nat.reduceAdd, reduceCtorEq, Int.reduceLE, Int.reduceLT, Int.reduceEq, Int.reduceNeg, Int.reduceToNat, Int.reducePow, Int.reduceMod, Int.reduceDiv, Int.reduceSub, Int.reduceAdd, Int.reduceMul, Nat.reduceMul, Nat.reduceSub, Nat.reducePow, exB, resC_ptr, res_cell, nilb, nilf, faddr_p, c_ref10_Good, h1, gd_loop, c_ref10_Good_b1, i2_20, i2_21, fa_i, rp_0, rp_1, rp_2, rp_3, wr_1, wr1, wr_2, wr2, h3, h4, h5]) | (simp (maxSteps := 1000000) (disch := first | with_reducible assumption | omega) only [dxB]) | (simp only [kI_d, kG_dt, kG_df]; split) | (simp only [kI_v, kG_vt, kG_vf]; split))
    · rw [if_neg k2] at h4
      rw [if_neg (fun h => k2 h.1.2)]
      repeat' (first | (simp (maxSteps := 1000000) only [evB, if_true, if_false, ne_eq, Nat.reduceEqDiff, Nat.reduceAdd, reduceCtorEq, Int.reduceLE, Int.reduceLT, Int.reduceEq, Int.reduceNeg, Int.reduceToNat, Int.reducePow, Int.reduceMod, Int.reduceDiv, Int.reduceSub, Int.reduceAdd, Int.reduceMul, Nat.reduceMul, Nat.reduceSub, Nat.reducePow, exB, resC_ptr, res_cell, nilb, nilf, faddr_p, c_ref10_Good, h1, gd_loop, c_ref10_Good_b1, i2_20, i2_21, fa_i, rp_0, rp_1, rp_2, rp_3, wr_1, wr1, wr_2, wr2, h3, h4]) | (simp (maxSteps := 1000000) (disch := first | with_reducible assumption | omega) only [dxB]) | (simp only [kI_d, kG_dt, kG_df]; split) | (simp only [kI_v, kG_vt, kG_vf]; split))
  · rw [if_neg k1] at h3
    rw [if_neg (fun h => k1 h.1.1)]
    repeat' (first | (simp (maxSteps := 1000000) only [evB, if_true, if_false, ne_eq, Nat.reduceEqDiff, Nat.reduceAdd, reduceCtorEq, Int.reduceLE, Int.reduceLT, Int.reduceEq, Int.reduceNeg, Int.reduceToNat, Int.reducePow, Int.reduceMod, Int.reduceDiv, Int.reduceSub, Int.reduceAdd, Int.reduceMul, Nat.reduceMul, Nat.reduceSub, Nat.reducePow, exB, resC_ptr, res_cell, nilb, nilf, faddr_p, c_ref10_Good, h1, gd_loop, c_ref10_Good_b1, i2_20, i2_21, fa_i, rp_0, rp_1, rp_2, rp_3, wr_1, wr1, wr_2, wr2, h3]) | (simp (maxSteps := 1000000) (disch := first | with_reducible assumption | omega) only [dxB]) | (simp only [kI_d, kG_dt, kG_df]; split) | (simp only [kI_v, kG_vt, kG_vf]; split))

theorem law13_opens_no (hD : HasD g T) (hU : HasG g T) {f md : Int} (h : ¬ (f = 1 ∨ f = 2)) {v : AV} : run G T 167 [.int .u8 f, .int .u8 md, v] = some (.int .i64 4) := by
  rw [run_k G T hU.law13_opens]
  have h1 := ref05_Opens_no (G := G) (T := T) hD hU h (md := md) (v := .nil)
  repeat' (first | (simp (maxSteps := 1000000) only [evB, if_true, if_false, ne_eq, Nat.reduceEqDiff, Nat.reduceAdd, reduceCtorEq, Int.reduceLE, Int.reduceLT, Int.reduceEq, Int.reduceNeg, Int.reduceToNat, Int.reducePow, Int.reduceMod, Int.reduceDiv, Int.reduceSub, Int.reduceAdd, Int.reduceMul, Nat.reduceMul, Nat.reduceSub, Nat.reducePow, exB, resC_ptr, res_cell, nilb, nilf, faddr_p, c_law13_opens, h1]) | (simp (maxSteps := 1000000) (disch := first | with_reducible assumption | omega) only [dxB]) | (simp only [kI_d, kG_dt, kG_df]; split) | (simp only [kI_v, kG_vt, kG_vf]; split))
theorem law13_opens_mode (hD : HasD g T) (hE : HasE g T) (hU : HasG g T) (F : Fm) {md : Int} (h : ¬ (1 ≤ md ∧ md ≤ 5)) {v : AV} : run G T 167 [.int .u8 F.u, .int .u8 md, v] = some (.int .i64 5) := by
  rw [run_k G T hU.law13_opens]
  have h1 := ref05_Opens_mode (G := G) (T := T) hD hE hU F h (v := .nil)
  repeat' (first | (simp (maxSteps := 1000000) only [evB, if_true, if_false, ne_eq, Nat.reduceEqDiff, Nat.reduceAdd, reduceCtorEq, Int.reduceLE, Int.reduceLT, Int.reduceEq, Int.reduceNeg, Int.reduceToNat, Int.reducePow, Int.reduceMod, Int.reduceDiv, Int.reduceSub, Int.reduceAdd, Int.reduceMul, Nat.reduceMul, Nat.reduceSub, Nat.reducePow, exB, resC_ptr, res_cell, nilb, nilf, faddr_p, c_law13_opens, h1]) | (simp (maxSteps := 1000000) (disch := first | with_reducible assumption | omega) only [dxB]) | (simp only [kI_d, kG_dt, kG_df]; split) | (simp only [kI_v, kG_vt, kG_vf]; split))
theorem law13_opens_k (hD : HasD g T) (hE : HasE g T) (hU : HasG g T) (F : Fm) {md : Int} (h : 1 ≤ md ∧ md ≤ 5) {n : Nat} {cs : List AV} {e : Int} (h2 : run G T 185 [.int .u8 F.u, .imm n cs] = some (.int .i64 e)) : run G T 167 [.int .u8 F.u, .int .u8 md, .imm n cs] = some (.int .i64 e) := by
  rw [run_k G T hU.law13_opens]
  have h1 := ref05_Opens0 (G := G) (T := T) hD hE hU F h
  repeat' (first | (simp (maxSteps := 1000000) only [evB, if_true, if_false, ne_eq, Nat.reduceEqDiff, Nat.reduceAdd, reduceCtorEq, Int.reduceLE, Int.reduceLT, Int.reduceEq, Int.reduceNeg, Int.reduceToNat, Int.reducePow, Int.reduceMod, Int.reduceDiv, Int.reduceSub, Int.reduceAdd, Int.reduceMul, Nat.reduceMul, Nat.reduceSub, Nat.reducePow, exB, resC_ptr, res_cell, nilb, nilf, faddr_p, c_law13_opens, h1, h2]) | (simp (maxSteps := 1000000) (disch := first | with_reducible assumption | omega) only [dxB]) | (simp only [kI_d, kG_dt, kG_df]; split) | (simp only [kI_v, kG_vt, kG_vf]; split))
end Go.Cv

/-
  The statements on moduli.
-/
namespace Go.Cv
variable {G : Nat → Option (List AV)} {T : Tbl} {g : Nat}

end Go.Cv

/-
  Numbers turned, changed, taken on an axis: their moduli.
-/
namespace Go.Cv
variable {G : Nat → Option (List AV)} {T : Tbl} {g : Nat}

def Fm.min (F : Fm) (w : Nat) : Nat := if F.cls w = 5 then F.nan else F.flip w
theorem nan_facts (F : Fm) : F.nan < 2 * F.sg ∧ F.cls F.nan = 5 ∧ F.vl F.nan = ⟨false, 0, 0⟩ := by
  have h1 : F.cls F.nan = 5 := by cases F <;> decide
  refine ⟨by cases F <;> decide, h1, if_neg ?_⟩
  rw [fin_iff, h1]; decide
/-- Alike, as far as a modulus asks. -/
def Sim (F : Fm) (a b : Nat) : Prop := F.cls a = F.cls b ∧ mulD (F.vl a) (F.vl a) = mulD (F.vl b) (F.vl b)
theorem Sim.refl (F : Fm) (a : Nat) : Sim F a a := ⟨rfl, rfl⟩
theorem Sim.trans {F : Fm} {a b c : Nat} (h : Sim F a b) (k : Sim F b c) : Sim F a c := ⟨h.1.trans k.1, h.2.trans k.2⟩
theorem neg_mul (d : Dy) : mulD (negD d) (negD d) = mulD d d := by
  unfold negD
  split
  · rfl
  · unfold mulD; simp only; cases d.n <;> rfl
theorem mulD_z0 {a b : Dy} (h : a.m = 0 ∨ b.m = 0) : mulD a b = ⟨false, 0, 0⟩ := by
  unfold mulD
  rcases h with h | h
  · rw [h, Nat.zero_mul]; rfl
  · rw [h, Nat.mul_zero]; rfl
end Go.Cv

/-
  A greater number's root is not rounded to a lesser word.
-/
namespace Go.Cv

end Go.Cv

/-
  The statement on moduli and which of them is greater.
-/
namespace Go.Cv
variable {G : Nat → Option (List AV)} {T : Tbl} {g : Nat}

/-- Either it is refused, or all is good. -/
theorem zopens2 (hD : HasD g T) (hE : HasE g T) (hF : HasF g T) (hU : HasG g T) {f md : Int} {a b c d : Nat} (ha : a < 18446744073709551616) (hb : b < 18446744073709551616) (hc : c < 18446744073709551616) (hd : d < 18446744073709551616) :
    (∃ e, e ≠ 0 ∧ run G T 167 [.int .u8 f, .int .u8 md, .imm 2 [.int .u64 (a : Int), .int .u64 (b : Int), .int .u64 (c : Int), .int .u64 (d : Int)]] = some (.int .i64 e)) ∨
    (∃ F, f = Fm.u F ∧ (1 ≤ md ∧ md ≤ 5) ∧ ((a < 2 * F.sg ∧ b < 2 * F.sg) ∧ (c < 2 * F.sg ∧ d < 2 * F.sg)) ∧ run G T 167 [.int .u8 f, .int .u8 md, .imm 2 [.int .u64 (a : Int), .int .u64 (b : Int), .int .u64 (c : Int), .int .u64 (d : Int)]] = some (.int .i64 0)) := by
  by_cases hf : f = 1 ∨ f = 2
  · obtain ⟨F, rfl⟩ := fm_of hf
    by_cases hm : 1 ≤ md ∧ md ≤ 5
    · have h1 := ref10_Good2 (G := G) (T := T) hD hF hU F ha hb hc hd
      by_cases k1 : (a < 2 * F.sg ∧ b < 2 * F.sg) ∧ (c < 2 * F.sg ∧ d < 2 * F.sg)
      · rw [if_pos k1] at h1
        exact Or.inr ⟨F, rfl, hm, k1, law13_opens_k hD hE hU F hm h1⟩
      · rw [if_neg k1] at h1
        exact Or.inl ⟨6, by decide, law13_opens_k hD hE hU F hm h1⟩
    · exact Or.inl ⟨5, by decide, law13_opens_mode hD hE hU F hm⟩
  · exact Or.inl ⟨4, by decide, law13_opens_no hD hU hf⟩

end Go.Cv

/-
  A number that fits is a word's value; a difference of near numbers fits.
-/
namespace Go.Cv

theorem val_enc (F : Fm) (n : Bool) {k : Nat} {u : Int} (hk0 : k ≠ 0) (hk1 : k < 2 ^ (F.fr + 1)) (hu : F.low ≤ u) (hku : u = F.low ∨ 2 ^ F.fr ≤ k) (hs : F.enc k u < F.i0) : F.val (F.enc k u + F.sgn n) = mkD n k u := by
  have hi := fm_i0 F
  obtain ⟨e1, e2⟩ := sgn_mod n (by omega : F.enc k u < F.sg)
  have hp := Nat.two_pow_pos F.fr
  rw [Nat.pow_succ] at hk1
  unfold Fm.val Fm.ex Fm.fc
  rw [e1, e2]
  rcases Nat.lt_or_ge k (2 ^ F.fr) with h | h
  · have hul : u = F.low := by
      rcases hku with q | q
      · exact q
      · omega
    have hE : F.enc k u = k := by unfold Fm.enc; rw [hul, Int.sub_self]; simp
    rw [hE, Nat.div_eq_of_lt h, if_pos rfl, Nat.mod_eq_of_lt h, hul]
  · have hE : F.enc k u = (k - 2 ^ F.fr) + 2 ^ F.fr * ((u - F.low).toNat + 1) := by
      unfold Fm.enc; rw [Nat.mul_add, Nat.mul_one, Nat.mul_comm]; omega
    have hlt : k - 2 ^ F.fr < 2 ^ F.fr := by omega
    have hd : F.enc k u / 2 ^ F.fr = (u - F.low).toNat + 1 := by
      rw [hE, Nat.add_mul_div_left _ _ hp, Nat.div_eq_of_lt hlt, Nat.zero_add]
    have hm : F.enc k u % 2 ^ F.fr = k - 2 ^ F.fr := by
      rw [hE, Nat.add_mul_mod_self_left, Nat.mod_eq_of_lt hlt]
    rw [hd, hm, if_neg (by omega), show 2 ^ F.fr + (k - 2 ^ F.fr) = k by omega]
    congr 1
    omega

theorem fit_word (F : Fm) {d : Dy} (h : F.fits d) (ho : d.m % 2 = 1) : ∃ s, s ≠ 0 ∧ s < F.i0 ∧ F.val (s + F.sgn d.n) = d := by
  obtain ⟨h0, h1, h2, h3⟩ := h
  have hF := fm_facts F
  obtain ⟨u, hu⟩ : ∃ u : Int, u = max (d.e + blen d.m - F.fr - 1) F.low := ⟨_, rfl⟩
  have hbp := blen_pos h0
  have hbk := blen_mul h0 (d.e - u).toNat
  have hk0 : d.m * 2 ^ (d.e - u).toNat ≠ 0 := by intro hc; rw [hc, blen_zero] at hbk; omega
  have hk1 : d.m * 2 ^ (d.e - u).toNat < 2 ^ (F.fr + 1) := blen_le.1 (by omega)
  have hku : u = F.low ∨ 2 ^ F.fr ≤ d.m * 2 ^ (d.e - u).toNat := by
    by_cases q : u = F.low
    · exact Or.inl q
    · right; exact lt_blen.1 (by omega)
  have hbig := enc_big F (n := d.m * 2 ^ (d.e - u).toNat) (u := u) (by omega) (by omega) hku
  have hs : F.enc (d.m * 2 ^ (d.e - u).toNat) u < F.i0 := by
    rcases Nat.lt_or_ge (F.enc (d.m * 2 ^ (d.e - u).toNat) u) F.i0 with q | q
    · exact q
    · have := hbig.2 q; omega
  refine ⟨F.enc (d.m * 2 ^ (d.e - u).toNat) u, ?_, hs, ?_⟩
  · unfold Fm.enc; omega
  · rw [val_enc F d.n hk0 hk1 (by omega) hku hs]
    have := mkD_oddp (n := d.n) (e := d.e) ho (d.e - u).toNat
    rw [show d.e - ((d.e - u).toNat : Int) = u by omega] at this
    exact this

theorem fits_val (F : Fm) {w : Nat} (hf : F.fin w) (h0 : (F.val w).m ≠ 0) : F.fits (F.val w) := by
  have hF := fm_facts F
  have hwd : F.low + F.fr + F.most - 1 = F.wide := by cases F <;> decide
  have hy : F.fc w < 2 ^ F.fr := Nat.mod_lt _ (Nat.two_pow_pos _)
  unfold Fm.fin at hf
  unfold Fm.val at h0 ⊢
  by_cases hx : F.ex w = 0
  · rw [if_pos hx] at h0 ⊢
    have hk : F.fc w ≠ 0 := by intro hc; rw [hc] at h0; exact h0 rfl
    have hb := blen_le.2 hy
    exact mkD_fits hk (by rw [Nat.pow_succ]; omega) (Int.le_refl _) (by omega)
  · rw [if_neg hx] at h0 ⊢
    have hk : 2 ^ F.fr + F.fc w ≠ 0 := by have := Nat.two_pow_pos F.fr; omega
    have hb : blen (2 ^ F.fr + F.fc w) ≤ F.fr + 1 := blen_le.2 (by rw [Nat.pow_succ]; omega)
    exact mkD_fits hk (by rw [Nat.pow_succ]; omega) (by omega) (by omega)

/-- STERBENZ. -/
theorem sterbenz (F : Fm) {x y : Dy} (fx : x.m ≠ 0 → F.fits x) (fy : y.m ≠ 0 → F.fits y) (hn : x.n = y.n) (h1 : cmpD (absD x) (shD (absD y) 1) ≤ 0) (h2 : cmpD (absD y) (shD (absD x) 1) ≤ 0) (h0 : (subD x y).m ≠ 0) : F.fits (subD x y) := by
  obtain ⟨L, hL⟩ : ∃ L : Int, L = min x.e y.e := ⟨_, rfl⟩
  have lx : LoE x L := Or.inr (by omega)
  have ly : LoE y L := Or.inr (by omega)
  have sh : ∀ (d : Dy) (h : LoE d L), iv (shD (absD d) 1) L = 2 * ((d.m * 2 ^ (d.e - L).toNat : Nat) : Int) ∧ LoE (shD (absD d) 1) L := fun d h => by
    unfold shD absD
    by_cases q : d.m = 0
    · simp only [q, if_true]; exact ⟨by simp [iv], Or.inl rfl⟩
    · simp only [q, if_false]
      have hl := h.resolve_left q
      refine ⟨?_, Or.inr (by simp only; omega)⟩
      unfold iv
      simp only [Bool.false_eq_true, if_false, Int.one_mul]
      rw [show (d.e + 1 - L).toNat = (d.e - L).toNat + 1 by omega, Nat.pow_succ, ← Nat.mul_assoc]; omega
  have la : ∀ (d : Dy) (h : LoE d L), LoE (absD d) L := fun d h => h
  rw [cmp_iv (la x lx) (sh y ly).2, iv_abs, (sh y ly).1] at h1
  rw [cmp_iv (la y ly) (sh x lx).2, iv_abs, (sh x lx).1] at h2
  have hs := iv_add lx (LoE_neg ly)
  rw [iv_neg] at hs
  rw [show addD x (negD y) = subD x y from rfl] at hs
  obtain ⟨hs1, hs2⟩ := hs
  have hle := hs2.resolve_left h0
  unfold iv at hs1
  rw [hn] at hs1
  generalize hD : (subD x y).m * 2 ^ ((subD x y).e - L).toNat = D at *
  generalize hX : x.m * 2 ^ (x.e - L).toNat = X at *
  generalize hY : y.m * 2 ^ (y.e - L).toNat = Y at *
  have g1 : (X : Int) ≤ 2 * Y := by
    unfold sgI at h1; split at h1
    · omega
    · split at h1 <;> omega
  have g2 : (Y : Int) ≤ 2 * X := by
    unfold sgI at h2; split at h2
    · omega
    · split at h2 <;> omega
  have dX : D ≤ X ∧ D ≤ Y := by
    generalize (subD x y).n = p at *
    generalize y.n = q at *
    cases p <;> cases q <;> simp only [Bool.false_eq_true, if_false, if_true] at hs1 <;> omega
  have Dp : 0 < D := by rw [← hD]; exact Nat.mul_pos (Nat.pos_of_ne_zero h0) (Nat.two_pow_pos _)
  have x0 : x.m ≠ 0 := by intro hc; rw [hc, Nat.zero_mul] at hX; omega
  have y0 : y.m ≠ 0 := by intro hc; rw [hc, Nat.zero_mul] at hY; omega
  obtain ⟨_, x1, x2, x3⟩ := fx x0
  obtain ⟨_, y1, y2, y3⟩ := fy y0
  have bD := blen_mul h0 ((subD x y).e - L).toNat
  have bX := blen_mul x0 (x.e - L).toNat
  have bY := blen_mul y0 (y.e - L).toNat
  rw [hD] at bD
  rw [hX] at bX
  rw [hY] at bY
  have m1 := blen_mono dX.1
  have m2 := blen_mono dX.2
  exact ⟨h0, by omega, by omega, by omega⟩
end Go.Cv

/-
  The statement on differences of near numbers.
-/
namespace Go.Cv
variable {G : Nat → Option (List AV)} {T : Tbl} {g : Nat}

theorem subW_fin (F : Fm) (md : Int) {a b : Nat} (fa : F.fin a) (fb : F.fin b) :
    (F.cls a = 1 ∧ F.cls b = 1 ∧ subW F md a b = (F.sgn (F.ng a), 0)) ∨ subW F md a b = sumW F md (subD (F.vl a) (F.vl b)) := by
  have ra := fin_iff.1 fa
  have rb := fin_iff.1 fb
  unfold subW addP
  rw [if_neg (show ¬ (F.cls a = 5 ∨ F.cls b = 5) by omega), if_neg (show ¬ (F.cls a = 4 ∧ F.cls b = 4 ∧ F.ng a ≠ !F.ng b) from fun h => by have := h.1; omega), if_neg (show ¬ F.cls a = 4 by omega), if_neg (show ¬ F.cls b = 4 by omega)]
  by_cases h : F.cls a = 1 ∧ F.cls b = 1 ∧ F.ng a = !F.ng b
  · left; rw [if_pos h]; exact ⟨h.1, h.2.1, rfl⟩
  · right; rw [if_neg h]; rfl

/-- The word of a number that fits. -/
theorem sum_fit (F : Fm) {md : Int} {d : Dy} (hz : Nz d) (hf : d.m ≠ 0 → F.fits d) : ∃ w : Nat, sumW F md d = (w, 0) ∧ w < 2 * F.sg ∧ F.fin w ∧ F.val w = d := by
  have hi := fm_i0 F
  unfold sumW
  by_cases h0 : d.m = 0
  · rw [if_pos h0]
    refine ⟨F.sgn (decide (md = 5)), rfl, ?_, ?_, ?_⟩
    · unfold Fm.sgn; split <;> omega
    · have := fin_size (F := F) (s := 0) (decide (md = 5)) hi.2.1
      rwa [Nat.zero_add] at this
    · have := val_zero F (decide (md = 5))
      rw [Nat.zero_add] at this
      rw [this, hz.1 h0]
  · rw [if_neg h0]
    obtain ⟨s, s0, s1, s2⟩ := fit_word F (hf h0) (hz.2 h0)
    have hr := (round_val F md d.n s1 s0).1
    rw [s2] at hr
    refine ⟨s + F.sgn d.n, hr, ?_, fin_size d.n s1, s2⟩
    unfold Fm.sgn; split <;> omega
theorem near (F : Fm) {md : Int} {a b : Nat} (ha : a < 2 * F.sg) (hb : b < 2 * F.sg) (fa : F.fin a) (fb : F.fin b) (hn : (F.vl a).n = (F.vl b).n) (h1 : cmpD (absD (F.vl a)) (shD (absD (F.vl b)) 1) ≤ 0) (h2 : cmpD (absD (F.vl b)) (shD (absD (F.vl a)) 1) ≤ 0) :
    ∃ w : Nat, subW F md a b = (w, 0) ∧ w < 2 * F.sg ∧ F.fin w ∧ F.val w = subD (F.vl a) (F.vl b) := by
  have hi := fm_i0 F
  rcases subW_fin F md fa fb with ⟨k1, k2, h⟩ | h
  · rw [h]
    refine ⟨F.sgn (F.ng a), rfl, ?_, ?_, ?_⟩
    · unfold Fm.sgn; split <;> omega
    · have := fin_size (F := F) (s := 0) (F.ng a) hi.2.1
      rwa [Nat.zero_add] at this
    · have := val_zero F (F.ng a)
      rw [Nat.zero_add] at this
      rw [this, vl_val fa, vl_val fb, (cls_zero_w ha k1).2, (cls_zero_w hb k2).2]; rfl
  · rw [h]
    refine sum_fit F (Nz_add (Nz_vl F a) (Nz_neg (Nz_vl F b))) (sterbenz F ?_ ?_ hn h1 h2)
    · intro q; rw [vl_val fa] at q ⊢; exact fits_val F fa q
    · intro q; rw [vl_val fb] at q ⊢; exact fits_val F fb q

end Go.Cv

/-
  What rounding to the nearest loses, in whole numbers (units of the least exponent).
-/
namespace Go.Cv

def P2 (k : Nat) : Int := ((2 ^ k : Nat) : Int)
theorem P2_pos (k : Nat) : 0 < P2 k := by unfold P2; have := Nat.two_pow_pos k; omega
theorem P2_dvd {i k : Nat} (h : i ≤ k) : P2 i ∣ P2 k := by
  unfold P2; exact Int.natCast_dvd_natCast.2 (Nat.pow_dvd_pow 2 h)
def bl (n : Int) : Nat := blen n.natAbs
theorem bl_le {n : Int} {k : Nat} : bl n ≤ k ↔ (n < P2 k ∧ -n < P2 k) := by
  unfold bl P2; rw [blen_le]; omega
theorem bl_ge {n : Int} (h : n ≠ 0) : P2 (bl n - 1) ≤ n ∨ P2 (bl n - 1) ≤ -n := by
  unfold bl P2; have := pow_blen_le (n := n.natAbs) (by omega); omega
theorem bl_neg (n : Int) : bl (-n) = bl n := by unfold bl; rw [Int.natAbs_neg]
theorem dvd_small {k : Nat} {x : Int} (h : P2 k ∣ x) (h1 : x < P2 k) (h2 : -x < P2 k) : x = 0 := by
  obtain ⟨q, rfl⟩ := h
  have hp := P2_pos k
  rcases Int.lt_trichotomy q 0 with hq | hq | hq
  · have := Int.mul_le_mul_of_nonneg_left (show q ≤ -1 by omega) (Int.le_of_lt hp); omega
  · rw [hq, Int.mul_zero]
  · have := Int.mul_le_mul_of_nonneg_left (show 1 ≤ q by omega) (Int.le_of_lt hp); omega

/-- A whole number of at most p bits, behind which there are noughts. -/
def Rep (p : Nat) (n : Int) : Prop := P2 (bl n - p) ∣ n
/-- r: n to p bits, to the nearest. -/
def Rn (p : Nat) (n r : Int) : Prop := Rep p r ∧ P2 (bl n - p) ∣ r ∧ 2 * (r - n) ≤ P2 (bl n - p) ∧ 2 * (n - r) ≤ P2 (bl n - p)

theorem Rep.neg {p : Nat} {n : Int} (h : Rep p n) : Rep p (-n) := by
  unfold Rep at h ⊢; rw [bl_neg]; exact Int.dvd_neg.2 h
theorem Rn.neg {p : Nat} {n r : Int} (h : Rn p n r) : Rn p (-n) (-r) := by
  obtain ⟨h0, h1, h2, h3⟩ := h
  unfold Rn; rw [bl_neg]
  exact ⟨h0.neg, Int.dvd_neg.2 h1, by omega, by omega⟩
theorem Rn.exact {p : Nat} {n r : Int} (h : Rn p n r) {i : Nat} (hi : P2 i ∣ n) (hk : bl n - p ≤ i) : r = n := by
  obtain ⟨_, h1, h2, h3⟩ := h
  have hp := P2_pos (bl n - p)
  have := dvd_small (Int.dvd_sub h1 (Int.dvd_trans (P2_dvd hk) hi)) (by omega) (by omega)
  omega
/-- Nothing is nearer. -/
theorem Rn.near {p : Nat} (hp : 1 ≤ p) {n r c : Int} (h : Rn p n r) (hc : Rep p c) : r - n ≤ (c - n).natAbs ∧ n - r ≤ (c - n).natAbs := by
  have key : ∀ c, P2 (bl n - p) ∣ c → r - n ≤ (c - n).natAbs ∧ n - r ≤ (c - n).natAbs := fun c hc => by
    obtain ⟨_, h1, h2, h3⟩ := h
    by_cases q : r = c
    · subst q; omega
    · have hd := Int.dvd_sub h1 hc
      have hs : ¬ (r - c < P2 (bl n - p) ∧ -(r - c) < P2 (bl n - p)) := fun q1 => q (by have := dvd_small hd q1.1 q1.2; omega)
      omega
  by_cases q : bl n - p ≤ bl c - p
  · exact key c (Int.dvd_trans (P2_dvd q) hc)
  · have hb : bl c ≤ bl n - 1 := by omega
    have hn0 : n ≠ 0 := by rintro rfl; have : bl 0 = 0 := rfl; omega
    have hc1 := bl_le.1 hb
    have hd : P2 (bl n - p) ∣ P2 (bl n - 1) := P2_dvd (by omega)
    have k1 := key _ hd
    have k2 := key _ (Int.dvd_neg.2 hd)
    have hpp := P2_pos (bl n - 1)
    rcases bl_ge hn0 with h4 | h4 <;> omega

end Go.Cv

/-
  Rounding to the nearest even one, seen in whole numbers.
-/
namespace Go.Cv

theorem iv_cases (d : Dy) (L : Int) : (iv d L = ((d.m * 2 ^ (d.e - L).toNat : Nat) : Int) ∧ d.n = false) ∨ (iv d L = -((d.m * 2 ^ (d.e - L).toNat : Nat) : Int) ∧ d.n = true) := by
  unfold iv; cases d.n <;> simp
/-- A word's value, in units of the least exponent. -/
def Fm.X (F : Fm) (w : Nat) : Int := iv (F.vl w) F.low
theorem LoE_vl {F : Fm} {w : Nat} (hf : F.fin w) : LoE (F.vl w) F.low := by
  by_cases h : (F.vl w).m = 0
  · exact Or.inl h
  · right; rw [vl_val hf] at h ⊢; exact (fits_val F hf h).2.2.1
theorem sgn_fin (F : Fm) (n : Bool) : F.sgn n < 2 * F.sg ∧ F.fin (F.sgn n) ∧ F.vl (F.sgn n) = ⟨false, 0, 0⟩ := by
  have hi := fm_i0 F
  have h := fin_size (F := F) (s := 0) n hi.2.1
  have h2 := val_zero F n
  rw [Nat.zero_add] at h h2
  exact ⟨by unfold Fm.sgn; split <;> omega, h, by rw [vl_val h, h2]⟩
theorem addP_fin (F : Fm) (md : Int) {c c' : Int} {n n' : Bool} {d d' : Dy} (h1 : c = 1 ∨ c = 2 ∨ c = 3) (h2 : c' = 1 ∨ c' = 2 ∨ c' = 3) :
    addP F md c n d c' n' d' = if c = 1 ∧ c' = 1 ∧ n = n' then (F.sgn n, 0) else sumW F md (addD d d') := by
  unfold addP
  rw [if_neg (by omega), if_neg (by omega), if_neg (by omega), if_neg (by omega)]
end Go.Cv

/-
  What a product loses is a word.
-/
namespace Go.Cv

end Go.Cv

/-
  What is left of a division is a word.
-/
namespace Go.Cv

theorem iv_mul {a b : Dy} {K L : Int} (ha : LoE a K) (hb : LoE b L) : iv (mulD a b) (K + L) = iv a K * iv b L ∧ LoE (mulD a b) (K + L) := by
  by_cases h1 : a.m = 0
  · have : mulD a b = ⟨false, 0, 0⟩ := mulD_z0 (Or.inl h1)
    rw [this, iv_zero rfl, iv_zero h1, Int.zero_mul]; exact ⟨rfl, Or.inl rfl⟩
  · by_cases h2 : b.m = 0
    · have : mulD a b = ⟨false, 0, 0⟩ := mulD_z0 (Or.inr h2)
      rw [this, iv_zero rfl, iv_zero h2, Int.mul_zero]; exact ⟨rfl, Or.inl rfl⟩
    · have la := ha.resolve_left h1
      have lb := hb.resolve_left h2
      refine ⟨?_, LoE_mk (by omega)⟩
      unfold mulD
      rw [iv_mk (by omega), show (a.e + b.e - (K + L)).toNat = (a.e - K).toNat + (b.e - L).toNat by omega, Nat.pow_add]
      unfold iv
      have e : a.m * b.m * (2 ^ (a.e - K).toNat * 2 ^ (b.e - L).toNat) = (a.m * 2 ^ (a.e - K).toNat) * (b.m * 2 ^ (b.e - L).toNat) := by
        simp only [Nat.mul_assoc, Nat.mul_left_comm, Nat.mul_comm]
      rw [e, Int.natCast_mul]
      generalize ((a.m * 2 ^ (a.e - K).toNat : Nat) : Int) = x
      generalize ((b.m * 2 ^ (b.e - L).toNat : Nat) : Int) = y
      cases a.n <;> cases b.n <;> simp [Int.neg_mul, Int.mul_neg]

end Go.Cv

/-
  What a root, rounded down and up, is worth; the triangle.
-/
namespace Go.Cv

theorem sW_core (F : Fm) (md : Int) (neg : Bool) {Q : Nat} (lost : Bool) (E : Int) (hq : F.fr + 2 ≤ blen Q) :
    ∃ (K kk : Nat) (u : Int), 0 < kk ∧ u = E + kk ∧ F.low ≤ u ∧ K = Q / 2 ^ kk + (upB md neg (decide (Q / 2 ^ kk % 2 = 1)) (halfN Q kk) (moreN Q lost kk)).toNat ∧ magN F (F.enc K u) = K * 2 ^ (u - F.low).toNat ∧
      ((F.i0 ≤ F.enc K u ∧ (sW F md neg Q lost E).1 = ovr F md neg) ∨ (F.enc K u < F.i0 ∧ (sW F md neg Q lost E).1 = F.enc K u + F.sgn neg)) := by
  have hF := fm_facts F
  unfold sW
  obtain ⟨u, hu⟩ : ∃ u, u = F.eOf (E + blen Q) := ⟨_, rfl⟩
  have hue : u = max (E + blen Q - F.fr - 1) F.low := hu
  rw [← hu]
  obtain ⟨kk, hkk⟩ : ∃ kk, kk = (u - E).toNat := ⟨_, rfl⟩
  rw [← hkk]
  have k0 : 0 < kk := by omega
  have hK : (rdN md neg Q lost kk).1 = Q / 2 ^ kk + (upB md neg (decide (Q / 2 ^ kk % 2 = 1)) (halfN Q kk) (moreN Q lost kk)).toNat := rfl
  have hbt : ∀ b : Bool, b.toNat ≤ 1 := fun b => by cases b <;> decide
  have hbd : (rdN md neg Q lost kk).1 ≤ 2 ^ (F.fr + 1) := by
    rw [hK]
    have hb1 : blen (Q / 2 ^ kk) ≤ F.fr + 1 := by rw [blen_div]; omega
    have := blen_le.1 hb1
    have := hbt (upB md neg (decide (Q / 2 ^ kk % 2 = 1)) (halfN Q kk) (moreN Q lost kk))
    omega
  have hlo2 : u = F.low ∨ 2 ^ F.fr ≤ (rdN md neg Q lost kk).1 := by
    by_cases q : u = F.low
    · exact Or.inl q
    · right
      have : 2 ^ F.fr ≤ Q / 2 ^ kk := lt_blen.1 (by rw [blen_div]; omega)
      rw [hK]; omega
  have hbig := enc_big F (n := (rdN md neg Q lost kk).1) (u := u) hbd (by omega) hlo2
  refine ⟨(rdN md neg Q lost kk).1, kk, u, k0, by omega, by omega, hK, magN_enc F hbd (by omega) hlo2, ?_⟩
  unfold wordOf
  by_cases ov : F.wide < blen (rdN md neg Q lost kk).1 + u
  · left; rw [if_pos ov]; exact ⟨hbig.1 ov, rfl⟩
  · right; rw [if_neg ov]
    refine ⟨?_, rfl⟩
    rcases Nat.lt_or_ge (F.enc (rdN md neg Q lost kk).1 u) F.i0 with q | q
    · exact q
    · exact absurd (hbig.2 q) ov

theorem units {K kk : Nat} {u E low L : Int} (h1 : u = E + kk) (h2 : L ≤ E) (h3 : low ≤ u) (h4 : L ≤ low) : K * 2 ^ (u - low).toNat * 2 ^ (low - L).toNat = K * 2 ^ kk * 2 ^ (E - L).toNat := by
  rw [Nat.mul_assoc, ← Nat.pow_add, Nat.mul_assoc, ← Nat.pow_add]; congr 2; omega

theorem sW_dn (F : Fm) {Q : Nat} (lost : Bool) (E : Int) (hq : F.fr + 2 ≤ blen Q) {L : Int} (l1 : L ≤ F.low) (l2 : L ≤ E) :
    (sW F 5 false Q lost E).1 < 2 * F.sg ∧ F.fin (sW F 5 false Q lost E).1 ∧ iv (F.val (sW F 5 false Q lost E).1) L ≤ ((Q * 2 ^ (E - L).toNat : Nat) : Int) ∧ 0 ≤ iv (F.val (sW F 5 false Q lost E).1) L ∧ LoE (F.val (sW F 5 false Q lost E).1) L := by
  have hi := fm_i0 F
  obtain ⟨K, kk, u, k0, hu, hlo, hK, hm, h⟩ := sW_core F 5 false lost E hq
  have hup : upB 5 false (decide (Q / 2 ^ kk % 2 = 1)) (halfN Q kk) (moreN Q lost kk) = false := by simp [upB]
  rw [hup] at hK
  have hKQ : K * 2 ^ kk ≤ Q := by rw [hK]; exact Nat.div_mul_le_self ..
  have main : ∀ s, s < F.i0 → s ≤ F.enc K u → s + F.sgn false < 2 * F.sg ∧ F.fin (s + F.sgn false) ∧ iv (F.val (s + F.sgn false)) L ≤ ((Q * 2 ^ (E - L).toNat : Nat) : Int) ∧ 0 ≤ iv (F.val (s + F.sgn false)) L ∧ LoE (F.val (s + F.sgn false)) L := fun s hs hse => by
    obtain ⟨v1, v2⟩ := iv_val_L (F := F) false hs l1
    refine ⟨by unfold Fm.sgn; simp only [Bool.false_eq_true, if_false]; omega, fin_size false hs, ?_, ?_, v2⟩
    · rw [v1]
      have h1 := magN_le F hse
      rw [hm] at h1
      have h2 := Nat.mul_le_mul_right (2 ^ (F.low - L).toNat) h1
      rw [units hu l2 hlo l1] at h2
      have h3 := Nat.mul_le_mul_right (2 ^ (E - L).toNat) hKQ
      simp only [Bool.false_eq_true, if_false, Int.one_mul]
      exact Int.ofNat_le.2 (Nat.le_trans h2 h3)
    · rw [v1]; simp only [Bool.false_eq_true, if_false, Int.one_mul]; exact Int.natCast_nonneg _
  rcases h with ⟨h1, h2⟩ | ⟨h1, h2⟩
  · rw [h2]
    have e : ovr F 5 false = (F.i0 - 1) + F.sgn false := by
      unfold ovr; rw [if_pos (Or.inr (Or.inr ⟨rfl, rfl⟩)), inf_eq]; rfl
    rw [e]
    exact main _ (by omega) (by omega)
  · rw [h2]; exact main _ h1 (Nat.le_refl _)

theorem sW_up (F : Fm) {Q : Nat} (lost : Bool) (E : Int) (hq : F.fr + 2 ≤ blen Q) {L : Int} (l1 : L ≤ F.low) (l2 : L ≤ E) :
    (sW F 4 false Q lost E).1 < 2 * F.sg ∧ (F.cls (sW F 4 false Q lost E).1 = 4 ∨ (F.fin (sW F 4 false Q lost E).1 ∧ (((Q + lost.toNat) * 2 ^ (E - L).toNat : Nat) : Int) ≤ iv (F.val (sW F 4 false Q lost E).1) L ∧ LoE (F.val (sW F 4 false Q lost E).1) L)) := by
  have hi := fm_i0 F
  obtain ⟨K, kk, u, k0, hu, hlo, hK, hm, h⟩ := sW_core F 4 false lost E hq
  have hup : upB 4 false (decide (Q / 2 ^ kk % 2 = 1)) (halfN Q kk) (moreN Q lost kk) = (halfN Q kk || moreN Q lost kk) := by simp [upB]
  rw [hup] at hK
  obtain ⟨q1, q2, q3⟩ := half_spec Q k0
  have hd := Nat.div_add_mod Q (2 ^ kk)
  have hml := Nat.mod_lt Q (Nat.two_pow_pos kk)
  have hKQ : Q + lost.toNat ≤ K * 2 ^ kk := by
    rw [hK, Nat.add_mul, Nat.mul_comm]
    have hlb : lost.toNat ≤ 1 := by cases lost <;> decide
    by_cases hb : (halfN Q kk || moreN Q lost kk) = true
    · rw [hb]; simp only [Bool.toNat_true, Nat.one_mul]; omega
    · simp only [Bool.not_eq_true] at hb
      rw [hb]
      simp only [Bool.or_eq_false_iff, moreN, decide_eq_false_iff_not, ne_eq, Decidable.not_not] at hb
      rw [hb.1, hb.2.2] at q1
      rw [hb.2.1]
      simp only [Bool.toNat_false, Nat.zero_mul, Nat.add_zero]
      simp only [Bool.false_eq_true, if_false] at q1
      omega
  rcases h with ⟨h1, h2⟩ | ⟨h1, h2⟩
  · have e : ovr F 4 false = F.inf false := by unfold ovr; rw [if_neg (by simp)]
    rw [h2, e]
    refine ⟨?_, Or.inl (cls_inf F false)⟩
    cases F <;> decide
  · rw [h2]
    obtain ⟨v1, v2⟩ := iv_val_L (F := F) false h1 l1
    refine ⟨by unfold Fm.sgn; simp only [Bool.false_eq_true, if_false]; omega, Or.inr ⟨fin_size false h1, ?_, v2⟩⟩
    rw [v1, hm, units hu l2 hlo l1]
    simp only [Bool.false_eq_true, if_false, Int.one_mul]
    exact Int.ofNat_le.2 (Nat.mul_le_mul_right _ hKQ)

/-- The square of the root, rounded down, is not above; of the root, rounded up, not below. -/
theorem rt_dn (F : Fm) {d : Dy} (hn : d.n = false) : (rtW F 5 d).1 < 2 * F.sg ∧ F.fin (rtW F 5 d).1 ∧ ∀ L, L ≤ F.low → 2 * L ≤ d.e - 200 → 0 ≤ iv (F.vl (rtW F 5 d).1) L ∧ LoE (F.vl (rtW F 5 d).1) L ∧ iv (F.vl (rtW F 5 d).1) L * iv (F.vl (rtW F 5 d).1) L ≤ iv d (2 * L) := by
  unfold rtW
  by_cases h0 : d.m = 0
  · rw [if_pos h0]
    obtain ⟨s1, s2, s3⟩ := sgn_fin F false
    refine ⟨s1, s2, fun L l1 l2 => ?_⟩
    have e : F.vl ((0, 0) : Nat × Nat).1 = ⟨false, 0, 0⟩ := s3
    rw [e, iv_zero rfl, iv_zero h0]
    exact ⟨Int.le_refl _, Or.inl rfl, by decide⟩
  · rw [if_neg h0]
    unfold rootW
    obtain ⟨r1, r2⟩ := isq_spec (d.m * 2 ^ rootP d.e)
    have hP : rootP d.e = 130 + (d.e % 2).toNat := rfl
    have hbp := blen_pos h0
    have hbm := blen_mul h0 (rootP d.e)
    have hbt : 64 < blen (isq (d.m * 2 ^ rootP d.e)) := root_blen (k := 64) (M := d.m * 2 ^ rootP d.e) (by
      have := pow_blen_le (n := d.m * 2 ^ rootP d.e) (by intro hc; rw [hc, blen_zero] at hbm; omega)
      rw [← Nat.pow_add]
      exact Nat.le_trans (Nat.pow_le_pow_right (by decide) (by omega)) this) r2
    have hF := fm_fr F
    have hE : (d.e - (rootP d.e : Nat)) / 2 * 2 = d.e - (rootP d.e : Nat) := by omega
    generalize (!decide (isq (d.m * 2 ^ rootP d.e) * isq (d.m * 2 ^ rootP d.e) = d.m * 2 ^ rootP d.e)) = lost
    have g0 := sW_dn F (Q := isq (d.m * 2 ^ rootP d.e)) lost ((d.e - (rootP d.e : Nat)) / 2) (by omega) (L := min F.low ((d.e - (rootP d.e : Nat)) / 2)) (by omega) (by omega)
    refine ⟨g0.1, g0.2.1, fun L l1 l2 => ?_⟩
    obtain ⟨_, g2, g3, g4, g5⟩ := sW_dn F (Q := isq (d.m * 2 ^ rootP d.e)) lost ((d.e - (rootP d.e : Nat)) / 2) (by omega) (L := L) (by omega) (by omega)
    rw [vl_val g2]
    refine ⟨g4, g5, ?_⟩
    have hd : iv d (2 * L) = ((d.m * 2 ^ rootP d.e * (2 ^ ((d.e - (rootP d.e : Nat)) / 2 - L).toNat * 2 ^ ((d.e - (rootP d.e : Nat)) / 2 - L).toNat) : Nat) : Int) := by
      unfold iv; rw [hn]
      simp only [Bool.false_eq_true, if_false, Int.one_mul]
      rw [Nat.mul_assoc, ← Nat.pow_add, ← Nat.pow_add]
      congr 3; omega
    rw [hd]
    generalize isq (d.m * 2 ^ rootP d.e) = r at *
    generalize d.m * 2 ^ rootP d.e = X at *
    generalize 2 ^ ((d.e - (rootP d.e : Nat)) / 2 - L).toNat = U at *
    refine Int.le_trans (Int.mul_le_mul g3 g3 g4 (Int.natCast_nonneg _)) ?_
    rw [← Int.natCast_mul]
    refine Int.ofNat_le.2 ?_
    rw [show r * U * (r * U) = r * r * (U * U) by simp only [Nat.mul_assoc, Nat.mul_left_comm, Nat.mul_comm]]
    exact Nat.mul_le_mul_right _ r1
theorem rt_up (F : Fm) {d : Dy} (hn : d.n = false) : (rtW F 4 d).1 < 2 * F.sg ∧ (F.cls (rtW F 4 d).1 = 4 ∨ (F.fin (rtW F 4 d).1 ∧ ∀ L, L ≤ F.low → 2 * L ≤ d.e - 200 → 0 ≤ iv (F.vl (rtW F 4 d).1) L ∧ LoE (F.vl (rtW F 4 d).1) L ∧ iv d (2 * L) ≤ iv (F.vl (rtW F 4 d).1) L * iv (F.vl (rtW F 4 d).1) L)) := by
  unfold rtW
  by_cases h0 : d.m = 0
  · rw [if_pos h0]
    obtain ⟨s1, s2, s3⟩ := sgn_fin F false
    refine ⟨s1, Or.inr ⟨s2, fun L l1 l2 => ?_⟩⟩
    have e : F.vl ((0, 0) : Nat × Nat).1 = ⟨false, 0, 0⟩ := s3
    rw [e, iv_zero rfl, iv_zero h0]
    exact ⟨Int.le_refl _, Or.inl rfl, by decide⟩
  · rw [if_neg h0]
    unfold rootW
    obtain ⟨r1, r2⟩ := isq_spec (d.m * 2 ^ rootP d.e)
    have hP : rootP d.e = 130 + (d.e % 2).toNat := rfl
    have hbp := blen_pos h0
    have hbm := blen_mul h0 (rootP d.e)
    have hbt : 64 < blen (isq (d.m * 2 ^ rootP d.e)) := root_blen (k := 64) (M := d.m * 2 ^ rootP d.e) (by
      have := pow_blen_le (n := d.m * 2 ^ rootP d.e) (by intro hc; rw [hc, blen_zero] at hbm; omega)
      rw [← Nat.pow_add]
      exact Nat.le_trans (Nat.pow_le_pow_right (by decide) (by omega)) this) r2
    have hF := fm_fr F
    have hE : (d.e - (rootP d.e : Nat)) / 2 * 2 = d.e - (rootP d.e : Nat) := by omega
    obtain ⟨lost, hl⟩ : ∃ l, l = (!decide (isq (d.m * 2 ^ rootP d.e) * isq (d.m * 2 ^ rootP d.e) = d.m * 2 ^ rootP d.e)) := ⟨_, rfl⟩
    rw [← hl]
    have hr : d.m * 2 ^ rootP d.e ≤ (isq (d.m * 2 ^ rootP d.e) + lost.toNat) * (isq (d.m * 2 ^ rootP d.e) + lost.toNat) := by
      by_cases q : isq (d.m * 2 ^ rootP d.e) * isq (d.m * 2 ^ rootP d.e) = d.m * 2 ^ rootP d.e
      · rw [hl, decide_eq_true q]; simp only [Bool.not_true, Bool.toNat_false, Nat.add_zero]; omega
      · rw [hl, decide_eq_false q]; simp only [Bool.not_false, Bool.toNat_true]; omega
    clear hl
    have g0 := sW_up F (Q := isq (d.m * 2 ^ rootP d.e)) lost ((d.e - (rootP d.e : Nat)) / 2) (by omega) (L := min F.low ((d.e - (rootP d.e : Nat)) / 2)) (by omega) (by omega)
    refine ⟨g0.1, ?_⟩
    rcases g0.2 with g1 | ⟨g1, _, _⟩
    · exact Or.inl g1
    refine Or.inr ⟨g1, fun L l1 l2 => ?_⟩
    obtain ⟨_, g2⟩ := sW_up F (Q := isq (d.m * 2 ^ rootP d.e)) lost ((d.e - (rootP d.e : Nat)) / 2) (by omega) (L := L) (by omega) (by omega)
    rcases g2 with g2 | ⟨_, g3, g4⟩
    · have := fin_iff.1 g1; omega
    rw [vl_val g1]
    have hd : iv d (2 * L) = ((d.m * 2 ^ rootP d.e * (2 ^ ((d.e - (rootP d.e : Nat)) / 2 - L).toNat * 2 ^ ((d.e - (rootP d.e : Nat)) / 2 - L).toNat) : Nat) : Int) := by
      unfold iv; rw [hn]
      simp only [Bool.false_eq_true, if_false, Int.one_mul]
      rw [Nat.mul_assoc, ← Nat.pow_add, ← Nat.pow_add]
      congr 3; omega
    rw [hd]
    generalize isq (d.m * 2 ^ rootP d.e) + lost.toNat = r at *
    generalize d.m * 2 ^ rootP d.e = X at *
    generalize 2 ^ ((d.e - (rootP d.e : Nat)) / 2 - L).toNat = U at *
    refine ⟨Int.le_trans (Int.natCast_nonneg _) g3, g4, Int.le_trans ?_ (Int.mul_le_mul g3 g3 (Int.natCast_nonneg _) (Int.le_trans (Int.natCast_nonneg _) g3))⟩
    rw [← Int.natCast_mul]
    refine Int.ofNat_le.2 ?_
    rw [show r * U * (r * U) = r * r * (U * U) by simp only [Nat.mul_assoc, Nat.mul_left_comm, Nat.mul_comm]]
    exact Nat.mul_le_mul_right _ hr

theorem sq_nn (x : Int) : 0 ≤ x * x := by
  rcases Int.le_total 0 x with h | h
  · exact Int.mul_nonneg h h
  · have := Int.mul_nonneg (Int.neg_nonneg.2 h) (Int.neg_nonneg.2 h)
    rwa [Int.neg_mul_neg] at this
theorem sq_le {x y : Int} (hy : 0 ≤ y) (h : x * x ≤ y * y) : x ≤ y := by
  rcases Int.lt_or_le y x with q | q
  · have := Int.mul_lt_mul_of_pos_left q (show 0 < x by omega)
    have h2 := Int.mul_le_mul_of_nonneg_right (Int.le_of_lt q) hy
    omega
  · exact q
/-- The triangle, in whole numbers. -/
theorem triangle {a b c x y z w : Int} (ha : 0 ≤ a) (hb : 0 ≤ b) (h1 : x * x + y * y ≤ a * a) (h2 : z * z + w * w ≤ b * b) (h3 : c * c ≤ (x + z) * (x + z) + (y + w) * (y + w)) : c ≤ a + b := by
  have k1 : x * z + y * w ≤ a * b := by
    refine sq_le (Int.mul_nonneg ha hb) ?_
    have e1 : (x * x + y * y) * (z * z + w * w) = (x * z + y * w) * (x * z + y * w) + (x * w - y * z) * (x * w - y * z) := by grind
    have e2 : a * b * (a * b) = (a * a) * (b * b) := by grind
    have n1 := sq_nn (x * w - y * z)
    have n2 := sq_nn x
    have n3 := sq_nn y
    have n4 := sq_nn z
    have n5 := sq_nn w
    have e3 := Int.mul_le_mul h1 h2 (by omega) (by omega)
    rw [e2]; omega
  refine sq_le (by omega) ?_
  have e1 : (a + b) * (a + b) = a * a + b * b + 2 * (a * b) := by grind
  have e2 : (x + z) * (x + z) + (y + w) * (y + w) = (x * x + y * y) + (z * z + w * w) + 2 * (x * z + y * w) := by grind
  omega
end Go.Cv

/-
  The statement on what a product loses.
-/
namespace Go.Cv
variable {G : Nat → Option (List AV)} {T : Tbl} {g : Nat}

theorem sum_flag (F : Fm) (m : Int) (d : Dy) : (sumW F m d).2 = 0 ∨ (sumW F m d).2 = 16 ∨ (sumW F m d).2 = 20 ∨ (sumW F m d).2 = 24 := by
  unfold sumW; split
  · exact Or.inl rfl
  · exact flag_val F m d
end Go.Cv

/-
  The statement on six operations that tell what a sum has lost.
-/
namespace Go.Cv
variable {G : Nat → Option (List AV)} {T : Tbl} {g : Nat}

/-- A set of flags. -/
def Fl (x : Nat) : Prop := x < 32
theorem or8 {a b : Nat} (ha : Fl a) (hb : Fl b) : orI .u8 (a : Int) (b : Int) = ((a ||| b : Nat) : Int) ∧ Fl (a ||| b) := by
  have h : a ||| b < 2 ^ 5 := Nat.or_lt_two_pow (n := 5) ha hb
  unfold Fl at *
  refine ⟨?_, h⟩
  rw [orI_eq]
  show IntKind.u8.wrap ((BitVec.ofInt 8 a ||| BitVec.ofInt 8 b).toNat : Int) = _
  simp only [BitVec.toNat_or, BitVec.toNat_ofInt]
  have e1 : ((a : Int) % (2 ^ 8 : Nat)).toNat = a := by omega
  have e2 : ((b : Int) % (2 ^ 8 : Nat)).toNat = b := by omega
  rw [e1, e2]
  show (((a ||| b : Nat) : Int)) % 256 = _
  omega
theorem sumW_lt (F : Fm) {m : Int} (hm : 1 ≤ m ∧ m ≤ 5) (d : Dy) : (sumW F m d).1 < 2 * F.sg := by
  have hi := fm_i0 F
  unfold sumW; split
  · unfold Fm.sgn; simp only; split <;> omega
  · obtain ⟨s, n, e, h1, _⟩ := rndW_key F hm.1 hm.2 d
    rw [e]; exact word_lt n h1
theorem addP_facts (F : Fm) {m : Int} (hm : 1 ≤ m ∧ m ≤ 5) (c : Int) (n : Bool) (d : Dy) (c' : Int) (n' : Bool) (d' : Dy) : (addP F m c n d c' n' d').1 < 2 * F.sg ∧ Fl (addP F m c n d c' n' d').2 := by
  have hi := fm_i0 F
  have k : ∀ n, F.inf n < 2 * F.sg ∧ F.sgn n < 2 * F.sg := fun n => by cases F <;> cases n <;> decide
  unfold addP Fl
  by_cases h1 : c = 5 ∨ c' = 5
  · rw [if_pos h1]; exact ⟨(nan_facts F).1, by simp⟩
  · rw [if_neg h1]
    by_cases h2 : c = 4 ∧ c' = 4 ∧ n ≠ n'
    · rw [if_pos h2]; exact ⟨(nan_facts F).1, by simp⟩
    · rw [if_neg h2]
      by_cases h3 : c = 4
      · rw [if_pos h3]; exact ⟨(k n).1, by simp⟩
      · rw [if_neg h3]
        by_cases h4 : c' = 4
        · rw [if_pos h4]; exact ⟨(k n').1, by simp⟩
        · rw [if_neg h4]
          by_cases h5 : c = 1 ∧ c' = 1 ∧ n = n'
          · rw [if_pos h5]; exact ⟨(k n).2, by simp⟩
          · rw [if_neg h5]
            refine ⟨sumW_lt F hm _, ?_⟩
            have := sum_flag F m (addD d d')
            omega

end Go.Cv

/-
  The statement on the triangle.
-/
namespace Go.Cv
variable {G : Nat → Option (List AV)} {T : Tbl} {g : Nat}

/-- What is rounded without a flag is told exactly. -/
theorem rnd_exact (F : Fm) {md : Int} (hm : 1 ≤ md ∧ md ≤ 5) {d : Dy} (hz : Nz d) (h0 : d.m ≠ 0) (hf : (rndW F md d).2 = 0) : F.fin (rndW F md d).1 ∧ F.val (rndW F md d).1 = d := by
  have hF := fm_facts F
  have ho := hz.2 h0
  obtain ⟨b1, b2, _, _⟩ := rnd_bd F (md := md) h0
  obtain ⟨t1, t2⟩ := taken_rnd (md := md) (x := d) (u := F.eOf (d.e + blen d.m)) hm ho
  unfold rndW at hf ⊢
  simp only [if_neg h0] at hf ⊢
  obtain ⟨u, hu⟩ : ∃ u, u = F.eOf (d.e + blen d.m) := ⟨_, rfl⟩
  have hue : u = max (d.e + blen d.m - F.fr - 1) F.low := hu
  have hlo : F.low ≤ u := by omega
  rw [← hu] at b1 b2 hf t1 t2 ⊢
  rw [t1] at t2
  generalize (rnd md d.n d.m d.e u).1 = K at *
  generalize (rnd md d.n d.m d.e u).2 = ex at *
  unfold wordOf at hf ⊢
  have hbig := enc_big F (n := K) (u := u) b1 hlo b2
  by_cases ov : F.wide < blen K + u
  · rw [if_pos ov] at hf; exact absurd hf (by simp)
  · rw [if_neg ov] at hf ⊢
    have hx : ex = true := by
      cases ex
      · simp only [Bool.false_eq_true, if_false] at hf; split at hf <;> exact absurd hf (by simp)
      · rfl
    obtain ⟨e1, e2, e3⟩ := t2.2 hx
    have hd : d = mkD d.n K u := by
      generalize mkD d.n K u = y at *
      obtain ⟨n, m, e⟩ := d
      obtain ⟨n', m', e'⟩ := y
      simp only at e1 e2 e3
      subst e1 e2 e3; rfl
    have hs : F.enc K u < F.i0 := by
      rcases Nat.lt_or_ge (F.enc K u) F.i0 with q | q
      · exact q
      · exact absurd (hbig.2 q) ov
    obtain ⟨v1, v2, v3⟩ := iv_val (F := F) d.n hs
    rw [magN_enc F b1 hlo b2] at v1
    refine ⟨fin_size _ hs, ?_⟩
    have := nz_eq v3 (Nz_mk d.n K u) v2 (LoE_mk (by omega)) (by rw [v1, iv_mk (by omega)])
    exact this.trans hd.symm
theorem add_exact (F : Fm) {md : Int} (hm : 1 ≤ md ∧ md ≤ 5) {a b : Nat} (ha : a < 2 * F.sg) (hb : b < 2 * F.sg) (fa : F.fin a) (fb : F.fin b) (hf : (addW F md a b).2 = 0) : F.fin (addW F md a b).1 ∧ F.vl (addW F md a b).1 = addD (F.vl a) (F.vl b) := by
  unfold addW at hf ⊢
  rw [addP_fin F md (fin_iff.1 fa) (fin_iff.1 fb)] at hf ⊢
  by_cases q : F.cls a = 1 ∧ F.cls b = 1 ∧ F.ng a = F.ng b
  · rw [if_pos q]
    refine ⟨(sgn_fin F _).2.1, ?_⟩
    rw [(sgn_fin F _).2.2, vl_val fa, vl_val fb, (cls_zero_w ha q.1).2, (cls_zero_w hb q.2.1).2]; rfl
  · rw [if_neg q] at hf ⊢
    have hz := Nz_add (Nz_vl F a) (Nz_vl F b)
    unfold sumW at hf ⊢
    by_cases h0 : (addD (F.vl a) (F.vl b)).m = 0
    · rw [if_pos h0]
      exact ⟨(sgn_fin F _).2.1, by rw [(sgn_fin F _).2.2, hz.1 h0]⟩
    · rw [if_neg h0] at hf ⊢
      obtain ⟨h1, h2⟩ := rnd_exact F hm hz h0 hf
      exact ⟨h1, by rw [vl_val h1, h2]⟩

theorem absZ_fin (F : Fm) (md : Int) {a b : Nat} (fa : F.fin a) (fb : F.fin b) : absZ F md a b = rtW F md (sqD F a b) := by
  have ca := fin_iff.1 fa
  have cb := fin_iff.1 fb
  unfold absZ toldW zcl
  rw [if_neg (show ¬ (F.cls a = 4 ∨ F.cls b = 4) by omega), if_neg (show ¬ (F.cls a = 5 ∨ F.cls b = 5) by omega)]
  split <;> simp
theorem iv_sq (F : Fm) {a b : Nat} {L : Int} (la : LoE (F.vl a) L) (lb : LoE (F.vl b) L) : iv (sqD F a b) (2 * L) = iv (F.vl a) L * iv (F.vl a) L + iv (F.vl b) L * iv (F.vl b) L := by
  obtain ⟨p1, p2⟩ := iv_mul la la
  obtain ⟨q1, q2⟩ := iv_mul lb lb
  unfold sqD
  rw [show 2 * L = L + L by omega, (iv_add p2 q2).1, p1, q1]

theorem abs_le (F : Fm) {a b : Nat} (fa : F.fin a) (fb : F.fin b) {A : Nat} (hA : A = (rtW F 4 (sqD F a b)).1) (h : F.fin A) : cmpD (absD (F.vl a)) (F.vl A) ≤ 0 ∧ cmpD (absD (F.vl b)) (F.vl A) ≤ 0 := by
  obtain ⟨_, hu⟩ := rt_up F (sq_pos F a b)
  rw [← hA] at hu
  have cA := fin_iff.1 h
  rcases hu with hu | ⟨_, hu⟩
  · omega
  obtain ⟨L, l1, l2⟩ : ∃ L : Int, L ≤ F.low ∧ 2 * L ≤ (sqD F a b).e - 200 := ⟨min F.low (((sqD F a b).e - 200) / 2), by omega, by omega⟩
  obtain ⟨u1, u2, u3⟩ := hu L l1 l2
  have la := (LoE_vl fa).mono l1
  have lb := (LoE_vl fb).mono l1
  rw [iv_sq F la lb] at u3
  have key : ∀ {d : Dy}, LoE d L → iv d L * iv d L ≤ iv (F.vl A) L * iv (F.vl A) L → cmpD (absD d) (F.vl A) ≤ 0 := fun {d} ld hd => by
    have h1 := sq_le u1 hd
    have h2 := sq_le (x := -iv d L) u1 (by rw [Int.neg_mul_neg]; exact hd)
    rw [cmp_iv (show LoE (absD d) L from ld) u2, iv_abs]
    have h3 := sgI_pos (x := ((d.m * 2 ^ (d.e - L).toNat : Nat) : Int) - iv (F.vl A) L)
    rcases iv_cases d L with ⟨e, _⟩ | ⟨e, _⟩ <;> omega
  have n1 := sq_nn (iv (F.vl a) L)
  have n2 := sq_nn (iv (F.vl b) L)
  exact ⟨key la (by omega), key lb (by omega)⟩

theorem tri_w (F : Fm) {a b c d : Nat} (fa : F.fin a) (fb : F.fin b) (fc : F.fin c) (fd : F.fin d) {A B C s t : Nat} (hA : A = (rtW F 4 (sqD F a b)).1) (hB : B = (rtW F 4 (sqD F c d)).1) (hC : C = (rtW F 5 (sqD F s t)).1)
    (h1 : F.fin A) (h2 : F.fin B) (fs : F.fin s) (ft : F.fin t) (es : F.vl s = addD (F.vl a) (F.vl c)) (et : F.vl t = addD (F.vl b) (F.vl d)) : cmpD (F.vl C) (addD (F.vl A) (F.vl B)) ≤ 0 := by
  obtain ⟨_, hu⟩ := rt_up F (sq_pos F a b)
  obtain ⟨_, hv⟩ := rt_up F (sq_pos F c d)
  obtain ⟨_, _, hw⟩ := rt_dn F (sq_pos F s t)
  rw [← hA] at hu
  rw [← hB] at hv
  rw [← hC] at hw
  have cA := fin_iff.1 h1
  have cB := fin_iff.1 h2
  rcases hu with hu | ⟨_, hu⟩
  · omega
  rcases hv with hv | ⟨_, hv⟩
  · omega
  obtain ⟨L, l1, l2, l3, l4⟩ : ∃ L : Int, L ≤ F.low ∧ 2 * L ≤ (sqD F a b).e - 200 ∧ 2 * L ≤ (sqD F c d).e - 200 ∧ 2 * L ≤ (sqD F s t).e - 200 :=
    ⟨min F.low (min (((sqD F a b).e - 200) / 2) (min (((sqD F c d).e - 200) / 2) (((sqD F s t).e - 200) / 2))), by omega, by omega, by omega, by omega⟩
  obtain ⟨u1, u2, u3⟩ := hu L l1 l2
  obtain ⟨v1, v2, v3⟩ := hv L l1 l3
  obtain ⟨w1, w2, w3⟩ := hw L l1 l4
  have la := (LoE_vl fa).mono l1
  have lb := (LoE_vl fb).mono l1
  have lc := (LoE_vl fc).mono l1
  have ld := (LoE_vl fd).mono l1
  rw [iv_sq F la lb] at u3
  rw [iv_sq F lc ld] at v3
  rw [iv_sq F ((LoE_vl fs).mono l1) ((LoE_vl ft).mono l1), es, et, (iv_add la lc).1, (iv_add lb ld).1] at w3
  have h := triangle u1 v1 u3 v3 w3
  obtain ⟨k1, k2⟩ := iv_add u2 v2
  rw [cmp_iv w2 k2, k1]
  have h3 := sgI_pos (x := iv (F.vl C) L - (iv (F.vl A) L + iv (F.vl B) L))
  omega

theorem ref10_Finite (hD : HasD g T) (hF : HasF g T) (hW : HasJ g T) (F : Fm) {a b : Nat} (ha : a < 2 * F.sg) (hb : b < 2 * F.sg) : run G T 250 [.int .u8 F.u, zA a b] = some (.bool (decide (F.fin a ∧ F.fin b))) := by
  rw [run_k G T hW.ref10_Finite]
  have f1 := ref03_Finite (G := G) (T := T) hD hF F (sg_64 ha)
  have f2 := ref03_Finite (G := G) (T := T) hD hF F (sg_64 hb)
  simp only [zA]
  by_cases p : F.fin a
  · rw [decide_eq_true p] at f1
    by_cases q : F.fin b
    · rw [decide_eq_true q] at f2
      rw [decide_eq_true (show F.fin a ∧ F.fin b from ⟨p, q⟩)]
      repeat' (first | (simp (maxSteps := 1000000) only [evB, if_true, if_false, ne_eq, Nat.reduceEqDiff, Nat.reduceAdd, reduceCtorEq, Int.reduceLE, Int.reduceLT, Int.reduceEq, Int.reduceNeg, Int.reduceToNat, Int.reducePow, Int.reduceMod, Int.reduceDiv, Int.reduceSub, Int.reduceAdd, Int.reduceMul, Nat.reduceMul, Nat.reduceSub, Nat.reducePow, exB, resC_ptr, res_cell, nilb, nilf, faddr_p, c_ref10_Finite, f1, f2]) | (simp (maxSteps := 1000000) (disch := first | with_reducible assumption | omega) only [dxB]) | (simp only [kI_d, kG_dt, kG_df]; split) | (simp only [kI_v, kG_vt, kG_vf]; split))
    · rw [decide_eq_false q] at f2
      rw [decide_eq_false (show ¬ (F.fin a ∧ F.fin b) from fun h => q h.2)]
      repeat' (first | (simp (maxSteps := 1000000) only [evB, if_true, if_false, ne_eq, Nat.reduceEqDiff, Nat.reduceAdd, reduceCtorEq, Int.reduceLE, Int.reduceLT, Int.reduceEq, Int.reduceNeg, Int.reduceToNat, Int.reducePow, Int.reduceMod, Int.reduceDiv, Int.reduceSub, Int.reduceAdd, Int.reduceMul, Nat.reduceMul, Nat.reduceSub, Nat.reducePow, exB, resC_ptr, res_cell, nilb, nilf, faddr_p, c_ref10_Finite, f1, f2]) | (simp (maxSteps := 1000000) (disch := first | with_reducible assumption | omega) only [dxB]) | (simp only [kI_d, kG_dt, kG_df]; split) | (simp only [kI_v, kG_vt, kG_vf]; split))
  · rw [decide_eq_false p] at f1
    rw [decide_eq_false (show ¬ (F.fin a ∧ F.fin b) from fun h => p h.1)]
    repeat' (first | (simp (maxSteps := 1000000) only [evB, if_true, if_false, ne_eq, Nat.reduceEqDiff, Nat.reduceAdd, reduceCtorEq, Int.reduceLE, Int.reduceLT, Int.reduceEq, Int.reduceNeg, Int.reduceToNat, Int.reducePow, Int.reduceMod, Int.reduceDiv, Int.reduceSub, Int.reduceAdd, Int.reduceMul, Nat.reduceMul, Nat.reduceSub, Nat.reducePow, exB, resC_ptr, res_cell, nilb, nilf, faddr_p, c_ref10_Finite, f1]) | (simp (maxSteps := 1000000) (disch := first | with_reducible assumption | omega) only [dxB]) | (simp only [kI_d, kG_dt, kG_df]; split) | (simp only [kI_v, kG_vt, kG_vf]; split))

/-- A number with its flags. -/
def zrA (p q : Nat × Nat) : AV := .agg [.int .u64 (p.1 : Int), .int .u64 (q.1 : Int), .int .u8 (p.2 : Int), .int .u8 (q.2 : Int)]
theorem ref12_Add (hA : HasA g T) (hB : HasB g T) (hC : HasC g T) (hD : HasD g T) (hE : HasE g T) (hF : HasF g T) (hV : HasH g T) (hW : HasJ g T) (F : Fm) {md : Int} (hm : 1 ≤ md ∧ md ≤ 5) {a b c d : Nat} (ha : a < 2 * F.sg) (hb : b < 2 * F.sg) (hc : c < 2 * F.sg) (hd : d < 2 * F.sg) :
    run G T 251 [.int .u8 F.u, .int .u8 md, zA a b, zA c d] = some (zrA (addW F md a c) (addW F md b d)) := by
  rw [run_k G T hW.ref12_Add]
  have r1 := ref05_Add (G := G) (T := T) hA hB hC hD hE hF hV F hm ha hc
  have r2 := ref05_Add (G := G) (T := T) hA hB hC hD hE hF hV F hm hb hd
  generalize addW F md a c = S1 at *
  generalize addW F md b d = S2 at *
  simp only [zA, zrA]
  repeat' (first | (simp (maxSteps := 1000000) only [evB, if_true, if_false, ne_eq, Nat.reduceEqDiff, Nat.reduceAdd, reduceCtorEq, Int.reduceLE, Int.reduceLT, Int.reduceEq, Int.reduceNeg, Int.reduceToNat, Int.reducePow, Int.reduceMod, Int.reduceDiv, Int.reduceSub, Int.reduceAdd, Int.reduceMul, Nat.reduceMul, Nat.reduceSub, Nat.reducePow, exB, resC_ptr, res_cell, nilb, nilf, faddr_p, c_ref12_Add, r1, r2]) | (simp (maxSteps := 1000000) (disch := first | with_reducible assumption | omega) only [dxB]) | (simp only [kI_d, kG_dt, kG_df]; split) | (simp only [kI_v, kG_vt, kG_vf]; split))
end Go.Cv
