/-
  A part of the proof of the statements of this seat (texts that the law's own text leans on): no condition.
-/
import Derived.Test.YtmjcmppbmolmnaaGreatDoorM6
import Derived.Test.YtmjcmppbmolmnaaGreatDoorM5
import Derived.Test.YtmjcmppbmolmnaaGreatDoorM4
set_option linter.unusedVariables false
set_option linter.unusedSimpArgs false
/-
  A long quotient.
-/
namespace Go.Cv
variable {G : Nat → Option (List AV)} {T : Tbl} {g : Nat}

theorem ext_loop {h0 h : Heap} {b La : Nat} {L C A : List Nat} {za : Bool} {s6 s7 : AV} (H : Holds h b (L ++ C)) (hf : FreH h) (dL : Dg L) (hL : L.length = La) (hs : A.length < 17179869184) (hlen : La = A.length ∨ La = A.length + 1) (K : KeepsAll h0 h (.own b 0 La 1)) :
    Post (evL G T c_nat_long_l2 [(0, D za A), (6, s6), (7, s7), (8, .own b 0 La 1)] h) fun r =>
      ∃ e h' b' C' U, r = (.exit 0, (0, D za A) :: (6, s6) :: (7, s7) :: (8, .own b' 0 (A.length + 1) 1) :: e, h') ∧ Holds h' b' (U ++ C') ∧ FreH h' ∧ U.length = A.length + 1 ∧ Dg U ∧ val U = val L ∧ KeepsAll h0 h' (.own b' 0 (A.length + 1) 1) := by
  subst hL
  rw [s_loopc G T (c := c_nat_long_l2) rfl]
  rcases hlen with hl | hl
  · have c1 : ((L.length : Nat) : Int) ≤ ((A.length : Nat) : Int) := by omega
    have B : Bld h (.own b 0 L.length 1) L := ⟨hf, Or.inr ⟨b, C, rfl, H⟩⟩
    obtain ⟨ha1, ha2, ha3⟩ := Bld_app3 B (w := 0) (by decide) (by omega)
    have K2 := app_keeps B K (w := 0) (by decide) (by omega)
    have c2 : ¬ (((L.length + 1 : Nat) : Int) ≤ ((A.length : Nat) : Int)) := by omega
    have e : Post (evL G T c_nat_long_l2 [(0, D za A), (6, s6), (7, s7), (8, .own (h.b.length + 1) 0 (L.length + 1) 1)] (appH h (.own b 0 L.length 1) 0)) fun r =>
      ∃ e h' b' C' U, r = (.exit 0, (0, D za A) :: (6, s6) :: (7, s7) :: (8, .own b' 0 (A.length + 1) 1) :: e, h') ∧ Holds h' b' (U ++ C') ∧ FreH h' ∧ U.length = A.length + 1 ∧ Dg U ∧ val U = val L ∧ KeepsAll h0 h' (.own b' 0 (A.length + 1) 1) := by
      rw [s_loopc G T (c := c_nat_long_l2) rfl]
      repeat (first | (simp (maxSteps := 1000000) only [evB, if_true, if_false, ne_eq, Nat.reduceEqDiff, Nat.reduceAdd, reduceCtorEq, Int.reduceLE, Int.reduceLT, Int.reduceEq, Int.reduceNeg, Int.reduceToNat, Int.reducePow, Int.reduceMod, Int.reduceDiv, Int.reduceSub, Int.reduceAdd, Int.reduceMul, Nat.reduceMul, Nat.reduceSub, Nat.reducePow, c_nat_long_b2, c2]) | (simp (disch := omega) only [dsB]))
      refine Post.some ⟨_, _, _, [], L ++ [0], by rw [hl], by rw [List.append_nil]; exact ha2, ha3.1, by rw [List.length_append, hl]; rfl, Dg_snoc dL (by decide), by rw [val_snoc, Nat.mul_zero, Nat.add_zero], by rw [← hl]; exact K2⟩
    repeat (first | (simp (maxSteps := 1000000) only [evB, if_true, if_false, ne_eq, Nat.reduceEqDiff, Nat.reduceAdd, reduceCtorEq, Int.reduceLE, Int.reduceLT, Int.reduceEq, Int.reduceNeg, Int.reduceToNat, Int.reducePow, Int.reduceMod, Int.reduceDiv, Int.reduceSub, Int.reduceAdd, Int.reduceMul, Nat.reduceMul, Nat.reduceSub, Nat.reducePow, c_nat_long_b2, c1, ha1]) | (simp (disch := omega) only [dsB]))
    exact e
  · have c1 : ¬ (((L.length : Nat) : Int) ≤ ((A.length : Nat) : Int)) := by omega
    repeat (first | (simp (maxSteps := 1000000) only [evB, if_true, if_false, ne_eq, Nat.reduceEqDiff, Nat.reduceAdd, reduceCtorEq, Int.reduceLE, Int.reduceLT, Int.reduceEq, Int.reduceNeg, Int.reduceToNat, Int.reducePow, Int.reduceMod, Int.reduceDiv, Int.reduceSub, Int.reduceAdd, Int.reduceMul, Nat.reduceMul, Nat.reduceSub, Nat.reducePow, c_nat_long_b2, c1]) | (simp (disch := omega) only [dsB]))
    exact Post.some ⟨_, _, _, C, L, by rw [hl], H, hf, hl, dL, rfl, by rw [← hl]; exact K⟩

/-- The divisor shifted up so that its highest bit is 1. -/
theorem long_top {b n s : Nat} (hn : (dl b).length = n) (h0 : 0 < n) (hs : s = 32 - blen (dg (dl b) (n - 1))) : s < 32 ∧ (dl (b * 2 ^ s)).length = n ∧ 2147483648 ≤ dg (dl (b * 2 ^ s)) (n - 1) := by
  have hb0 : b ≠ 0 := by rintro rfl; rw [dl_zero] at hn; simp at hn; omega
  have hbl := blen_dl hb0
  rw [hn] at hbl
  have ht : blen (dg (dl b) (n - 1)) ≤ 32 := blen_le.2 ((Dg_dl b).dg _)
  have hb1 := dl_len_blen b
  rw [hn] at hb1
  have hm := blen_mul hb0 s
  have e1 : blen (b * 2 ^ s) = 32 * n := by omega
  have e2 : (dl (b * 2 ^ s)).length = n := by rw [dl_len_blen]; omega
  have hm0 : b * 2 ^ s ≠ 0 := Nat.mul_ne_zero hb0 (Nat.ne_of_gt (Nat.two_pow_pos s))
  have e3 := blen_dl hm0
  rw [e2, e1] at e3
  have e4 : 31 < blen (dg (dl (b * 2 ^ s)) (n - 1)) := by omega
  exact ⟨by omega, e2, lt_blen.1 e4⟩

theorem long_first {a b s m n N : Nat} {U : List Nat} (dU : Dg U) (hN : U.length = N) (hU : val U = a * 2 ^ s) (ha : (dl a).length + 1 = N) (hb : (dl b).length = n) (h0 : 0 < n) (hm : N = m + n) : val (U.drop m) < b * 2 ^ s := by
  rw [val_drop dU, hU]
  apply Nat.div_lt_of_lt_mul
  have h1 : a < 4294967296 ^ (N - 1) := dl_len.1 (by omega)
  have h2 : 4294967296 ^ (n - 1) ≤ b := by
    apply Classical.byContradiction; intro hc
    have := dl_len.2 (Nat.lt_of_not_le hc)
    omega
  have h3 : a < 4294967296 ^ m * b := by
    refine Nat.lt_of_lt_of_le h1 ?_
    rw [show N - 1 = m + (n - 1) by omega, Nat.pow_add]
    exact Nat.mul_le_mul_left _ h2
  rw [← Nat.mul_assoc]
  exact Nat.mul_lt_mul_of_pos_right h3 (Nat.two_pow_pos s)

theorem nat_long (hT : HasA g T) {z y : Bool} {a b : Nat} (hb : 2 ≤ (dl b).length) (hab : b ≤ a) (hs : (dl a).length < 8589934592) : ∃ z1 z2, run G T 109 [D z (dl a), D y (dl b)] = some (.tup [D z1 (dl (a / b)), D z2 (dl (a % b))]) := by
  obtain ⟨n, hn⟩ : ∃ n, n = (dl b).length := ⟨_, rfl⟩
  obtain ⟨s, hs1⟩ : ∃ s, s = 32 - blen (dg (dl b) (n - 1)) := ⟨_, rfl⟩
  obtain ⟨t1, t2, t3⟩ := long_top hn.symm (by omega) hs1
  have hb0 : b ≠ 0 := by rintro rfl; rw [dl_zero] at hb; exact absurd hb (by decide)
  have ha0 : a ≠ 0 := by omega
  have hle : (dl b).length ≤ (dl a).length := by
    have h1 := blen_mono hab
    have h2 := dl_len_blen a
    have h3 := dl_len_blen b
    omega
  obtain ⟨bv, V2, h1, r1, H1, dV2, F1, K1⟩ := nat_up_h (G := G) (z := y) hT (h := .nil) FreH.nil hb0 (by omega) (n := s) (by omega)
  obtain ⟨bu, l2, h2, r2, H2, d2, F2, K2⟩ := nat_up_h (G := G) (z := z) hT (h := h1) F1 ha0 (by omega) (n := s) (by omega)
  simp only [numE_cons, numE_nil, Nat.reduceAdd, Nat.zero_add] at r1 r2
  have hLa : (dl (a * 2 ^ s)).length = (dl a).length ∨ (dl (a * 2 ^ s)).length = (dl a).length + 1 := by
    rw [dl_len_blen, dl_len_blen, blen_mul ha0]; omega
  obtain ⟨_, r3, e3, h3, bu3, C3, U, rfl, H3, F3, hUl, dU, hUv, K3⟩ := ext_loop (G := G) (T := T) (h0 := h1) (za := z) (s6 := .int .i64 (s : Int)) (s7 := .own bv 0 n 1) H2 F2 (Dg_dl _) rfl (A := dl a) (by omega) hLa K2
  rw [val_dl] at hUv
  obtain ⟨HV3, hne3⟩ := K3 _ _ H1
  obtain ⟨m, hm⟩ : ∃ m, (dl a).length + 1 = m + n := ⟨(dl a).length + 1 - n, by omega⟩
  have hfirst := long_first dU hUl hUv rfl hn.symm (by omega) hm
  have HQ := Holds_new F3 (List.replicate m 0)
  have HU4 := H3.new (m := List.replicate m 0)
  have HV4 := HV3.new (m := List.replicate m 0)
  have q1 : bv ≠ bu3 := (hne3 _ _ _ _ rfl).symm
  have q2 : h3.b.length ≠ bu3 := by have := H3.lt; omega
  have q3 : bv ≠ h3.b.length := by have := HV3.lt; omega
  have vV : val (dl (b * 2 ^ s)) = b * 2 ^ s := val_dl _
  obtain ⟨_, r4, e4, h4, R, Q, rfl, HU5, HQ5, dR, hR, dQ, hQ, hlt, hv⟩ := long_loop (G := G) (m := m) (N := (dl a).length + 1) (n := n) (s := .int .i64 (s : Int)) hT q1 q2 q3 (by omega) (by omega) t2 (Dg_dl _) dU t3 hUl hm m (new h3 (List.replicate m 0)) (U.drop m) (List.replicate m 0) (Nat.le_refl _) (by rw [List.take_append_drop]; exact HU4) HV4 HQ (dU.drop _) (by rw [List.length_drop, hUl]) (Dg_rep _) (List.length_replicate ..) (by rw [vV]; exact hfirst) (by
    have : (List.replicate m 0).drop m = [] := List.drop_eq_nil_of_le (by rw [List.length_replicate]; exact Nat.le_refl _)
    rw [this]; simp [val])
  rw [vV] at hlt hv
  rw [hUv] at hv
  have hq : val Q = a / b := by
    have h1 := (divmod_of hlt hv).1
    rw [h1, Nat.mul_div_mul_right _ _ (Nat.two_pow_pos s)]
  have hr : val R = a % b * 2 ^ s := by
    have h1 := (divmod_of hlt hv).2
    rw [h1, Nat.mul_mod_mul_right]
  have hRn : val (R.take n) = val R := by
    rw [val_take dR, Nat.mod_eq_of_lt]
    refine Nat.lt_of_lt_of_le hlt ?_
    have := val_lt (Dg_dl (b * 2 ^ s))
    rw [t2, val_dl] at this
    exact Nat.le_of_lt this
  obtain ⟨z1, hz1⟩ := nat_trim (G := G) (T := T) hT (z := false) dQ (by omega)
  obtain ⟨z2, hz2⟩ := nat_trim (G := G) (T := T) hT (z := false) (dR.take n) (by rw [List.length_take]; omega)
  rw [hRn, hr] at hz2
  rw [hq] at hz1
  have hsb : (dl (a % b * 2 ^ s)).length ≤ n := by
    have := dl_len.1 (Nat.le_refl (dl (b * 2 ^ s)).length)
    rw [t2] at this
    exact dl_len.2 (Nat.lt_of_le_of_lt (Nat.mul_le_mul_right _ (Nat.le_of_lt (Nat.mod_lt a (by omega)))) this)
  obtain ⟨z3, hz3⟩ := nat_down (G := G) (T := T) hT (z := z2) (a := a % b * 2 ^ s) (n := s) (by omega) (by omega)
  rw [Nat.mul_div_cancel _ (Nat.two_pow_pos s)] at hz3
  have hsl : (dl (a % b)).length < 1099511627776 := by
    have h1 := blen_mono (Nat.le_of_lt (Nat.mod_lt a (Nat.pos_of_ne_zero hb0)))
    have h2 := dl_len_blen (a % b)
    have h3 := dl_len_blen b
    omega
  obtain ⟨z4, hz4⟩ := nat_trim (G := G) (T := T) hT (z := z3) (Dg_dl (a % b)) hsl
  rw [val_dl] at hz4
  have sq := snap_own HQ5 (n := m) (by omega)
  rw [← hQ, List.take_length, hQ] at sq
  have su := snap_own HU5 (n := n) (by rw [List.length_append]; omega)
  rw [List.take_append_of_le_length (by omega)] at su
  have slu := sl_own (n := (dl a).length + 1) (off := 0) (k := .i64) (j := (n : Int)) HU5.mem ⟨by omega, by rw [Int.toNat_natCast]; omega⟩
  rw [Int.toNat_natCast] at slu
  have i1 : ((dl b).length : Int) - 1 = (((dl b).length - 1 : Nat) : Int) := by omega
  have lz := bits_Lz (G := G) hT ((Dg_dl b).dg (n - 1))
  rw [← hs1] at lz
  have w1 : (((dl a).length + 1 : Nat) : Int) - (n : Int) = (m : Int) := by omega
  have mm : ∀ f : List Nat, (⟨h4.b, f⟩ : Heap).mem = h4.mem := fun _ => rfl
  refine ⟨z1, z4, ?_⟩
  rw [run_k G T hT.nat_long]
  clear hLa hUv hfirst hlt hv hq hr hRn hsb hsl
  subst hn
  rw [t2] at r1
  repeat (first | (simp (maxSteps := 1000000) only [evB, if_true, if_false, ne_eq, Nat.reduceEqDiff, Nat.reduceAdd, reduceCtorEq, Int.reduceLE, Int.reduceLT, Int.reduceEq, Int.reduceNeg, Int.reduceToNat, Int.reducePow, Int.reduceMod, Int.reduceDiv, Int.reduceSub, Int.reduceAdd, Int.reduceMul, Nat.reduceMul, Nat.reduceSub, Nat.reducePow, c_nat_long, i1, lz, st_callk G T hT.nat_up, r1, r2, r3, r4, w1, sq, hz1, slu, su, hz2, hz3, hz4, mm, frz_own]) | (simp (disch := omega) only [dsB]))
end Go.Cv

/-
  The program's quotients.
-/
namespace Go.Cv
variable {G : Nat → Option (List AV)} {T : Tbl} {g : Nat}

theorem all_loop (e : Env) (h : Heap) : evL G T c_nat_all_l1 e h = kS G T (evL G T c_nat_all_b1 (keepE [5, 6, 7] e) h) c_nat_all_l1 := s_loopc G T rfl e h
theorem ia1_0 (x y : AV) (k : IntKind) : iaddrV 1 (.imm 2 [x, y]) (.int k 0) = some (.iptr [x, y] 0) := rfl
theorem ia1_1 (x y : AV) (k : IntKind) : iaddrV 1 (.imm 2 [x, y]) (.int k 1) = some (.iptr [x, y] 1) := rfl
theorem rd1_0 (h : Mem) (x y : AV) : rdAt G h 1 (.iptr [x, y] 0) = some [x] := rfl
theorem rd1_1 (h : Mem) (x y : AV) : rdAt G h 1 (.iptr [x, y] 1) = some [y] := rfl

theorem nat_all (hT : HasA g T) {z y : Bool} {a b : List Nat} : run G T 106 [.imm 2 [D z a, D y b]] = some (.bool (mayL a && mayL b)) := by
  rw [run_k G T hT.nat_all]
  have h1 := nat_May (G := G) hT z a
  have h2 := nat_May (G := G) hT y b
  cases ha : mayL a <;> cases hb : mayL b <;> (
    rw [ha] at h1
    rw [hb] at h2
    repeat' (first | (simp (maxSteps := 1000000) only [evB, if_true, if_false, ne_eq, Nat.reduceEqDiff, Nat.reduceAdd, reduceCtorEq, Int.reduceLE, Int.reduceLT, Int.reduceEq, Int.reduceNeg, Int.reduceToNat, Int.reducePow, Int.reduceMod, Int.reduceDiv, Int.reduceSub, Int.reduceAdd, Int.reduceMul, Nat.reduceMul, Nat.reduceSub, Nat.reducePow, exB, resC_ptr, res_cell, nilb, nilf, faddr_p, c_nat_all, h1, h2, all_loop, c_nat_all_b1, ia1_0, ia1_1, rd1_0, rd1_1]) | (simp (maxSteps := 1000000) (disch := first | with_reducible assumption | omega) only [dxB]) | (simp only [kI_d, kG_dt, kG_df]; split) | (simp only [kI_v, kG_vt, kG_vf]; split))
    all_goals rfl)

theorem app_nil {h : Heap} {z : Bool} {l : List Nat} (hl : l ≠ []) (hs : l.length < 549755813888) : appV h 1 4 .nil (D z l) = some (.own h.b.length 0 l.length 1, new h l) := by
  cases l with
  | nil => exact absurd rfl hl
  | cons a l =>
    have e : sliceCells h.mem 1 (D z (a :: l)) = some ((a :: l).length, cells (a :: l)) := by
      simp [D, sliceCells, cells]
    simp only [appV, e]
    rw [if_neg (by simp), if_pos (by simp only [boundBytes]; omega)]
    rfl
theorem app_nil0 {h : Heap} {z : Bool} : appV h 1 4 .nil (D z []) = some (.nil, h) := by
  cases z <;> rfl

theorem cmpN_neg {a b : Nat} : cmpN a b < 0 ↔ a < b := by
  unfold cmpN; split
  · constructor <;> intro <;> omega
  · split <;> constructor <;> intro <;> omega

theorem snap_new {h : Heap} (hf : FreH h) (l : List Nat) : snapG (new h l).mem 3 h.b.length 0 l.length 1 = some (D false l) := by
  have := snap_own (Holds_new hf l) (n := l.length) (Nat.le_refl _)
  rw [List.take_length] at this; exact this

theorem nat_QuoRem (hT : HasA g T) {z y : Bool} {a b : Nat} (ha : mayL (dl a) = true) (hb : mayL (dl b) = true) (h0 : b ≠ 0) :
    ∃ z1 z2, run G T 77 [D z (dl a), D y (dl b)] = some (.tup [D z1 (dl (a / b)), D z2 (dl (a % b)), .int .i64 0]) := by
  have la := (mayL_iff.1 ha).1
  have lb := (mayL_iff.1 hb).1
  have h1 := nat_all (G := G) hT (z := z) (y := y) (a := dl a) (b := dl b)
  rw [ha, hb, Bool.and_self] at h1
  have h2 := nat_cmp (G := G) hT (z := z) (y := y) (a := a) (b := b) (by omega) (by omega)
  have hl0 : ¬ ((dl b).length : Int) = 0 := by
    intro hc; exact h0 (dl_len0.1 (by omega))
  by_cases hab : a < b
  · have c1 : cmpN a b < 0 := cmpN_neg.2 hab
    rw [Nat.div_eq_of_lt hab, Nat.mod_eq_of_lt hab, dl_zero]
    by_cases ha0 : a = 0
    · subst ha0
      rw [dl_zero] at *
      refine ⟨true, true, ?_⟩
      rw [run_k G T hT.nat_QuoRem]
      clear la lb ha hb hab
      repeat' (first | (simp (maxSteps := 1000000) only [evB, if_true, if_false, ne_eq, Nat.reduceEqDiff, Nat.reduceAdd, reduceCtorEq, Int.reduceLE, Int.reduceLT, Int.reduceEq, Int.reduceNeg, Int.reduceToNat, Int.reducePow, Int.reduceMod, Int.reduceDiv, Int.reduceSub, Int.reduceAdd, Int.reduceMul, Nat.reduceMul, Nat.reduceSub, Nat.reducePow, exB, resC_ptr, res_cell, nilb, nilf, faddr_p, c_nat_QuoRem, h1, h2, hl0, c1, app_nil0]) | (simp (maxSteps := 1000000) (disch := first | with_reducible assumption | omega) only [dxB]) | (simp only [kI_d, kG_dt, kG_df]; split) | (simp only [kI_v, kG_vt, kG_vf]; split))
      rfl
    · have hne : dl a ≠ [] := fun hc => ha0 (dl_eq_nil.1 hc)
      refine ⟨true, false, ?_⟩
      rw [run_k G T hT.nat_QuoRem]
      clear ha hb hab
      repeat' (first | (simp (maxSteps := 1000000) only [evB, if_true, if_false, ne_eq, Nat.reduceEqDiff, Nat.reduceAdd, reduceCtorEq, Int.reduceLE, Int.reduceLT, Int.reduceEq, Int.reduceNeg, Int.reduceToNat, Int.reducePow, Int.reduceMod, Int.reduceDiv, Int.reduceSub, Int.reduceAdd, Int.reduceMul, Nat.reduceMul, Nat.reduceSub, Nat.reducePow, exB, resC_ptr, res_cell, nilb, nilf, faddr_p, c_nat_QuoRem, h1, h2, hl0, c1 ]) | (simp (maxSteps := 1000000) (disch := first | with_reducible assumption | omega) only [dxB,  app_nil]) | (simp only [kI_d, kG_dt, kG_df]; split) | (simp only [kI_v, kG_vt, kG_vf]; split))
      have hsn := snap_new (h := { b := [{ cs := [D z (dl a), D y (dl b)] }], f := fz1 (AV.bool true) [0] }) (fun c hc => absurd hc List.not_mem_nil) (dl a)
      simp only [List.length_cons, List.length_nil, Nat.zero_add] at hsn
      rw [hsn]
      rfl
  · have c1 : ¬ cmpN a b < 0 := fun hc => hab (cmpN_neg.1 hc)
    by_cases hb1 : (dl b).length = 1
    · have hd0 : dl b = [b] := by
        have e1 : b < 4294967296 := by have := dl_len.1 (Nat.le_of_eq hb1); simpa using this
        rw [dl_pos h0, Nat.mod_eq_of_lt e1, Nat.div_eq_of_lt e1, dl_zero]
      have e1 : b < 4294967296 := by have := dl_len.1 (Nat.le_of_eq hb1); simpa using this
      have hr : a % b < b := Nat.mod_lt _ (by omega)
      obtain ⟨z1, hz1⟩ := nat_small (G := G) hT (z := z) (a := a) (d := b) (by omega) e1 (by omega)
      obtain ⟨z2, hz2⟩ := nat_trim (G := G) hT (z := false) (l := [a % b]) (Dg_cons.2 ⟨by omega, Dg.nil⟩) (by simp)
      rw [show val [a % b] = a % b by simp [val]] at hz2
      have hz2 : run G T 94 [.imm 1 [.int .u32 ((a % b : Nat) : Int)]] = some (D z2 (dl (a % b))) := hz2
      have hdb : dg (dl b) 0 = b := by rw [hd0]; rfl
      have hb1' : ((dl b).length : Int) = 1 := by omega
      refine ⟨z1, z2, ?_⟩
      rw [run_k G T hT.nat_QuoRem]
      clear ha hb hab hr
      repeat' (first | (simp (maxSteps := 1000000) only [evB, if_true, if_false, ne_eq, Nat.reduceEqDiff, Nat.reduceAdd, reduceCtorEq, Int.reduceLE, Int.reduceLT, Int.reduceEq, Int.reduceNeg, Int.reduceToNat, Int.reducePow, Int.reduceMod, Int.reduceDiv, Int.reduceSub, Int.reduceAdd, Int.reduceMul, Nat.reduceMul, Nat.reduceSub, Nat.reducePow, exB, resC_ptr, res_cell, nilb, nilf, faddr_p, c_nat_QuoRem, h1, h2, hl0, c1, hb1', hdb, hz1, hz2]) | (simp (maxSteps := 1000000) (disch := first | with_reducible assumption | omega) only [dxB]) | (simp only [kI_d, kG_dt, kG_df]; split) | (simp only [kI_v, kG_vt, kG_vf]; split))
    · have hb2 : ¬ ((dl b).length : Int) = 1 := by omega
      have hb3 : ¬ (dl b).length = 0 := by omega
      obtain ⟨z1, z2, hz⟩ := nat_long (G := G) hT (z := z) (y := y) (a := a) (b := b) (by omega) (by omega) (by omega)
      refine ⟨z1, z2, ?_⟩
      rw [run_k G T hT.nat_QuoRem]
      clear ha hb hab
      repeat' (first | (simp (maxSteps := 1000000) only [evB, if_true, if_false, ne_eq, Nat.reduceEqDiff, Nat.reduceAdd, reduceCtorEq, Int.reduceLE, Int.reduceLT, Int.reduceEq, Int.reduceNeg, Int.reduceToNat, Int.reducePow, Int.reduceMod, Int.reduceDiv, Int.reduceSub, Int.reduceAdd, Int.reduceMul, Nat.reduceMul, Nat.reduceSub, Nat.reducePow, exB, resC_ptr, res_cell, nilb, nilf, faddr_p, c_nat_QuoRem, h1, h2, hl0, c1, hb2, hz]) | (simp (maxSteps := 1000000) (disch := first | with_reducible assumption | omega) only [dxB]) | (simp only [kI_d, kG_dt, kG_df]; split) | (simp only [kI_v, kG_vt, kG_vf]; split))
end Go.Cv

/-
  The program's roots.
-/
namespace Go.Cv
variable {G : Nat → Option (List AV)} {T : Tbl} {g : Nat}

end Go.Cv

/-
  The program's root.
-/
namespace Go.Cv
variable {G : Nat → Option (List AV)} {T : Tbl} {g : Nat}

end Go.Cv

/-
  The program's root, whole.
-/
namespace Go.Cv
variable {G : Nat → Option (List AV)} {T : Tbl} {g : Nat}

end Go.Cv

/-
  The document's quotient: bit by bit.
-/
namespace Go.Cv
variable {G : Nat → Option (List AV)} {T : Tbl} {g : Nat}

theorem set_bit {l : List Nat} {k s Q : Nat} (dl' : Dg l) (hk : k < l.length) (hs : s < 32) (hv : val l = Q * 2 ^ (32 * k + s + 1)) :
    dg l k ||| 2 ^ s = dg l k + 2 ^ s ∧ dg l k + 2 ^ s < 4294967296 ∧ val (l.set k (dg l k + 2 ^ s)) = (2 * Q + 1) * 2 ^ (32 * k + s) := by
  have h1 := dg_eq dl' k
  rw [hv, pow32, show 32 * k + s + 1 = s + 1 + 32 * k by omega, Nat.pow_add, ← Nat.mul_assoc, Nat.mul_div_cancel _ (Nat.two_pow_pos _)] at h1
  have e : (4294967296 : Nat) = 2 ^ (31 - s) * 2 ^ (s + 1) := by rw [← Nat.pow_add, show 31 - s + (s + 1) = 32 by omega]
  have h2 : Q * 2 ^ (s + 1) % 4294967296 = Q % 2 ^ (31 - s) * 2 ^ (s + 1) := by rw [e, Nat.mul_mod_mul_right]
  rw [h2] at h1
  have h3 : Q % 2 ^ (31 - s) < 2 ^ (31 - s) := Nat.mod_lt _ (Nat.two_pow_pos _)
  have h4 : (Q % 2 ^ (31 - s) + 1) * 2 ^ (s + 1) ≤ 4294967296 := by rw [e]; exact Nat.mul_le_mul_right _ h3
  have h5 : 2 ^ s < 2 ^ (s + 1) := Nat.pow_lt_pow_right (by decide) (Nat.lt_succ_self s)
  refine ⟨?_, ?_, ?_⟩
  · rw [h1, Nat.or_comm, or_add h5, Nat.add_comm]
  · rw [h1]; rw [Nat.add_mul, Nat.one_mul] at h4; omega
  · have h6 := val_set (l := l) (j := k) (dg l k + 2 ^ s) hk
    rw [Nat.mul_add] at h6
    have h7 : val (l.set k (dg l k + 2 ^ s)) = val l + 4294967296 ^ k * 2 ^ s := by omega
    rw [h7, hv, pow32, ← Nat.pow_add, Nat.pow_succ, Nat.add_mul, Nat.one_mul, ← Nat.mul_assoc, Nat.mul_comm 2 Q, Nat.mul_assoc Q 2, Nat.mul_comm 2, Nat.mul_assoc]

theorem bit_down {a i : Nat} : a / 2 ^ i = 2 * (a / 2 ^ (i + 1)) + a / 2 ^ i % 2 := by
  rw [Nat.pow_succ, ← Nat.div_div_eq_div_mul]; omega

theorem reach_at {h : Heap} {b : Nat} {l : List Nat} {d : Bool} (H : h.b[b]? = some ⟨cells l, d⟩) : reachG h.mem 3 b = [b] := by
  cases h with
  | mk bs fs => rw [rg_x]; simp only at H; rw [H, rgO_some, rl_cells]

/-- A block that is handed to a call, and what comes back. -/
def boxed (h : Heap) (r : AV) : Heap := ⟨h.b ++ [⟨[.int .u32 1], false⟩], fz1 r [h.b.length] ++ h.f⟩
theorem Holds.boxed {h : Heap} {b : Nat} {l : List Nat} (H : Holds h b l) (r : AV) : Holds (boxed h r) b l := by
  refine ⟨by simp only [Cv.boxed]; rw [List.getElem?_append_left H.lt]; exact H.at_, ?_⟩
  have h1 := H.lt
  have h2 := H.fre
  rw [Bool.eq_false_iff] at h2 ⊢
  intro hc
  rcases List.mem_append.1 (List.contains_iff_mem.1 hc) with h3 | h3
  · unfold fz1 at h3
    split at h3
    · have := List.mem_singleton.1 h3; omega
    · exact absurd h3 List.not_mem_nil
  · exact h2 (List.contains_iff_mem.2 h3)
end Go.Cv

/-
  The document's quotient: its loop.
-/
namespace Go.Cv
variable {G : Nat → Option (List AV)} {T : Tbl} {g : Nat}

theorem boxed_snap (h : Heap) : snapG (Heap.mem ⟨h.b ++ [⟨[.int .u32 1], false⟩], h.f⟩) 3 h.b.length 0 1 1 = some (D false [1]) := by
  have e : (Heap.mem ⟨h.b ++ [⟨[.int .u32 1], false⟩], h.f⟩) h.b.length = some ⟨cells [1], false⟩ := by
    simp [Heap.mem, cells]
  exact sg_digits (d := 2) (l := [1]) (by rw [rdBlk, e]; rfl) rfl
theorem boxed_reach (h : Heap) : reachG (Heap.mem ⟨h.b ++ [⟨[.int .u32 1], false⟩], h.f⟩) 3 h.b.length = [h.b.length] :=
  reach_at (h := ⟨h.b ++ [⟨[.int .u32 1], false⟩], h.f⟩) (l := [1]) (d := false) (by simp [cells])

theorem quo_loop (hT : HasB g T) {a b bq N : Nat} {z y : Bool} (ha : (dl a).length < 8589934592) (hb : 0 < b) (hN : N = (dl a).length) (hbl : (dl b).length < 8589934592) : ∀ (j : Nat) (h : Heap) (l : List Nat) (zr : Bool) (Q R : Nat),
    j ≤ 32 * N → Holds h bq l → Dg l → l.length = N → R < b → a / 2 ^ j = Q * b + R → val l = Q * 2 ^ j →
    Post (evL G T c_ref01_QuoRem_l1 [(0, D z (dl a)), (1, D y (dl b)), (6, .own bq 0 N 1), (8, D zr (dl R)), (10, .int .i64 ((j : Int) - 1))] h) fun r =>
      ∃ e h' l' zr' R', r = (.exit 0, (0, D z (dl a)) :: (1, D y (dl b)) :: (6, .own bq 0 N 1) :: (8, D zr' (dl R')) :: e, h') ∧ Holds h' bq l' ∧ Dg l' ∧ l'.length = N ∧ R' < b ∧ a = val l' * b + R'
  | 0, h, l, zr, Q, R, hj, H, dL, hl, hR, he, hv => by
    rw [s_loopc G T (c := c_ref01_QuoRem_l1) rfl]
    have c1 : ¬ (0 : Int) ≤ ((0 : Nat) : Int) - 1 := by omega
    repeat (first | (simp (maxSteps := 1000000) only [evB, if_true, if_false, ne_eq, Nat.reduceEqDiff, Nat.reduceAdd, reduceCtorEq, Int.reduceLE, Int.reduceLT, Int.reduceEq, Int.reduceNeg, Int.reduceToNat, Int.reducePow, Int.reduceMod, Int.reduceDiv, Int.reduceSub, Int.reduceAdd, Int.reduceMul, Nat.reduceMul, Nat.reduceSub, Nat.reducePow, c_ref01_QuoRem_b1, c1]) | (simp (disch := omega) only [dsB]))
    rw [Nat.pow_zero, Nat.div_one] at he
    rw [Nat.pow_zero, Nat.mul_one] at hv
    exact Post.some ⟨_, _, _, _, _, rfl, H, dL, hl, hR, by rw [hv]; exact he⟩
  | i + 1, h, l, zr, Q, R, hj, H, dL, hl, hR, he, hv => by
    rw [s_loopc G T (c := c_ref01_QuoRem_l1) rfl]
    have e1 : ((i + 1 : Nat) : Int) - 1 = (i : Int) := by omega
    have c1 : (0 : Int) ≤ (i : Int) := by omega
    have lR : (dl R).length < 8589934592 := by
      have h1 := blen_mono (Nat.le_of_lt hR)
      have h2 := dl_len_blen R
      have h3 := dl_len_blen b
      omega
    obtain ⟨z1, u1⟩ := ref01_Up (G := G) hT (z := zr) (a := R) (n := 1) (by omega) (by decide)
    rw [Nat.pow_one, show ((1 : Nat) : Int) = 1 from rfl] at u1
    have u2 := ref01_Bit (G := G) hT (z := z) (a := a) (i := i) (by omega) (by omega)
    have hbd := bit_down (a := a) (i := i)
    have hbit : a / 2 ^ i % 2 < 2 := Nat.mod_lt _ (by decide)
    rw [he] at hbd
    generalize a / 2 ^ i % 2 = t at *
    have lR2 : (dl (R * 2)).length < 17179869184 := by
      have h1 := blen_mono (a := R * 2) (b := b * 2 ^ 1) (by omega)
      rw [blen_mul (by omega)] at h1
      have h2 := dl_len_blen (R * 2)
      have h3 := dl_len_blen b
      omega
    have lR3 : (dl (R * 2 + 1)).length < 17179869184 := by
      have h1 := blen_mono (a := R * 2 + 1) (b := b * 2 ^ 1) (by omega)
      rw [blen_mul (by omega)] at h1
      have h2 := dl_len_blen (R * 2 + 1)
      have h3 := dl_len_blen b
      omega
    obtain ⟨z2, u3⟩ := ref01_Add (G := G) hT (z := z1) (y := false) (a := R * 2) (b := 1) (by omega) (by rw [dl_one]; decide)
    rw [dl_one] at u3
    have hi32 : i / 32 < l.length := by omega
    have hii : 32 * (i / 32) + i % 32 = i := by omega
    obtain ⟨s1, s2, s3⟩ := set_bit (s := i % 32) (Q := Q) dL hi32 (by omega) (by rw [hii]; exact hv)
    rw [hii] at s3
    have w1 : (i : Int).tdiv 32 = ((i / 32 : Nat) : Int) := rfl
    have w2 : (i : Int).tmod 32 = ((i % 32 : Nat) : Int) := rfl
    have w3 : min (i % 32) 32 = i % 32 := by omega
    have p31 : 2 ^ (i % 32) < 4294967296 := Nat.lt_of_lt_of_le (Nat.pow_lt_pow_right (a := 2) (by decide) (show i % 32 < 32 by omega)) (by decide)
    have w4 : (1 : Int) * 2 ^ (i % 32) % 4294967296 = ((2 ^ (i % 32) : Nat) : Int) := by rw [Int.one_mul, pow_cast]; exact Int.emod_eq_of_lt (Int.natCast_nonneg _) (Int.ofNat_lt.2 p31)
    have w5 := or32 (dL.dg (i / 32)) p31
    rw [s1] at w5
    rw [e1]
    by_cases ht : t = 1
    · subst ht
      have c2 : (((1 : Nat) : Int)) = 1 := rfl
      have HB := H.boxed (D z2 (dl (R * 2 + 1)))
      have cm := ref01_Cmp (G := G) hT (z := z2) (y := y) (a := R * 2 + 1) (b := b) (by omega) (by omega)
      have sn := boxed_snap h
      have rc := boxed_reach h
      by_cases c3 : R * 2 + 1 < b
      · have c4 : ¬ 0 ≤ cmpN (R * 2 + 1) b := by have := cmpN_neg.2 c3; omega
        have fin := quo_loop hT (z := z) (y := y) ha hb hN hbl i _ l z2 (2 * Q) (R * 2 + 1) (by omega) HB dL hl c3 (by rw [hbd, Nat.mul_add, ← Nat.mul_assoc]; omega) (by rw [hv, Nat.pow_succ, Nat.mul_comm 2 Q, Nat.mul_assoc, Nat.mul_comm 2])
        clear he hv hbd s1 s2 s3
        simp only [boxed] at fin
        repeat (first | (simp (maxSteps := 1000000) only [evB, if_true, if_false, ne_eq, Nat.reduceEqDiff, Nat.reduceAdd, reduceCtorEq, Int.reduceLE, Int.reduceLT, Int.reduceEq, Int.reduceNeg, Int.reduceToNat, Int.reducePow, Int.reduceMod, Int.reduceDiv, Int.reduceSub, Int.reduceAdd, Int.reduceMul, Nat.reduceMul, Nat.reduceSub, Nat.reducePow, c_ref01_QuoRem_b1, c1, u1, u2, c2, sn, u3, rc, frz_own, cm, c4]) | (simp (disch := omega) only [dsB]))
        exact fin
      · have c4 : 0 ≤ cmpN (R * 2 + 1) b := by
          have : ¬ cmpN (R * 2 + 1) b < 0 := fun hh => c3 (cmpN_neg.1 hh)
          omega
        obtain ⟨z3, u4⟩ := ref01_Sub (G := G) hT (z := z2) (y := y) (a := R * 2 + 1) (b := b) (by omega) (by omega)
        have st := store_n HB (i := i / 32) (x := dg l (i / 32) + 2 ^ (i % 32)) hi32
        have ld := load_own (G := G) HB hi32
        have fin := quo_loop hT (z := z) (y := y) ha hb hN hbl i _ _ z3 (2 * Q + 1) (R * 2 + 1 - b) (by omega) (HB.put (l.set (i / 32) (dg l (i / 32) + 2 ^ (i % 32)))) (Dg_set dL s2) (by rw [List.length_set]; exact hl) (by omega) (by
          rw [hbd, Nat.add_mul, Nat.one_mul, Nat.mul_add, ← Nat.mul_assoc]; omega) s3
        clear he hv hbd s1 s2 s3
        simp only [boxed] at fin st ld
        repeat (first | (simp (maxSteps := 1000000) only [evB, if_true, if_false, ne_eq, Nat.reduceEqDiff, Nat.reduceAdd, reduceCtorEq, Int.reduceLE, Int.reduceLT, Int.reduceEq, Int.reduceNeg, Int.reduceToNat, Int.reducePow, Int.reduceMod, Int.reduceDiv, Int.reduceSub, Int.reduceAdd, Int.reduceMul, Nat.reduceMul, Nat.reduceSub, Nat.reducePow, c_ref01_QuoRem_b1, c1, u1, u2, c2, sn, u3, rc, frz_own, cm, c4, u4, w1, w2, w3, w4, w5, st, ld]) | (simp (disch := omega) only [dsB]))
        exact fin
    · obtain rfl : t = 0 := by omega
      have c2 : ¬ (((0 : Nat) : Int)) = 1 := by decide
      have cm := ref01_Cmp (G := G) hT (z := z1) (y := y) (a := R * 2) (b := b) (by omega) (by omega)
      by_cases c3 : R * 2 < b
      · have c4 : ¬ 0 ≤ cmpN (R * 2) b := by have := cmpN_neg.2 c3; omega
        have fin := quo_loop hT (z := z) (y := y) ha hb hN hbl i _ l z1 (2 * Q) (R * 2) (by omega) H dL hl c3 (by rw [hbd, Nat.mul_add, ← Nat.mul_assoc]; omega) (by rw [hv, Nat.pow_succ, Nat.mul_comm 2 Q, Nat.mul_assoc, Nat.mul_comm 2])
        clear he hv hbd s1 s2 s3
        repeat (first | (simp (maxSteps := 1000000) only [evB, if_true, if_false, ne_eq, Nat.reduceEqDiff, Nat.reduceAdd, reduceCtorEq, Int.reduceLE, Int.reduceLT, Int.reduceEq, Int.reduceNeg, Int.reduceToNat, Int.reducePow, Int.reduceMod, Int.reduceDiv, Int.reduceSub, Int.reduceAdd, Int.reduceMul, Nat.reduceMul, Nat.reduceSub, Nat.reducePow, c_ref01_QuoRem_b1, c1, u1, u2, c2, cm, c4]) | (simp (disch := omega) only [dsB]))
        exact fin
      · have c4 : 0 ≤ cmpN (R * 2) b := by
          have : ¬ cmpN (R * 2) b < 0 := fun hh => c3 (cmpN_neg.1 hh)
          omega
        obtain ⟨z3, u4⟩ := ref01_Sub (G := G) hT (z := z1) (y := y) (a := R * 2) (b := b) (by omega) (by omega)
        have st := store_n H (i := i / 32) (x := dg l (i / 32) + 2 ^ (i % 32)) hi32
        have ld := load_own (G := G) H hi32
        have fin := quo_loop hT (z := z) (y := y) ha hb hN hbl i _ _ z3 (2 * Q + 1) (R * 2 - b) (by omega) (H.put (l.set (i / 32) (dg l (i / 32) + 2 ^ (i % 32)))) (Dg_set dL s2) (by rw [List.length_set]; exact hl) (by omega) (by
          rw [hbd, Nat.add_mul, Nat.one_mul, Nat.mul_add, ← Nat.mul_assoc]; omega) s3
        clear he hv hbd s1 s2 s3
        repeat (first | (simp (maxSteps := 1000000) only [evB, if_true, if_false, ne_eq, Nat.reduceEqDiff, Nat.reduceAdd, reduceCtorEq, Int.reduceLE, Int.reduceLT, Int.reduceEq, Int.reduceNeg, Int.reduceToNat, Int.reducePow, Int.reduceMod, Int.reduceDiv, Int.reduceSub, Int.reduceAdd, Int.reduceMul, Nat.reduceMul, Nat.reduceSub, Nat.reducePow, c_ref01_QuoRem_b1, c1, u1, u2, c2, cm, c4, u4, w1, w2, w3, w4, w5, st, ld]) | (simp (disch := omega) only [dsB]))
        exact fin
end Go.Cv

/-
  The document's quotient, whole.
-/
namespace Go.Cv
variable {G : Nat → Option (List AV)} {T : Tbl} {g : Nat}

theorem ref01_QuoRem (hT : HasB g T) {a b : Nat} {z y : Bool} (ha : (dl a).length < 8589934592) (hb : 0 < b) (hbl : (dl b).length < 8589934592) :
    ∃ z1 z2, run G T 79 [D z (dl a), D y (dl b)] = some (.tup [D z1 (dl (a / b)), D z2 (dl (a % b))]) := by
  by_cases hb1 : (dl b).length = 1
  · have e1 : b < 4294967296 := by have := dl_len.1 (Nat.le_of_eq hb1); simpa using this
    have hd0 : dl b = [b] := by rw [dl_pos (by omega), Nat.mod_eq_of_lt e1, Nat.div_eq_of_lt e1, dl_zero]
    obtain ⟨z1, z2, hz⟩ := ref01_byDigit (G := G) hT (z := z) (a := a) (d := b) hb e1 (by omega)
    have hdb : dg (dl b) 0 = b := by rw [hd0]; rfl
    have hb1' : ((dl b).length : Int) = 1 := by omega
    refine ⟨z1, z2, ?_⟩
    rw [run_k G T hT.ref01_QuoRem]
    clear ha hbl
    repeat' (first | (simp (maxSteps := 1000000) only [evB, if_true, if_false, ne_eq, Nat.reduceEqDiff, Nat.reduceAdd, reduceCtorEq, Int.reduceLE, Int.reduceLT, Int.reduceEq, Int.reduceNeg, Int.reduceToNat, Int.reducePow, Int.reduceMod, Int.reduceDiv, Int.reduceSub, Int.reduceAdd, Int.reduceMul, Nat.reduceMul, Nat.reduceSub, Nat.reducePow, exB, resC_ptr, res_cell, nilb, nilf, faddr_p, c_ref01_QuoRem, hb1', hdb, hz]) | (simp (maxSteps := 1000000) (disch := first | with_reducible assumption | omega) only [dxB]) | (simp only [kI_d, kG_dt, kG_df]; split) | (simp only [kI_v, kG_vt, kG_vf]; split))
  · have hb2 : ¬ ((dl b).length : Int) = 1 := by omega
    have l1 := ref01_Len (G := G) hT (z := z) (a := a) (by omega)
    have l2 := ref01_Len (G := G) hT (z := y) (a := b) (by omega)
    obtain ⟨L, hL⟩ : ∃ L, L = blen a + 1 - blen b := ⟨_, rfl⟩
    have hla := dl_len_blen a
    have hlb := dl_len_blen b
    have hbp := blen_pos (n := b) (by omega)
    have ww1 : IntKind.i64.wrap ((blen a : Int) - (blen b : Int)) = (blen a : Int) - (blen b : Int) := wrap_i64 (by omega)
    have ww2 : IntKind.i64.wrap ((blen a : Int) - (blen b : Int) + 1) = (blen a : Int) - (blen b : Int) + 1 := wrap_i64 (by omega)
    have ww3 : IntKind.i64.wrap ((L : Int) - 1) = (L : Int) - 1 := wrap_i64 (by omega)
    have e1 : max (0 : Int) ((blen a : Int) - (blen b : Int) + 1) = (L : Int) := by omega
    obtain ⟨z3, hd⟩ := ref01_Down (G := G) hT (z := z) (a := a) (n := L) (by omega) (by omega)
    have hR : a / 2 ^ L < b := by
      have h1 := blen_div a L
      have h2 := blen_pos (n := b) (by omega)
      have h3 : a / 2 ^ L < 2 ^ (blen b - 1) := blen_le.1 (by omega)
      exact Nat.lt_of_lt_of_le h3 (pow_blen_le (by omega))
    have H0 := Holds_new FreH.nil (List.replicate (dl a).length 0)
    obtain ⟨_, hr, e, h', l', zr', R', rfl, H, dL, hl, hR', he⟩ := quo_loop (G := G) (z := z) (y := y) (a := a) (b := b) (N := (dl a).length) hT (by omega) hb rfl (by omega) L (new .nil (List.replicate (dl a).length 0)) (List.replicate (dl a).length 0) z3 0 (a / 2 ^ L) (by omega) H0 (Dg_rep _) (List.length_replicate ..) hR (by rw [Nat.zero_mul, Nat.zero_add]) (by rw [val_rep, Nat.zero_mul])
    obtain ⟨k1, k2⟩ := divmod_of hR' he
    have hsn := snap_own H (n := (dl a).length) (by omega)
    rw [← hl, List.take_length, hl] at hsn
    obtain ⟨z1, hz1⟩ := ref01_Trim (G := G) hT (z := false) dL (by omega)
    refine ⟨z1, zr', ?_⟩
    rw [← k1, ← k2, run_k G T hT.ref01_QuoRem]
    simp only [nilb, List.length_nil] at hr hsn
    clear hR hR' he k1 k2 hL hla hlb hbp
    repeat' (first | (simp (maxSteps := 1000000) only [evB, if_true, if_false, ne_eq, Nat.reduceEqDiff, Nat.reduceAdd, reduceCtorEq, Int.reduceLE, Int.reduceLT, Int.reduceEq, Int.reduceNeg, Int.reduceToNat, Int.reducePow, Int.reduceMod, Int.reduceDiv, Int.reduceSub, Int.reduceAdd, Int.reduceMul, Nat.reduceMul, Nat.reduceSub, Nat.reducePow, exB, resC_ptr, res_cell, nilb, nilf, faddr_p, c_ref01_QuoRem, hb2, l1, l2, e1, hd, hr, hsn, hz1, mm_max2, ww1, ww2, ww3]) | (simp (maxSteps := 1000000) (disch := first | with_reducible assumption | omega) only [dxB]) | (simp only [kI_d, kG_dt, kG_df]; split) | (simp only [kI_v, kG_vt, kG_vf]; split))
end Go.Cv

/-
  The document's root (plain part).
-/
namespace Go.Cv
variable {G : Nat → Option (List AV)} {T : Tbl} {g : Nat}

end Go.Cv

/-
  The document's root: the loop.
-/
namespace Go.Cv
variable {G : Nat → Option (List AV)} {T : Tbl} {g : Nat}

end Go.Cv

/-
  The document's root, whole.
-/
namespace Go.Cv
variable {G : Nat → Option (List AV)} {T : Tbl} {g : Nat}

end Go.Cv

/-
  Numbers cut: the document's; how many bits may be asked for.
-/
namespace Go.Cv
variable {G : Nat → Option (List AV)} {T : Tbl} {g : Nat}

theorem dyad_asked (hT : HasC g T) {n : Nat} (h : 1 ≤ n ∧ n ≤ 8192) : run G T 75 [.int .i64 (n : Int)] = some (.int .i64 0) := by
  rw [run_k G T hT.dyad_asked]
  have c1 : ¬ (n : Int) < 1 := by omega
  have c2 : ¬ (8192 : Int) < (n : Int) := by omega
  repeat' (first | (simp (maxSteps := 1000000) only [evB, if_true, if_false, ne_eq, Nat.reduceEqDiff, Nat.reduceAdd, reduceCtorEq, Int.reduceLE, Int.reduceLT, Int.reduceEq, Int.reduceNeg, Int.reduceToNat, Int.reducePow, Int.reduceMod, Int.reduceDiv, Int.reduceSub, Int.reduceAdd, Int.reduceMul, Nat.reduceMul, Nat.reduceSub, Nat.reducePow, exB, resC_ptr, res_cell, nilb, nilf, faddr_p, c_dyad_asked, c1, c2]) | (simp (maxSteps := 1000000) (disch := first | with_reducible assumption | omega) only [dxB]) | (simp only [kI_d, kG_dt, kG_df]; split) | (simp only [kI_v, kG_vt, kG_vf]; split))

theorem ref02_Cut (hB : HasB g T) (hT : HasC g T) {z : Bool} {d : Dy} {k s : Nat} (hs : (dl d.m).length < 17179869183) (he : -274877906944 < d.e ∧ d.e < 274877906944) (hk : blen d.m = k + s) (h0 : 0 < s) (hkk : k < 8192) (hb : blen d.m < 274877906944) :
    ∃ z', run G T 80 [DyA z d, .int .i64 (k : Int)] = some (.tup [DyA z' (mkD d.n (d.m / 2 ^ s) (d.e + s)), .bool (!decide (d.m % 2 ^ s = 0))]) := by
  obtain ⟨n, m, e⟩ := d
  simp only at *
  have l1 := ref01_Len (G := G) hB (z := z) (a := m) (by omega)
  obtain ⟨z1, h1⟩ := ref01_Down (G := G) hB (z := z) (a := m) (n := s) (by omega) (by omega)
  have hlen : (dl (m / 2 ^ s)).length < 17179869184 := by
    have h1 := blen_mono (Nat.div_le_self m (2 ^ s))
    have h2 := dl_len_blen (m / 2 ^ s)
    omega
  obtain ⟨z2, h2⟩ := ref02_Form (G := G) hB hT (n := n) (z := z1) (a := m / 2 ^ s) (e := e + s) hlen (by omega)
  have w1 : ((blen m : Nat) : Int) - (k : Int) = (s : Int) := by omega
  have w2 : ¬ (s : Int) ≤ 0 := by omega
  have w3 : IntKind.i64.wrap (e + (s : Int)) = e + s := wrap_i64 (by omega)
  refine ⟨z2, ?_⟩
  rw [run_k G T hT.ref02_Cut]
  clear hlen hk
  simp only [DyA, A3] at *
  repeat' (first | (simp (maxSteps := 1000000) only [evB, if_true, if_false, ne_eq, Nat.reduceEqDiff, Nat.reduceAdd, reduceCtorEq, Int.reduceLE, Int.reduceLT, Int.reduceEq, Int.reduceNeg, Int.reduceToNat, Int.reducePow, Int.reduceMod, Int.reduceDiv, Int.reduceSub, Int.reduceAdd, Int.reduceMul, Nat.reduceMul, Nat.reduceSub, Nat.reducePow, exB, resC_ptr, res_cell, nilb, nilf, faddr_p, c_ref02_Cut, l1, w1, w2, w3, h1, h2]) | (simp (maxSteps := 1000000) (disch := first | with_reducible assumption | omega) only [dxB]) | (simp only [kI_d, kG_dt, kG_df]; split) | (simp only [kI_v, kG_vt, kG_vf]; split))
end Go.Cv

/-
  A quotient that was reckoned with some bits more is cut.
-/
namespace Go.Cv
variable {G : Nat → Option (List AV)} {T : Tbl} {g : Nat}

theorem dyad_made (hA : HasA g T) (hG : Glob G g) (hT : HasC g T) {z n more : Bool} {q k s : Nat} {e : Int} (hm : mayL (dl q) = true) (hk : blen q = k + s) (h0 : 0 < s) (he : -16000000 < e ∧ e < 16000000) :
    ∃ z', run G T 78 [.bool n, D z (dl q), .int .i64 e, .bool more, .int .i64 (k : Int)] = some (.tup [DyA z' (mkD n (q / 2 ^ s) (e + s)), .bool (!decide (q % 2 ^ s = 0) || more), .int .i64 0]) := by
  have hb := may_blen hm
  have l1 := nat_Len (G := G) hA (z := z) hm
  obtain ⟨z1, h1⟩ := nat_Shift_down (G := G) hA hG (z := z) (a := q) (n := s) hm h0 (by omega)
  have hbd := blen_div q s
  have hm2 : mayL (dl (q / 2 ^ s)) = true := mayL_small (by omega)
  have htz : tz (q / 2 ^ s) ≤ 131072 ∨ q / 2 ^ s = 0 := by
    by_cases hz : q / 2 ^ s = 0
    · exact Or.inr hz
    · left; have := tz_blen hz; omega
  obtain ⟨z2, h2⟩ := dyad_Make (G := G) hA hG hT (n := n) (z := z1) (a := q / 2 ^ s) (e := e + s) hm2 (by
    rcases htz with h | h
    · right; omega
    · left; exact h) (by omega)
  have w1 : max (0 : Int) ((blen q : Int) - (k : Int)) = (s : Int) := by omega
  have w2 : (0 : Int) - (s : Int) = -(s : Int) := by omega
  have w3 : IntKind.i64.wrap (e + (s : Int)) = e + s := wrap_i64 (by omega)
  have w4 : IntKind.i64.wrap ((blen q : Int) - (k : Int)) = (blen q : Int) - (k : Int) := wrap_i64 (by omega)
  have w5 : IntKind.i64.wrap (-(s : Int)) = -(s : Int) := wrap_i64 (by omega)
  refine ⟨z2, ?_⟩
  rw [run_k G T hT.dyad_made]
  clear hm2 htz hbd hk hb hm
  simp only [DyA, A3] at *
  generalize decide (q % 2 ^ s = 0) = o at *
  cases o <;> cases more <;> repeat' (first | (simp (maxSteps := 1000000) only [evB, if_true, if_false, ne_eq, Nat.reduceEqDiff, Nat.reduceAdd, reduceCtorEq, Int.reduceLE, Int.reduceLT, Int.reduceEq, Int.reduceNeg, Int.reduceToNat, Int.reducePow, Int.reduceMod, Int.reduceDiv, Int.reduceSub, Int.reduceAdd, Int.reduceMul, Nat.reduceMul, Nat.reduceSub, Nat.reducePow, exB, resC_ptr, res_cell, nilb, nilf, faddr_p, c_dyad_made, l1, w1, w2, w3, w4, w5, mm_max2, h1, h2]) | (simp (maxSteps := 1000000) (disch := first | with_reducible assumption | omega) only [dxB]) | (simp only [kI_d, kG_dt, kG_df]; split) | (simp only [kI_v, kG_vt, kG_vf]; split))
end Go.Cv

/-
  The document's quotient of dyadic numbers.
-/
namespace Go.Cv
variable {G : Nat → Option (List AV)} {T : Tbl} {g : Nat}

/-- The whole quotient that is cut: how far the dividend is shifted, and how many bits go. -/
def quoN (k a b : Nat) : Nat := k + 1 + blen b - blen a
theorem quo_blen {k a b : Nat} (ha : a ≠ 0) (hb : b ≠ 0) : k < blen (a * 2 ^ quoN k a b / b) := by
  rw [lt_blen]
  have h1 : 2 ^ k * b ≤ a * 2 ^ quoN k a b := by
    have e1 := lt_pow_blen b
    have e2 := pow_blen_le ha
    have e3 := blen_pos ha
    calc 2 ^ k * b ≤ 2 ^ k * 2 ^ blen b := Nat.mul_le_mul_left _ (Nat.le_of_lt e1)
      _ = 2 ^ (k + blen b) := (Nat.pow_add ..).symm
      _ ≤ 2 ^ (blen a - 1 + quoN k a b) := Nat.pow_le_pow_right (by decide) (by unfold quoN; omega)
      _ = 2 ^ (blen a - 1) * 2 ^ quoN k a b := Nat.pow_add ..
      _ ≤ a * 2 ^ quoN k a b := Nat.mul_le_mul_right _ e2
  exact (Nat.le_div_iff_mul_le (by omega)).2 h1
end Go.Cv

/-
  Numbers cut, in their one form (plain).
-/
namespace Go.Cv

theorem div_cut {Q t S : Nat} (h : t ≤ S) : Q / 2 ^ t / 2 ^ (S - t) = Q / 2 ^ S := by
  rw [Nat.div_div_eq_div_mul, ← Nat.pow_add, show t + (S - t) = S by omega]
theorem mod_cut {Q t S : Nat} (h : t ≤ S) (ht : Q % 2 ^ t = 0) : Q / 2 ^ t % 2 ^ (S - t) = 0 ↔ Q % 2 ^ S = 0 := by
  have := mod_mod_pow Q t (S - t)
  rw [show t + (S - t) = S by omega] at this
  rw [this]; exact ⟨fun h2 => ⟨ht, h2⟩, fun h2 => h2.2⟩
/-- A number whose lowest S bits go: it is the same whether the noughts went first or not. -/
theorem mkD_cut {n : Bool} {Q t S : Nat} {e : Int} (h : Q ≠ 0) (h2 : Q / 2 ^ t ≠ 0) (ht : Q % 2 ^ t = 0) : mkD n (Q / 2 ^ t) (e + t) = mkD n Q e := by
  have e1 : Q = Q / 2 ^ t * 2 ^ t := by
    have := Nat.div_add_mod Q (2 ^ t)
    rw [ht, Nat.add_zero, Nat.mul_comm] at this; exact this.symm
  have e2 : tz Q = tz (Q / 2 ^ t) + t := by
    conv => lhs; rw [e1]
    exact tz_mul h2 t
  rw [mkD_pos h, mkD_pos h2, e2, Nat.div_div_eq_div_mul, ← Nat.pow_add, Nat.add_comm t]
  congr 1; omega
end Go.Cv

/-
  A number that is short enough is not cut.
-/
namespace Go.Cv
variable {G : Nat → Option (List AV)} {T : Tbl} {g : Nat}

theorem ref02_Cut_no (hB : HasB g T) (hT : HasC g T) {z : Bool} {d : Dy} {k : Nat} (hs : (dl d.m).length < 17179869183) (hk : blen d.m ≤ k) (hkk : k < 8192) :
    run G T 80 [DyA z d, .int .i64 (k : Int)] = some (.tup [DyA z d, .bool false]) := by
  obtain ⟨n, m, e⟩ := d
  simp only at *
  have l1 := ref01_Len (G := G) hB (z := z) (a := m) (by omega)
  have w2 : ((blen m : Nat) : Int) - (k : Int) ≤ 0 := by omega
  have w4 : IntKind.i64.wrap ((blen m : Int) - (k : Int)) = (blen m : Int) - (k : Int) := wrap_i64 (by omega)
  rw [run_k G T hT.ref02_Cut]
  clear hs hk
  simp only [DyA, A3] at *
  repeat' (first | (simp (maxSteps := 1000000) only [evB, if_true, if_false, ne_eq, Nat.reduceEqDiff, Nat.reduceAdd, reduceCtorEq, Int.reduceLE, Int.reduceLT, Int.reduceEq, Int.reduceNeg, Int.reduceToNat, Int.reducePow, Int.reduceMod, Int.reduceDiv, Int.reduceSub, Int.reduceAdd, Int.reduceMul, Nat.reduceMul, Nat.reduceSub, Nat.reducePow, exB, resC_ptr, res_cell, nilb, nilf, faddr_p, c_ref02_Cut, l1, w2, w4]) | (simp (maxSteps := 1000000) (disch := first | with_reducible assumption | omega) only [dxB]) | (simp only [kI_d, kG_dt, kG_df]; split) | (simp only [kI_v, kG_vt, kG_vf]; split))
end Go.Cv

/-
  The document's quotient of dyadic numbers.
-/
namespace Go.Cv
variable {G : Nat → Option (List AV)} {T : Tbl} {g : Nat}

/-- What Form and Cut make of a number of more than k bits. -/
theorem form_cut (hB : HasB g T) (hT : HasC g T) {n z : Bool} {Q k S : Nat} {e : Int} (hl : (dl Q).length < 1048576) (hS : blen Q = k + S) (h0 : 0 < S) (hk0 : 0 < k) (hk : k < 8192) (he : -68719476736 < e ∧ e < 68719476736) :
    ∃ z', run G T 80 [DyA z (mkD n Q e), .int .i64 (k : Int)] = some (.tup [DyA z' (mkD n (Q / 2 ^ S) (e + S)), .bool (!decide (Q % 2 ^ S = 0))]) := by
  have hQ : Q ≠ 0 := by rintro rfl; rw [blen_zero] at hS; omega
  have hl2 := dl_len_blen Q
  have t1 := (tz_spec hQ).1
  have tm : Q % 2 ^ tz Q = 0 := by
    have := Nat.mul_mod_left (Q / 2 ^ tz Q) (2 ^ tz Q)
    rw [← t1] at this; exact this
  have tb := tz_blen hQ
  have bd := blen_div Q (tz Q)
  have ld := dl_len_blen (Q / 2 ^ tz Q)
  have bS := blen_div Q S
  have hQS : Q / 2 ^ S ≠ 0 := by intro hc; rw [hc, blen_zero] at bS; omega
  rcases Nat.lt_or_ge (tz Q) S with h | h
  · obtain ⟨z', hc⟩ := ref02_Cut (G := G) hB hT (z := z) (d := mkD n Q e) (k := k) (s := S - tz Q) (by rw [mkD_pos hQ]; simp only; omega) (by rw [mkD_pos hQ]; simp only; omega) (by rw [mkD_pos hQ]; simp only; omega) (by omega) hk (by rw [mkD_pos hQ]; simp only; omega)
    refine ⟨z', ?_⟩
    rw [hc, mkD_pos hQ]
    simp only
    rw [div_cut (Nat.le_of_lt h), show e + (tz Q : Int) + ((S - tz Q : Nat) : Int) = e + S by omega]
    congr 4
    simp only [mod_cut (Nat.le_of_lt h) tm]
  · have hm : Q % 2 ^ S = 0 := by
      have e1 := mod_mod_pow Q S (tz Q - S)
      rw [show S + (tz Q - S) = tz Q by omega] at e1
      exact (e1.1 tm).1
    have hc := ref02_Cut_no (G := G) hB hT (z := z) (d := mkD n Q e) (k := k) (by rw [mkD_pos hQ]; simp only; omega) (by rw [mkD_pos hQ]; simp only; omega) hk
    refine ⟨z, ?_⟩
    rw [hc, mkD_cut (t := S) (S := 0) hQ hQS hm, hm]; rfl
end Go.Cv

/-
  The document's quotient of dyadic numbers.
-/
namespace Go.Cv
variable {G : Nat → Option (List AV)} {T : Tbl} {g : Nat}

theorem ref02_Quo (hB : HasB g T) (hT : HasC g T) {z y : Bool} {a b : Dy} {k S : Nat} (ha : a.m ≠ 0) (hb : b.m ≠ 0) (la : blen a.m < 1048576) (lb : blen b.m < 1048576) (hk0 : 0 < k) (hk : k < 8192)
    (ea : -17179869184 < a.e ∧ a.e < 17179869184) (eb : -17179869184 < b.e ∧ b.e < 17179869184) (hS : blen (a.m * 2 ^ quoN k a.m b.m / b.m) = k + S) :
    ∃ z', run G T 41 [DyA z a, DyA y b, .int .i64 (k : Int)] = some (.tup [DyA z' (mkD (a.n != b.n) (a.m * 2 ^ quoN k a.m b.m / b.m / 2 ^ S) (a.e - b.e - (quoN k a.m b.m : Nat) + S)),
      .bool (!decide (a.m * 2 ^ quoN k a.m b.m / b.m % 2 ^ S = 0) || !decide (a.m * 2 ^ quoN k a.m b.m % b.m = 0))]) := by
  have hqb := quo_blen (k := k) ha hb
  obtain ⟨n, m, e⟩ := a
  obtain ⟨n', m', e'⟩ := b
  simp only at *
  have d1 := dl_len_blen m
  have d2 := dl_len_blen m'
  have l1 := ref01_Len (G := G) hB (z := z) (a := m) (by omega)
  have l2 := ref01_Len (G := G) hB (z := y) (a := m') (by omega)
  have hN2 : quoN k m m' = k + 1 + blen m' - blen m := rfl
  generalize quoN k m m' = N at *
  obtain ⟨z1, h1⟩ := ref01_Up (G := G) hB (z := z) (a := m) (n := N) (by omega) (by omega)
  have bm := blen_mul ha N
  have d3 := dl_len_blen (m * 2 ^ N)
  obtain ⟨z2, z3, h2⟩ := ref01_QuoRem (G := G) hB (z := z1) (y := y) (a := m * 2 ^ N) (b := m') (by omega) (by omega) (by omega)
  have bq := blen_mono (Nat.div_le_self (m * 2 ^ N) m')
  have d4 := dl_len_blen (m * 2 ^ N / m')
  have hrl : decide ((0 : Int) < ((dl (m * 2 ^ N % m')).length : Int)) = !decide (m * 2 ^ N % m' = 0) := by
    rw [← decide_not]; refine decide_eq_decide.2 ?_
    rw [← dl_len0]; omega
  generalize m * 2 ^ N / m' = Q at *
  generalize m * 2 ^ N % m' = R at *
  obtain ⟨z4, h3⟩ := ref02_Form (G := G) hB hT (n := n != n') (z := z2) (a := Q) (e := e - e' - N) (by omega) (by omega)
  obtain ⟨z5, h4⟩ := form_cut (G := G) hB hT (n := n != n') (z := z4) (Q := Q) (k := k) (S := S) (e := e - e' - N) (by omega) hS (by omega) hk0 hk (by omega)
  have c1 : ¬ ((dl m).length : Int) = 0 := fun hc => ha (dl_len0.1 (by omega))
  refine ⟨z5, ?_⟩
  have hne : (n != n') = !decide (n = n') := by cases n <;> cases n' <;> rfl
  rw [hne] at h3 h4 ⊢
  rw [run_k G T hT.ref02_Quo]
  simp only [DyA, A3] at *
  have wa : IntKind.i64.wrap ((k : Int) + 1) = (k : Int) + 1 := wrap_i64 (by omega)
  have wb : IntKind.i64.wrap ((k : Int) + 1 + (blen m' : Int)) = (k : Int) + 1 + (blen m' : Int) := wrap_i64 (by omega)
  have wc : IntKind.i64.wrap ((k : Int) + 1 + (blen m' : Int) - (blen m : Int)) = (k : Int) + 1 + (blen m' : Int) - (blen m : Int) := wrap_i64 (by omega)
  have wd : IntKind.i64.wrap (e - e') = e - e' := wrap_i64 (by omega)
  have we : IntKind.i64.wrap (e - e' - (N : Int)) = e - e' - N := wrap_i64 (by omega)
  have hN3 : ((k : Int) + 1 + (blen m' : Int) - (blen m : Int) < 0 ∧ N = 0) ∨ (¬ ((k : Int) + 1 + (blen m' : Int) - (blen m : Int) < 0) ∧ (k : Int) + 1 + (blen m' : Int) - (blen m : Int) = N) := by omega
  clear d1 d2 d3 d4 bm bq hqb hS hN2
  generalize decide (Q % 2 ^ S = 0) = o at *
  rcases hN3 with ⟨c3, rfl⟩ | ⟨c3, wN⟩
  · simp only [cast0, Nat.pow_zero, Nat.mul_one] at h1 h2 we h3 h4 ⊢
    cases o <;> (repeat' (first | (simp (maxSteps := 1000000) only [evB, if_true, if_false, ne_eq, Nat.reduceEqDiff, Nat.reduceAdd, reduceCtorEq, Int.reduceLE, Int.reduceLT, Int.reduceEq, Int.reduceNeg, Int.reduceToNat, Int.reducePow, Int.reduceMod, Int.reduceDiv, Int.reduceSub, Int.reduceAdd, Int.reduceMul, Nat.reduceMul, Nat.reduceSub, Nat.reducePow, exB, resC_ptr, res_cell, nilb, nilf, faddr_p, c_ref02_Quo, l1, l2, c1, c3, wa, wb, wc, wd, we, h1, h2, h3, h4, hrl]) | (simp (maxSteps := 1000000) (disch := first | with_reducible assumption | omega) only [dxB]) | (simp only [kI_d, kG_dt, kG_df]; split) | (simp only [kI_v, kG_vt, kG_vf]; split)); try rfl)
  · have c4 : ¬ (N : Int) < 0 := by omega
    rw [wN] at wc
    cases o <;> (repeat' (first | (simp (maxSteps := 1000000) only [evB, if_true, if_false, ne_eq, Nat.reduceEqDiff, Nat.reduceAdd, reduceCtorEq, Int.reduceLE, Int.reduceLT, Int.reduceEq, Int.reduceNeg, Int.reduceToNat, Int.reducePow, Int.reduceMod, Int.reduceDiv, Int.reduceSub, Int.reduceAdd, Int.reduceMul, Nat.reduceMul, Nat.reduceSub, Nat.reducePow, exB, resC_ptr, res_cell, nilb, nilf, faddr_p, c_ref02_Quo, l1, l2, c1, c4, wN, wa, wb, wc, wd, we, h1, h2, h3, h4, hrl]) | (simp (maxSteps := 1000000) (disch := first | with_reducible assumption | omega) only [dxB]) | (simp only [kI_d, kG_dt, kG_df]; split) | (simp only [kI_v, kG_vt, kG_vf]; split)); try rfl)
end Go.Cv

/-
  The program's quotient of dyadic numbers.
-/
namespace Go.Cv
variable {G : Nat → Option (List AV)} {T : Tbl} {g : Nat}

theorem both_loop (e : Env) (h : Heap) : evL G T c_dyad_both_l1 e h = kS G T (evL G T c_dyad_both_b1 (keepE [5, 6, 7] e) h) c_dyad_both_l1 := s_loopc G T rfl e h

theorem dyad_both (hA : HasA g T) (hT : HasC g T) {n z n' z' : Bool} {l l' : List Nat} (hd : Dg l) (hd' : Dg l') {e e' : Int} :
    run G T 74 [.imm 2 [.bool n, D z l, .int .i64 e, .bool n', D z' l', .int .i64 e']] = some (.bool (mayD n l e && mayD n' l' e')) := by
  rw [run_k G T hT.dyad_both]
  have h2 := dyad_May (G := G) (T := T) hA hT (n := n) (z := z) hd (e := e)
  have h3 := dyad_May (G := G) (T := T) hA hT (n := n') (z := z') hd' (e := e')
  simp only [A3] at *
  cases hm : mayD n l e <;> cases hm' : mayD n' l' e' <;> (
    rw [hm] at h2
    rw [hm'] at h3
    repeat' (first | (simp (maxSteps := 1000000) only [evB, if_true, if_false, ne_eq, Nat.reduceEqDiff, Nat.reduceAdd, reduceCtorEq, Int.reduceLE, Int.reduceLT, Int.reduceEq, Int.reduceNeg, Int.reduceToNat, Int.reducePow, Int.reduceMod, Int.reduceDiv, Int.reduceSub, Int.reduceAdd, Int.reduceMul, Nat.reduceMul, Nat.reduceSub, Nat.reducePow, exB, resC_ptr, res_cell, nilb, nilf, faddr_p, c_dyad_both, h2, h3, both_loop, c_dyad_both_b1, iad20, iad21, rd_ip]) | (simp (maxSteps := 1000000) (disch := first | with_reducible assumption | omega) only [dxB]) | (simp only [kI_d, kG_dt, kG_df]; split) | (simp only [kI_v, kG_vt, kG_vf]; split))
    all_goals rfl)
end Go.Cv

/-
  The program's quotient of dyadic numbers.
-/
namespace Go.Cv
variable {G : Nat → Option (List AV)} {T : Tbl} {g : Nat}

theorem dyad_Quo (hA : HasA g T) (hG : Glob G g) (hT : HasC g T) {z y : Bool} {a b : Dy} {k S : Nat} (da : mayD a.n (dl a.m) a.e = true) (db : mayD b.n (dl b.m) b.e = true)
    (ha : a.m ≠ 0) (hb : b.m ≠ 0) (hk : 1 ≤ k ∧ k ≤ 8192) (hw : quoN k a.m b.m + blen a.m ≤ 131072) (ea : -4000000 < a.e ∧ a.e < 4000000) (eb : -4000000 < b.e ∧ b.e < 4000000)
    (hS : blen (a.m * 2 ^ quoN k a.m b.m / b.m) = k + S) :
    ∃ z', run G T 40 [DyA z a, DyA y b, .int .i64 (k : Int)] = some (.tup [DyA z' (mkD (a.n != b.n) (a.m * 2 ^ quoN k a.m b.m / b.m / 2 ^ S) (a.e - b.e - (quoN k a.m b.m : Nat) + S)),
      .bool (!decide (a.m * 2 ^ quoN k a.m b.m / b.m % 2 ^ S = 0) || !decide (a.m * 2 ^ quoN k a.m b.m % b.m = 0)), .int .i64 0]) := by
  have hqb := quo_blen (k := k) ha hb
  have ma := (mayD_facts da).1
  have mb := (mayD_facts db).1
  obtain ⟨n, m, e⟩ := a
  obtain ⟨n', m', e'⟩ := b
  simp only at *
  have b0 := dyad_both (G := G) (T := T) hA hT (n := n) (z := z) (n' := n') (z' := y) (Dg_dl m) (Dg_dl m') (e := e) (e' := e')
  rw [da, db, Bool.and_self] at b0
  have a0 := dyad_asked (G := G) (T := T) hT hk
  have l1 := nat_Len (G := G) (T := T) hA (z := z) ma
  have l2 := nat_Len (G := G) (T := T) hA (z := y) mb
  have bm := may_blen ma
  have bm' := may_blen mb
  have hN2 : quoN k m m' = k + 1 + blen m' - blen m := rfl
  generalize quoN k m m' = N at *
  obtain ⟨z1, h1⟩ := nat_Shift_up (G := G) (T := T) hA (z := z) (a := m) (n := N) ma (Or.inr hw) (by omega)
  have bN := blen_mul ha N
  have mN : mayL (dl (m * 2 ^ N)) = true := mayL_small (by omega)
  obtain ⟨z2, z3, h2⟩ := nat_QuoRem (G := G) (T := T) hA (z := z1) (y := y) (a := m * 2 ^ N) (b := m') mN mb hb
  have bq := blen_mono (Nat.div_le_self (m * 2 ^ N) m')
  have mq : mayL (dl (m * 2 ^ N / m')) = true := mayL_small (by omega)
  have hrl : decide ((0 : Int) < ((dl (m * 2 ^ N % m')).length : Int)) = !decide (m * 2 ^ N % m' = 0) := by
    rw [← decide_not]; refine decide_eq_decide.2 ?_
    rw [← dl_len0]; omega
  generalize m * 2 ^ N / m' = Q at *
  generalize m * 2 ^ N % m' = R at *
  obtain ⟨z5, h4⟩ := dyad_made (G := G) (T := T) hA hG hT (n := n != n') (z := z2) (more := !decide (R = 0)) (q := Q) (k := k) (s := S) (e := e - e' - N) mq hS (by omega) (by omega)
  have c1 : ¬ ((dl m).length : Int) = 0 := fun hc => ha (dl_len0.1 (by omega))
  have c2 : ¬ ((dl m').length : Int) = 0 := fun hc => hb (dl_len0.1 (by omega))
  refine ⟨z5, ?_⟩
  have hne : (n != n') = !decide (n = n') := by cases n <;> cases n' <;> rfl
  rw [hne] at h4 ⊢
  rw [run_k G T hT.dyad_Quo]
  simp only [DyA, A3] at *
  have c3 : ¬ (k : Int) < 1 := by omega
  have wa : IntKind.i64.wrap ((k : Int) + 1) = (k : Int) + 1 := wrap_i64 (by omega)
  have wb : IntKind.i64.wrap ((k : Int) + 1 + (blen m' : Int)) = (k : Int) + 1 + (blen m' : Int) := wrap_i64 (by omega)
  have wc : IntKind.i64.wrap ((k : Int) + 1 + (blen m' : Int) - (blen m : Int)) = (k : Int) + 1 + (blen m' : Int) - (blen m : Int) := wrap_i64 (by omega)
  have wd : IntKind.i64.wrap (e - e') = e - e' := wrap_i64 (by omega)
  have we : IntKind.i64.wrap (e - e' - (N : Int)) = e - e' - N := wrap_i64 (by omega)
  have wm : max (0 : Int) ((k : Int) + 1 + (blen m' : Int) - (blen m : Int)) = N := by omega
  have wf : IntKind.i64.wrap (131072 - (blen m : Int)) = 131072 - (blen m : Int) := wrap_i64 (by omega)
  have c4 : ¬ (131072 - (blen m : Int) < (N : Int)) := by omega
  clear bN mN bq mq hqb hS hN2 da db ma mb hw
  generalize decide (Q % 2 ^ S = 0) = o at *
  cases o <;> (repeat' (first | (simp (maxSteps := 1000000) only [evB, if_true, if_false, ne_eq, Nat.reduceEqDiff, Nat.reduceAdd, reduceCtorEq, Int.reduceLE, Int.reduceLT, Int.reduceEq, Int.reduceNeg, Int.reduceToNat, Int.reducePow, Int.reduceMod, Int.reduceDiv, Int.reduceSub, Int.reduceAdd, Int.reduceMul, Nat.reduceMul, Nat.reduceSub, Nat.reducePow, exB, resC_ptr, res_cell, nilb, nilf, faddr_p, c_dyad_Quo, b0, a0, c1, c2, c3, c4, l1, l2, wa, wb, wc, wd, we, wf, wm, mm_max2, h1, h2, h4, hrl]) | (simp (maxSteps := 1000000) (disch := first | with_reducible assumption | omega) only [dxB]) | (simp only [kI_d, kG_dt, kG_df]; split) | (simp only [kI_v, kG_vt, kG_vf]; split)); try rfl)
end Go.Cv

/-
  The program's root of a dyadic number.
-/
namespace Go.Cv
variable {G : Nat → Option (List AV)} {T : Tbl} {g : Nat}

end Go.Cv

/-
  The document's root of a dyadic number.
-/
namespace Go.Cv
variable {G : Nat → Option (List AV)} {T : Tbl} {g : Nat}

end Go.Cv

/-
  Rounding a number that is told by its first bits and whether there is something behind them.
-/
namespace Go.Cv

/-- The word of Q (and something behind it, or not) times 2^E. -/
def sW (F : Fm) (md : Int) (neg : Bool) (Q : Nat) (more : Bool) (E : Int) : Nat × Nat :=
  wordOf F md neg (rdN md neg Q more (F.eOf (E + blen Q) - E).toNat).1 (rdN md neg Q more (F.eOf (E + blen Q) - E).toNat).2 (F.eOf (E + blen Q)) (E + blen Q) (rdN md neg Q more (blen Q - F.fr - 1)).1

theorem partW_sW (F : Fm) (md : Int) (neg : Bool) {w : Nat} (more : Bool) (top : Int) (hw : blen w = 64) : partW F md neg w more top = sW F md neg w more (top - 64) := by
  unfold partW sW
  have h1 : top - 64 + (blen w : Int) = top := by omega
  rw [h1, show F.eOf top - top + 64 = F.eOf top - (top - 64) by omega, show blen w - F.fr - 1 = 63 - F.fr by omega]

theorem sW_shift (F : Fm) (md : Int) (neg : Bool) {Q j : Nat} (more : Bool) (E : Int) (h : F.fr + 2 + j ≤ blen Q) :
    sW F md neg (Q / 2 ^ j) (more || decide (Q % 2 ^ j ≠ 0)) (E + j) = sW F md neg Q more E := by
  unfold sW
  have hb : (blen (Q / 2 ^ j) : Int) = blen Q - j := by rw [blen_div]; omega
  have hb' : blen (Q / 2 ^ j) = blen Q - j := by omega
  have e1 : E + j + (blen (Q / 2 ^ j) : Int) = E + blen Q := by omega
  have hE : E + (blen Q : Int) - F.fr - 1 ≤ F.eOf (E + blen Q) := by unfold Fm.eOf; omega
  have r1 := rdN_shift md neg Q more j (F.eOf (E + blen Q) - (E + j)).toNat (by omega)
  have r2 := rdN_shift md neg Q more j (blen Q - j - F.fr - 1) (by omega)
  rw [show j + (F.eOf (E + blen Q) - (E + j)).toNat = (F.eOf (E + blen Q) - E).toNat by omega] at r1
  rw [show j + (blen Q - j - F.fr - 1) = blen Q - F.fr - 1 by omega] at r2
  rw [e1, hb', r1, r2]

theorem headN_mul {M : Nat} (h : M ≠ 0) (t : Nat) : headN (M * 2 ^ t) = headN M ∧ behindN (M * 2 ^ t) = behindN M := by
  unfold headN behindN
  rw [blen_mul h]
  by_cases h1 : blen M ≤ 64
  · by_cases h2 : blen M + t ≤ 64
    · rw [if_pos h1, if_pos h2, if_pos h1, if_pos h2, Nat.mul_assoc, ← Nat.pow_add, show t + (64 - (blen M + t)) = 64 - blen M by omega]
      exact ⟨rfl, rfl⟩
    · rw [if_pos h1, if_neg h2, if_pos h1, if_neg h2]
      rw [div_pow_mul (by omega), mod_pow_mul (by omega), show t - (blen M + t - 64) = 64 - blen M by omega]
      exact ⟨rfl, rfl⟩
  · rw [if_neg h1, if_neg (by omega), if_neg h1, if_neg (by omega)]
    rw [div_pow_mul2 (by omega), mod_pow_mul2 (by omega), show blen M + t - 64 - t = blen M - 64 by omega]
    have hp := Nat.two_pow_pos t
    refine ⟨rfl, decide_eq_decide.2 ?_⟩
    constructor
    · intro h3 h4; exact h3 (by rw [h4, Nat.zero_mul])
    · intro h3 h4
      rcases Nat.mul_eq_zero.1 h4 with h5 | h5
      · exact h3 h5
      · omega

theorem sW_head (F : Fm) (md : Int) (neg : Bool) {M : Nat} (E : Int) (h : F.fr + 2 ≤ blen M) : sW F md neg (headN M) (behindN M) (E + blen M - 64) = sW F md neg M false E := by
  have hF := fm_facts F
  unfold headN behindN
  by_cases h1 : blen M ≤ 64
  · rw [if_pos h1, if_pos h1]
    have hm : M ≠ 0 := by rintro rfl; rw [blen_zero] at h; omega
    have := sW_shift F md neg (Q := M * 2 ^ (64 - blen M)) (j := 64 - blen M) false (E + blen M - 64) (by rw [blen_mul hm]; omega)
    rw [Nat.mul_div_cancel _ (Nat.two_pow_pos _), Nat.mul_mod_left, show E + (blen M : Int) - 64 + ((64 - blen M : Nat) : Int) = E by omega] at this
    rw [← this]; rfl
  · rw [if_neg h1, if_neg h1]
    have := sW_shift F md neg (Q := M) (j := blen M - 64) false E (by omega)
    rw [← this, Bool.false_or, show E + ((blen M - 64 : Nat) : Int) = E + blen M - 64 by omega]

theorem rndW_mk (F : Fm) (md : Int) (neg : Bool) {M : Nat} (E : Int) (h : F.fr + 2 ≤ blen M) : rndW F md (mkD neg M E) = sW F md neg M false E := by
  have hm : M ≠ 0 := by rintro rfl; rw [blen_zero] at h; omega
  have t1 := (tz_spec hm).1
  have hb := blen_div M (tz M)
  have hz := tz_blen hm
  have hm' : M / 2 ^ tz M ≠ 0 := by intro hc; rw [hc, blen_zero] at hb; omega
  have h1 := partW_eq F md (d := mkD neg M E) (by rw [mkD_pos hm]; exact hm')
  rw [← h1, mkD_pos hm]
  simp only
  obtain ⟨e1, e2⟩ := headN_mul hm' (tz M)
  rw [← t1] at e1 e2
  rw [← e1, ← e2, partW_sW _ _ _ _ _ (headN_blen hm), show E + (tz M : Int) + (blen (M / 2 ^ tz M) : Int) - 64 = E + blen M - 64 by omega, sW_head F md neg E h]

/-- Something behind a number, as one bit more. -/
theorem sW_beyond (F : Fm) (md : Int) (neg : Bool) {M j : Nat} (E : Int) (hj : 0 < j) (h : F.fr + 2 ≤ blen M) : sW F md neg (M * 2 ^ j + 1) false (E - j) = sW F md neg M true E := by
  have hm : M ≠ 0 := by rintro rfl; rw [blen_zero] at h; omega
  have hp : 1 < 2 ^ j := Nat.one_lt_two_pow (by omega)
  have d1 : (M * 2 ^ j + 1) / 2 ^ j = M := by
    rw [Nat.mul_comm, Nat.mul_add_div (by omega), Nat.div_eq_of_lt hp, Nat.add_zero]
  have d2 : (M * 2 ^ j + 1) % 2 ^ j = 1 := by
    rw [Nat.mul_comm, Nat.mul_add_mod, Nat.mod_eq_of_lt hp]
  have hb := blen_div (M * 2 ^ j + 1) j
  rw [d1] at hb
  have := sW_shift F md neg (Q := M * 2 ^ j + 1) (j := j) false (E - j) (by omega)
  rw [d1, d2, show E - (j : Int) + j = E by omega] at this
  rw [← this]; rfl

/-- The finer of two quotients tells the same. -/
theorem sW_quo (F : Fm) (md : Int) (neg : Bool) {a b N j : Nat} (E : Int) (hb : b ≠ 0) (h : F.fr + 2 ≤ blen (a * 2 ^ N / b)) :
    sW F md neg (a * 2 ^ (N + j) / b) (!decide (a * 2 ^ (N + j) % b = 0)) (E - j) = sW F md neg (a * 2 ^ N / b) (!decide (a * 2 ^ N % b = 0)) E := by
  have hp := Nat.two_pow_pos j
  have e0 : a * 2 ^ (N + j) = a * 2 ^ N * 2 ^ j := by rw [Nat.pow_add, Nat.mul_assoc]
  rw [e0]
  generalize a * 2 ^ N = A at *
  have e1 : A * 2 ^ j / b / 2 ^ j = A / b := by rw [Nat.div_div_eq_div_mul, Nat.mul_div_mul_right _ _ hp]
  have hbl := blen_div (A * 2 ^ j / b) j
  rw [e1] at hbl
  have h2 := sW_shift F md neg (Q := A * 2 ^ j / b) (j := j) (!decide (A * 2 ^ j % b = 0)) (E - j) (by omega)
  rw [e1, show E - (j : Int) + j = E by omega] at h2
  rw [← h2]
  congr 1
  have e3 : A * 2 ^ j % (b * 2 ^ j) = A % b * 2 ^ j := Nat.mul_mod_mul_right ..
  rw [Nat.mod_mul] at e3
  have key : A % b = 0 ↔ (A * 2 ^ j % b = 0 ∧ A * 2 ^ j / b % 2 ^ j = 0) := by
    constructor
    · intro h3
      rw [h3, Nat.zero_mul] at e3
      have h4 : A * 2 ^ j % b = 0 := by omega
      rw [h4, Nat.zero_add] at e3
      refine ⟨h4, ?_⟩
      rcases Nat.mul_eq_zero.1 e3 with h5 | h5
      · exact absurd h5 hb
      · exact h5
    · rintro ⟨h3, h4⟩
      rw [h3, h4, Nat.mul_zero, Nat.add_zero] at e3
      rcases Nat.mul_eq_zero.1 e3.symm with h5 | h5
      · exact h5
      · omega
  rw [Bool.eq_iff_iff]
  simp only [Bool.or_eq_true, Bool.not_eq_true', decide_eq_true_eq, decide_eq_false_iff_not, ne_eq, key]
  by_cases h5 : A * 2 ^ j % b = 0 <;> by_cases h6 : A * 2 ^ j / b % 2 ^ j = 0 <;> simp [h5, h6]

end Go.Cv

/-
  Rounding of quotients and roots: the program's and the document's.
-/
namespace Go.Cv
variable {G : Nat → Option (List AV)} {T : Tbl} {g : Nat}

/-- The word of a quotient. -/
def quoW (F : Fm) (md : Int) (a b : Dy) : Nat × Nat :=
  sW F md (a.n != b.n) (a.m * 2 ^ quoN 64 a.m b.m / b.m) (!decide (a.m * 2 ^ quoN 64 a.m b.m % b.m = 0)) (a.e - b.e - (quoN 64 a.m b.m : Nat))

theorem or_ne (o1 o2 : Bool) : (!o1 || !o2) = (!o2 || !o1) := by cases o1 <;> cases o2 <;> rfl

theorem head64 {w : Nat} (h : blen w = 64) : headN w = w ∧ behindN w = false := by
  unfold headN behindN
  rw [if_pos (by omega), if_pos (by omega), h]
  exact ⟨Nat.mul_one w, rfl⟩

theorem mk_head {n : Bool} {w : Nat} {e : Int} (h : blen w = 64) : headN (mkD n w e).m = w ∧ behindN (mkD n w e).m = false ∧ (mkD n w e).e + (blen (mkD n w e).m : Int) = e + 64 ∧ (mkD n w e).m ≠ 0 ∧ (mkD n w e).n = n := by
  have h0 : w ≠ 0 := by rintro rfl; rw [blen_zero] at h; omega
  have t1 := (tz_spec h0).1
  have hb := blen_div w (tz w)
  have hz := tz_blen h0
  have hm' : w / 2 ^ tz w ≠ 0 := by intro hc; rw [hc, blen_zero] at hb; omega
  obtain ⟨e1, e2⟩ := headN_mul hm' (tz w)
  rw [← t1] at e1 e2
  rw [mkD_pos h0]
  simp only
  rw [← e1, ← e2]
  exact ⟨(head64 h).1, (head64 h).2, by omega, hm', by trivial⟩

theorem fm_fr (F : Fm) : F.fr + 2 ≤ 54 := by cases F <;> decide

theorem round_Quo (hA : HasA g T) (hC : HasC g T) (hG : Glob G g) (hD : HasD g T) (hT : HasE g T) (F : Fm) {m : Int} (hm : 1 ≤ m ∧ m ≤ 5) {z y : Bool} {a b : Dy} (da : mayD a.n (dl a.m) a.e = true) (db : mayD b.n (dl b.m) b.e = true)
    (ha : a.m ≠ 0) (hb : b.m ≠ 0) (hw : quoN 64 a.m b.m + blen a.m ≤ 131072) :
    run G T 15 [.int .u8 F.u, .int .u8 m, DyA z a, DyA y b] = some (.tup [.int .u64 ((quoW F m a b).1 : Int), .int .u8 ((quoW F m a b).2 : Int), .int .i64 0]) := by
  rw [run_k G T hT.round_Quo]
  obtain ⟨f1, f2, f3, f4, f5⟩ := mayD_facts da
  obtain ⟨g1, g2, g3, g4, g5⟩ := mayD_facts db
  have o1 := round_open2 (G := G) (T := T) hA hC hT F hm (n := a.n) (z := z) (n' := b.n) (z' := y) (Dg_dl a.m) (Dg_dl b.m) (e := a.e) (e' := b.e)
  rw [da, db, Bool.and_self, if_pos rfl] at o1
  have s1 := dyad_Sign (G := G) (T := T) hA hC (n := a.n) (z := z) (Dg_dl a.m) (e := a.e)
  rw [sign_may da, if_neg ha] at s1
  have s2 := dyad_Sign (G := G) (T := T) hA hC (n := b.n) (z := y) (Dg_dl b.m) (e := b.e)
  rw [sign_may db, if_neg hb] at s2
  have bound : ∀ {n : Bool} {m : Nat} {e : Int}, mayD n (dl m) e = true → m ≠ 0 → mayD false (dl m) 0 = true := by
    intro n m e hx hx0
    have h1 : ¬ (dl m).length = 0 := by rw [dl_len0]; exact hx0
    simp only [mayD] at hx ⊢
    rw [if_neg h1] at hx ⊢
    simp only [Bool.and_eq_true, decide_eq_true_eq] at hx ⊢
    exact ⟨hx.1, hx.2.1, by omega⟩
  have hqb := quo_blen (k := 64) ha hb
  obtain ⟨S, hS⟩ : ∃ S, blen (a.m * 2 ^ quoN 64 a.m b.m / b.m) = 64 + S := ⟨blen (a.m * 2 ^ quoN 64 a.m b.m / b.m) - 64, by omega⟩
  obtain ⟨zq, q1⟩ := dyad_Quo (G := G) (T := T) hA hG hC (z := z) (y := y) (a := ⟨false, a.m, 0⟩) (b := ⟨false, b.m, 0⟩) (k := 64) (S := S) (bound da ha) (bound db hb) ha hb (by omega) hw ⟨by simp, by simp⟩ ⟨by simp, by simp⟩ hS
  simp only at q1
  rw [show ((64 : Nat) : Int) = 64 from rfl] at q1
  have bS := blen_div (a.m * 2 ^ quoN 64 a.m b.m / b.m) S
  have hb64 : blen (a.m * 2 ^ quoN 64 a.m b.m / b.m / 2 ^ S) = 64 := by omega
  have hq1 := quoN
  have hN : quoN 64 a.m b.m = 64 + 1 + blen b.m - blen a.m := rfl
  have bS2 := blen_mono (Nat.div_le_self (a.m * 2 ^ quoN 64 a.m b.m) b.m)
  rw [blen_mul ha] at bS2
  have bbm := may_blen g1
  have W : quoW F m a b = partW F m (a.n != b.n) (a.m * 2 ^ quoN 64 a.m b.m / b.m / 2 ^ S) (!decide (a.m * 2 ^ quoN 64 a.m b.m / b.m % 2 ^ S = 0) || !decide (a.m * 2 ^ quoN 64 a.m b.m % b.m = 0))
      ((0 : Int) - 0 - (quoN 64 a.m b.m : Nat) + S + 64 + (a.e - b.e)) := by
    rw [partW_sW _ _ _ _ _ hb64]
    have := sW_shift F m (a.n != b.n) (Q := a.m * 2 ^ quoN 64 a.m b.m / b.m) (j := S) (!decide (a.m * 2 ^ quoN 64 a.m b.m % b.m = 0)) (a.e - b.e - (quoN 64 a.m b.m : Nat)) (by have := fm_fr F; omega)
    unfold quoW
    simp only [ne_eq, decide_not] at this
    rw [← this, or_ne, show (0 : Int) - 0 - (quoN 64 a.m b.m : Nat) + S + 64 + (a.e - b.e) - 64 = a.e - b.e - (quoN 64 a.m b.m : Nat) + S by omega]
  rw [W]
  clear W bS
  generalize a.m * 2 ^ quoN 64 a.m b.m / b.m % 2 ^ S = R1 at *
  generalize a.m * 2 ^ quoN 64 a.m b.m % b.m = R2 at *
  generalize a.m * 2 ^ quoN 64 a.m b.m / b.m / 2 ^ S = Q at *
  generalize a.m * 2 ^ quoN 64 a.m b.m / b.m = Q0 at *
  have hX : -2000000 < (0 : Int) - 0 - (quoN 64 a.m b.m : Nat) + S ∧ (0 : Int) - 0 - (quoN 64 a.m b.m : Nat) + S < 2000000 := by omega
  generalize (0 : Int) - 0 - (quoN 64 a.m b.m : Nat) + S = X at *
  obtain ⟨k1, k2, k3, k4, k5⟩ := mk_head (n := false != false) (e := X) hb64
  have hd := mkD_pos (n := false != false) (m := Q) (by rintro rfl; rw [blen_zero] at hb64; omega) X
  have hQ0 : Q ≠ 0 := by rintro rfl; rw [blen_zero] at hb64; omega
  have tq := tz_blen hQ0
  have hmm : mayL (dl (mkD (false != false) Q X).m) = true := mayL_small (by
    have := blen_div Q (tz Q)
    rw [hd]; simp only; omega)
  have p1 := round_partOf (G := G) (T := T) hA hG hT (z := zq) (d := mkD (false != false) Q X) hmm k4 (by rw [hd]; simp only; omega)
  rw [k1, k2, k3] at p1
  have w1 := round_word (G := G) (T := T) hA hC hG hD hT F hm (neg := a.n != b.n) (more := !decide (R1 = 0) || !decide (R2 = 0)) (w := Q) (top := X + 64 + (a.e - b.e)) hb64 (by omega)
  have wa : IntKind.i64.wrap (a.e - b.e) = a.e - b.e := wrap_i64 (by omega)
  have wb : IntKind.i64.wrap (X + 64 + (a.e - b.e)) = X + 64 + (a.e - b.e) := wrap_i64 (by omega)
  clear k1 k2 k3 k4 k5 hd tq hmm hb64 hw hN hqb hS bS2 bbm f1 f2 f3 f4 f5 g1 g2 g3 g4 g5 da db bound hX hq1
  obtain ⟨na, ma, ea⟩ := a
  obtain ⟨nb, mb, eb⟩ := b
  simp only at *
  have hne : (na != nb) = !decide (na = nb) := by cases na <;> cases nb <;> rfl
  rw [hne] at w1 ⊢
  have c1 : ¬ (if na = true then (-1 : Int) else 1) = 0 := by split <;> decide
  have c2 : ¬ (if nb = true then (-1 : Int) else 1) = 0 := by split <;> decide
  generalize (if na = true then (-1 : Int) else 1) = sa at *
  generalize (if nb = true then (-1 : Int) else 1) = sb at *
  generalize (!decide (R1 = 0) || !decide (R2 = 0)) = lost at *
  simp only [DyA, A3, fmA, partA] at *
  cases lost <;> (
    repeat' (first | (simp (maxSteps := 1000000) only [evB, if_true, if_false, ne_eq, Nat.reduceEqDiff, Nat.reduceAdd, reduceCtorEq, Int.reduceLE, Int.reduceLT, Int.reduceEq, Int.reduceNeg, Int.reduceToNat, Int.reducePow, Int.reduceMod, Int.reduceDiv, Int.reduceSub, Int.reduceAdd, Int.reduceMul, Nat.reduceMul, Nat.reduceSub, Nat.reducePow, exB, resC_ptr, res_cell, nilb, nilf, faddr_p, c_round_Quo, o1, s1, s2, c1, c2, q1, p1, wa, wb, w1]) | (simp (maxSteps := 1000000) (disch := first | with_reducible assumption | omega) only [dxB]) | (simp only [kI_d, kG_dt, kG_df]; split) | (simp only [kI_v, kG_vt, kG_vf]; split))
    all_goals try rfl)
end Go.Cv

/-
  The document's rounding of quotients.
-/
namespace Go.Cv
variable {G : Nat → Option (List AV)} {T : Tbl} {g : Nat}

/-- A number of 60 bits, and something behind it or not. -/
def beyD (n : Bool) (q : Nat) (e : Int) (lost : Bool) : Dy := if lost then mkD n (q * 2 ^ 2 + 1) (e - 2) else mkD n q e

theorem bey_add {n : Bool} {q : Nat} {e : Int} (hq : blen q = 60) : (mkD n q e).n = n ∧ topD (mkD n q e) = e + 60 ∧ addD (mkD n q e) ⟨n, 1, e - 2⟩ = mkD n (q * 2 ^ 2 + 1) (e - 2) := by
  have h0 : q ≠ 0 := by rintro rfl; rw [blen_zero] at hq; omega
  refine ⟨by rw [mkD_pos h0], by rw [top_mk h0, hq]; rfl, ?_⟩
  have t1 := (tz_spec h0).1
  have hb := blen_div q (tz q)
  have hz := tz_blen h0
  have hm' : q / 2 ^ tz q ≠ 0 := by intro hc; rw [hc, blen_zero] at hb; omega
  rw [mkD_pos h0]
  unfold addD
  simp only
  rw [if_neg hm', if_neg (by decide), if_pos trivial, show min (e + (tz q : Int)) (e - 2) = e - 2 by omega, show (e + (tz q : Int) - (e - 2)).toNat = tz q + 2 by omega, show (e - 2 - (e - 2)).toNat = 0 by omega, Nat.pow_add, ← Nat.mul_assoc, ← t1]

theorem sW_bey (F : Fm) (md : Int) (n : Bool) {q : Nat} {e : Int} {lost : Bool} (hq : blen q = 60) : rndW F md (beyD n q e lost) = sW F md n q lost e := by
  have hF := fm_fr F
  unfold beyD
  cases lost
  · rw [if_neg (by decide), rndW_mk F md n e (by omega)]
  · have h0 : q ≠ 0 := by rintro rfl; rw [blen_zero] at hq; omega
    have hb := blen_mul h0 2
    have hb2 := blen_mono (show q * 2 ^ 2 ≤ q * 2 ^ 2 + 1 by omega)
    rw [if_pos rfl, rndW_mk F md n (e - 2) (by omega)]
    exact sW_beyond F md n (j := 2) e (by decide) (by omega)

theorem Bd_bey {n : Bool} {q : Nat} {e : Int} {lost : Bool} (hq : blen q = 60) (he : -100000000 < e ∧ e < 100000000) : Bd (beyD n q e lost) 134217728 := by
  unfold beyD
  split
  · have h0 : q * 2 ^ 2 + 1 ≠ 0 := by omega
    have hb : blen (q * 2 ^ 2 + 1) ≤ 63 := by
      have := blen_le.1 (Nat.le_of_eq hq)
      refine blen_le.2 ?_
      omega
    exact Bd_mk (by omega) (by omega) (by omega)
  · exact Bd_mk (by omega) (by omega) (by omega)
theorem Nz_bey (n : Bool) (q : Nat) (e : Int) (lost : Bool) : Nz (beyD n q e lost) := by
  unfold beyD; split <;> exact Nz_mk _ _ _

theorem ref04_Beyond (hB : HasB g T) (hC : HasC g T) (hT : HasE g T) {z n lost : Bool} {q : Nat} {e : Int} (hq : blen q = 60) (he : -100000000 < e ∧ e < 100000000) :
    ∃ z', run G T 42 [DyA z (mkD n q e), .bool lost] = some (DyA z' (beyD n q e lost)) := by
  apply exP
  rw [run_k G T hT.ref04_Beyond]
  obtain ⟨e1, e2, e3⟩ := bey_add (n := n) (e := e) hq
  have bd : Bd (mkD n q e) 134217728 := Bd_mk (by omega) (by omega) (by omega)
  have hl := dl_len_blen (mkD n q e).m
  have s1 := ref02_Top (G := G) (T := T) hB hC (z := z) (d := mkD n q e) (by have := bd.bl; omega) (by have := bd.lo; have := bd.hi; omega)
  rw [e2] at s1
  have s2 := ref02_Two (G := G) (T := T) hC (n := e - 2)
  have b2 : Bd (twoD (e - 2)) 134217728 := Bd_two (by omega) (by decide)
  unfold beyD
  rw [← e3]
  have w1 : IntKind.i64.wrap (e + 60 - 60) = e := by rw [wrap_i64 (by omega)]; omega
  have w2 : IntKind.i64.wrap (e - 2) = e - 2 := wrap_i64 (by omega)
  cases n
  · obtain ⟨z1, s3⟩ := ref02_Add (G := G) (T := T) hB hC (z := z) (y := false) (bd.mono (by decide)) (b2.mono (by decide))
    rw [show twoD (e - 2) = ⟨false, 1, e - 2⟩ from rfl] at s3
    rw [show twoD (e - 2) = ⟨false, 1, e - 2⟩ from rfl] at s2
    simp only [DyA, A3, e1] at *
    cases lost
    · repeat' (first | (simp (maxSteps := 1000000) only [evB, if_true, if_false, ne_eq, Nat.reduceEqDiff, Nat.reduceAdd, reduceCtorEq, Int.reduceLE, Int.reduceLT, Int.reduceEq, Int.reduceNeg, Int.reduceToNat, Int.reducePow, Int.reduceMod, Int.reduceDiv, Int.reduceSub, Int.reduceAdd, Int.reduceMul, Nat.reduceMul, Nat.reduceSub, Nat.reducePow, exB, resC_ptr, res_cell, nilb, nilf, faddr_p, c_ref04_Beyond]) | (simp (maxSteps := 1000000) (disch := first | with_reducible assumption | omega) only [dxB]) | (simp only [kI_d, kG_dt, kG_df]; split) | (simp only [kI_v, kG_vt, kG_vf]; split))
      exact ⟨_, rfl, _, (by first | rfl | rw [(bey_add (e := e) hq).1])⟩
    · repeat' (first | (simp (maxSteps := 1000000) only [evB, if_true, if_false, ne_eq, Nat.reduceEqDiff, Nat.reduceAdd, reduceCtorEq, Int.reduceLE, Int.reduceLT, Int.reduceEq, Int.reduceNeg, Int.reduceToNat, Int.reducePow, Int.reduceMod, Int.reduceDiv, Int.reduceSub, Int.reduceAdd, Int.reduceMul, Nat.reduceMul, Nat.reduceSub, Nat.reducePow, exB, resC_ptr, res_cell, nilb, nilf, faddr_p, c_ref04_Beyond, s1, s2, s3, w1, w2]) | (simp (maxSteps := 1000000) (disch := first | with_reducible assumption | omega) only [dxB]) | (simp only [kI_d, kG_dt, kG_df]; split) | (simp only [kI_v, kG_vt, kG_vf]; split))
      exact ⟨_, rfl, _, (by first | rfl | rw [(bey_add (e := e) hq).1])⟩
  · obtain ⟨z1, s3⟩ := ref02_Sub (G := G) (T := T) hB hC (z := z) (y := false) (bd.mono (by decide)) (b2.mono (by decide))
    have hneg : subD (mkD true q e) (twoD (e - 2)) = addD (mkD true q e) ⟨true, 1, e - 2⟩ := rfl
    rw [hneg] at s3
    rw [show twoD (e - 2) = ⟨false, 1, e - 2⟩ from rfl] at s3 s2
    simp only [DyA, A3, e1] at *
    cases lost
    · repeat' (first | (simp (maxSteps := 1000000) only [evB, if_true, if_false, ne_eq, Nat.reduceEqDiff, Nat.reduceAdd, reduceCtorEq, Int.reduceLE, Int.reduceLT, Int.reduceEq, Int.reduceNeg, Int.reduceToNat, Int.reducePow, Int.reduceMod, Int.reduceDiv, Int.reduceSub, Int.reduceAdd, Int.reduceMul, Nat.reduceMul, Nat.reduceSub, Nat.reducePow, exB, resC_ptr, res_cell, nilb, nilf, faddr_p, c_ref04_Beyond]) | (simp (maxSteps := 1000000) (disch := first | with_reducible assumption | omega) only [dxB]) | (simp only [kI_d, kG_dt, kG_df]; split) | (simp only [kI_v, kG_vt, kG_vf]; split))
      exact ⟨_, rfl, _, (by first | rfl | rw [(bey_add (e := e) hq).1])⟩
    · repeat' (first | (simp (maxSteps := 1000000) only [evB, if_true, if_false, ne_eq, Nat.reduceEqDiff, Nat.reduceAdd, reduceCtorEq, Int.reduceLE, Int.reduceLT, Int.reduceEq, Int.reduceNeg, Int.reduceToNat, Int.reducePow, Int.reduceMod, Int.reduceDiv, Int.reduceSub, Int.reduceAdd, Int.reduceMul, Nat.reduceMul, Nat.reduceSub, Nat.reducePow, exB, resC_ptr, res_cell, nilb, nilf, faddr_p, c_ref04_Beyond, s1, s2, s3, w1, w2]) | (simp (maxSteps := 1000000) (disch := first | with_reducible assumption | omega) only [dxB]) | (simp only [kI_d, kG_dt, kG_df]; split) | (simp only [kI_v, kG_vt, kG_vf]; split))
      exact ⟨_, rfl, _, (by first | rfl | rw [(bey_add (e := e) hq).1])⟩

theorem ref04_Quo (hB : HasB g T) (hC : HasC g T) (hD : HasD g T) (hT : HasE g T) (F : Fm) {m : Int} (hm : 1 ≤ m ∧ m ≤ 5) {z y : Bool} {a b : Dy} (ha : a.m ≠ 0) (hb : b.m ≠ 0) (ba : Bd a 33554432) (bb : Bd b 33554432)
    (la : blen a.m < 1048576) (lb : blen b.m < 1048576) :
    run G T 17 [.int .u8 F.u, .int .u8 m, DyA z a, DyA y b] = some (.tup [.int .u64 ((quoW F m a b).1 : Int), .int .u8 ((quoW F m a b).2 : Int)]) := by
  rw [run_k G T hT.ref04_Quo]
  have hqb := quo_blen (k := 60) ha hb
  obtain ⟨S, hS⟩ : ∃ S, blen (a.m * 2 ^ quoN 60 a.m b.m / b.m) = 60 + S := ⟨blen (a.m * 2 ^ quoN 60 a.m b.m / b.m) - 60, by omega⟩
  obtain ⟨ba1, ba2, ba3⟩ := ba
  obtain ⟨bb1, bb2, bb3⟩ := bb
  obtain ⟨z1, q1⟩ := ref02_Quo (G := G) (T := T) hB hC (z := z) (y := y) (a := a) (b := b) (k := 60) (S := S) ha hb la lb (by omega) (by omega) (by omega) (by omega) hS
  rw [show ((60 : Nat) : Int) = 60 from rfl] at q1
  have bS := blen_div (a.m * 2 ^ quoN 60 a.m b.m / b.m) S
  have hb60 : blen (a.m * 2 ^ quoN 60 a.m b.m / b.m / 2 ^ S) = 60 := by omega
  have bS2 := blen_mono (Nat.div_le_self (a.m * 2 ^ quoN 60 a.m b.m) b.m)
  rw [blen_mul ha] at bS2
  have hN : quoN 60 a.m b.m = 60 + 1 + blen b.m - blen a.m := rfl
  have hN' : quoN 64 a.m b.m = 64 + 1 + blen b.m - blen a.m := rfl
  have hF := fm_fr F
  have W : quoW F m a b = sW F m (a.n != b.n) (a.m * 2 ^ quoN 60 a.m b.m / b.m / 2 ^ S) (!decide (a.m * 2 ^ quoN 60 a.m b.m / b.m % 2 ^ S = 0) || !decide (a.m * 2 ^ quoN 60 a.m b.m % b.m = 0)) (a.e - b.e - (quoN 60 a.m b.m : Nat) + S) := by
    have h1 := sW_quo F m (a.n != b.n) (a := a.m) (b := b.m) (N := quoN 60 a.m b.m) (j := quoN 64 a.m b.m - quoN 60 a.m b.m) (a.e - b.e - (quoN 60 a.m b.m : Nat)) hb (by omega)
    rw [show quoN 60 a.m b.m + (quoN 64 a.m b.m - quoN 60 a.m b.m) = quoN 64 a.m b.m by omega, show a.e - b.e - (quoN 60 a.m b.m : Nat) - ((quoN 64 a.m b.m - quoN 60 a.m b.m : Nat) : Int) = a.e - b.e - (quoN 64 a.m b.m : Nat) by omega] at h1
    have h2 := sW_shift F m (a.n != b.n) (Q := a.m * 2 ^ quoN 60 a.m b.m / b.m) (j := S) (!decide (a.m * 2 ^ quoN 60 a.m b.m % b.m = 0)) (a.e - b.e - (quoN 60 a.m b.m : Nat)) (by omega)
    unfold quoW
    simp only [ne_eq, decide_not] at h2
    rw [h1, ← h2, or_ne]
  rw [W]
  clear W hF hN'
  have hX : -99000000 < a.e - b.e - (quoN 60 a.m b.m : Nat) + (S : Int) ∧ a.e - b.e - (quoN 60 a.m b.m : Nat) + (S : Int) < 99000000 := by omega
  clear hN bS2 bS hS hqb
  generalize a.e - b.e - (quoN 60 a.m b.m : Nat) + (S : Int) = X at *
  generalize (!decide (a.m * 2 ^ quoN 60 a.m b.m / b.m % 2 ^ S = 0) || !decide (a.m * 2 ^ quoN 60 a.m b.m % b.m = 0)) = lost at *
  generalize a.m * 2 ^ quoN 60 a.m b.m / b.m / 2 ^ S = Q at *
  obtain ⟨z2, q2⟩ := ref04_Beyond (G := G) (T := T) hB hC hT (z := z1) (n := a.n != b.n) (lost := lost) (e := X) hb60 (by omega)
  have q3 := ref04_Round (G := G) (T := T) hB hC hD hT F hm (z := z2) (x := beyD (a.n != b.n) Q X lost) (Nz_bey _ _ _ _) (Bd_bey hb60 (by omega))
  rw [sW_bey F m _ hb60] at q3
  simp only [DyA, A3] at *
  repeat' (first | (simp (maxSteps := 1000000) only [evB, if_true, if_false, ne_eq, Nat.reduceEqDiff, Nat.reduceAdd, reduceCtorEq, Int.reduceLE, Int.reduceLT, Int.reduceEq, Int.reduceNeg, Int.reduceToNat, Int.reducePow, Int.reduceMod, Int.reduceDiv, Int.reduceSub, Int.reduceAdd, Int.reduceMul, Nat.reduceMul, Nat.reduceSub, Nat.reducePow, exB, resC_ptr, res_cell, nilb, nilf, faddr_p, c_ref04_Quo, q1, q2, q3]) | (simp (maxSteps := 1000000) (disch := first | with_reducible assumption | omega) only [dxB]) | (simp only [kI_d, kG_dt, kG_df]; split) | (simp only [kI_v, kG_vt, kG_vf]; split))
  all_goals try rfl
end Go.Cv

/-
  Rounding of roots: the program's and the document's.
-/
namespace Go.Cv
variable {G : Nat → Option (List AV)} {T : Tbl} {g : Nat}

end Go.Cv

/-
  Products, column by column (in numbers).
-/
namespace Go.Cv

def cT (a b : List Nat) (k i : Nat) : Nat := if i ≤ k then dg a i * dg b (k - i) else 0
/-- The first terms of a column. -/
def cS (a b : List Nat) (k : Nat) : Nat → Nat
  | 0 => 0
  | i + 1 => cS a b k i + cT a b k i
/-- The first columns. -/
def cV (a b : List Nat) : Nat → Nat
  | 0 => 0
  | N + 1 => cV a b N + 4294967296 ^ N * cS a b N a.length

theorem dg_c0 (x : Nat) (a : List Nat) : dg (x :: a) 0 = x := by rw [dg_lt (by simp)]; rfl
theorem dg_cs (x : Nat) (a : List Nat) (i : Nat) : dg (x :: a) (i + 1) = dg a i := rfl

theorem cS_cons (x : Nat) (a b : List Nat) (k : Nat) : ∀ i, cS (x :: a) b k (i + 1) = x * dg b k + (if k = 0 then 0 else cS a b (k - 1) i)
  | 0 => by
    simp only [cS, cT, dg_c0, Nat.sub_zero, Nat.zero_le, if_true, Nat.zero_add]
    split <;> rfl
  | i + 1 => by
    rw [cS, cS_cons x a b k i, cT, dg_cs]
    by_cases h0 : k = 0
    · rw [if_pos h0, if_pos h0, if_neg (by omega)]
    · rw [if_neg h0, if_neg h0, cS, cT]
      by_cases h1 : i + 1 ≤ k
      · rw [if_pos h1, if_pos (by omega), show k - 1 - i = k - (i + 1) by omega, Nat.add_assoc]
      · rw [if_neg h1, if_neg (by omega)]; rfl

theorem cV_cons (x : Nat) (a b : List Nat) : ∀ N, cV (x :: a) b N = x * val (b.take N) + (if N = 0 then 0 else 4294967296 * cV a b (N - 1))
  | 0 => by simp [cV, val]
  | N + 1 => by
    rw [cV, cV_cons x a b N, List.length_cons, cS_cons, val_take_succ', if_neg (show ¬ N + 1 = 0 by omega), Nat.add_sub_cancel]
    by_cases h0 : N = 0
    · subst h0
      rw [if_pos rfl, if_pos rfl]; simp [cV, val]
    · obtain ⟨M, rfl⟩ : ∃ M, N = M + 1 := ⟨N - 1, by omega⟩
      rw [if_neg (show ¬ M + 1 = 0 by omega), if_neg (show ¬ M + 1 = 0 by omega), Nat.add_sub_cancel, cV]
      simp only [Nat.mul_add, Nat.pow_succ]
      generalize cV a b M = V
      generalize cS a b M a.length = S
      generalize val (b.take (M + 1)) = U
      generalize dg b (M + 1) = d
      generalize 4294967296 ^ M = p
      rw [Nat.mul_left_comm (p * 4294967296) x d, show p * 4294967296 * S = 4294967296 * (p * S) by rw [Nat.mul_comm p, Nat.mul_assoc]]
      omega

theorem cV_nil (b : List Nat) : ∀ N, cV [] b N = 0
  | 0 => rfl
  | N + 1 => by rw [cV, cV_nil b N, List.length_nil, cS, Nat.mul_zero]
theorem cV_eq (b : List Nat) : ∀ (a : List Nat) (N : Nat), a.length + b.length ≤ N → cV a b N = val a * val b
  | [], N, _ => by rw [val_nil, Nat.zero_mul, cV_nil]
  | x :: a, N, h => by
    rw [List.length_cons] at h
    rw [cV_cons, List.take_of_length_le (by omega), if_neg (by omega), cV_eq b a (N - 1) (by omega), val_cons, Nat.add_mul, Nat.mul_assoc]

theorem cS_low {a b : List Nat} {k : Nat} : ∀ {i : Nat}, i + b.length ≤ k + 1 → cS a b k i = 0
  | 0, _ => rfl
  | i + 1, h => by
    rw [cS, cS_low (by omega), cT]
    split
    · rw [dg_ge (l := b) (by omega), Nat.mul_zero]
    · rfl
theorem cS_top {a b : List Nat} {k : Nat} : ∀ j, cS a b k (k + 1 + j) = cS a b k (k + 1)
  | 0 => rfl
  | j + 1 => by rw [← Nat.add_assoc, cS, cS_top j, cT, if_neg (by omega)]; rfl
theorem cS_end (a b : List Nat) (k n : Nat) : cS a b k (min (k + 1) n) = cS a b k n := by
  rcases Nat.lt_or_ge n (k + 1) with h | h
  · rw [Nat.min_eq_right (by omega)]
  · rw [Nat.min_eq_left h]
    have := cS_top (a := a) (b := b) (k := k) (n - (k + 1))
    rw [show k + 1 + (n - (k + 1)) = n by omega] at this
    exact this.symm
theorem cT_lt {a b : List Nat} (ha : Dg a) (hb : Dg b) (k i : Nat) : cT a b k i < 18446744073709551616 := by
  unfold cT; split
  · have := mac_lt (ha.dg i) (hb.dg (k - i)) (show 0 < 4294967296 by decide) (show 0 < 4294967296 by decide); omega
  · decide
theorem cS_lt {a b : List Nat} (ha : Dg a) (hb : Dg b) (k : Nat) : ∀ i, cS a b k i ≤ i * 18446744073709551616
  | 0 => Nat.zero_le _
  | i + 1 => by
    have := cT_lt ha hb k i
    have := cS_lt ha hb k i
    rw [cS]; omega
/-- The accumulator, a column further. -/
theorem cV_step {V A L p k S : Nat} (h : L + p * A = V) : L + p * ((A + S) % 4294967296) + p * 4294967296 * ((A + S) / 4294967296) = V + p * S := by
  rw [Nat.mul_assoc, Nat.add_assoc, ← Nat.mul_add, Nat.mod_add_div, Nat.mul_add]; omega
end Go.Cv

/-
  Products: the document's.
-/
namespace Go.Cv
variable {G : Nat → Option (List AV)} {T : Tbl} {g : Nat}

theorem or_shl {a h : Nat} (ha : a < 4294967296) : orI .u64 (a : Int) ((h : Int) * 4294967296 % 18446744073709551616) = ((a + h % 4294967296 * 4294967296 : Nat) : Int) := by
  have e : (h : Int) * 4294967296 % 18446744073709551616 = ((h % 4294967296 * 4294967296 : Nat) : Int) := by omega
  rw [e, or64 (by omega) (by omega), show (4294967296 : Nat) = 2 ^ 32 from rfl, or_add (show a < 2 ^ 32 from ha)]

theorem Mul_inner {a b : List Nat} {z y : Bool} {k A : Nat} {v : AV} (ha : Dg a) (hb : Dg b) (hs : a.length < 1073741824) (hk : k < 2147483648) (hA : A < 1298074214633706907132624082305024) : ∀ (m i : Nat) (h : Heap) (low high : Nat),
    m + i = min (k + 1) a.length → k < b.length + i → low < 18446744073709551616 → low + 18446744073709551616 * high = A + cS a b k i →
    Post (evL G T c_ref01_Mul_l1 [(0, D z a), (1, D y b), (5, v), (6, .int .u64 (low : Int)), (7, .int .u64 (high : Int)), (8, .int .i64 (k : Int)), (10, .int .i64 (i : Int))] h) fun r =>
      ∃ e low' high', r = (.exit 2, (0, D z a) :: (1, D y b) :: (5, v) :: (6, .int .u64 ((low' : Nat) : Int)) :: (7, .int .u64 ((high' : Nat) : Int)) :: (8, .int .i64 (k : Int)) :: e, h) ∧ low' < 18446744073709551616 ∧ low' + 18446744073709551616 * high' = A + cS a b k a.length
  | 0, i, h, low, high, hm, hi, hl, he => by
    rw [s_loopc G T (c := c_ref01_Mul_l1) rfl]
    have hend := cS_end a b k a.length
    rw [show min (k + 1) a.length = i by omega] at hend
    rw [hend] at he
    by_cases h1 : (i : Int) ≤ (k : Int)
    · have h2 : ¬ (i : Int) < (a.length : Int) := by omega
      repeat (first | (simp (maxSteps := 1000000) only [evB, if_true, if_false, ne_eq, Nat.reduceEqDiff, Nat.reduceAdd, reduceCtorEq, Int.reduceLE, Int.reduceLT, Int.reduceEq, Int.reduceNeg, Int.reduceToNat, Int.reducePow, Int.reduceMod, Int.reduceDiv, Int.reduceSub, Int.reduceAdd, Int.reduceMul, Nat.reduceMul, Nat.reduceSub, Nat.reducePow, c_ref01_Mul_b1, h1, h2]) | (simp (disch := omega) only [dsB]))
      exact Post.some ⟨_, _, _, rfl, hl, he⟩
    · repeat (first | (simp (maxSteps := 1000000) only [evB, if_true, if_false, ne_eq, Nat.reduceEqDiff, Nat.reduceAdd, reduceCtorEq, Int.reduceLE, Int.reduceLT, Int.reduceEq, Int.reduceNeg, Int.reduceToNat, Int.reducePow, Int.reduceMod, Int.reduceDiv, Int.reduceSub, Int.reduceAdd, Int.reduceMul, Nat.reduceMul, Nat.reduceSub, Nat.reducePow, c_ref01_Mul_b1, h1]) | (simp (disch := omega) only [dsB]))
      exact Post.some ⟨_, _, _, rfl, hl, he⟩
  | m + 1, i, h, low, high, hm, hi, hl, he => by
    rw [s_loopc G T (c := c_ref01_Mul_l1) rfl]
    have h1 : (i : Int) ≤ (k : Int) := by omega
    have h2 : (i : Int) < (a.length : Int) := by omega
    have e7 : (i : Int) + 1 = ((i + 1 : Nat) : Int) := by omega
    have e8 : (k : Int) - (i : Int) = ((k - i : Nat) : Int) := by omega
    have hx := ha.dg i
    have hy := hb.dg (k - i)
    have hki : k - i < b.length := by omega
    have w1 : (dg a i : Int) % 18446744073709551616 = dg a i := by omega
    have w2 : (dg b (k - i) : Int) % 18446744073709551616 = dg b (k - i) := by omega
    have hM := mac_lt hx hy (show 0 < 4294967296 by decide) (show 0 < 4294967296 by decide)
    have hSb := cS_lt ha hb k i
    have w4 : (dg a i : Int) * (dg b (k - i) : Int) = ((dg a i * dg b (k - i) : Nat) : Int) := by rw [Int.natCast_mul]
    have hcs : cS a b k (i + 1) = cS a b k i + dg a i * dg b (k - i) := by rw [cS, cT, if_pos (by omega)]
    generalize dg a i * dg b (k - i) = p at *
    have w5 : (p : Int) % 18446744073709551616 = p := by omega
    by_cases hc : low + p < 18446744073709551616
    · have w6 : ((low : Int) + (p : Int)) % 18446744073709551616 = ((low + p : Nat) : Int) := by omega
      have w7 : ¬ ((low + p : Nat) : Int) < (p : Int) := by omega
      repeat (first | (simp (maxSteps := 1000000) only [evB, if_true, if_false, ne_eq, Nat.reduceEqDiff, Nat.reduceAdd, reduceCtorEq, Int.reduceLE, Int.reduceLT, Int.reduceEq, Int.reduceNeg, Int.reduceToNat, Int.reducePow, Int.reduceMod, Int.reduceDiv, Int.reduceSub, Int.reduceAdd, Int.reduceMul, Nat.reduceMul, Nat.reduceSub, Nat.reducePow, c_ref01_Mul_b1, h1, h2, e7, e8, w1, w2, w4, w5, w6, w7]) | (simp (disch := omega) only [dsB]))
      exact Mul_inner ha hb hs hk hA m (i + 1) _ _ _ (by omega) (by omega) hc (by rw [hcs]; omega)
    · have w6 : ((low : Int) + (p : Int)) % 18446744073709551616 = ((low + p - 18446744073709551616 : Nat) : Int) := by omega
      have w7 : ((low + p - 18446744073709551616 : Nat) : Int) < (p : Int) := by omega
      have w8 : ((high : Int) + 1) % 18446744073709551616 = ((high + 1 : Nat) : Int) := by omega
      repeat (first | (simp (maxSteps := 1000000) only [evB, if_true, if_false, ne_eq, Nat.reduceEqDiff, Nat.reduceAdd, reduceCtorEq, Int.reduceLE, Int.reduceLT, Int.reduceEq, Int.reduceNeg, Int.reduceToNat, Int.reducePow, Int.reduceMod, Int.reduceDiv, Int.reduceSub, Int.reduceAdd, Int.reduceMul, Nat.reduceMul, Nat.reduceSub, Nat.reducePow, c_ref01_Mul_b1, h1, h2, e7, e8, w1, w2, w4, w5, w6, w7, w8]) | (simp (disch := omega) only [dsB]))
      exact Mul_inner ha hb hs hk hA m (i + 1) _ _ _ (by omega) (by omega) (by omega) (by rw [hcs]; omega)

theorem Mul_outer {a b : List Nat} {z y : Bool} (ha : Dg a) (hb : Dg b) (hs : a.length < 1073741824) (ht : b.length < 1073741824) : ∀ (m k : Nat) (h : Heap) (v : AV) (l : List Nat) (low high : Nat),
    m + k = a.length + b.length → Bld h v l → Dg l → l.length = k → low < 18446744073709551616 → low + 18446744073709551616 * high < 1298074214633706907132624082305024 →
    val l + 4294967296 ^ k * (low + 18446744073709551616 * high) = cV a b k →
    Post (evL G T c_ref01_Mul_l2 [(0, D z a), (1, D y b), (5, v), (6, .int .u64 (low : Int)), (7, .int .u64 (high : Int)), (8, .int .i64 (k : Int))] h) fun r =>
      ∃ e h' v' l' c', r = (.exit 0, (0, D z a) :: (1, D y b) :: (5, v') :: e, h') ∧ Bld h' v' l' ∧ Dg l' ∧ l'.length = a.length + b.length ∧ val l' + 4294967296 ^ (a.length + b.length) * c' = val a * val b
  | 0, k, h, v, l, low, high, hm, B, hd, hl, hlow, hA, he => by
    rw [s_loopc G T (c := c_ref01_Mul_l2) rfl]
    have e1 : (a.length : Int) + (b.length : Int) = ((a.length + b.length : Nat) : Int) := by omega
    have h1 : ¬ (k : Int) < ((a.length + b.length : Nat) : Int) := by omega
    repeat (first | (simp (maxSteps := 1000000) only [evB, if_true, if_false, ne_eq, Nat.reduceEqDiff, Nat.reduceAdd, reduceCtorEq, Int.reduceLE, Int.reduceLT, Int.reduceEq, Int.reduceNeg, Int.reduceToNat, Int.reducePow, Int.reduceMod, Int.reduceDiv, Int.reduceSub, Int.reduceAdd, Int.reduceMul, Nat.reduceMul, Nat.reduceSub, Nat.reducePow, c_ref01_Mul_b2, e1, h1]) | (simp (disch := omega) only [dsB]))
    rw [show k = a.length + b.length by omega, cV_eq b a _ (Nat.le_refl _)] at he
    exact Post.some ⟨_, _, _, _, _, rfl, B, hd, by omega, he⟩
  | m + 1, k, h, v, l, low, high, hm, B, hd, hl, hlow, hA, he => by
    rw [s_loopc G T (c := c_ref01_Mul_l2) rfl]
    have e1 : (a.length : Int) + (b.length : Int) = ((a.length + b.length : Nat) : Int) := by omega
    have h1 : (k : Int) < ((a.length + b.length : Nat) : Int) := by omega
    have e7 : (k : Int) + 1 = ((k + 1 : Nat) : Int) := by omega
    obtain ⟨i0, hi0⟩ : ∃ i0, i0 = k + 1 - b.length := ⟨_, rfl⟩
    have hlow0 : cS a b k i0 = 0 := by
      by_cases q : b.length ≤ k + 1
      · exact cS_low (by omega)
      · have : i0 = 0 := by omega
        rw [this]; rfl
    obtain ⟨_, hr, e, low', high', rfl, hlow', he'⟩ := Mul_inner (G := G) (T := T) (z := z) (y := y) (v := v) (k := k) (A := low + 18446744073709551616 * high) ha hb hs (by omega) hA (min (k + 1) a.length - i0) i0 h low high (by omega) (by omega) hlow (by rw [hlow0]; rfl)
    have hSb := cS_lt ha hb k a.length
    have hstep := cV_step (S := cS a b k a.length) (k := k) he
    rw [← he'] at hstep
    have hacc : low' + 18446744073709551616 * high' < 2596148429267413814265248164610048 := by omega
    have hbnd : (low' + 18446744073709551616 * high') / 4294967296 < 1298074214633706907132624082305024 := by omega
    have hlo : (low' + 18446744073709551616 * high') % 4294967296 = low' % 4294967296 := by omega
    have hnew : low' / 4294967296 + high' % 4294967296 * 4294967296 + 18446744073709551616 * (high' / 4294967296) = (low' + 18446744073709551616 * high') / 4294967296 := by omega
    rw [hlo, ← hnew] at hstep
    rw [← hnew] at hbnd
    clear hlo hnew hSb
    have w2 : (low' : Int) % 4294967296 = ((low' % 4294967296 : Nat) : Int) := by omega
    have w3 : (low' : Int) / 4294967296 = ((low' / 4294967296 : Nat) : Int) := by omega
    have w4 := or_shl (a := low' / 4294967296) (h := high') (by omega)
    have w5 : (high' : Int) / 4294967296 = ((high' / 4294967296 : Nat) : Int) := by omega
    have hm1 : low' % 4294967296 < 4294967296 := Nat.mod_lt _ (by decide)
    have hq : low' / 4294967296 + high' % 4294967296 * 4294967296 < 18446744073709551616 := by omega
    have key : val (l ++ [low' % 4294967296]) + 4294967296 ^ (k + 1) * (low' / 4294967296 + high' % 4294967296 * 4294967296 + 18446744073709551616 * (high' / 4294967296)) = cV a b (k + 1) := by
      rw [val_snoc, hl, Nat.pow_succ, cV]; exact hstep
    have B2 := (Bld_app B (w := ((low' % 4294967296 : Nat) : Int)) (by omega) (by omega)).2
    rw [Int.toNat_natCast] at B2
    by_cases h2 : (b.length : Int) ≤ (k : Int)
    · have e8 : (k : Int) - (b.length : Int) = ((k - b.length : Nat) : Int) := by omega
      have e9 : ((k - b.length : Nat) : Int) + 1 = (i0 : Int) := by omega
      repeat (first | (simp (maxSteps := 1000000) only [evB, if_true, if_false, ne_eq, Nat.reduceEqDiff, Nat.reduceAdd, reduceCtorEq, Int.reduceLE, Int.reduceLT, Int.reduceEq, Int.reduceNeg, Int.reduceToNat, Int.reducePow, Int.reduceMod, Int.reduceDiv, Int.reduceSub, Int.reduceAdd, Int.reduceMul, Nat.reduceMul, Nat.reduceSub, Nat.reducePow, c_ref01_Mul_b2, e1, h1, h2, e8, e9, hr, w2, w3, w4, w5, e7 ]) | (simp (disch := omega) only [dsB,  app_b B]))
      exact Mul_outer ha hb hs ht m (k + 1) _ _ _ _ _ (by omega) B2 (Dg_snoc hd hm1) (by rw [List.length_append, hl]; rfl) hq hbnd key
    · have hz : i0 = 0 := by omega
      subst hz
      rw [cast0] at hr
      repeat (first | (simp (maxSteps := 1000000) only [evB, if_true, if_false, ne_eq, Nat.reduceEqDiff, Nat.reduceAdd, reduceCtorEq, Int.reduceLE, Int.reduceLT, Int.reduceEq, Int.reduceNeg, Int.reduceToNat, Int.reducePow, Int.reduceMod, Int.reduceDiv, Int.reduceSub, Int.reduceAdd, Int.reduceMul, Nat.reduceMul, Nat.reduceSub, Nat.reducePow, c_ref01_Mul_b2, e1, h1, h2, hr, w2, w3, w4, w5, e7 ]) | (simp (disch := omega) only [dsB,  app_b B]))
      exact Mul_outer ha hb hs ht m (k + 1) _ _ _ _ _ (by omega) B2 (Dg_snoc hd hm1) (by rw [List.length_append, hl]; rfl) hq hbnd key

theorem ref01_Mul (hB : HasB g T) (hT : HasF g T) {z y : Bool} {a b : Nat} (hs : (dl a).length < 1073741824) (ht : (dl b).length < 1073741824) : ∃ z', run G T 158 [D z (dl a), D y (dl b)] = some (D z' (dl (a * b))) := by
  apply exP
  rw [run_k G T hT.ref01_Mul]
  by_cases h1 : ((dl a).length : Int) = 0
  · have ha : a = 0 := dl_len0.1 (by omega)
    repeat (first | (simp (maxSteps := 1000000) only [evB, if_true, if_false, ne_eq, Nat.reduceEqDiff, Nat.reduceAdd, reduceCtorEq, Int.reduceLE, Int.reduceLT, Int.reduceEq, Int.reduceNeg, Int.reduceToNat, Int.reducePow, Int.reduceMod, Int.reduceDiv, Int.reduceSub, Int.reduceAdd, Int.reduceMul, Nat.reduceMul, Nat.reduceSub, Nat.reducePow, c_ref01_Mul, h1]) | (simp (disch := omega) only [dsB]))
    rw [ha, Nat.zero_mul, dl_zero]
    exact Post.some ⟨true, rfl⟩
  · by_cases h2 : ((dl b).length : Int) = 0
    · have hb : b = 0 := dl_len0.1 (by omega)
      repeat (first | (simp (maxSteps := 1000000) only [evB, if_true, if_false, ne_eq, Nat.reduceEqDiff, Nat.reduceAdd, reduceCtorEq, Int.reduceLE, Int.reduceLT, Int.reduceEq, Int.reduceNeg, Int.reduceToNat, Int.reducePow, Int.reduceMod, Int.reduceDiv, Int.reduceSub, Int.reduceAdd, Int.reduceMul, Nat.reduceMul, Nat.reduceSub, Nat.reducePow, c_ref01_Mul, h1, h2]) | (simp (disch := omega) only [dsB]))
      rw [hb, Nat.mul_zero, dl_zero]
      exact Post.some ⟨true, rfl⟩
    · obtain ⟨_, hr, e, h', v', l', c', rfl, B, hd, hl, hv⟩ := Mul_outer (G := G) (T := T) (z := z) (y := y) (Dg_dl a) (Dg_dl b) hs ht ((dl a).length + (dl b).length) 0 .nil .nil [] 0 0 rfl Bld_nil Dg.nil rfl (by decide) (by decide) rfl
      rw [cast0] at hr
      have hva := val_lt (Dg_dl a)
      have hvb := val_lt (Dg_dl b)
      have hc0 : val l' = a * b := by
        rw [val_dl] at hva hvb hv
        rw [val_dl] at hv
        have hlt : a * b < 4294967296 ^ ((dl a).length + (dl b).length) := by
          rw [Nat.pow_add]; exact Nat.mul_lt_mul_of_lt_of_lt hva hvb
        rcases Nat.eq_zero_or_pos c' with hc | hc
        · rw [hc, Nat.mul_zero, Nat.add_zero] at hv; exact hv
        · have := Nat.mul_le_mul_left (4294967296 ^ ((dl a).length + (dl b).length)) hc
          omega
      obtain ⟨z', hz⟩ := ref01_Trim (G := G) (T := T) hB (z := isN v') hd (by omega)
      rw [hc0] at hz
      repeat (first | (simp (maxSteps := 1000000) only [evB, if_true, if_false, ne_eq, Nat.reduceEqDiff, Nat.reduceAdd, reduceCtorEq, Int.reduceLE, Int.reduceLT, Int.reduceEq, Int.reduceNeg, Int.reduceToNat, Int.reducePow, Int.reduceMod, Int.reduceDiv, Int.reduceSub, Int.reduceAdd, Int.reduceMul, Nat.reduceMul, Nat.reduceSub, Nat.reducePow, c_ref01_Mul, h1, h2, hr, B.snap, hz]) | (simp (disch := omega) only [dsB]))
      exact Post.some ⟨_, rfl⟩

theorem ref02_Mul (hB : HasB g T) (hC : HasC g T) (hT : HasF g T) {z y : Bool} {a b : Dy} (ha : (dl a.m).length < 1073741824) (hb : (dl b.m).length < 1073741824) (ea : -274877906944 < a.e ∧ a.e < 274877906944) (eb : -274877906944 < b.e ∧ b.e < 274877906944) :
    ∃ z', run G T 154 [DyA z a, DyA y b] = some (DyA z' (mkD (a.n != b.n) (a.m * b.m) (a.e + b.e))) := by
  obtain ⟨n, m, e⟩ := a
  obtain ⟨n', m', e'⟩ := b
  simp only at *
  obtain ⟨z1, h1⟩ := ref01_Mul (G := G) (T := T) hB hT (z := z) (y := y) (a := m) (b := m') ha hb
  have hl : (dl (m * m')).length < 17179869184 := by
    have h1 := dl_len.1 (Nat.le_refl (dl m).length)
    have h2 := dl_len.1 (Nat.le_refl (dl m').length)
    have h3 : (dl (m * m')).length ≤ (dl m).length + (dl m').length := by
      rw [dl_len, Nat.pow_add]; exact Nat.mul_lt_mul_of_lt_of_lt h1 h2
    omega
  obtain ⟨z2, h2⟩ := ref02_Form (G := G) (T := T) hB hC (n := n != n') (z := z1) (a := m * m') (e := e + e') hl (by omega)
  have w1 : IntKind.i64.wrap (e + e') = e + e' := wrap_i64 (by omega)
  have hne : (n != n') = !decide (n = n') := by cases n <;> cases n' <;> rfl
  refine ⟨z2, ?_⟩
  rw [hne] at h2 ⊢
  rw [run_k G T hT.ref02_Mul]
  simp only [DyA, A3] at *
  repeat' (first | (simp (maxSteps := 1000000) only [evB, if_true, if_false, ne_eq, Nat.reduceEqDiff, Nat.reduceAdd, reduceCtorEq, Int.reduceLE, Int.reduceLT, Int.reduceEq, Int.reduceNeg, Int.reduceToNat, Int.reducePow, Int.reduceMod, Int.reduceDiv, Int.reduceSub, Int.reduceAdd, Int.reduceMul, Nat.reduceMul, Nat.reduceSub, Nat.reducePow, exB, resC_ptr, res_cell, nilb, nilf, faddr_p, c_ref02_Mul, h1, w1, h2]) | (simp (maxSteps := 1000000) (disch := first | with_reducible assumption | omega) only [dxB]) | (simp only [kI_d, kG_dt, kG_df]; split) | (simp only [kI_v, kG_vt, kG_vf]; split))
end Go.Cv

/-
  Sums, products, roots of words, in numbers.
-/
namespace Go.Cv

/-- The canonical NaN. -/
def Fm.nan (F : Fm) : Nat := F.most * 2 ^ F.fr + 2 ^ (F.fr - 1)

theorem w_split {F : Fm} {w : Nat} (h : w < 2 * F.sg) : w = w % F.sg + F.sgn (F.ng w) ∧ w % F.sg = 2 ^ F.fr * F.ex w + F.fc w ∧ F.fc w < 2 ^ F.fr ∧ F.ex w ≤ F.most := by
  have hp := Nat.two_pow_pos F.fr
  have hsg : F.sg = 2 ^ F.fr * (F.most + 1) := by cases F <;> decide
  have h0 : 0 < F.sg := by cases F <;> decide
  refine ⟨?_, (Nat.div_add_mod _ _).symm, Nat.mod_lt _ hp, ?_⟩
  · unfold Fm.ng Fm.sgn
    by_cases h1 : F.sg ≤ w
    · rw [decide_eq_true h1, if_pos rfl, Nat.mod_eq_sub_mod h1, Nat.mod_eq_of_lt (by omega)]; omega
    · rw [decide_eq_false h1, if_neg (by decide), Nat.mod_eq_of_lt (by omega)]; rfl
  · have h1 := Nat.mod_lt w h0
    have : w % F.sg / 2 ^ F.fr < F.most + 1 := Nat.div_lt_of_lt_mul (by rw [← hsg]; exact h1)
    unfold Fm.ex; omega
theorem cls_range (F : Fm) (w : Nat) : F.cls w = 1 ∨ F.cls w = 2 ∨ F.cls w = 3 ∨ F.cls w = 4 ∨ F.cls w = 5 := by
  unfold Fm.cls; repeat' split
  all_goals omega
theorem cls_one {F : Fm} {w : Nat} (h : w < 2 * F.sg) : F.cls w = 1 ↔ w % F.sg = 0 := by
  obtain ⟨h1, h2, h3, h4⟩ := w_split h
  have hp := Nat.two_pow_pos F.fr
  rw [h2]
  unfold Fm.cls
  generalize F.ex w = x at *
  generalize F.fc w = y at *
  constructor
  · intro hc
    have hx : x = 0 ∧ y = 0 := by
      by_cases a : x = 0
      · by_cases b : y = 0
        · exact ⟨a, b⟩
        · rw [if_pos a, if_neg b] at hc; omega
      · rw [if_neg a] at hc
        split at hc
        · omega
        · split at hc <;> omega
    rw [hx.1, hx.2]; rfl
  · intro hc
    have hy : y = 0 := by omega
    have hx : x = 0 := by
      rcases Nat.mul_eq_zero.1 (show 2 ^ F.fr * x = 0 by omega) with q | q
      · omega
      · exact q
    rw [if_pos hx, if_pos hy]
/-- A finite word that is no nought has a value that is not nought. -/
theorem val_cls {F : Fm} {w : Nat} (h : w < 2 * F.sg) (h1 : F.cls w ≠ 1) (h2 : F.fin w) : (F.val w).m ≠ 0 := by
  obtain ⟨s, n, hw, q1, q2, q3⟩ := word_parts h
  have h0 : s ≠ 0 := by
    rintro rfl
    apply h1
    rw [cls_one h, hw]
    exact (sgn_mod n q1).1
  rw [hw]; exact (round_val F 1 n (q2 h2) h0).2
/-- An exact sum, rounded. -/
def sumW (F : Fm) (md : Int) (d : Dy) : Nat × Nat := if d.m = 0 then (F.sgn (decide (md = 5)), 0) else rndW F md d
/-- The sum of two parts (class, sign, value). -/
def addP (F : Fm) (md : Int) (c : Int) (n : Bool) (d : Dy) (c' : Int) (n' : Bool) (d' : Dy) : Nat × Nat :=
  if c = 5 ∨ c' = 5 then (F.nan, 0)
  else if c = 4 ∧ c' = 4 ∧ n ≠ n' then (F.nan, 1)
  else if c = 4 then (F.inf n, 0)
  else if c' = 4 then (F.inf n', 0)
  else if c = 1 ∧ c' = 1 ∧ n = n' then (F.sgn n, 0)
  else sumW F md (addD d d')
def mulD (a b : Dy) : Dy := mkD (a.n != b.n) (a.m * b.m) (a.e + b.e)
def mulP (F : Fm) (md : Int) (c : Int) (n : Bool) (d : Dy) (c' : Int) (n' : Bool) (d' : Dy) : Nat × Nat :=
  if c = 5 ∨ c' = 5 then (F.nan, 0)
  else if (c = 4 ∨ c' = 4) ∧ (c = 1 ∨ c' = 1) then (F.nan, 1)
  else if c = 4 ∨ c' = 4 then (F.inf (n != n'), 0)
  else if c = 1 ∨ c' = 1 then (F.sgn (n != n'), 0)
  else sumW F md (mulD d d')
def divP (F : Fm) (md : Int) (c : Int) (n : Bool) (d : Dy) (c' : Int) (n' : Bool) (d' : Dy) : Nat × Nat :=
  if c = 5 ∨ c' = 5 then (F.nan, 0)
  else if c = c' ∧ (c = 1 ∨ c = 4) then (F.nan, 1)
  else if c = 4 then (F.inf (n != n'), 0)
  else if c' = 1 then (F.inf (n != n'), 2)
  else if c = 1 ∨ c' = 4 then (F.sgn (n != n'), 0)
  else quoW F md d d'
/-- A word's value; of one that is not finite, nought. -/
def Fm.vl (F : Fm) (w : Nat) : Dy := if F.fin w then F.val w else ⟨false, 0, 0⟩
def addW (F : Fm) (md : Int) (a b : Nat) : Nat × Nat := addP F md (F.cls a) (F.ng a) (F.vl a) (F.cls b) (F.ng b) (F.vl b)
def mulW2 (F : Fm) (md : Int) (a b : Nat) : Nat × Nat := mulP F md (F.cls a) (F.ng a) (F.vl a) (F.cls b) (F.ng b) (F.vl b)
def divW2 (F : Fm) (md : Int) (a b : Nat) : Nat × Nat := divP F md (F.cls a) (F.ng a) (F.vl a) (F.cls b) (F.ng b) (F.vl b)
/-- The class of a product. -/
def prC (c c' : Int) : Int := if c = 4 ∨ c' = 4 then 4 else if c = 1 ∨ c' = 1 then 1 else 3
def fmaW (F : Fm) (md : Int) (a b c : Nat) : Nat × Nat :=
  if F.cls a = 5 ∨ F.cls b = 5 ∨ F.cls c = 5 then (F.nan, 0)
  else if (F.cls a = 4 ∨ F.cls b = 4) ∧ (F.cls a = 1 ∨ F.cls b = 1) then (F.nan, 1)
  else addP F md (prC (F.cls a) (F.cls b)) (F.ng a != F.ng b) (if prC (F.cls a) (F.cls b) = 3 then mulD (F.vl a) (F.vl b) else ⟨false, 0, 0⟩) (F.cls c) (F.ng c) (F.vl c)

theorem addD_comm {a b : Dy} (ha : Nz a) (hb : Nz b) : addD a b = addD b a := by
  unfold addD
  by_cases h1 : a.m = 0
  · by_cases h2 : b.m = 0
    · rw [if_pos h1, if_pos h2, ha.1 h1, hb.1 h2]
    · rw [if_pos h1, if_neg h2, if_pos h1]
  · by_cases h2 : b.m = 0
    · rw [if_neg h1, if_pos h2, if_pos h2]
    · rw [if_neg h1, if_neg h2, if_neg h2, if_neg h1, Int.min_comm b.e a.e]
      generalize a.m * 2 ^ (a.e - min a.e b.e).toNat = x
      generalize b.m * 2 ^ (b.e - min a.e b.e).toNat = y
      by_cases h3 : a.n = b.n
      · rw [if_pos h3, if_pos h3.symm, h3, Nat.add_comm]
      · rw [if_neg h3, if_neg (show ¬ b.n = a.n from fun h => h3 h.symm)]
        by_cases h4 : y ≤ x
        · by_cases h5 : x ≤ y
          · rw [if_pos h4, if_pos h5, show x = y by omega, Nat.sub_self]; rfl
          · rw [if_pos h4, if_neg h5]
        · rw [if_neg h4, if_pos (by omega)]
theorem Nz_vl (F : Fm) (w : Nat) : Nz (F.vl w) := by
  unfold Fm.vl; split
  · unfold Fm.val; split <;> exact Nz_mk _ _ _
  · exact ⟨fun _ => rfl, fun h => absurd rfl h⟩
theorem Bd_vl (F : Fm) (w : Nat) : Bd (F.vl w) 4096 := by
  unfold Fm.vl; split
  · rename_i h; exact Bd_val F h
  · exact ⟨by simp only [blen_zero]; omega, by simp, by simp⟩
theorem fin_iff {F : Fm} {w : Nat} : F.fin w ↔ F.cls w = 1 ∨ F.cls w = 2 ∨ F.cls w = 3 := by
  have h1 := fin_cls F w
  have h2 := cls_range F w
  constructor
  · intro h; have := h1.1 h; omega
  · intro h; exact h1.2 (by omega)
end Go.Cv

/-
  The program's sums, differences, comparisons of numbers.
-/
namespace Go.Cv
variable {G : Nat → Option (List AV)} {T : Tbl} {g : Nat}

theorem val_set_take {l : List Nat} {i v : Nat} (h : i < l.length) : val ((l.set i v).take (i + 1)) = val (l.take i) + 4294967296 ^ i * v := by
  rw [val_take_succ', List.take_set_of_le (Nat.le_refl i)]
  congr 2
  rw [dg_lt (by rw [List.length_set]; exact h), List.getElem_set_self]

theorem nAdd_loop (hT : HasA g T) {A B : List Nat} {z y : Bool} {b : Nat} (hA : Dg A) (hB : Dg B) (hs : A.length < 17179869184) (ht : B.length ≤ A.length) : ∀ (m i : Nat) (h : Heap) (l : List Nat) (c : Nat),
    m + i = A.length → Holds h b l → Dg l → l.length = A.length + 1 → c ≤ 1 → val (l.take i) + 4294967296 ^ i * c = val (A.take i) + val (B.take i) →
    Post (evL G T c_nat_Add_l1 [(0, D z A), (1, D y B), (6, .own b 0 (A.length + 1) 1), (7, .int .u32 (c : Int)), (27, .int .i64 ((A.length : Nat) : Int)), (28, .int .i64 (i : Int))] h) fun r =>
      ∃ e h' l' c', r = (.exit 0, (0, D z A) :: (1, D y B) :: (6, .own b 0 (A.length + 1) 1) :: (7, .int .u32 ((c' : Nat) : Int)) :: e, h') ∧ Holds h' b l' ∧ Dg l' ∧ l'.length = A.length + 1 ∧ c' ≤ 1 ∧ val (l'.take A.length) + 4294967296 ^ A.length * c' = val A + val B
  | 0, i, h, l, c, hm, H, hd, hl, hc, he => by
    rw [s_loopc G T (c := c_nat_Add_l1) rfl]
    have h1 : ¬ (i : Int) < (A.length : Int) := by omega
    repeat (first | (simp (maxSteps := 1000000) only [evB, if_true, if_false, ne_eq, Nat.reduceEqDiff, Nat.reduceAdd, reduceCtorEq, Int.reduceLE, Int.reduceLT, Int.reduceEq, Int.reduceNeg, Int.reduceToNat, Int.reducePow, Int.reduceMod, Int.reduceDiv, Int.reduceSub, Int.reduceAdd, Int.reduceMul, Nat.reduceMul, Nat.reduceSub, Nat.reducePow, c_nat_Add_b1, h1]) | (simp (disch := omega) only [dsB]))
    obtain rfl : i = A.length := by omega
    rw [List.take_length, List.take_of_length_le ht] at he
    exact Post.some ⟨_, _, _, _, rfl, H, hd, hl, hc, he⟩
  | m + 1, i, h, l, c, hm, H, hd, hl, hc, he => by
    rw [s_loopc G T (c := c_nat_Add_l1) rfl]
    have h1 : (i : Int) < (A.length : Int) := by omega
    have e7 : (i : Int) + 1 = ((i + 1 : Nat) : Int) := by omega
    have hx := hA.dg i
    have hy := hB.dg i
    have hil : i < l.length := by omega
    have hb := bits_Add32 (G := G) (T := T) hT (x := dg A i) (y := dg B i) (w := c) (d := (dg A i + dg B i + c) % 4294967296) (z := (dg A i + dg B i + c) / 4294967296) hx hy hc (Nat.mod_lt _ (by decide)) (by omega) (by omega)
    have key : val ((l.set i ((dg A i + dg B i + c) % 4294967296)).take (i + 1)) + 4294967296 ^ (i + 1) * ((dg A i + dg B i + c) / 4294967296) = val (A.take (i + 1)) + val (B.take (i + 1)) := by
      rw [val_set_take hil, val_take_succ', val_take_succ', Nat.pow_succ, Nat.mul_assoc, Nat.add_assoc, ← Nat.mul_add, Nat.mod_add_div, Nat.mul_add, Nat.mul_add]
      omega
    have hz : (dg A i + dg B i + c) / 4294967296 ≤ 1 := by omega
    have hm1 : (dg A i + dg B i + c) % 4294967296 < 4294967296 := Nat.mod_lt _ (by decide)
    by_cases h2 : (i : Int) < (B.length : Int)
    · repeat (first | (simp (maxSteps := 1000000) only [evB, if_true, if_false, ne_eq, Nat.reduceEqDiff, Nat.reduceAdd, reduceCtorEq, Int.reduceLE, Int.reduceLT, Int.reduceEq, Int.reduceNeg, Int.reduceToNat, Int.reducePow, Int.reduceMod, Int.reduceDiv, Int.reduceSub, Int.reduceAdd, Int.reduceMul, Nat.reduceMul, Nat.reduceSub, Nat.reducePow, c_nat_Add_b1, h1, h2, hb, e7 ]) | (simp (disch := omega) only [dsB,  store_n H]))
      exact nAdd_loop hT hA hB hs ht m (i + 1) _ _ _ (by omega) (H.put _) (Dg_set hd hm1) (by rw [List.length_set]; exact hl) hz key
    · have hg : dg B i = 0 := dg_ge (by omega)
      rw [hg] at hb key hz hm1
      rw [cast0] at hb
      repeat (first | (simp (maxSteps := 1000000) only [evB, if_true, if_false, ne_eq, Nat.reduceEqDiff, Nat.reduceAdd, reduceCtorEq, Int.reduceLE, Int.reduceLT, Int.reduceEq, Int.reduceNeg, Int.reduceToNat, Int.reducePow, Int.reduceMod, Int.reduceDiv, Int.reduceSub, Int.reduceAdd, Int.reduceMul, Nat.reduceMul, Nat.reduceSub, Nat.reducePow, c_nat_Add_b1, h1, h2, hb, e7 ]) | (simp (disch := omega) only [dsB,  store_n H]))
      exact nAdd_loop hT hA hB hs ht m (i + 1) _ _ _ (by omega) (H.put _) (Dg_set hd hm1) (by rw [List.length_set]; exact hl) hz key

theorem nSub_loop (hT : HasA g T) {A B : List Nat} {z y : Bool} {b : Nat} (hA : Dg A) (hB : Dg B) (hs : A.length < 17179869184) (ht : B.length ≤ A.length) : ∀ (m i : Nat) (h : Heap) (l : List Nat) (c : Nat),
    m + i = A.length → Holds h b l → Dg l → l.length = A.length → c ≤ 1 → val (l.take i) + val (B.take i) = val (A.take i) + 4294967296 ^ i * c →
    Post (evL G T c_nat_sub_l1 [(0, D z A), (1, D y B), (5, .own b 0 A.length 1), (6, .int .u32 (c : Int)), (13, .int .i64 ((A.length : Nat) : Int)), (14, .int .i64 (i : Int))] h) fun r =>
      ∃ e h' l' c', r = (.exit 0, (0, D z A) :: (1, D y B) :: (5, .own b 0 A.length 1) :: (6, .int .u32 ((c' : Nat) : Int)) :: e, h') ∧ Holds h' b l' ∧ Dg l' ∧ l'.length = A.length ∧ c' ≤ 1 ∧ val l' + val B = val A + 4294967296 ^ A.length * c'
  | 0, i, h, l, c, hm, H, hd, hl, hc, he => by
    rw [s_loopc G T (c := c_nat_sub_l1) rfl]
    have h1 : ¬ (i : Int) < (A.length : Int) := by omega
    repeat (first | (simp (maxSteps := 1000000) only [evB, if_true, if_false, ne_eq, Nat.reduceEqDiff, Nat.reduceAdd, reduceCtorEq, Int.reduceLE, Int.reduceLT, Int.reduceEq, Int.reduceNeg, Int.reduceToNat, Int.reducePow, Int.reduceMod, Int.reduceDiv, Int.reduceSub, Int.reduceAdd, Int.reduceMul, Nat.reduceMul, Nat.reduceSub, Nat.reducePow, c_nat_sub_b1, h1]) | (simp (disch := omega) only [dsB]))
    obtain rfl : i = A.length := by omega
    rw [List.take_length, List.take_of_length_le ht, List.take_of_length_le (by omega)] at he
    exact Post.some ⟨_, _, _, _, rfl, H, hd, hl, hc, he⟩
  | m + 1, i, h, l, c, hm, H, hd, hl, hc, he => by
    rw [s_loopc G T (c := c_nat_sub_l1) rfl]
    have h1 : (i : Int) < (A.length : Int) := by omega
    have e7 : (i : Int) + 1 = ((i + 1 : Nat) : Int) := by omega
    have hx := hA.dg i
    have hy := hB.dg i
    have hil : i < l.length := by omega
    obtain ⟨d, q, hdq, hd1, hq⟩ : ∃ d q, d + dg B i + c = dg A i + 4294967296 * q ∧ d < 4294967296 ∧ q ≤ 1 := by
      by_cases hlt : dg A i < dg B i + c
      · exact ⟨dg A i + 4294967296 - (dg B i + c), 1, by omega, by omega, by omega⟩
      · exact ⟨dg A i - (dg B i + c), 0, by omega, by omega, by omega⟩
    have hb := bits_Sub32 (G := G) (T := T) hT (x := dg A i) (y := dg B i) (w := c) (d := d) (z := q) hx hy hc hd1 hq hdq
    have key : val ((l.set i d).take (i + 1)) + val (B.take (i + 1)) = val (A.take (i + 1)) + 4294967296 ^ (i + 1) * q := by
      rw [val_set_take hil, val_take_succ', val_take_succ', Nat.pow_succ, Nat.mul_assoc]
      have h2 : 4294967296 ^ i * d + 4294967296 ^ i * dg B i + 4294967296 ^ i * c = 4294967296 ^ i * dg A i + 4294967296 ^ i * (4294967296 * q) := by
        rw [← Nat.mul_add, ← Nat.mul_add, ← Nat.mul_add, hdq]
      omega
    by_cases h2 : (i : Int) < (B.length : Int)
    · repeat (first | (simp (maxSteps := 1000000) only [evB, if_true, if_false, ne_eq, Nat.reduceEqDiff, Nat.reduceAdd, reduceCtorEq, Int.reduceLE, Int.reduceLT, Int.reduceEq, Int.reduceNeg, Int.reduceToNat, Int.reducePow, Int.reduceMod, Int.reduceDiv, Int.reduceSub, Int.reduceAdd, Int.reduceMul, Nat.reduceMul, Nat.reduceSub, Nat.reducePow, c_nat_sub_b1, h1, h2, hb, e7 ]) | (simp (disch := omega) only [dsB,  store_n H]))
      exact nSub_loop hT hA hB hs ht m (i + 1) _ _ _ (by omega) (H.put _) (Dg_set hd hd1) (by rw [List.length_set]; exact hl) hq key
    · have hg : dg B i = 0 := dg_ge (by omega)
      rw [hg, cast0] at hb
      repeat (first | (simp (maxSteps := 1000000) only [evB, if_true, if_false, ne_eq, Nat.reduceEqDiff, Nat.reduceAdd, reduceCtorEq, Int.reduceLE, Int.reduceLT, Int.reduceEq, Int.reduceNeg, Int.reduceToNat, Int.reducePow, Int.reduceMod, Int.reduceDiv, Int.reduceSub, Int.reduceAdd, Int.reduceMul, Nat.reduceMul, Nat.reduceSub, Nat.reducePow, c_nat_sub_b1, h1, h2, hb, e7 ]) | (simp (disch := omega) only [dsB,  store_n H]))
      exact nSub_loop hT hA hB hs ht m (i + 1) _ _ _ (by omega) (H.put _) (Dg_set hd hd1) (by rw [List.length_set]; exact hl) hq key

theorem nat_bound (hT : HasA g T) {z : Bool} {l : List Nat} (h : l.length ≤ 4096) : run G T 117 [D z l] = some (.tup [D z l, .int .i64 0]) := by
  rw [run_k G T hT.nat_bound]
  have h1 : ¬ (4096 : Int) < (l.length : Int) := by omega
  repeat (first | (simp (maxSteps := 1000000) only [evB, if_true, if_false, ne_eq, Nat.reduceEqDiff, Nat.reduceAdd, reduceCtorEq, Int.reduceLE, Int.reduceLT, Int.reduceEq, Int.reduceNeg, Int.reduceToNat, Int.reducePow, Int.reduceMod, Int.reduceDiv, Int.reduceSub, Int.reduceAdd, Int.reduceMul, Nat.reduceMul, Nat.reduceSub, Nat.reducePow, c_nat_bound, h1]) | (simp (disch := omega) only [dsB]))

theorem nat_sub (hT : HasA g T) {z y : Bool} {a b : Nat} (ha : (dl a).length < 17179869184) (hab : b ≤ a) : ∃ z', run G T 116 [D z (dl a), D y (dl b)] = some (D z' (dl (a - b))) := by
  have hlen : (dl b).length ≤ (dl a).length := by
    rw [dl_len]; exact Nat.lt_of_le_of_lt hab (dl_len.1 (Nat.le_refl _))
  obtain ⟨_, hr, e, h', l', c', rfl, H, hd, hl, hc, hv⟩ := nSub_loop (G := G) (T := T) (z := z) (y := y) (b := Heap.nil.b.length) hT (Dg_dl a) (Dg_dl b) ha hlen (dl a).length 0 (new .nil (List.replicate (dl a).length 0)) _ 0 (by omega) (Holds_new FreH.nil _) (Dg_rep _) (by rw [List.length_replicate]) (by omega) (by simp [val])
  rw [cast0] at hr
  rw [val_dl, val_dl] at hv
  have hlt := val_lt hd
  have hc0 : c' = 0 := by
    rcases Nat.eq_zero_or_pos c' with q | q
    · exact q
    · have : c' = 1 := by omega
      rw [this, Nat.mul_one, ← hl] at hv; omega
  rw [hc0, Nat.mul_zero, Nat.add_zero] at hv
  have hv2 : val l' = a - b := by omega
  have hsn := snap_own H (n := (dl a).length) (by omega)
  rw [← hl, List.take_length] at hsn
  obtain ⟨z', hz⟩ := nat_trim (G := G) (T := T) hT (z := false) hd (by omega)
  rw [hl] at hsn
  refine ⟨z', ?_⟩
  rw [run_k G T hT.nat_sub, ← hv2]
  repeat (first | (simp (maxSteps := 1000000) only [evB, if_true, if_false, ne_eq, Nat.reduceEqDiff, Nat.reduceAdd, reduceCtorEq, Int.reduceLE, Int.reduceLT, Int.reduceEq, Int.reduceNeg, Int.reduceToNat, Int.reducePow, Int.reduceMod, Int.reduceDiv, Int.reduceSub, Int.reduceAdd, Int.reduceMul, Nat.reduceMul, Nat.reduceSub, Nat.reducePow, c_nat_sub, hr, hsn, hz]) | (simp (disch := omega) only [dsB]))

theorem nat_Sub (hT : HasA g T) {z y : Bool} {a b : Nat} (ha : mayL (dl a) = true) (hb : mayL (dl b) = true) (hab : b ≤ a) : ∃ z', run G T 103 [D z (dl a), D y (dl b)] = some (.tup [D z' (dl (a - b)), .int .i64 0]) := by
  have la := (mayL_iff.1 ha).1
  have lb := (mayL_iff.1 hb).1
  have h1 := nat_all (G := G) hT (z := z) (y := y) (a := dl a) (b := dl b)
  rw [ha, hb, Bool.and_self] at h1
  have h2 := nat_cmp (G := G) hT (z := z) (y := y) (a := a) (b := b) (by omega) (by omega)
  have h3 : ¬ cmpN a b < 0 := by rw [cmpN_neg]; omega
  obtain ⟨z', h4⟩ := nat_sub (G := G) (T := T) hT (z := z) (y := y) (a := a) (b := b) (by omega) hab
  refine ⟨z', ?_⟩
  rw [run_k G T hT.nat_Sub]
  repeat' (first | (simp (maxSteps := 1000000) only [evB, if_true, if_false, ne_eq, Nat.reduceEqDiff, Nat.reduceAdd, reduceCtorEq, Int.reduceLE, Int.reduceLT, Int.reduceEq, Int.reduceNeg, Int.reduceToNat, Int.reducePow, Int.reduceMod, Int.reduceDiv, Int.reduceSub, Int.reduceAdd, Int.reduceMul, Nat.reduceMul, Nat.reduceSub, Nat.reducePow, exB, resC_ptr, res_cell, nilb, nilf, faddr_p, c_nat_Sub, h1, h2, h3, h4]) | (simp (maxSteps := 1000000) (disch := first | with_reducible assumption | omega) only [dxB]) | (simp only [kI_d, kG_dt, kG_df]; split) | (simp only [kI_v, kG_vt, kG_vf]; split))

theorem nat_Cmp (hT : HasA g T) {z y : Bool} {a b : Nat} (ha : mayL (dl a) = true) (hb : mayL (dl b) = true) : run G T 104 [D z (dl a), D y (dl b)] = some (.tup [.int .i64 (cmpN a b), .int .i64 0]) := by
  have la := (mayL_iff.1 ha).1
  have lb := (mayL_iff.1 hb).1
  have h1 := nat_all (G := G) hT (z := z) (y := y) (a := dl a) (b := dl b)
  rw [ha, hb, Bool.and_self] at h1
  have h2 := nat_cmp (G := G) hT (z := z) (y := y) (a := a) (b := b) (by omega) (by omega)
  rw [run_k G T hT.nat_Cmp]
  repeat' (first | (simp (maxSteps := 1000000) only [evB, if_true, if_false, ne_eq, Nat.reduceEqDiff, Nat.reduceAdd, reduceCtorEq, Int.reduceLE, Int.reduceLT, Int.reduceEq, Int.reduceNeg, Int.reduceToNat, Int.reducePow, Int.reduceMod, Int.reduceDiv, Int.reduceSub, Int.reduceAdd, Int.reduceMul, Nat.reduceMul, Nat.reduceSub, Nat.reducePow, exB, resC_ptr, res_cell, nilb, nilf, faddr_p, c_nat_Cmp, h1, h2]) | (simp (maxSteps := 1000000) (disch := first | with_reducible assumption | omega) only [dxB]) | (simp only [kI_d, kG_dt, kG_df]; split) | (simp only [kI_v, kG_vt, kG_vf]; split))

/-- What comes after the loop of the sum. -/
theorem nat_Add_ord (hT : HasA g T) {z y : Bool} {a b : Nat} (ha : mayL (dl a) = true) (hb : mayL (dl b) = true) (hab : (dl b).length ≤ (dl a).length) (hs : (dl (a + b)).length ≤ 4096) : ∃ z', run G T 105 [D z (dl a), D y (dl b)] = some (.tup [D z' (dl (a + b)), .int .i64 0]) := by
  have la := (mayL_iff.1 ha).1
  have lb := (mayL_iff.1 hb).1
  have h1 := nat_all (G := G) hT (z := z) (y := y) (a := dl a) (b := dl b)
  rw [ha, hb, Bool.and_self] at h1
  have h2 : ¬ ((dl a).length : Int) < ((dl b).length : Int) := by omega
  obtain ⟨_, hr, e, h', l', c', rfl, H, hd, hl, hc, hv⟩ := nAdd_loop (G := G) (T := T) (z := z) (y := y) (b := 1) hT (Dg_dl a) (Dg_dl b) (by omega) hab (dl a).length 0 (new ⟨[⟨[D z (dl a), D y (dl b)], false⟩], fz1 (AV.bool true) [0]⟩ (List.replicate ((dl a).length + 1) 0)) _ 0 (by omega) (Holds_new (h := ⟨[⟨[D z (dl a), D y (dl b)], false⟩], fz1 (AV.bool true) [0]⟩) (fun _ h => absurd h List.not_mem_nil) _) (Dg_rep _) (by rw [List.length_replicate]) (by omega) (by simp [val])
  rw [cast0] at hr
  rw [val_dl, val_dl] at hv
  have hil : (dl a).length < l'.length := by omega
  have hvs := val_set_take (v := c') hil
  rw [hv, List.take_of_length_le (by rw [List.length_set]; omega)] at hvs
  have H2 := H.put (l'.set (dl a).length c')
  have hd2 : Dg (l'.set (dl a).length c') := Dg_set hd (by omega)
  have hl2 : (l'.set (dl a).length c').length = (dl a).length + 1 := by rw [List.length_set]; exact hl
  have hsn := snap_own H2 (n := (dl a).length + 1) (by omega)
  rw [← hl2, List.take_length] at hsn
  obtain ⟨z', hz⟩ := nat_trim (G := G) (T := T) hT (z := false) hd2 (by omega)
  rw [hl2] at hsn
  rw [hvs] at hz
  have hbd := nat_bound (G := G) (T := T) hT (z := z') hs
  have e8 : ((dl a).length : Int) + 1 = (((dl a).length + 1 : Nat) : Int) := by omega
  refine ⟨z', ?_⟩
  rw [run_k G T hT.nat_Add]
  repeat' (first | (simp (maxSteps := 1000000) only [evB, if_true, if_false, ne_eq, Nat.reduceEqDiff, Nat.reduceAdd, reduceCtorEq, Int.reduceLE, Int.reduceLT, Int.reduceEq, Int.reduceNeg, Int.reduceToNat, Int.reducePow, Int.reduceMod, Int.reduceDiv, Int.reduceSub, Int.reduceAdd, Int.reduceMul, Nat.reduceMul, Nat.reduceSub, Nat.reducePow, exB, resC_ptr, res_cell, nilb, nilf, faddr_p, c_nat_Add, h1, h2, e8, hr, hsn, hz, hbd ]) | (simp (maxSteps := 1000000) (disch := first | with_reducible assumption | omega) only [dxB,  store_n H]) | (simp only [kI_d, kG_dt, kG_df]; split) | (simp only [kI_v, kG_vt, kG_vf]; split))
theorem nat_Add (hT : HasA g T) {z y : Bool} {a b : Nat} (ha : mayL (dl a) = true) (hb : mayL (dl b) = true) (hs : (dl (a + b)).length ≤ 4096) : ∃ z', run G T 105 [D z (dl a), D y (dl b)] = some (.tup [D z' (dl (a + b)), .int .i64 0]) := by
  have la := (mayL_iff.1 ha).1
  have lb := (mayL_iff.1 hb).1
  by_cases hab : (dl b).length ≤ (dl a).length
  · exact nat_Add_ord hT ha hb hab hs
  have h1 := nat_all (G := G) hT (z := z) (y := y) (a := dl a) (b := dl b)
  rw [ha, hb, Bool.and_self] at h1
  have h2 : ((dl a).length : Int) < ((dl b).length : Int) := by omega
  obtain ⟨_, hr, e, h', l', c', rfl, H, hd, hl, hc, hv⟩ := nAdd_loop (G := G) (T := T) (z := y) (y := z) (b := 1) hT (Dg_dl b) (Dg_dl a) (by omega) (by omega) (dl b).length 0 (new ⟨[⟨[D z (dl a), D y (dl b)], false⟩], fz1 (AV.bool true) [0]⟩ (List.replicate ((dl b).length + 1) 0)) _ 0 (by omega) (Holds_new (h := ⟨[⟨[D z (dl a), D y (dl b)], false⟩], fz1 (AV.bool true) [0]⟩) (fun _ h => absurd h List.not_mem_nil) _) (Dg_rep _) (by rw [List.length_replicate]) (by omega) (by simp [val])
  rw [cast0] at hr
  rw [val_dl, val_dl, Nat.add_comm b a] at hv
  have hil : (dl b).length < l'.length := by omega
  have hvs := val_set_take (v := c') hil
  rw [hv, List.take_of_length_le (by rw [List.length_set]; omega)] at hvs
  have H2 := H.put (l'.set (dl b).length c')
  have hd2 : Dg (l'.set (dl b).length c') := Dg_set hd (by omega)
  have hl2 : (l'.set (dl b).length c').length = (dl b).length + 1 := by rw [List.length_set]; exact hl
  have hsn := snap_own H2 (n := (dl b).length + 1) (by omega)
  rw [← hl2, List.take_length] at hsn
  obtain ⟨z', hz⟩ := nat_trim (G := G) (T := T) hT (z := false) hd2 (by omega)
  rw [hl2] at hsn
  rw [hvs] at hz
  have hbd := nat_bound (G := G) (T := T) hT (z := z') hs
  have e8 : ((dl b).length : Int) + 1 = (((dl b).length + 1 : Nat) : Int) := by omega
  refine ⟨z', ?_⟩
  rw [run_k G T hT.nat_Add]
  repeat' (first | (simp (maxSteps := 1000000) only [evB, if_true, if_false, ne_eq, Nat.reduceEqDiff, Nat.reduceAdd, reduceCtorEq, Int.reduceLE, Int.reduceLT, Int.reduceEq, Int.reduceNeg, Int.reduceToNat, Int.reducePow, Int.reduceMod, Int.reduceDiv, Int.reduceSub, Int.reduceAdd, Int.reduceMul, Nat.reduceMul, Nat.reduceSub, Nat.reducePow, exB, resC_ptr, res_cell, nilb, nilf, faddr_p, c_nat_Add, h1, h2, e8, hr, hsn, hz, hbd ]) | (simp (maxSteps := 1000000) (disch := first | with_reducible assumption | omega) only [dxB,  store_n H]) | (simp only [kI_d, kG_dt, kG_df]; split) | (simp only [kI_v, kG_vt, kG_vf]; split))
end Go.Cv

/-
  The program's dyadic numbers: sums, differences, products.
-/
namespace Go.Cv
variable {G : Nat → Option (List AV)} {T : Tbl} {g : Nat}

theorem blen_mulC {x y a b : Nat} (hx : blen x ≤ a) (hy : blen y ≤ b) : blen (x * y) ≤ a + b := by
  refine blen_le.2 ?_
  rw [Nat.pow_add]
  exact Nat.mul_lt_mul_of_lt_of_lt (blen_le.1 hx) (blen_le.1 hy)
theorem nat_Mul (hA : HasA g T) (hU : HasG g T) {z y : Bool} {a b : Nat} (ha : mayL (dl a) = true) (hb : mayL (dl b) = true) (hs : (dl a).length + (dl b).length ≤ 4096) : ∃ z', run G T 197 [D z (dl a), D y (dl b)] = some (.tup [D z' (dl (a * b)), .int .i64 0]) := by
  have h1 := nat_all (G := G) hA (z := z) (y := y) (a := dl a) (b := dl b)
  rw [ha, hb, Bool.and_self] at h1
  obtain ⟨z', h2⟩ := nat_mul (G := G) (T := T) hA (z := z) (y := y) (a := a) (b := b) (by omega)
  have hl : (dl (a * b)).length ≤ 4096 := by
    have e1 := dl_len.1 (Nat.le_refl (dl a).length)
    have e2 := dl_len.1 (Nat.le_refl (dl b).length)
    have : (dl (a * b)).length ≤ (dl a).length + (dl b).length := by
      rw [dl_len, Nat.pow_add]; exact Nat.mul_lt_mul_of_lt_of_lt e1 e2
    omega
  have h3 := nat_bound (G := G) (T := T) hA (z := z') hl
  have c1 : ¬ (4096 : Int) < ((dl a).length : Int) + ((dl b).length : Int) - 1 := by omega
  refine ⟨z', ?_⟩
  rw [run_k G T hU.nat_Mul]
  by_cases k1 : (0 : Int) < ((dl a).length : Int)
  · by_cases k2 : (0 : Int) < ((dl b).length : Int)
    · repeat' (first | (simp (maxSteps := 1000000) only [evB, if_true, if_false, ne_eq, Nat.reduceEqDiff, Nat.reduceAdd, reduceCtorEq, Int.reduceLE, Int.reduceLT, Int.reduceEq, Int.reduceNeg, Int.reduceToNat, Int.reducePow, Int.reduceMod, Int.reduceDiv, Int.reduceSub, Int.reduceAdd, Int.reduceMul, Nat.reduceMul, Nat.reduceSub, Nat.reducePow, exB, resC_ptr, res_cell, nilb, nilf, faddr_p, c_nat_Mul, h1, h2, h3, c1, k1, k2]) | (simp (maxSteps := 1000000) (disch := first | with_reducible assumption | omega) only [dxB]) | (simp only [kI_d, kG_dt, kG_df]; split) | (simp only [kI_v, kG_vt, kG_vf]; split))
    · repeat' (first | (simp (maxSteps := 1000000) only [evB, if_true, if_false, ne_eq, Nat.reduceEqDiff, Nat.reduceAdd, reduceCtorEq, Int.reduceLE, Int.reduceLT, Int.reduceEq, Int.reduceNeg, Int.reduceToNat, Int.reducePow, Int.reduceMod, Int.reduceDiv, Int.reduceSub, Int.reduceAdd, Int.reduceMul, Nat.reduceMul, Nat.reduceSub, Nat.reducePow, exB, resC_ptr, res_cell, nilb, nilf, faddr_p, c_nat_Mul, h1, h2, h3, c1, k1, k2]) | (simp (maxSteps := 1000000) (disch := first | with_reducible assumption | omega) only [dxB]) | (simp only [kI_d, kG_dt, kG_df]; split) | (simp only [kI_v, kG_vt, kG_vf]; split))
  · repeat' (first | (simp (maxSteps := 1000000) only [evB, if_true, if_false, ne_eq, Nat.reduceEqDiff, Nat.reduceAdd, reduceCtorEq, Int.reduceLE, Int.reduceLT, Int.reduceEq, Int.reduceNeg, Int.reduceToNat, Int.reducePow, Int.reduceMod, Int.reduceDiv, Int.reduceSub, Int.reduceAdd, Int.reduceMul, Nat.reduceMul, Nat.reduceSub, Nat.reducePow, exB, resC_ptr, res_cell, nilb, nilf, faddr_p, c_nat_Mul, h1, h2, h3, c1, k1]) | (simp (maxSteps := 1000000) (disch := first | with_reducible assumption | omega) only [dxB]) | (simp only [kI_d, kG_dt, kG_df]; split) | (simp only [kI_v, kG_vt, kG_vf]; split))

theorem dyad_own (hU : HasG g T) {n z : Bool} {l : List Nat} {e : Int} (hl : l.length < 549755813888) : ∃ z', run G T 205 [A3 n (D z l) e] = some (A3 n (D z' l) e) := by
  apply exP
  rw [run_k G T hU.dyad_own]
  cases l with
  | nil =>
    simp only [A3] at *
    repeat' (first | (simp (maxSteps := 1000000) only [evB, if_true, if_false, ne_eq, Nat.reduceEqDiff, Nat.reduceAdd, reduceCtorEq, Int.reduceLE, Int.reduceLT, Int.reduceEq, Int.reduceNeg, Int.reduceToNat, Int.reducePow, Int.reduceMod, Int.reduceDiv, Int.reduceSub, Int.reduceAdd, Int.reduceMul, Nat.reduceMul, Nat.reduceSub, Nat.reducePow, exB, resC_ptr, res_cell, nilb, nilf, faddr_p, c_dyad_own, app_nil0]) | (simp (maxSteps := 1000000) (disch := first | with_reducible assumption | omega) only [dxB]) | (simp only [kI_d, kG_dt, kG_df]; split) | (simp only [kI_v, kG_vt, kG_vf]; split))
    exact ⟨_, rfl, true, rfl⟩
  | cons a l =>
    have ha : appV ⟨[⟨[.bool n, D z (a :: l), .int .i64 e], false⟩, ⟨[.bool false, .nil, .int .i64 0], false⟩], []⟩ 1 4 .nil (D z (a :: l)) =
        some (.own 2 0 (a :: l).length 1, ⟨[⟨[.bool n, D z (a :: l), .int .i64 e], false⟩, ⟨[.bool false, .nil, .int .i64 0], false⟩, ⟨cells (a :: l), false⟩], []⟩) :=
      app_nil (h := ⟨[⟨[.bool n, D z (a :: l), .int .i64 e], false⟩, ⟨[.bool false, .nil, .int .i64 0], false⟩], []⟩) (z := z) (l := a :: l) (by simp) hl
    simp only [A3] at *
    have hsub : sub (cells (a :: l)) 0 (l.length + 1) = some (cells (a :: l)) := sub_all (a :: l)
    repeat' (first | (simp (maxSteps := 1000000) only [evB, if_true, if_false, ne_eq, Nat.reduceEqDiff, Nat.reduceAdd, reduceCtorEq, Int.reduceLE, Int.reduceLT, Int.reduceEq, Int.reduceNeg, Int.reduceToNat, Int.reducePow, Int.reduceMod, Int.reduceDiv, Int.reduceSub, Int.reduceAdd, Int.reduceMul, Nat.reduceMul, Nat.reduceSub, Nat.reducePow, exB, resC_ptr, res_cell, nilb, nilf, faddr_p, c_dyad_own, ha, hsub, sl_cells]) | (simp (maxSteps := 1000000) (disch := first | with_reducible assumption | omega) only [dxB]) | (simp only [kI_d, kG_dt, kG_df]; split) | (simp only [kI_v, kG_vt, kG_vf]; split))
    exact ⟨_, rfl, false, rfl⟩

/-- The sum of two sizes with signs. -/
def joinD (p : Bool) (x : Nat) (q : Bool) (y : Nat) (e : Int) : Dy := if p = q then mkD p (x + y) e else if y ≤ x then mkD p (x - y) e else mkD q (y - x) e

theorem mk_rng {m : Nat} {e : Int} (hb : blen m ≤ 131072) (he : -16000000 < e ∧ e < 16000000) : m = 0 ∨ (-16777216 ≤ e + (tz m : Int) ∧ e + (tz m : Int) ≤ 16777216) := by
  by_cases h0 : m = 0
  · exact Or.inl h0
  · right; have := tz_blen h0; omega

theorem blen_add {x y : Nat} {K : Nat} (hx : blen x ≤ K) (hy : blen y ≤ K) : blen (x + y) ≤ K + 1 := by
  refine blen_le.2 ?_
  have h1 := blen_le.1 hx
  have h2 := blen_le.1 hy
  rw [Nat.pow_succ]; omega

theorem dyad_join (hA : HasA g T) (hG : Glob G g) (hC : HasC g T) (hU : HasG g T) {p q z y : Bool} {x w : Nat} {e : Int} (hx : blen x ≤ 131071) (hw : blen w ≤ 131071) (he : -16000000 < e ∧ e < 16000000) :
    ∃ z', run G T 208 [.bool p, D z (dl x), .bool q, D y (dl w), .int .i64 e] = some (.tup [DyA z' (joinD p x q w e), .int .i64 0]) := by
  have mx : mayL (dl x) = true := mayL_small (by omega)
  have mw : mayL (dl w) = true := mayL_small (by omega)
  have hxw := blen_add hx hw
  by_cases h1 : p = q
  · have hl := dl_len_blen (x + w)
    obtain ⟨z1, a1⟩ := nat_Add (G := G) (T := T) hA (z := z) (y := y) (a := x) (b := w) mx mw (by omega)
    obtain ⟨z2, a2⟩ := dyad_Make (G := G) (T := T) hA hG hC (n := p) (z := z1) (a := x + w) (e := e) (mayL_small (by omega)) (mk_rng (by omega) he) (by omega)
    refine ⟨z2, ?_⟩
    unfold joinD
    rw [if_pos h1, run_k G T hU.dyad_join]
    simp only [DyA, A3] at *
    subst h1
    cases p <;> repeat' (first | (simp (maxSteps := 1000000) only [evB, if_true, if_false, ne_eq, Nat.reduceEqDiff, Nat.reduceAdd, reduceCtorEq, Int.reduceLE, Int.reduceLT, Int.reduceEq, Int.reduceNeg, Int.reduceToNat, Int.reducePow, Int.reduceMod, Int.reduceDiv, Int.reduceSub, Int.reduceAdd, Int.reduceMul, Nat.reduceMul, Nat.reduceSub, Nat.reducePow, exB, resC_ptr, res_cell, nilb, nilf, faddr_p, c_dyad_join, a1, a2]) | (simp (maxSteps := 1000000) (disch := first | with_reducible assumption | omega) only [dxB]) | (simp only [kI_d, kG_dt, kG_df]; split) | (simp only [kI_v, kG_vt, kG_vf]; split))
  · have c0 := nat_Cmp (G := G) (T := T) hA (z := z) (y := y) (a := x) (b := w) mx mw
    by_cases h2 : w ≤ x
    · have hb := blen_mono (Nat.sub_le x w)
      have c1 : ¬ cmpN x w < 0 := by rw [cmpN_neg]; omega
      obtain ⟨z1, a1⟩ := nat_Sub (G := G) (T := T) hA (z := z) (y := y) (a := x) (b := w) mx mw h2
      obtain ⟨z2, a2⟩ := dyad_Make (G := G) (T := T) hA hG hC (n := p) (z := z1) (a := x - w) (e := e) (mayL_small (by omega)) (mk_rng (by omega) he) (by omega)
      refine ⟨z2, ?_⟩
      unfold joinD
      rw [if_neg h1, if_pos h2, run_k G T hU.dyad_join]
      simp only [DyA, A3] at *
      cases p <;> cases q <;> first | (exact absurd rfl h1) | (repeat' (first | (simp (maxSteps := 1000000) only [evB, if_true, if_false, ne_eq, Nat.reduceEqDiff, Nat.reduceAdd, reduceCtorEq, Int.reduceLE, Int.reduceLT, Int.reduceEq, Int.reduceNeg, Int.reduceToNat, Int.reducePow, Int.reduceMod, Int.reduceDiv, Int.reduceSub, Int.reduceAdd, Int.reduceMul, Nat.reduceMul, Nat.reduceSub, Nat.reducePow, exB, resC_ptr, res_cell, nilb, nilf, faddr_p, c_dyad_join, c0, c1, a1, a2]) | (simp (maxSteps := 1000000) (disch := first | with_reducible assumption | omega) only [dxB]) | (simp only [kI_d, kG_dt, kG_df]; split) | (simp only [kI_v, kG_vt, kG_vf]; split)))
    · have hb := blen_mono (Nat.sub_le w x)
      have c1 : cmpN x w < 0 := by rw [cmpN_neg]; omega
      obtain ⟨z1, a1⟩ := nat_Sub (G := G) (T := T) hA (z := y) (y := z) (a := w) (b := x) mw mx (by omega)
      obtain ⟨z2, a2⟩ := dyad_Make (G := G) (T := T) hA hG hC (n := q) (z := z1) (a := w - x) (e := e) (mayL_small (by omega)) (mk_rng (by omega) he) (by omega)
      refine ⟨z2, ?_⟩
      unfold joinD
      rw [if_neg h1, if_neg h2, run_k G T hU.dyad_join]
      simp only [DyA, A3] at *
      cases p <;> cases q <;> first | (exact absurd rfl h1) | (repeat' (first | (simp (maxSteps := 1000000) only [evB, if_true, if_false, ne_eq, Nat.reduceEqDiff, Nat.reduceAdd, reduceCtorEq, Int.reduceLE, Int.reduceLT, Int.reduceEq, Int.reduceNeg, Int.reduceToNat, Int.reducePow, Int.reduceMod, Int.reduceDiv, Int.reduceSub, Int.reduceAdd, Int.reduceMul, Nat.reduceMul, Nat.reduceSub, Nat.reducePow, exB, resC_ptr, res_cell, nilb, nilf, faddr_p, c_dyad_join, c0, c1, a1, a2]) | (simp (maxSteps := 1000000) (disch := first | with_reducible assumption | omega) only [dxB]) | (simp only [kI_d, kG_dt, kG_df]; split) | (simp only [kI_v, kG_vt, kG_vf]; split)))

theorem joinD_add {a b : Dy} (ha : a.m ≠ 0) (hb : b.m ≠ 0) (he : b.e ≤ a.e) : joinD a.n (a.m * 2 ^ (a.e - b.e).toNat) b.n b.m b.e = addD a b := by
  unfold joinD addD
  rw [if_neg ha, if_neg hb, Int.min_eq_right he, show (b.e - b.e).toNat = 0 by omega, Nat.pow_zero, Nat.mul_one]

theorem dyad_add_ord (hA : HasA g T) (hG : Glob G g) (hC : HasC g T) (hU : HasG g T) {z y : Bool} {a b : Dy} (ha : Bd a 16384) (hb : Bd b 16384) (na : a.m ≠ 0) (nb : b.m ≠ 0) (he : b.e ≤ a.e) :
    ∃ z', run G T 203 [DyA z a, DyA y b] = some (.tup [DyA z' (addD a b), .int .i64 0]) := by
  obtain ⟨a1, a2, a3⟩ := ha
  obtain ⟨b1, b2, b3⟩ := hb
  have ma : mayL (dl a.m) = true := mayL_small (by omega)
  have l1 := nat_Len (G := G) (T := T) hA (z := z) ma
  obtain ⟨z1, s1⟩ := nat_Shift_up (G := G) (T := T) hA (z := z) (a := a.m) (n := (a.e - b.e).toNat) ma (Or.inr (by omega)) (by omega)
  rw [show (((a.e - b.e).toNat : Nat) : Int) = a.e - b.e by omega] at s1
  have hbl := blen_mul na (a.e - b.e).toNat
  obtain ⟨z2, j1⟩ := dyad_join (G := G) (T := T) hA hG hC hU (p := a.n) (q := b.n) (z := z1) (y := y) (x := a.m * 2 ^ (a.e - b.e).toNat) (w := b.m) (e := b.e) (by omega) (by omega) (by omega)
  rw [joinD_add na nb he] at j1
  have c1 : ¬ ((dl a.m).length : Int) = 0 := fun hc => na (dl_len0.1 (by omega))
  have c2 : ¬ ((dl b.m).length : Int) = 0 := fun hc => nb (dl_len0.1 (by omega))
  have c3 : ¬ a.e < b.e := by omega
  have w1 : IntKind.i64.wrap (a.e - b.e) = a.e - b.e := wrap_i64 (by omega)
  have w2 : IntKind.i64.wrap (a.e - b.e + (blen a.m : Int)) = a.e - b.e + (blen a.m : Int) := wrap_i64 (by omega)
  have c4 : ¬ (131073 : Int) < a.e - b.e + (blen a.m : Int) := by omega
  have c5 : ¬ (131072 : Int) < a.e - b.e + (blen a.m : Int) := by omega
  refine ⟨z2, ?_⟩
  rw [run_k G T hU.dyad_add]
  generalize addD a b = d at *
  obtain ⟨n, m, e⟩ := a
  obtain ⟨n', m', e'⟩ := b
  clear hbl a1 a2 a3 b1 b2 b3
  simp only [DyA, A3] at *
  repeat' (first | (simp (maxSteps := 1000000) only [evB, if_true, if_false, ne_eq, Nat.reduceEqDiff, Nat.reduceAdd, reduceCtorEq, Int.reduceLE, Int.reduceLT, Int.reduceEq, Int.reduceNeg, Int.reduceToNat, Int.reducePow, Int.reduceMod, Int.reduceDiv, Int.reduceSub, Int.reduceAdd, Int.reduceMul, Nat.reduceMul, Nat.reduceSub, Nat.reducePow, exB, resC_ptr, res_cell, nilb, nilf, faddr_p, c_dyad_add, c1, c2, c3, c4, c5, w1, w2, l1, s1, j1]) | (simp (maxSteps := 1000000) (disch := first | with_reducible assumption | omega) only [dxB]) | (simp only [kI_d, kG_dt, kG_df]; split) | (simp only [kI_v, kG_vt, kG_vf]; split))

theorem dyad_add (hA : HasA g T) (hG : Glob G g) (hC : HasC g T) (hU : HasG g T) {z y : Bool} {a b : Dy} (ha : Bd a 16384) (hb : Bd b 16384) (za : Nz a) (zb : Nz b) :
    ∃ z', run G T 203 [DyA z a, DyA y b] = some (.tup [DyA z' (addD a b), .int .i64 0]) := by
  by_cases na : a.m = 0
  · have hl := dl_len_blen b.m
    have hbl := hb.bl
    obtain ⟨z1, h1⟩ := dyad_own (G := G) (T := T) hU (n := b.n) (z := y) (l := dl b.m) (e := b.e) (by omega)
    have c1 : ((dl a.m).length : Int) = 0 := by have := dl_len0.2 na; omega
    refine ⟨z1, ?_⟩
    rw [run_k G T hU.dyad_add]
    unfold addD
    rw [if_pos na]
    obtain ⟨n, m, e⟩ := a
    obtain ⟨n', m', e'⟩ := b
    simp only [DyA, A3] at *
    repeat' (first | (simp (maxSteps := 1000000) only [evB, if_true, if_false, ne_eq, Nat.reduceEqDiff, Nat.reduceAdd, reduceCtorEq, Int.reduceLE, Int.reduceLT, Int.reduceEq, Int.reduceNeg, Int.reduceToNat, Int.reducePow, Int.reduceMod, Int.reduceDiv, Int.reduceSub, Int.reduceAdd, Int.reduceMul, Nat.reduceMul, Nat.reduceSub, Nat.reducePow, exB, resC_ptr, res_cell, nilb, nilf, faddr_p, c_dyad_add, c1, h1]) | (simp (maxSteps := 1000000) (disch := first | with_reducible assumption | omega) only [dxB]) | (simp only [kI_d, kG_dt, kG_df]; split) | (simp only [kI_v, kG_vt, kG_vf]; split))
  · by_cases nb : b.m = 0
    · have hl := dl_len_blen a.m
      have hbl := ha.bl
      obtain ⟨z1, h1⟩ := dyad_own (G := G) (T := T) hU (n := a.n) (z := z) (l := dl a.m) (e := a.e) (by omega)
      have c1 : ¬ ((dl a.m).length : Int) = 0 := fun hc => na (dl_len0.1 (by omega))
      have c2 : ((dl b.m).length : Int) = 0 := by have := dl_len0.2 nb; omega
      refine ⟨z1, ?_⟩
      rw [run_k G T hU.dyad_add]
      unfold addD
      rw [if_neg na, if_pos nb]
      obtain ⟨n, m, e⟩ := a
      obtain ⟨n', m', e'⟩ := b
      simp only [DyA, A3] at *
      repeat' (first | (simp (maxSteps := 1000000) only [evB, if_true, if_false, ne_eq, Nat.reduceEqDiff, Nat.reduceAdd, reduceCtorEq, Int.reduceLE, Int.reduceLT, Int.reduceEq, Int.reduceNeg, Int.reduceToNat, Int.reducePow, Int.reduceMod, Int.reduceDiv, Int.reduceSub, Int.reduceAdd, Int.reduceMul, Nat.reduceMul, Nat.reduceSub, Nat.reducePow, exB, resC_ptr, res_cell, nilb, nilf, faddr_p, c_dyad_add, c1, c2, h1]) | (simp (maxSteps := 1000000) (disch := first | with_reducible assumption | omega) only [dxB]) | (simp only [kI_d, kG_dt, kG_df]; split) | (simp only [kI_v, kG_vt, kG_vf]; split))
    · by_cases he : b.e ≤ a.e
      · exact dyad_add_ord hA hG hC hU ha hb na nb he
      · obtain ⟨a1, a2, a3⟩ := ha
        obtain ⟨b1, b2, b3⟩ := hb
        have mb : mayL (dl b.m) = true := mayL_small (by omega)
        have l1 := nat_Len (G := G) (T := T) hA (z := y) mb
        obtain ⟨z1, s1⟩ := nat_Shift_up (G := G) (T := T) hA (z := y) (a := b.m) (n := (b.e - a.e).toNat) mb (Or.inr (by omega)) (by omega)
        rw [show (((b.e - a.e).toNat : Nat) : Int) = b.e - a.e by omega] at s1
        have hbl := blen_mul nb (b.e - a.e).toNat
        obtain ⟨z2, j1⟩ := dyad_join (G := G) (T := T) hA hG hC hU (p := b.n) (q := a.n) (z := z1) (y := z) (x := b.m * 2 ^ (b.e - a.e).toNat) (w := a.m) (e := a.e) (by omega) (by omega) (by omega)
        rw [joinD_add nb na (by omega), addD_comm zb za] at j1
        have c1 : ¬ ((dl a.m).length : Int) = 0 := fun hc => na (dl_len0.1 (by omega))
        have c2 : ¬ ((dl b.m).length : Int) = 0 := fun hc => nb (dl_len0.1 (by omega))
        have c3 : a.e < b.e := by omega
        have w1 : IntKind.i64.wrap (b.e - a.e) = b.e - a.e := wrap_i64 (by omega)
        have w2 : IntKind.i64.wrap (b.e - a.e + (blen b.m : Int)) = b.e - a.e + (blen b.m : Int) := wrap_i64 (by omega)
        have c4 : ¬ (131073 : Int) < b.e - a.e + (blen b.m : Int) := by omega
        have c5 : ¬ (131072 : Int) < b.e - a.e + (blen b.m : Int) := by omega
        refine ⟨z2, ?_⟩
        rw [run_k G T hU.dyad_add]
        generalize addD a b = d at *
        obtain ⟨n, m, e⟩ := a
        obtain ⟨n', m', e'⟩ := b
        clear hbl a1 a2 a3 b1 b2 b3
        simp only [DyA, A3] at *
        repeat' (first | (simp (maxSteps := 1000000) only [evB, if_true, if_false, ne_eq, Nat.reduceEqDiff, Nat.reduceAdd, reduceCtorEq, Int.reduceLE, Int.reduceLT, Int.reduceEq, Int.reduceNeg, Int.reduceToNat, Int.reducePow, Int.reduceMod, Int.reduceDiv, Int.reduceSub, Int.reduceAdd, Int.reduceMul, Nat.reduceMul, Nat.reduceSub, Nat.reducePow, exB, resC_ptr, res_cell, nilb, nilf, faddr_p, c_dyad_add, c1, c2, c3, c4, c5, w1, w2, l1, s1, j1]) | (simp (maxSteps := 1000000) (disch := first | with_reducible assumption | omega) only [dxB]) | (simp only [kI_d, kG_dt, kG_df]; split) | (simp only [kI_v, kG_vt, kG_vf]; split))

theorem dyad_Add (hA : HasA g T) (hG : Glob G g) (hC : HasC g T) (hU : HasG g T) {z y : Bool} {a b : Dy} (ha : Bd a 16384) (hb : Bd b 16384) (da : mayD a.n (dl a.m) a.e = true) (db : mayD b.n (dl b.m) b.e = true) :
    ∃ z', run G T 195 [DyA z a, DyA y b] = some (.tup [DyA z' (addD a b), .int .i64 0]) := by
  have h1 := dyad_both (G := G) (T := T) hA hC (n := a.n) (z := z) (n' := b.n) (z' := y) (Dg_dl a.m) (Dg_dl b.m) (e := a.e) (e' := b.e)
  rw [da, db, Bool.and_self] at h1
  obtain ⟨z', h2⟩ := dyad_add (G := G) (T := T) hA hG hC hU (z := z) (y := y) ha hb (mayD_nz da) (mayD_nz db)
  refine ⟨z', ?_⟩
  rw [run_k G T hU.dyad_Add]
  generalize addD a b = d at *
  obtain ⟨n, m, e⟩ := a
  obtain ⟨n', m', e'⟩ := b
  simp only [DyA, A3] at *
  repeat' (first | (simp (maxSteps := 1000000) only [evB, if_true, if_false, ne_eq, Nat.reduceEqDiff, Nat.reduceAdd, reduceCtorEq, Int.reduceLE, Int.reduceLT, Int.reduceEq, Int.reduceNeg, Int.reduceToNat, Int.reducePow, Int.reduceMod, Int.reduceDiv, Int.reduceSub, Int.reduceAdd, Int.reduceMul, Nat.reduceMul, Nat.reduceSub, Nat.reducePow, exB, resC_ptr, res_cell, nilb, nilf, faddr_p, c_dyad_Add, h1, h2]) | (simp (maxSteps := 1000000) (disch := first | with_reducible assumption | omega) only [dxB]) | (simp only [kI_d, kG_dt, kG_df]; split) | (simp only [kI_v, kG_vt, kG_vf]; split))

theorem dyad_Mul (hA : HasA g T) (hG : Glob G g) (hC : HasC g T) (hU : HasG g T) {z y : Bool} {a b : Dy} (ha : Bd a 16384) (hb : Bd b 16384) (da : mayD a.n (dl a.m) a.e = true) (db : mayD b.n (dl b.m) b.e = true) :
    ∃ z', run G T 182 [DyA z a, DyA y b] = some (.tup [DyA z' (mulD a b), .int .i64 0]) := by
  have h1 := dyad_both (G := G) (T := T) hA hC (n := a.n) (z := z) (n' := b.n) (z' := y) (Dg_dl a.m) (Dg_dl b.m) (e := a.e) (e' := b.e)
  rw [da, db, Bool.and_self] at h1
  obtain ⟨a1, a2, a3⟩ := ha
  obtain ⟨b1, b2, b3⟩ := hb
  have hl1 := dl_len_blen a.m
  have hl2 := dl_len_blen b.m
  obtain ⟨z1, h2⟩ := nat_Mul (G := G) (T := T) hA hU (z := z) (y := y) (a := a.m) (b := b.m) (mayL_small (by omega)) (mayL_small (by omega)) (by omega)
  have hb : blen (a.m * b.m) ≤ 32768 := by have := blen_mulC a1 b1; omega
  obtain ⟨z2, h3⟩ := dyad_Make (G := G) (T := T) hA hG hC (n := a.n != b.n) (z := z1) (a := a.m * b.m) (e := a.e + b.e) (mayL_small (by omega)) (mk_rng (by omega) (by omega)) (by omega)
  have w1 : IntKind.i64.wrap (a.e + b.e) = a.e + b.e := wrap_i64 (by omega)
  refine ⟨z2, ?_⟩
  rw [run_k G T hU.dyad_Mul]
  unfold mulD
  clear hb
  obtain ⟨n, m, e⟩ := a
  obtain ⟨n', m', e'⟩ := b
  have hne : (n != n') = !decide (n = n') := by cases n <;> cases n' <;> rfl
  simp only at *
  rw [hne] at h3 ⊢
  simp only [DyA, A3] at *
  repeat' (first | (simp (maxSteps := 1000000) only [evB, if_true, if_false, ne_eq, Nat.reduceEqDiff, Nat.reduceAdd, reduceCtorEq, Int.reduceLE, Int.reduceLT, Int.reduceEq, Int.reduceNeg, Int.reduceToNat, Int.reducePow, Int.reduceMod, Int.reduceDiv, Int.reduceSub, Int.reduceAdd, Int.reduceMul, Nat.reduceMul, Nat.reduceSub, Nat.reducePow, exB, resC_ptr, res_cell, nilb, nilf, faddr_p, c_dyad_Mul, h1, h2, w1, h3]) | (simp (maxSteps := 1000000) (disch := first | with_reducible assumption | omega) only [dxB]) | (simp only [kI_d, kG_dt, kG_df]; split) | (simp only [kI_v, kG_vt, kG_vf]; split))
end Go.Cv

/-
  The program's words: fields, classes, values.
-/
namespace Go.Cv
variable {G : Nat → Option (List AV)} {T : Tbl} {g : Nat}

theorem andn_nat {w k : Nat} (hk : k < 64) (hw : w < 2 ^ (k + 1)) : w &&& (2 ^ 64 - (2 ^ k + 1)) = w % 2 ^ k := by
  apply Nat.eq_of_testBit_eq
  intro i
  have hp : (2 : Nat) ^ k < 2 ^ 64 := Nat.pow_lt_pow_right (by decide) hk
  rw [Nat.testBit_and, Nat.testBit_mod_two_pow, Nat.testBit_two_pow_sub_succ hp, Nat.testBit_two_pow]
  by_cases h1 : i < k
  · rw [decide_eq_true h1, decide_eq_true (show i < 64 by omega), decide_eq_false (show ¬ k = i by omega)]; simp
  · rw [decide_eq_false h1]
    by_cases h2 : i = k
    · rw [decide_eq_true h2.symm]; simp
    · have : w.testBit i = false := Nat.testBit_lt_two_pow (Nat.lt_of_lt_of_le hw (Nat.pow_le_pow_right (by decide) (by omega)))
      rw [this]; simp
theorem andn64 {w k : Nat} (hk : k < 64) (hw : w < 2 ^ (k + 1)) : andNotI .u64 (w : Int) ((2 ^ k : Nat) : Int) = ((w % 2 ^ k : Nat) : Int) := by
  have hp : (2 : Nat) ^ k < 2 ^ 64 := Nat.pow_lt_pow_right (by decide) hk
  have hw2 : w < 2 ^ 64 := Nat.lt_of_lt_of_le hw (Nat.pow_le_pow_right (by decide) (by omega))
  have hlt : w % 2 ^ k < 2 ^ k := Nat.mod_lt _ (Nat.two_pow_pos k)
  rw [andNotI_eq]
  show IntKind.u64.wrap ((BitVec.ofInt 64 (w : Int) &&& ~~~BitVec.ofInt 64 ((2 ^ k : Nat) : Int)).toNat : Int) = _
  rw [show BitVec.ofInt 64 (w : Int) = BitVec.ofNat 64 w from rfl, show BitVec.ofInt 64 ((2 ^ k : Nat) : Int) = BitVec.ofNat 64 (2 ^ k) from rfl, BitVec.toNat_and, BitVec.toNat_not, BitVec.toNat_ofNat, BitVec.toNat_ofNat, Nat.mod_eq_of_lt hw2, Nat.mod_eq_of_lt hp,
    show 2 ^ 64 - 1 - 2 ^ k = 2 ^ 64 - (2 ^ k + 1) by omega, andn_nat hk hw, wrap_u64]
  omega
theorem andn_s {w : Nat} (h : w < 4294967296) : andNotI .u64 (w : Int) 2147483648 = ((w % 2147483648 : Nat) : Int) := andn64 (k := 31) (by decide) h
theorem andn_d {w : Nat} (h : w < 18446744073709551616) : andNotI .u64 (w : Int) 9223372036854775808 = ((w % 9223372036854775808 : Nat) : Int) := andn64 (k := 63) (by decide) h
theorem and_pow_lo {w k : Nat} (hw : w < 2 ^ k) : w &&& 2 ^ k = 0 := by
  apply Nat.eq_of_testBit_eq
  intro i
  rw [Nat.testBit_and, Nat.testBit_two_pow, Nat.zero_testBit]
  by_cases h : k = i
  · subst h; rw [Nat.testBit_lt_two_pow hw]; rfl
  · rw [decide_eq_false h, Bool.and_false]
theorem and_pow_hi {w k : Nat} (h1 : 2 ^ k ≤ w) (hw : w < 2 ^ (k + 1)) : w &&& 2 ^ k = 2 ^ k := by
  apply Nat.eq_of_testBit_eq
  intro i
  rw [Nat.testBit_and, Nat.testBit_two_pow]
  rw [Nat.pow_succ] at hw
  by_cases h : k = i
  · subst h
    have : w / 2 ^ k = 1 := Nat.div_eq_of_lt_le (by omega) (by omega)
    rw [Nat.testBit_eq_decide_div_mod_eq, this]; rfl
  · rw [decide_eq_false h, Bool.and_false]
theorem and_bit {w k : Nat} (hk : k < 64) (hw : w < 2 ^ (k + 1)) : andI .u64 (w : Int) ((2 ^ k : Nat) : Int) = if 2 ^ k ≤ w then ((2 ^ k : Nat) : Int) else 0 := by
  have hp : (2 : Nat) ^ k < 2 ^ 64 := Nat.pow_lt_pow_right (by decide) hk
  have hw2 : w < 2 ^ 64 := Nat.lt_of_lt_of_le hw (Nat.pow_le_pow_right (by decide) (by omega))
  rw [and64 (by omega) (by omega)]
  by_cases h : 2 ^ k ≤ w
  · rw [if_pos h, and_pow_hi h hw]
  · rw [if_neg h, and_pow_lo (by omega)]; rfl
theorem and_s {w : Nat} (h : w < 4294967296) : andI .u64 (w : Int) 2147483648 = if 2147483648 ≤ w then 2147483648 else 0 := and_bit (k := 31) (by decide) h
theorem and_d {w : Nat} (h : w < 18446744073709551616) : andI .u64 (w : Int) 9223372036854775808 = if 9223372036854775808 ≤ w then 9223372036854775808 else 0 := and_bit (k := 63) (by decide) h
theorem and_ms {w : Nat} (h : w < 18446744073709551616) : andI .u64 (w : Int) 8388607 = ((w % 8388608 : Nat) : Int) := and_mask (j := 23) h (by decide)
theorem and_md {w : Nat} (h : w < 18446744073709551616) : andI .u64 (w : Int) 4503599627370495 = ((w % 4503599627370496 : Nat) : Int) := and_mask (j := 52) h (by decide)
theorem or_s : orI .u64 2147483648 2147483647 = 4294967295 := by rw [orI_eq]; rfl
theorem or_d : orI .u64 9223372036854775808 9223372036854775807 = 18446744073709551615 := by rw [orI_eq]; rfl
theorem or_ns : orI .u64 2139095040 4194304 = 2143289344 := by rw [orI_eq]; rfl
theorem or_nd : orI .u64 9218868437227405312 2251799813685248 = 9221120237041090560 := by rw [orI_eq]; rfl

theorem wop_loop (e : Env) (h : Heap) : evL G T c_word_open_l1 e h = kS G T (evL G T c_word_open_b1 (keepE [4, 6, 18, 19, 20] e) h) c_word_open_l1 := s_loopc G T rfl e h
theorem ia11 (x : AV) (k : IntKind) : iaddrV 1 (.imm 1 [x]) (.int k 0) = some (.iptr [x] 0) := rfl
theorem rd11 (h : Mem) (x : AV) : rdAt G h 1 (.iptr [x] 0) = some [x] := rfl

theorem word_open1 (hT : HasD g T) (F : Fm) {w : Nat} (hw : w < 18446744073709551616) : run G T 95 [.int .u8 F.u, .imm 1 [.int .u64 (w : Int)]] = some (.tup [shA F, .int .i64 (if w < 2 * F.sg then 0 else 6)]) := by
  rw [run_k G T hT.word_open]
  have h1 := word_shapeOf (G := G) hT F
  have wr : IntKind.i64.wrap 1 = 1 := rfl
  by_cases hk : w < 2 * F.sg
  · rw [if_pos hk]
    cases F
    · simp only [shA, Fm.u, Fm.fr, Fm.sg, Fm.most, Int.cast_ofNat_Int, Nat.reduceMul] at *
      have c1 : ¬ (4294967295 : Int) < (w : Int) := by omega
      repeat' (first | (simp (maxSteps := 1000000) only [evB, if_true, if_false, ne_eq, Nat.reduceEqDiff, Nat.reduceAdd, reduceCtorEq, Int.reduceLE, Int.reduceLT, Int.reduceEq, Int.reduceNeg, Int.reduceToNat, Int.reducePow, Int.reduceMod, Int.reduceDiv, Int.reduceSub, Int.reduceAdd, Int.reduceMul, Nat.reduceMul, Nat.reduceSub, Nat.reducePow, exB, resC_ptr, res_cell, nilb, nilf, faddr_p, c_word_open, h1, wop_loop, c_word_open_b1, ia11, rd11, or_s, or_d, c1, wr]) | (simp (maxSteps := 1000000) (disch := first | with_reducible assumption | omega) only [dxB]) | (simp only [kI_d, kG_dt, kG_df]; split) | (simp only [kI_v, kG_vt, kG_vf]; split))
    · simp only [shA, Fm.u, Fm.fr, Fm.sg, Fm.most, Int.cast_ofNat_Int, Nat.reduceMul] at *
      have c1 : ¬ (18446744073709551615 : Int) < (w : Int) := by omega
      repeat' (first | (simp (maxSteps := 1000000) only [evB, if_true, if_false, ne_eq, Nat.reduceEqDiff, Nat.reduceAdd, reduceCtorEq, Int.reduceLE, Int.reduceLT, Int.reduceEq, Int.reduceNeg, Int.reduceToNat, Int.reducePow, Int.reduceMod, Int.reduceDiv, Int.reduceSub, Int.reduceAdd, Int.reduceMul, Nat.reduceMul, Nat.reduceSub, Nat.reducePow, exB, resC_ptr, res_cell, nilb, nilf, faddr_p, c_word_open, h1, wop_loop, c_word_open_b1, ia11, rd11, or_s, or_d, c1, wr]) | (simp (maxSteps := 1000000) (disch := first | with_reducible assumption | omega) only [dxB]) | (simp only [kI_d, kG_dt, kG_df]; split) | (simp only [kI_v, kG_vt, kG_vf]; split))
  · rw [if_neg hk]
    cases F
    · simp only [shA, Fm.u, Fm.fr, Fm.sg, Fm.most, Int.cast_ofNat_Int, Nat.reduceMul] at *
      have c1 : (4294967295 : Int) < (w : Int) := by omega
      repeat' (first | (simp (maxSteps := 1000000) only [evB, if_true, if_false, ne_eq, Nat.reduceEqDiff, Nat.reduceAdd, reduceCtorEq, Int.reduceLE, Int.reduceLT, Int.reduceEq, Int.reduceNeg, Int.reduceToNat, Int.reducePow, Int.reduceMod, Int.reduceDiv, Int.reduceSub, Int.reduceAdd, Int.reduceMul, Nat.reduceMul, Nat.reduceSub, Nat.reducePow, exB, resC_ptr, res_cell, nilb, nilf, faddr_p, c_word_open, h1, wop_loop, c_word_open_b1, ia11, rd11, or_s, or_d, c1, wr]) | (simp (maxSteps := 1000000) (disch := first | with_reducible assumption | omega) only [dxB]) | (simp only [kI_d, kG_dt, kG_df]; split) | (simp only [kI_v, kG_vt, kG_vf]; split))
    · simp only [Fm.sg] at hk; omega

theorem cls_spec (F : Fm) (w : Nat) : (F.ex w = 0 ∧ F.fc w = 0 ∧ F.cls w = 1) ∨ (F.ex w = 0 ∧ F.fc w ≠ 0 ∧ F.cls w = 2) ∨ (F.ex w ≠ 0 ∧ F.ex w < F.most ∧ F.cls w = 3) ∨ (F.ex w ≠ 0 ∧ ¬ F.ex w < F.most ∧ F.fc w = 0 ∧ F.cls w = 4) ∨ (F.ex w ≠ 0 ∧ ¬ F.ex w < F.most ∧ F.fc w ≠ 0 ∧ F.cls w = 5) := by
  unfold Fm.cls
  generalize F.ex w = x
  generalize F.fc w = y
  repeat' split
  all_goals omega
theorem ng_spec (F : Fm) (w : Nat) : (F.ng w = true ∧ F.sg ≤ w) ∨ (F.ng w = false ∧ w < F.sg) := by
  unfold Fm.ng
  by_cases h : F.sg ≤ w
  · left; exact ⟨decide_eq_true h, h⟩
  · right; exact ⟨decide_eq_false h, by omega⟩

theorem word_class (hD : HasD g T) (hU : HasG g T) (F : Fm) {w : Nat} (hw : w < 2 * F.sg) : run G T 201 [shA F, .int .u64 (w : Int)] = some (.int .u8 (F.cls w)) := by
  rw [run_k G T hU.word_shape_class]
  obtain ⟨q1, q2, q3, q4⟩ := w_split hw
  have hc := cls_spec F w
  have hlt : w % F.sg < F.sg := Nat.mod_lt _ (by cases F <;> decide)
  clear q1
  generalize F.cls w = c at *
  generalize F.ex w = x at *
  generalize F.fc w = y at *
  cases F
  · have h2 := andn_s (w := w) hw
    have hi := word_inf (G := G) (T := T) hD .s
    simp only [shA, Fm.u, Fm.fr, Fm.sg, Fm.most, Int.cast_ofNat_Int, Nat.reducePow, Nat.reduceMul] at *
    generalize w % 2147483648 = s at *
    repeat' (first | (simp (maxSteps := 1000000) only [evB, if_true, if_false, ne_eq, Nat.reduceEqDiff, Nat.reduceAdd, reduceCtorEq, Int.reduceLE, Int.reduceLT, Int.reduceEq, Int.reduceNeg, Int.reduceToNat, Int.reducePow, Int.reduceMod, Int.reduceDiv, Int.reduceSub, Int.reduceAdd, Int.reduceMul, Nat.reduceMul, Nat.reduceSub, Nat.reducePow, exB, resC_ptr, res_cell, nilb, nilf, faddr_p, c_word_shape_class, h2, hi]) | (simp (maxSteps := 1000000) (disch := first | with_reducible assumption | omega) only [dxB]) | (simp only [kI_d, kG_dt, kG_df]; split) | (simp only [kI_v, kG_vt, kG_vf]; split))
    all_goals (refine some_int ?_; omega)
  · have h2 := andn_d (w := w) hw
    have hi := word_inf (G := G) (T := T) hD .d
    simp only [shA, Fm.u, Fm.fr, Fm.sg, Fm.most, Int.cast_ofNat_Int, Nat.reducePow, Nat.reduceMul] at *
    generalize w % 9223372036854775808 = s at *
    repeat' (first | (simp (maxSteps := 1000000) only [evB, if_true, if_false, ne_eq, Nat.reduceEqDiff, Nat.reduceAdd, reduceCtorEq, Int.reduceLE, Int.reduceLT, Int.reduceEq, Int.reduceNeg, Int.reduceToNat, Int.reducePow, Int.reduceMod, Int.reduceDiv, Int.reduceSub, Int.reduceAdd, Int.reduceMul, Nat.reduceMul, Nat.reduceSub, Nat.reducePow, exB, resC_ptr, res_cell, nilb, nilf, faddr_p, c_word_shape_class, h2, hi]) | (simp (maxSteps := 1000000) (disch := first | with_reducible assumption | omega) only [dxB]) | (simp only [kI_d, kG_dt, kG_df]; split) | (simp only [kI_v, kG_vt, kG_vf]; split))
    all_goals (refine some_int ?_; omega)

theorem word_split (hU : HasG g T) (F : Fm) {w : Nat} (hw : w < 2 * F.sg) : run G T 200 [shA F, .int .u64 (w : Int)] = some (fldA (F.ng w) (F.ex w) (F.fc w)) := by
  rw [run_k G T hU.word_shape_split]
  have hlt : w % F.sg < F.sg := Nat.mod_lt _ (by cases F <;> decide)
  have hn := ng_spec F w
  have e2 : w % F.sg / 2 ^ F.fr = F.ex w := rfl
  have e3 : w % F.sg % 2 ^ F.fr = F.fc w := rfl
  have q4 := (w_split hw).2.2.2
  generalize F.ng w = n at *
  generalize F.ex w = x at *
  generalize F.fc w = y at *
  cases F
  · have h2 := andn_s (w := w) hw
    have h4 := and_s (w := w) hw
    simp only [shA, Fm.u, Fm.fr, Fm.sg, Fm.most, fldA, Int.cast_ofNat_Int, Nat.reducePow] at *
    generalize w % 2147483648 = s at *
    have h5 := and_ms (w := s) (by omega)
    rw [e3] at h5
    have w1 : (s : Int) / 8388608 = (x : Int) := by omega
    rcases hn with ⟨rfl, hn⟩ | ⟨rfl, hn⟩
    · rw [if_pos hn] at h4
      repeat' (first | (simp (maxSteps := 1000000) only [evB, if_true, if_false, ne_eq, Nat.reduceEqDiff, Nat.reduceAdd, reduceCtorEq, Int.reduceLE, Int.reduceLT, Int.reduceEq, Int.reduceNeg, Int.reduceToNat, Int.reducePow, Int.reduceMod, Int.reduceDiv, Int.reduceSub, Int.reduceAdd, Int.reduceMul, Nat.reduceMul, Nat.reduceSub, Nat.reducePow, exB, resC_ptr, res_cell, nilb, nilf, faddr_p, c_word_shape_split, h2, h4, h5, w1]) | (simp (maxSteps := 1000000) (disch := first | with_reducible assumption | omega) only [dxB]) | (simp only [kI_d, kG_dt, kG_df]; split) | (simp only [kI_v, kG_vt, kG_vf]; split))
    · rw [if_neg (by omega)] at h4
      repeat' (first | (simp (maxSteps := 1000000) only [evB, if_true, if_false, ne_eq, Nat.reduceEqDiff, Nat.reduceAdd, reduceCtorEq, Int.reduceLE, Int.reduceLT, Int.reduceEq, Int.reduceNeg, Int.reduceToNat, Int.reducePow, Int.reduceMod, Int.reduceDiv, Int.reduceSub, Int.reduceAdd, Int.reduceMul, Nat.reduceMul, Nat.reduceSub, Nat.reducePow, exB, resC_ptr, res_cell, nilb, nilf, faddr_p, c_word_shape_split, h2, h4, h5, w1]) | (simp (maxSteps := 1000000) (disch := first | with_reducible assumption | omega) only [dxB]) | (simp only [kI_d, kG_dt, kG_df]; split) | (simp only [kI_v, kG_vt, kG_vf]; split))
  · have h2 := andn_d (w := w) hw
    have h4 := and_d (w := w) hw
    simp only [shA, Fm.u, Fm.fr, Fm.sg, Fm.most, fldA, Int.cast_ofNat_Int, Nat.reducePow] at *
    generalize w % 9223372036854775808 = s at *
    have h5 := and_md (w := s) (by omega)
    rw [e3] at h5
    have w1 : (s : Int) / 4503599627370496 = (x : Int) := by omega
    rcases hn with ⟨rfl, hn⟩ | ⟨rfl, hn⟩
    · rw [if_pos hn] at h4
      repeat' (first | (simp (maxSteps := 1000000) only [evB, if_true, if_false, ne_eq, Nat.reduceEqDiff, Nat.reduceAdd, reduceCtorEq, Int.reduceLE, Int.reduceLT, Int.reduceEq, Int.reduceNeg, Int.reduceToNat, Int.reducePow, Int.reduceMod, Int.reduceDiv, Int.reduceSub, Int.reduceAdd, Int.reduceMul, Nat.reduceMul, Nat.reduceSub, Nat.reducePow, exB, resC_ptr, res_cell, nilb, nilf, faddr_p, c_word_shape_split, h2, h4, h5, w1]) | (simp (maxSteps := 1000000) (disch := first | with_reducible assumption | omega) only [dxB]) | (simp only [kI_d, kG_dt, kG_df]; split) | (simp only [kI_v, kG_vt, kG_vf]; split))
    · rw [if_neg (by omega)] at h4
      repeat' (first | (simp (maxSteps := 1000000) only [evB, if_true, if_false, ne_eq, Nat.reduceEqDiff, Nat.reduceAdd, reduceCtorEq, Int.reduceLE, Int.reduceLT, Int.reduceEq, Int.reduceNeg, Int.reduceToNat, Int.reducePow, Int.reduceMod, Int.reduceDiv, Int.reduceSub, Int.reduceAdd, Int.reduceMul, Nat.reduceMul, Nat.reduceSub, Nat.reducePow, exB, resC_ptr, res_cell, nilb, nilf, faddr_p, c_word_shape_split, h2, h4, h5, w1]) | (simp (maxSteps := 1000000) (disch := first | with_reducible assumption | omega) only [dxB]) | (simp only [kI_d, kG_dt, kG_df]; split) | (simp only [kI_v, kG_vt, kG_vf]; split))

theorem sg_64 {F : Fm} {w : Nat} (h : w < 2 * F.sg) : w < 18446744073709551616 := by
  have : 2 * F.sg ≤ 18446744073709551616 := by cases F <;> decide
  omega

theorem word_Class (hD : HasD g T) (hU : HasG g T) (F : Fm) {w : Nat} (hw : w < 2 * F.sg) : run G T 193 [.int .u8 F.u, .int .u64 (w : Int)] = some (.tup [.int .u8 (F.cls w), .int .i64 0]) := by
  rw [run_k G T hU.word_Class]
  have h1 := word_open1 (G := G) (T := T) hD F (sg_64 hw)
  rw [if_pos hw] at h1
  have h2 := word_class (G := G) (T := T) hD hU F hw
  generalize F.cls w = c at *
  simp only [shA] at *
  repeat' (first | (simp (maxSteps := 1000000) only [evB, if_true, if_false, ne_eq, Nat.reduceEqDiff, Nat.reduceAdd, reduceCtorEq, Int.reduceLE, Int.reduceLT, Int.reduceEq, Int.reduceNeg, Int.reduceToNat, Int.reducePow, Int.reduceMod, Int.reduceDiv, Int.reduceSub, Int.reduceAdd, Int.reduceMul, Nat.reduceMul, Nat.reduceSub, Nat.reducePow, exB, resC_ptr, res_cell, nilb, nilf, faddr_p, c_word_Class, h1, h2]) | (simp (maxSteps := 1000000) (disch := first | with_reducible assumption | omega) only [dxB]) | (simp only [kI_d, kG_dt, kG_df]; split) | (simp only [kI_v, kG_vt, kG_vf]; split))

theorem word_Split (hD : HasD g T) (hU : HasG g T) (F : Fm) {w : Nat} (hw : w < 2 * F.sg) : run G T 192 [.int .u8 F.u, .int .u64 (w : Int)] = some (.tup [fldA (F.ng w) (F.ex w) (F.fc w), .int .i64 0]) := by
  rw [run_k G T hU.word_Split]
  have h1 := word_open1 (G := G) (T := T) hD F (sg_64 hw)
  rw [if_pos hw] at h1
  have h2 := word_split (G := G) (T := T) hU F hw
  generalize F.ng w = n at *
  generalize F.ex w = x at *
  generalize F.fc w = y at *
  simp only [shA, fldA] at *
  repeat' (first | (simp (maxSteps := 1000000) only [evB, if_true, if_false, ne_eq, Nat.reduceEqDiff, Nat.reduceAdd, reduceCtorEq, Int.reduceLE, Int.reduceLT, Int.reduceEq, Int.reduceNeg, Int.reduceToNat, Int.reducePow, Int.reduceMod, Int.reduceDiv, Int.reduceSub, Int.reduceAdd, Int.reduceMul, Nat.reduceMul, Nat.reduceSub, Nat.reducePow, exB, resC_ptr, res_cell, nilb, nilf, faddr_p, c_word_Split, h1, h2]) | (simp (maxSteps := 1000000) (disch := first | with_reducible assumption | omega) only [dxB]) | (simp only [kI_d, kG_dt, kG_df]; split) | (simp only [kI_v, kG_vt, kG_vf]; split))
theorem word_Split_bad (hD : HasD g T) (hU : HasG g T) (F : Fm) {w : Nat} (hw : w < 18446744073709551616) (hb : ¬ w < 2 * F.sg) : run G T 192 [.int .u8 F.u, .int .u64 (w : Int)] = some (.tup [fldA false 0 0, .int .i64 6]) := by
  rw [run_k G T hU.word_Split]
  have h1 := word_open1 (G := G) (T := T) hD F hw
  rw [if_neg hb] at h1
  simp only [shA, fldA] at *
  repeat' (first | (simp (maxSteps := 1000000) only [evB, if_true, if_false, ne_eq, Nat.reduceEqDiff, Nat.reduceAdd, reduceCtorEq, Int.reduceLE, Int.reduceLT, Int.reduceEq, Int.reduceNeg, Int.reduceToNat, Int.reducePow, Int.reduceMod, Int.reduceDiv, Int.reduceSub, Int.reduceAdd, Int.reduceMul, Nat.reduceMul, Nat.reduceSub, Nat.reducePow, exB, resC_ptr, res_cell, nilb, nilf, faddr_p, c_word_Split, h1]) | (simp (maxSteps := 1000000) (disch := first | with_reducible assumption | omega) only [dxB]) | (simp only [kI_d, kG_dt, kG_df]; split) | (simp only [kI_v, kG_vt, kG_vf]; split))

theorem word_finite (hD : HasD g T) (hU : HasG g T) (F : Fm) {w : Nat} (hw : w < 2 * F.sg) : run G T 202 [.int .u8 F.u, .int .u64 (w : Int)] = some (.tup [shA F, .int .i64 (if F.fin w then 0 else 7)]) := by
  rw [run_k G T hU.word_finite]
  have h1 := word_open1 (G := G) (T := T) hD F (sg_64 hw)
  rw [if_pos hw] at h1
  have h2 := word_class (G := G) (T := T) hD hU F hw
  have h3 := fin_iff (F := F) (w := w)
  have h4 := cls_range F w
  by_cases hf : F.fin w
  · rw [if_pos hf]
    have h5 := h3.1 hf
    clear h3
    generalize F.cls w = c at *
    have c1 : ¬ (4 : Int) ≤ c := by omega
    simp only [shA] at *
    repeat' (first | (simp (maxSteps := 1000000) only [evB, if_true, if_false, ne_eq, Nat.reduceEqDiff, Nat.reduceAdd, reduceCtorEq, Int.reduceLE, Int.reduceLT, Int.reduceEq, Int.reduceNeg, Int.reduceToNat, Int.reducePow, Int.reduceMod, Int.reduceDiv, Int.reduceSub, Int.reduceAdd, Int.reduceMul, Nat.reduceMul, Nat.reduceSub, Nat.reducePow, exB, resC_ptr, res_cell, nilb, nilf, faddr_p, c_word_finite, h1, h2, c1]) | (simp (maxSteps := 1000000) (disch := first | with_reducible assumption | omega) only [dxB]) | (simp only [kI_d, kG_dt, kG_df]; split) | (simp only [kI_v, kG_vt, kG_vf]; split))
  · rw [if_neg hf]
    have h5 : ¬ (F.cls w = 1 ∨ F.cls w = 2 ∨ F.cls w = 3) := fun h => hf (h3.2 h)
    clear h3
    generalize F.cls w = c at *
    have c1 : (4 : Int) ≤ c := by omega
    simp only [shA] at *
    repeat' (first | (simp (maxSteps := 1000000) only [evB, if_true, if_false, ne_eq, Nat.reduceEqDiff, Nat.reduceAdd, reduceCtorEq, Int.reduceLE, Int.reduceLT, Int.reduceEq, Int.reduceNeg, Int.reduceToNat, Int.reducePow, Int.reduceMod, Int.reduceDiv, Int.reduceSub, Int.reduceAdd, Int.reduceMul, Nat.reduceMul, Nat.reduceSub, Nat.reducePow, exB, resC_ptr, res_cell, nilb, nilf, faddr_p, c_word_finite, h1, h2, c1]) | (simp (maxSteps := 1000000) (disch := first | with_reducible assumption | omega) only [dxB]) | (simp only [kI_d, kG_dt, kG_df]; split) | (simp only [kI_v, kG_vt, kG_vf]; split))

theorem or_fr {y k : Nat} (h : y < 2 ^ k) (hk : k < 63) : orI .u64 (y : Int) ((2 ^ k : Nat) : Int) = ((2 ^ k + y : Nat) : Int) := by
  have hp : (2 : Nat) ^ k < 2 ^ 64 := Nat.pow_lt_pow_right (by decide) (by omega)
  have e := or_add (c := y) (x := 1) (s := k) h
  rw [Nat.one_mul] at e
  rw [or64 (by omega) (by omega), e, Nat.add_comm]

theorem word_Value (hA : HasA g T) (hG : Glob G g) (hC : HasC g T) (hD : HasD g T) (hU : HasG g T) (F : Fm) {w : Nat} (hw : w < 2 * F.sg) :
    ∃ z k, run G T 194 [.int .u8 F.u, .int .u64 (w : Int)] = some (.tup [DyA z (F.vl w), .int .i64 k]) := by
  have h1 := word_finite (G := G) (T := T) hD hU F hw
  by_cases hf : F.fin w
  · rw [if_pos hf] at h1
    have h2 := word_split (G := G) (T := T) hU F hw
    have h3 := word_low (G := G) (T := T) hD F
    have hy : F.fc w < 2 ^ F.fr := Nat.mod_lt _ (Nat.two_pow_pos _)
    have hp : 2 ^ F.fr ≤ 4503599627370496 := by cases F <;> decide
    have hF := fm_facts F
    have hm : F.most ≤ 2047 := by cases F <;> decide
    have hvl : F.vl w = F.val w := if_pos hf
    rw [hvl]
    unfold Fm.fin at hf
    unfold Fm.val
    have hor := or_fr hy (by omega)
    generalize F.ex w = x at *
    generalize F.fc w = y at *
    generalize F.ng w = n at *
    have hb1 : blen y ≤ 53 := blen_le.2 (by omega)
    have hb2 : blen (2 ^ F.fr + y) ≤ 53 := blen_le.2 (by omega)
    have hmin : min F.fr 64 = F.fr := by omega
    have hp0 := Nat.two_pow_pos F.fr
    by_cases h0 : x = 0
    · subst h0
      obtain ⟨z1, o1⟩ := nat_Of (G := G) (T := T) hA (n := y) (by omega)
      obtain ⟨z2, o2⟩ := dyad_Make (G := G) (T := T) hA hG hC (n := n) (z := z1) (a := y) (e := F.low) (mayL_small (by omega)) (mk_rng (by omega) (by omega)) (by omega)
      have w1 : max (0 : Int) 1 = 1 := by decide
      have w2 : IntKind.i64.wrap (1 - 1) = 0 := rfl
      have w3 : IntKind.i64.wrap (0 + F.low) = F.low := by rw [Int.zero_add]; exact wrap_i64 (by omega)
      have w4 : IntKind.i64.wrap F.low = F.low := wrap_i64 (by omega)
      refine ⟨z2, 0, ?_⟩
      rw [if_pos rfl, run_k G T hU.word_Value]
      simp only [shA, fldA, cast0, DyA, A3] at *
      repeat' (first | (simp (maxSteps := 1000000) only [evB, if_true, if_false, ne_eq, Nat.reduceEqDiff, Nat.reduceAdd, reduceCtorEq, Int.reduceLE, Int.reduceLT, Int.reduceEq, Int.reduceNeg, Int.reduceToNat, Int.reducePow, Int.reduceMod, Int.reduceDiv, Int.reduceSub, Int.reduceAdd, Int.reduceMul, Nat.reduceMul, Nat.reduceSub, Nat.reducePow, exB, resC_ptr, res_cell, nilb, nilf, faddr_p, c_word_Value, h1, h2, h3, o1, w1, w2, w3, w4, mm_max2, o2, Int.zero_add]) | (simp (maxSteps := 1000000) (disch := first | with_reducible assumption | omega) only [dxB]) | (simp only [kI_d, kG_dt, kG_df]; split) | (simp only [kI_v, kG_vt, kG_vf]; split))
    · obtain ⟨z1, o1⟩ := nat_Of (G := G) (T := T) hA (n := 2 ^ F.fr + y) (by omega)
      obtain ⟨z2, o2⟩ := dyad_Make (G := G) (T := T) hA hG hC (n := n) (z := z1) (a := 2 ^ F.fr + y) (e := x - 1 + F.low) (mayL_small (by omega)) (mk_rng (by omega) (by omega)) (by omega)
      have c0 : (0 : Int) < (x : Int) := by omega
      have w1 : max (x : Int) 1 = x := by omega
      have w2 : IntKind.i64.wrap ((x : Int) - 1) = x - 1 := wrap_i64 (by omega)
      have w3 : IntKind.i64.wrap ((x : Int) - 1 + F.low) = x - 1 + F.low := wrap_i64 (by omega)
      have w5 : (1 * (2 : Int) ^ F.fr) % 18446744073709551616 = ((2 ^ F.fr : Nat) : Int) := by rw [pow_cast]; omega
      have w6 : ((2 : Int) ^ F.fr) % 18446744073709551616 = ((2 ^ F.fr : Nat) : Int) := by rw [pow_cast]; omega
      refine ⟨z2, 0, ?_⟩
      rw [if_neg h0, run_k G T hU.word_Value]
      simp only [shA, fldA, DyA, A3] at *
      repeat' (first | (simp (maxSteps := 1000000) only [evB, if_true, if_false, ne_eq, Nat.reduceEqDiff, Nat.reduceAdd, reduceCtorEq, Int.reduceLE, Int.reduceLT, Int.reduceEq, Int.reduceNeg, Int.reduceToNat, Int.reducePow, Int.reduceMod, Int.reduceDiv, Int.reduceSub, Int.reduceAdd, Int.reduceMul, Nat.reduceMul, Nat.reduceSub, Nat.reducePow, exB, resC_ptr, res_cell, nilb, nilf, faddr_p, c_word_Value, h1, h2, h3, c0, hmin, w5, w6, hor, o1, w1, w2, w3, mm_max2, o2]) | (simp (maxSteps := 1000000) (disch := first | with_reducible assumption | omega) only [dxB]) | (simp only [kI_d, kG_dt, kG_df]; split) | (simp only [kI_v, kG_vt, kG_vf]; split))
  · rw [if_neg hf] at h1
    refine ⟨true, 7, ?_⟩
    have hvl : F.vl w = ⟨false, 0, 0⟩ := if_neg hf
    rw [hvl, run_k G T hU.word_Value]
    simp only [shA, DyA, A3, dl_zero] at *
    repeat' (first | (simp (maxSteps := 1000000) only [evB, if_true, if_false, ne_eq, Nat.reduceEqDiff, Nat.reduceAdd, reduceCtorEq, Int.reduceLE, Int.reduceLT, Int.reduceEq, Int.reduceNeg, Int.reduceToNat, Int.reducePow, Int.reduceMod, Int.reduceDiv, Int.reduceSub, Int.reduceAdd, Int.reduceMul, Nat.reduceMul, Nat.reduceSub, Nat.reducePow, exB, resC_ptr, res_cell, nilb, nilf, faddr_p, c_word_Value, h1]) | (simp (maxSteps := 1000000) (disch := first | with_reducible assumption | omega) only [dxB]) | (simp only [kI_d, kG_dt, kG_df]; split) | (simp only [kI_v, kG_vt, kG_vf]; split))
    all_goals try rfl

theorem word_none (hU : HasG g T) (hD : HasD g T) (F : Fm) : run G T 204 [shA F] = some (.int .u64 (F.nan : Int)) := by
  rw [run_k G T hU.word_shape_none]
  have h := word_inf (G := G) hD F
  cases F <;> (
    simp only [shA, Fm.u, Fm.fr, Fm.sg, Fm.most, Fm.nan, Int.cast_ofNat_Int, Nat.reducePow, Nat.reduceMul, Nat.reduceSub, Nat.reduceAdd] at *
    repeat' (first | (simp (maxSteps := 1000000) only [evB, if_true, if_false, ne_eq, Nat.reduceEqDiff, Nat.reduceAdd, reduceCtorEq, Int.reduceLE, Int.reduceLT, Int.reduceEq, Int.reduceNeg, Int.reduceToNat, Int.reducePow, Int.reduceMod, Int.reduceDiv, Int.reduceSub, Int.reduceAdd, Int.reduceMul, Nat.reduceMul, Nat.reduceSub, Nat.reducePow, exB, resC_ptr, res_cell, nilb, nilf, faddr_p, c_word_shape_none, h, or_ns, or_nd]) | (simp (maxSteps := 1000000) (disch := first | with_reducible assumption | omega) only [dxB]) | (simp only [kI_d, kG_dt, kG_df]; split) | (simp only [kI_v, kG_vt, kG_vf]; split)))
theorem word_None (hU : HasG g T) (hD : HasD g T) (F : Fm) : run G T 196 [.int .u8 F.u] = some (.tup [.int .u64 (F.nan : Int), .int .i64 0]) := by
  rw [run_k G T hU.word_None]
  have h := word_named (G := G) hD F (n := false) (k := 204) (word_none hU hD F) (by cases F <;> decide)
  rw [show F.nan + F.sgn false = F.nan from rfl] at h
  repeat' (first | (simp (maxSteps := 1000000) only [evB, if_true, if_false, ne_eq, Nat.reduceEqDiff, Nat.reduceAdd, reduceCtorEq, Int.reduceLE, Int.reduceLT, Int.reduceEq, Int.reduceNeg, Int.reduceToNat, Int.reducePow, Int.reduceMod, Int.reduceDiv, Int.reduceSub, Int.reduceAdd, Int.reduceMul, Nat.reduceMul, Nat.reduceSub, Nat.reducePow, exB, resC_ptr, res_cell, nilb, nilf, faddr_p, c_word_None, h]) | (simp (maxSteps := 1000000) (disch := first | with_reducible assumption | omega) only [dxB]) | (simp only [kI_d, kG_dt, kG_df]; split) | (simp only [kI_v, kG_vt, kG_vf]; split))
end Go.Cv

/-
  The document's sums, products, quotients, roots of words.
-/
namespace Go.Cv
variable {G : Nat → Option (List AV)} {T : Tbl} {g : Nat}

theorem Nz_mul (a b : Dy) : Nz (mulD a b) := Nz_mk _ _ _
theorem Bd_mul {a b : Dy} {K : Nat} (ha : Bd a K) (hb : Bd b K) : Bd (mulD a b) (4 * K) := by
  obtain ⟨a1, a2, a3⟩ := ha
  obtain ⟨b1, b2, b3⟩ := hb
  have hb : blen (a.m * b.m) ≤ 2 * K := by
    refine blen_le.2 ?_
    rw [show 2 * K = K + K by omega, Nat.pow_add]
    exact Nat.mul_lt_mul_of_lt_of_lt (blen_le.1 a1) (blen_le.1 b1)
  exact Bd_mk (by omega) (by omega) (by omega)
theorem mayD_nzb {d : Dy} (h : Nz d) (b : Bd d 131072) : mayD d.n (dl d.m) d.e = true := by
  obtain ⟨b1, b2, b3⟩ := b
  have hm : mayL (dl d.m) = true := mayL_small b1
  simp only [mayD, hm, Bool.true_and]
  by_cases h0 : d.m = 0
  · rw [h.1 h0, dl_zero]; rfl
  · have h1 : ¬ (dl d.m).length = 0 := fun hc => h0 (dl_len0.1 hc)
    rw [if_neg h1, dg0]
    have h2 := h.2 h0
    simp only [Bool.and_eq_true, decide_eq_true_eq]
    exact ⟨h2, by omega, by omega⟩
theorem ref03_None (hD : HasD g T) (hT : HasF g T) (F : Fm) : run G T 157 [.int .u8 F.u] = some (.int .u64 (F.nan : Int)) := by
  rw [run_k G T hT.ref03_None]
  have h1 := ref03_Most (G := G) (T := T) hD F
  have h2 := ref03_Frac (G := G) (T := T) hD F
  cases F
  · have h4 := ref03_Join (G := G) (T := T) hD .s (n := false) (x := 255) (w := 4194304) (by decide) (Or.inl (by decide))
    simp only [fldA, Fm.u, Fm.fr, Fm.most, Fm.nan, Fm.inf, Fm.sgn, Fm.sg, Int.cast_ofNat_Int, Nat.reducePow, Nat.reduceMul, Nat.reduceSub, Nat.reduceAdd, Bool.false_eq_true, if_false] at *
    repeat' (first | (simp (maxSteps := 1000000) only [evB, if_true, if_false, ne_eq, Nat.reduceEqDiff, Nat.reduceAdd, reduceCtorEq, Int.reduceLE, Int.reduceLT, Int.reduceEq, Int.reduceNeg, Int.reduceToNat, Int.reducePow, Int.reduceMod, Int.reduceDiv, Int.reduceSub, Int.reduceAdd, Int.reduceMul, Nat.reduceMul, Nat.reduceSub, Nat.reducePow, exB, resC_ptr, res_cell, nilb, nilf, faddr_p, c_ref03_None, h1, h2, h4]) | (simp (maxSteps := 1000000) (disch := first | with_reducible assumption | omega) only [dxB]) | (simp only [kI_d, kG_dt, kG_df]; split) | (simp only [kI_v, kG_vt, kG_vf]; split))
  · have h4 := ref03_Join (G := G) (T := T) hD .d (n := false) (x := 2047) (w := 2251799813685248) (by decide) (Or.inl (by decide))
    simp only [fldA, Fm.u, Fm.fr, Fm.most, Fm.nan, Fm.inf, Fm.sgn, Fm.sg, Int.cast_ofNat_Int, Nat.reducePow, Nat.reduceMul, Nat.reduceSub, Nat.reduceAdd, Bool.false_eq_true, if_false] at *
    repeat' (first | (simp (maxSteps := 1000000) only [evB, if_true, if_false, ne_eq, Nat.reduceEqDiff, Nat.reduceAdd, reduceCtorEq, Int.reduceLE, Int.reduceLT, Int.reduceEq, Int.reduceNeg, Int.reduceToNat, Int.reducePow, Int.reduceMod, Int.reduceDiv, Int.reduceSub, Int.reduceAdd, Int.reduceMul, Nat.reduceMul, Nat.reduceSub, Nat.reducePow, exB, resC_ptr, res_cell, nilb, nilf, faddr_p, c_ref03_None, h1, h2, h4]) | (simp (maxSteps := 1000000) (disch := first | with_reducible assumption | omega) only [dxB]) | (simp only [kI_d, kG_dt, kG_df]; split) | (simp only [kI_v, kG_vt, kG_vf]; split))

theorem ref05_neg (hD : HasD g T) (hU : HasH g T) (F : Fm) {w : Nat} : run G T 233 [.int .u8 F.u, .int .u64 (w : Int)] = some (.bool (F.ng w)) := by
  rw [run_k G T hU.ref05_neg]
  have h1 := ref03_Sign (G := G) (T := T) hD F
  have h2 : decide ((F.sg : Int) ≤ (w : Int)) = F.ng w := by unfold Fm.ng; congr 1; apply propext; omega
  repeat' (first | (simp (maxSteps := 1000000) only [evB, if_true, if_false, ne_eq, Nat.reduceEqDiff, Nat.reduceAdd, reduceCtorEq, Int.reduceLE, Int.reduceLT, Int.reduceEq, Int.reduceNeg, Int.reduceToNat, Int.reducePow, Int.reduceMod, Int.reduceDiv, Int.reduceSub, Int.reduceAdd, Int.reduceMul, Nat.reduceMul, Nat.reduceSub, Nat.reducePow, exB, resC_ptr, res_cell, nilb, nilf, faddr_p, c_ref05_neg, h1, h2]) | (simp (maxSteps := 1000000) (disch := first | with_reducible assumption | omega) only [dxB]) | (simp only [kI_d, kG_dt, kG_df]; split) | (simp only [kI_v, kG_vt, kG_vf]; split))
theorem ref05_nan (hD : HasD g T) (hF : HasF g T) (hU : HasH g T) (F : Fm) {w : Nat} (hw : w < 2 * F.sg) : run G T 230 [.int .u8 F.u, .int .u64 (w : Int)] = some (.bool (decide (F.cls w = 5))) := by
  rw [run_k G T hU.ref05_nan]
  have h1 := ref03_Class (G := G) (T := T) hD hF F (sg_64 hw)
  repeat' (first | (simp (maxSteps := 1000000) only [evB, if_true, if_false, ne_eq, Nat.reduceEqDiff, Nat.reduceAdd, reduceCtorEq, Int.reduceLE, Int.reduceLT, Int.reduceEq, Int.reduceNeg, Int.reduceToNat, Int.reducePow, Int.reduceMod, Int.reduceDiv, Int.reduceSub, Int.reduceAdd, Int.reduceMul, Nat.reduceMul, Nat.reduceSub, Nat.reducePow, exB, resC_ptr, res_cell, nilb, nilf, faddr_p, c_ref05_nan, h1]) | (simp (maxSteps := 1000000) (disch := first | with_reducible assumption | omega) only [dxB]) | (simp only [kI_d, kG_dt, kG_df]; split) | (simp only [kI_v, kG_vt, kG_vf]; split))
theorem ref05_inf (hD : HasD g T) (hF : HasF g T) (hU : HasH g T) (F : Fm) {w : Nat} (hw : w < 2 * F.sg) : run G T 231 [.int .u8 F.u, .int .u64 (w : Int)] = some (.bool (decide (F.cls w = 4))) := by
  rw [run_k G T hU.ref05_inf]
  have h1 := ref03_Class (G := G) (T := T) hD hF F (sg_64 hw)
  repeat' (first | (simp (maxSteps := 1000000) only [evB, if_true, if_false, ne_eq, Nat.reduceEqDiff, Nat.reduceAdd, reduceCtorEq, Int.reduceLE, Int.reduceLT, Int.reduceEq, Int.reduceNeg, Int.reduceToNat, Int.reducePow, Int.reduceMod, Int.reduceDiv, Int.reduceSub, Int.reduceAdd, Int.reduceMul, Nat.reduceMul, Nat.reduceSub, Nat.reducePow, exB, resC_ptr, res_cell, nilb, nilf, faddr_p, c_ref05_inf, h1]) | (simp (maxSteps := 1000000) (disch := first | with_reducible assumption | omega) only [dxB]) | (simp only [kI_d, kG_dt, kG_df]; split) | (simp only [kI_v, kG_vt, kG_vf]; split))
theorem ref05_zero (hD : HasD g T) (hF : HasF g T) (hU : HasH g T) (F : Fm) {w : Nat} (hw : w < 2 * F.sg) : run G T 232 [.int .u8 F.u, .int .u64 (w : Int)] = some (.bool (decide (F.cls w = 1))) := by
  rw [run_k G T hU.ref05_zero]
  have h1 := ref03_Class (G := G) (T := T) hD hF F (sg_64 hw)
  repeat' (first | (simp (maxSteps := 1000000) only [evB, if_true, if_false, ne_eq, Nat.reduceEqDiff, Nat.reduceAdd, reduceCtorEq, Int.reduceLE, Int.reduceLT, Int.reduceEq, Int.reduceNeg, Int.reduceToNat, Int.reducePow, Int.reduceMod, Int.reduceDiv, Int.reduceSub, Int.reduceAdd, Int.reduceMul, Nat.reduceMul, Nat.reduceSub, Nat.reducePow, exB, resC_ptr, res_cell, nilb, nilf, faddr_p, c_ref05_zero, h1]) | (simp (maxSteps := 1000000) (disch := first | with_reducible assumption | omega) only [dxB]) | (simp only [kI_d, kG_dt, kG_df]; split) | (simp only [kI_v, kG_vt, kG_vf]; split))
theorem vl_val {F : Fm} {w : Nat} (h : F.fin w) : F.vl w = F.val w := if_pos h

end Go.Cv

/-
  The document's products, quotients, roots of words.
-/
namespace Go.Cv
variable {G : Nat → Option (List AV)} {T : Tbl} {g : Nat}

/-- What the document's small questions answer of a word. -/
structure KindR (G : Nat → Option (List AV)) (T : Tbl) (F : Fm) (w : Nat) (n i z : Bool) : Prop where
  nan : run G T 230 [.int .u8 F.u, .int .u64 (w : Int)] = some (.bool n)
  inf : run G T 231 [.int .u8 F.u, .int .u64 (w : Int)] = some (.bool i)
  zer : run G T 232 [.int .u8 F.u, .int .u64 (w : Int)] = some (.bool z)
theorem ref05_kind (hD : HasD g T) (hF : HasF g T) (hU : HasH g T) (F : Fm) {w : Nat} (hw : w < 2 * F.sg) :
    (F.cls w = 5 ∧ KindR G T F w true false false) ∨ (F.cls w = 4 ∧ KindR G T F w false true false) ∨ (F.cls w = 1 ∧ KindR G T F w false false true) ∨ ((F.fin w ∧ F.cls w ≠ 1 ∧ F.cls w ≠ 4 ∧ F.cls w ≠ 5) ∧ KindR G T F w false false false) := by
  have h1 := ref05_nan (G := G) (T := T) hD hF hU F hw
  have h2 := ref05_inf (G := G) (T := T) hD hF hU F hw
  have h3 := ref05_zero (G := G) (T := T) hD hF hU F hw
  have r := cls_range F w
  by_cases a : F.cls w = 5
  · left; rw [decide_eq_true a] at h1; rw [decide_eq_false (by omega)] at h2 h3; exact ⟨a, h1, h2, h3⟩
  · right
    by_cases b : F.cls w = 4
    · left; rw [decide_eq_true b] at h2; rw [decide_eq_false (by omega)] at h1 h3; exact ⟨b, h1, h2, h3⟩
    · right
      by_cases c : F.cls w = 1
      · left; rw [decide_eq_true c] at h3; rw [decide_eq_false (by omega)] at h1 h2; exact ⟨c, h1, h2, h3⟩
      · right; rw [decide_eq_false (by omega)] at h1 h2 h3; exact ⟨⟨fin_iff.2 (by omega), c, b, a⟩, h1, h2, h3⟩

set_option maxHeartbeats 16000000 in
theorem ref05_Mul (hA : HasA g T) (hB : HasB g T) (hC : HasC g T) (hD : HasD g T) (hE : HasE g T) (hF : HasF g T) (hU : HasH g T) (F : Fm) {md : Int} (hm : 1 ≤ md ∧ md ≤ 5) {a b : Nat} (ha : a < 2 * F.sg) (hb : b < 2 * F.sg) :
    run G T 222 [.int .u8 F.u, .int .u8 md, .int .u64 (a : Int), .int .u64 (b : Int)] = some (.tup [.int .u64 ((mulW2 F md a b).1 : Int), .int .u8 ((mulW2 F md a b).2 : Int)]) := by
  rw [run_k G T hU.ref05_Mul]
  have nn := ref03_None (G := G) (T := T) hD hF F
  have ga := ref05_neg (G := G) (T := T) hD hU F (w := a)
  have gb := ref05_neg (G := G) (T := T) hD hU F (w := b)
  have inf := ref03_Inf (G := G) (T := T) hD F (n := F.ng a != F.ng b)
  have sg := ref03_Signed (G := G) (T := T) hD F (n := F.ng a != F.ng b) (w := 0)
  rw [Nat.zero_mod, Nat.zero_add, cast0] at sg
  unfold mulW2 mulP
  rcases ref05_kind (G := G) (T := T) hD hF hU F ha with ⟨ka, na, ia, za⟩ | ⟨ka, na, ia, za⟩ | ⟨ka, na, ia, za⟩ | ⟨⟨fa, ka, ka2, ka3⟩, na, ia, za⟩
  · rw [if_pos (Or.inl ka)]
    repeat' (first | (simp (maxSteps := 1000000) only [evB, if_true, if_false, ne_eq, Nat.reduceEqDiff, Nat.reduceAdd, reduceCtorEq, Int.reduceLE, Int.reduceLT, Int.reduceEq, Int.reduceNeg, Int.reduceToNat, Int.reducePow, Int.reduceMod, Int.reduceDiv, Int.reduceSub, Int.reduceAdd, Int.reduceMul, Nat.reduceMul, Nat.reduceSub, Nat.reducePow, exB, resC_ptr, res_cell, nilb, nilf, faddr_p, c_ref05_Mul, na, nn]) | (simp (maxSteps := 1000000) (disch := first | with_reducible assumption | omega) only [dxB]) | (simp only [kI_d, kG_dt, kG_df]; split) | (simp only [kI_v, kG_vt, kG_vf]; split))
    all_goals rfl
  all_goals rcases ref05_kind (G := G) (T := T) hD hF hU F hb with ⟨kb, nb, ib, zb⟩ | ⟨kb, nb, ib, zb⟩ | ⟨kb, nb, ib, zb⟩ | ⟨⟨fb, kb, kb2, kb3⟩, nb, ib, zb⟩
  all_goals try (
    rw [if_pos (Or.inr kb)]
    repeat' (first | (simp (maxSteps := 1000000) only [evB, if_true, if_false, ne_eq, Nat.reduceEqDiff, Nat.reduceAdd, reduceCtorEq, Int.reduceLE, Int.reduceLT, Int.reduceEq, Int.reduceNeg, Int.reduceToNat, Int.reducePow, Int.reduceMod, Int.reduceDiv, Int.reduceSub, Int.reduceAdd, Int.reduceMul, Nat.reduceMul, Nat.reduceSub, Nat.reducePow, exB, resC_ptr, res_cell, nilb, nilf, faddr_p, c_ref05_Mul, na, nb, nn]) | (simp (maxSteps := 1000000) (disch := first | with_reducible assumption | omega) only [dxB]) | (simp only [kI_d, kG_dt, kG_df]; split) | (simp only [kI_v, kG_vt, kG_vf]; split))
    all_goals rfl
    done)
  all_goals rw [if_neg (by omega)]
  all_goals try (
    rw [if_pos (by omega)]
    repeat' (first | (simp (maxSteps := 1000000) only [evB, if_true, if_false, ne_eq, Nat.reduceEqDiff, Nat.reduceAdd, reduceCtorEq, Int.reduceLE, Int.reduceLT, Int.reduceEq, Int.reduceNeg, Int.reduceToNat, Int.reducePow, Int.reduceMod, Int.reduceDiv, Int.reduceSub, Int.reduceAdd, Int.reduceMul, Nat.reduceMul, Nat.reduceSub, Nat.reducePow, exB, resC_ptr, res_cell, nilb, nilf, faddr_p, c_ref05_Mul, na, nb, ia, za, ib, zb, nn]) | (simp (maxSteps := 1000000) (disch := first | with_reducible assumption | omega) only [dxB]) | (simp only [kI_d, kG_dt, kG_df]; split) | (simp only [kI_v, kG_vt, kG_vf]; split))
    all_goals rfl
    done)
  all_goals try rw [if_neg (show ¬ ((F.cls a = 4 ∨ F.cls b = 4) ∧ (F.cls a = 1 ∨ F.cls b = 1)) by omega)]
  all_goals try (
    rw [if_pos (show F.cls a = 4 ∨ F.cls b = 4 by omega)]
    generalize F.ng a = x at *
    generalize F.ng b = y at *
    cases x <;> cases y <;> (
      simp only [bne_self_eq_false, Bool.false_bne, Bool.true_bne, Bool.not_true, Bool.not_false, Bool.bne_true, Bool.bne_false] at inf ⊢
      repeat' (first | (simp (maxSteps := 1000000) only [evB, if_true, if_false, ne_eq, Nat.reduceEqDiff, Nat.reduceAdd, reduceCtorEq, Int.reduceLE, Int.reduceLT, Int.reduceEq, Int.reduceNeg, Int.reduceToNat, Int.reducePow, Int.reduceMod, Int.reduceDiv, Int.reduceSub, Int.reduceAdd, Int.reduceMul, Nat.reduceMul, Nat.reduceSub, Nat.reducePow, exB, resC_ptr, res_cell, nilb, nilf, faddr_p, c_ref05_Mul, na, nb, ia, za, ib, zb, ga, gb, inf]) | (simp (maxSteps := 1000000) (disch := first | with_reducible assumption | omega) only [dxB]) | (simp only [kI_d, kG_dt, kG_df]; split) | (simp only [kI_v, kG_vt, kG_vf]; split))
      all_goals rfl)
    done)
  all_goals try rw [if_neg (show ¬ (F.cls a = 4 ∨ F.cls b = 4) by omega)]
  all_goals try (
    rw [if_pos (show F.cls a = 1 ∨ F.cls b = 1 by omega)]
    generalize F.ng a = x at *
    generalize F.ng b = y at *
    cases x <;> cases y <;> (
      simp only [bne_self_eq_false, Bool.false_bne, Bool.true_bne, Bool.not_true, Bool.not_false, Bool.bne_true, Bool.bne_false] at sg ⊢
      repeat' (first | (simp (maxSteps := 1000000) only [evB, if_true, if_false, ne_eq, Nat.reduceEqDiff, Nat.reduceAdd, reduceCtorEq, Int.reduceLE, Int.reduceLT, Int.reduceEq, Int.reduceNeg, Int.reduceToNat, Int.reducePow, Int.reduceMod, Int.reduceDiv, Int.reduceSub, Int.reduceAdd, Int.reduceMul, Nat.reduceMul, Nat.reduceSub, Nat.reducePow, exB, resC_ptr, res_cell, nilb, nilf, faddr_p, c_ref05_Mul, na, nb, ia, za, ib, zb, ga, gb, sg]) | (simp (maxSteps := 1000000) (disch := first | with_reducible assumption | omega) only [dxB]) | (simp only [kI_d, kG_dt, kG_df]; split) | (simp only [kI_v, kG_vt, kG_vf]; split))
      all_goals rfl)
    done)
  rw [if_neg (show ¬ (F.cls a = 1 ∨ F.cls b = 1) by omega)]
  obtain ⟨z1, v1⟩ := ref03_Value (G := G) (T := T) hA hB hC hD hF F (sg_64 ha) fa
  obtain ⟨z2, v2⟩ := ref03_Value (G := G) (T := T) hA hB hC hD hF F (sg_64 hb) fb
  have m1 := val_cls ha ka fa
  have m2 := val_cls hb kb fb
  rw [← vl_val fa] at v1 m1
  rw [← vl_val fb] at v2 m2
  have b1 := Bd_vl F a
  have b2 := Bd_vl F b
  obtain ⟨p1, p2, p3⟩ := b1
  obtain ⟨q1, q2, q3⟩ := b2
  have hl1 := dl_len_blen (F.vl a).m
  have hl2 := dl_len_blen (F.vl b).m
  obtain ⟨z3, s1⟩ := ref02_Mul (G := G) (T := T) hB hC hF (z := z1) (y := z2) (a := F.vl a) (b := F.vl b) (by omega) (by omega) (by omega) (by omega)
  have r1 := ref04_Round (G := G) (T := T) hB hC hD hE F hm (z := z3) (Nz_mul (F.vl a) (F.vl b)) ((Bd_mul (Bd_vl F a) (Bd_vl F b)).mono (by decide))
  have hne : (F.vl a).m * (F.vl b).m ≠ 0 := by
    intro hc
    rcases Nat.mul_eq_zero.1 hc with h | h
    · exact m1 h
    · exact m2 h
  have hm0 : (mulD (F.vl a) (F.vl b)).m ≠ 0 := mkD_m0 hne _
  unfold sumW
  rw [if_neg hm0]
  rw [show mkD ((F.vl a).n != (F.vl b).n) ((F.vl a).m * (F.vl b).m) ((F.vl a).e + (F.vl b).e) = mulD (F.vl a) (F.vl b) from rfl] at s1
  generalize rndW F md (mulD (F.vl a) (F.vl b)) = S at *
  generalize mulD (F.vl a) (F.vl b) = s at *
  clear p1 p2 p3 q1 q2 q3 hl1 hl2 m1 m2 hne hm0
  generalize F.vl a = va at *
  generalize F.vl b = vb at *
  simp only [DyA, A3] at *
  repeat' (first | (simp (maxSteps := 1000000) only [evB, if_true, if_false, ne_eq, Nat.reduceEqDiff, Nat.reduceAdd, reduceCtorEq, Int.reduceLE, Int.reduceLT, Int.reduceEq, Int.reduceNeg, Int.reduceToNat, Int.reducePow, Int.reduceMod, Int.reduceDiv, Int.reduceSub, Int.reduceAdd, Int.reduceMul, Nat.reduceMul, Nat.reduceSub, Nat.reducePow, exB, resC_ptr, res_cell, nilb, nilf, faddr_p, c_ref05_Mul, na, nb, ia, za, ib, zb, ga, gb, v1, v2, s1, r1]) | (simp (maxSteps := 1000000) (disch := first | with_reducible assumption | omega) only [dxB]) | (simp only [kI_d, kG_dt, kG_df]; split) | (simp only [kI_v, kG_vt, kG_vf]; split))
  all_goals try rfl

set_option maxHeartbeats 16000000 in
theorem ref05_Div (hA : HasA g T) (hB : HasB g T) (hC : HasC g T) (hD : HasD g T) (hE : HasE g T) (hF : HasF g T) (hU : HasH g T) (F : Fm) {md : Int} (hm : 1 ≤ md ∧ md ≤ 5) {a b : Nat} (ha : a < 2 * F.sg) (hb : b < 2 * F.sg) :
    run G T 223 [.int .u8 F.u, .int .u8 md, .int .u64 (a : Int), .int .u64 (b : Int)] = some (.tup [.int .u64 ((divW2 F md a b).1 : Int), .int .u8 ((divW2 F md a b).2 : Int)]) := by
  rw [run_k G T hU.ref05_Div]
  have nn := ref03_None (G := G) (T := T) hD hF F
  have ga := ref05_neg (G := G) (T := T) hD hU F (w := a)
  have gb := ref05_neg (G := G) (T := T) hD hU F (w := b)
  have inf := ref03_Inf (G := G) (T := T) hD F (n := F.ng a != F.ng b)
  have sg := ref03_Signed (G := G) (T := T) hD F (n := F.ng a != F.ng b) (w := 0)
  rw [Nat.zero_mod, Nat.zero_add, cast0] at sg
  unfold divW2 divP
  rcases ref05_kind (G := G) (T := T) hD hF hU F ha with ⟨ka, na, ia, za⟩ | ⟨ka, na, ia, za⟩ | ⟨ka, na, ia, za⟩ | ⟨⟨fa, ka, ka2, ka3⟩, na, ia, za⟩
  · rw [if_pos (Or.inl ka)]
    repeat' (first | (simp (maxSteps := 1000000) only [evB, if_true, if_false, ne_eq, Nat.reduceEqDiff, Nat.reduceAdd, reduceCtorEq, Int.reduceLE, Int.reduceLT, Int.reduceEq, Int.reduceNeg, Int.reduceToNat, Int.reducePow, Int.reduceMod, Int.reduceDiv, Int.reduceSub, Int.reduceAdd, Int.reduceMul, Nat.reduceMul, Nat.reduceSub, Nat.reducePow, exB, resC_ptr, res_cell, nilb, nilf, faddr_p, c_ref05_Div, na, nn]) | (simp (maxSteps := 1000000) (disch := first | with_reducible assumption | omega) only [dxB]) | (simp only [kI_d, kG_dt, kG_df]; split) | (simp only [kI_v, kG_vt, kG_vf]; split))
    all_goals rfl
  all_goals rcases ref05_kind (G := G) (T := T) hD hF hU F hb with ⟨kb, nb, ib, zb⟩ | ⟨kb, nb, ib, zb⟩ | ⟨kb, nb, ib, zb⟩ | ⟨⟨fb, kb, kb2, kb3⟩, nb, ib, zb⟩
  all_goals try (
    rw [if_pos (Or.inr kb)]
    repeat' (first | (simp (maxSteps := 1000000) only [evB, if_true, if_false, ne_eq, Nat.reduceEqDiff, Nat.reduceAdd, reduceCtorEq, Int.reduceLE, Int.reduceLT, Int.reduceEq, Int.reduceNeg, Int.reduceToNat, Int.reducePow, Int.reduceMod, Int.reduceDiv, Int.reduceSub, Int.reduceAdd, Int.reduceMul, Nat.reduceMul, Nat.reduceSub, Nat.reducePow, exB, resC_ptr, res_cell, nilb, nilf, faddr_p, c_ref05_Div, na, nb, nn]) | (simp (maxSteps := 1000000) (disch := first | with_reducible assumption | omega) only [dxB]) | (simp only [kI_d, kG_dt, kG_df]; split) | (simp only [kI_v, kG_vt, kG_vf]; split))
    all_goals rfl
    done)
  all_goals rw [if_neg (by omega)]
  all_goals try (
    rw [if_pos (by omega)]
    repeat' (first | (simp (maxSteps := 1000000) only [evB, if_true, if_false, ne_eq, Nat.reduceEqDiff, Nat.reduceAdd, reduceCtorEq, Int.reduceLE, Int.reduceLT, Int.reduceEq, Int.reduceNeg, Int.reduceToNat, Int.reducePow, Int.reduceMod, Int.reduceDiv, Int.reduceSub, Int.reduceAdd, Int.reduceMul, Nat.reduceMul, Nat.reduceSub, Nat.reducePow, exB, resC_ptr, res_cell, nilb, nilf, faddr_p, c_ref05_Div, na, nb, ia, za, ib, zb, nn]) | (simp (maxSteps := 1000000) (disch := first | with_reducible assumption | omega) only [dxB]) | (simp only [kI_d, kG_dt, kG_df]; split) | (simp only [kI_v, kG_vt, kG_vf]; split))
    all_goals rfl
    done)
  all_goals try rw [if_neg (show ¬ (F.cls a = F.cls b ∧ (F.cls a = 1 ∨ F.cls a = 4)) by omega)]
  all_goals try (
    rw [if_pos (show F.cls a = 4 by omega)]
    generalize F.ng a = x at *
    generalize F.ng b = y at *
    cases x <;> cases y <;> (
      simp only [bne_self_eq_false, Bool.false_bne, Bool.true_bne, Bool.not_true, Bool.not_false, Bool.bne_true, Bool.bne_false] at inf ⊢
      repeat' (first | (simp (maxSteps := 1000000) only [evB, if_true, if_false, ne_eq, Nat.reduceEqDiff, Nat.reduceAdd, reduceCtorEq, Int.reduceLE, Int.reduceLT, Int.reduceEq, Int.reduceNeg, Int.reduceToNat, Int.reducePow, Int.reduceMod, Int.reduceDiv, Int.reduceSub, Int.reduceAdd, Int.reduceMul, Nat.reduceMul, Nat.reduceSub, Nat.reducePow, exB, resC_ptr, res_cell, nilb, nilf, faddr_p, c_ref05_Div, na, nb, ia, za, ib, zb, ga, gb, inf]) | (simp (maxSteps := 1000000) (disch := first | with_reducible assumption | omega) only [dxB]) | (simp only [kI_d, kG_dt, kG_df]; split) | (simp only [kI_v, kG_vt, kG_vf]; split))
      all_goals rfl)
    done)
  all_goals try rw [if_neg (show ¬ (F.cls a = 4) by omega)]
  all_goals try (
    rw [if_pos (show F.cls b = 1 by omega)]
    generalize F.ng a = x at *
    generalize F.ng b = y at *
    cases x <;> cases y <;> (
      simp only [bne_self_eq_false, Bool.false_bne, Bool.true_bne, Bool.not_true, Bool.not_false, Bool.bne_true, Bool.bne_false] at inf ⊢
      repeat' (first | (simp (maxSteps := 1000000) only [evB, if_true, if_false, ne_eq, Nat.reduceEqDiff, Nat.reduceAdd, reduceCtorEq, Int.reduceLE, Int.reduceLT, Int.reduceEq, Int.reduceNeg, Int.reduceToNat, Int.reducePow, Int.reduceMod, Int.reduceDiv, Int.reduceSub, Int.reduceAdd, Int.reduceMul, Nat.reduceMul, Nat.reduceSub, Nat.reducePow, exB, resC_ptr, res_cell, nilb, nilf, faddr_p, c_ref05_Div, na, nb, ia, za, ib, zb, ga, gb, inf]) | (simp (maxSteps := 1000000) (disch := first | with_reducible assumption | omega) only [dxB]) | (simp only [kI_d, kG_dt, kG_df]; split) | (simp only [kI_v, kG_vt, kG_vf]; split))
      all_goals rfl)
    done)
  all_goals try rw [if_neg (show ¬ (F.cls b = 1) by omega)]
  all_goals try (
    rw [if_pos (show F.cls a = 1 ∨ F.cls b = 4 by omega)]
    generalize F.ng a = x at *
    generalize F.ng b = y at *
    cases x <;> cases y <;> (
      simp only [bne_self_eq_false, Bool.false_bne, Bool.true_bne, Bool.not_true, Bool.not_false, Bool.bne_true, Bool.bne_false] at sg ⊢
      repeat' (first | (simp (maxSteps := 1000000) only [evB, if_true, if_false, ne_eq, Nat.reduceEqDiff, Nat.reduceAdd, reduceCtorEq, Int.reduceLE, Int.reduceLT, Int.reduceEq, Int.reduceNeg, Int.reduceToNat, Int.reducePow, Int.reduceMod, Int.reduceDiv, Int.reduceSub, Int.reduceAdd, Int.reduceMul, Nat.reduceMul, Nat.reduceSub, Nat.reducePow, exB, resC_ptr, res_cell, nilb, nilf, faddr_p, c_ref05_Div, na, nb, ia, za, ib, zb, ga, gb, sg]) | (simp (maxSteps := 1000000) (disch := first | with_reducible assumption | omega) only [dxB]) | (simp only [kI_d, kG_dt, kG_df]; split) | (simp only [kI_v, kG_vt, kG_vf]; split))
      all_goals rfl)
    done)
  rw [if_neg (show ¬ (F.cls a = 1 ∨ F.cls b = 4) by omega)]
  obtain ⟨z1, v1⟩ := ref03_Value (G := G) (T := T) hA hB hC hD hF F (sg_64 ha) fa
  obtain ⟨z2, v2⟩ := ref03_Value (G := G) (T := T) hA hB hC hD hF F (sg_64 hb) fb
  have m1 := val_cls ha ka fa
  have m2 := val_cls hb kb fb
  rw [← vl_val fa] at v1 m1
  rw [← vl_val fb] at v2 m2
  have p1 := (Bd_vl F a).bl
  have q1 := (Bd_vl F b).bl
  have r1 := ref04_Quo (G := G) (T := T) hB hC hD hE F hm (z := z1) (y := z2) m1 m2 ((Bd_vl F a).mono (by decide)) ((Bd_vl F b).mono (by decide)) (by omega) (by omega)
  generalize quoW F md (F.vl a) (F.vl b) = S at *
  clear p1 q1 m1 m2
  generalize F.vl a = va at *
  generalize F.vl b = vb at *
  simp only [DyA, A3] at *
  repeat' (first | (simp (maxSteps := 1000000) only [evB, if_true, if_false, ne_eq, Nat.reduceEqDiff, Nat.reduceAdd, reduceCtorEq, Int.reduceLE, Int.reduceLT, Int.reduceEq, Int.reduceNeg, Int.reduceToNat, Int.reducePow, Int.reduceMod, Int.reduceDiv, Int.reduceSub, Int.reduceAdd, Int.reduceMul, Nat.reduceMul, Nat.reduceSub, Nat.reducePow, exB, resC_ptr, res_cell, nilb, nilf, faddr_p, c_ref05_Div, na, nb, ia, za, ib, zb, ga, gb, v1, v2, r1]) | (simp (maxSteps := 1000000) (disch := first | with_reducible assumption | omega) only [dxB]) | (simp only [kI_d, kG_dt, kG_df]; split) | (simp only [kI_v, kG_vt, kG_vf]; split))
  all_goals try rfl

end Go.Cv

/-
  The program's words, taken apart for a sum, a product, a quotient.
-/
namespace Go.Cv
variable {G : Nat → Option (List AV)} {T : Tbl} {g : Nat}

def apB (bs : List Blk) (f : List Nat) (b n : Nat) (o : Option Blk) (w : Option (List AV)) : Option (AV × Heap) :=
  match w with
  | some nw => match o with
    | some k => if k.dead = false ∧ f.contains b = false ∧ n * 5 ≤ k.cs.length ∧ (n + 1) * 49 ≤ boundBytes then some (.own bs.length 0 (n + 1) 5, ⟨bs.set b ⟨k.cs, true⟩ ++ [⟨k.cs.take (n * 5) ++ nw, false⟩], f⟩) else none
    | none => none
  | none => none
theorem ap_x (bs : List Blk) (f : List Nat) (b n c : Nat) : appV ⟨bs, f⟩ 5 48 (.own b 0 n 5) (.own c 0 1 5) = apB bs f b n (bs[b]?) (subB (bs[c]?) 0 5) := by
  have h1 := rdBlk_x bs f c 0 5
  simp only [appV, sliceCells, if_true, Nat.one_mul, h1]
  cases subB (bs[c]?) 0 5 with
  | none => rfl
  | some nw =>
    simp only [Option.map_some, apB]
    cases bs[b]? with
    | none => rfl
    | some k => simp
theorem ap_0 (bs : List Blk) (b : Nat) (cs nw : List AV) : apB bs [] b 0 (some ⟨cs, false⟩) (some nw) = some (.own bs.length 0 1 5, ⟨bs.set b ⟨cs, true⟩ ++ [⟨nw, false⟩], []⟩) := by
  simp [apB, boundBytes]
theorem ap_1 (bs : List Blk) (b : Nat) (x1 x2 x3 x4 x5 : AV) (nw : List AV) : apB bs [] b 1 (some ⟨[x1, x2, x3, x4, x5], false⟩) (some nw) = some (.own bs.length 0 2 5, ⟨bs.set b ⟨[x1, x2, x3, x4, x5], true⟩ ++ [⟨x1 :: x2 :: x3 :: x4 :: x5 :: nw, false⟩], []⟩) := by
  simp [apB, boundBytes]
theorem ap_2 (bs : List Blk) (b : Nat) (x1 x2 x3 x4 x5 y1 y2 y3 y4 y5 : AV) (nw : List AV) : apB bs [] b 2 (some ⟨[x1, x2, x3, x4, x5, y1, y2, y3, y4, y5], false⟩) (some nw) = some (.own bs.length 0 3 5, ⟨bs.set b ⟨[x1, x2, x3, x4, x5, y1, y2, y3, y4, y5], true⟩ ++ [⟨x1 :: x2 :: x3 :: x4 :: x5 :: y1 :: y2 :: y3 :: y4 :: y5 :: nw, false⟩], []⟩) := by
  simp [apB, boundBytes]
theorem st_bs5 (F : CallF) (d : Option Nat) (os : List IOper) (e : Env) (h : Heap) (n : Nat) (zero : List AV) (ps : List (Nat × Nat × IOpd)) : evOps G F (⟨d, .bslice n 5 zero ps, none⟩ :: os) e h =
    kBs G F (fillA (repA n zero) (ps.map fun (o, n, x) => (o, n, opd e x))) (.own h.b.length 0 n 5) d os e h := st_bslice G F d os e h n 5 zero ps
theorem so_loop (e : Env) (h : Heap) : evL G T c_soft_open_l1 e h = kS G T (evL G T c_soft_open_b1 (keepE [0, 10, 31, 32, 33] e) h) c_soft_open_l1 := s_loopc G T rfl e h
theorem iw20 (x y : AV) (k : IntKind) : iaddrV 1 (.imm 2 [x, y]) (.int k 0) = some (.iptr [x, y] 0) := rfl
theorem iw21 (x y : AV) (k : IntKind) : iaddrV 1 (.imm 2 [x, y]) (.int k 1) = some (.iptr [x, y] 1) := rfl
theorem iw30 (x y z : AV) (k : IntKind) : iaddrV 1 (.imm 3 [x, y, z]) (.int k 0) = some (.iptr [x, y, z] 0) := rfl
theorem iw31 (x y z : AV) (k : IntKind) : iaddrV 1 (.imm 3 [x, y, z]) (.int k 1) = some (.iptr [x, y, z] 1) := rfl
theorem iw32 (x y z : AV) (k : IntKind) : iaddrV 1 (.imm 3 [x, y, z]) (.int k 2) = some (.iptr [x, y, z] 2) := rfl
theorem rp_0 (h : Mem) (x : AV) (l : List AV) : rdAt G h 1 (.iptr (x :: l) 0) = some [x] := by simp [rdAt]
theorem rp_1 (h : Mem) (x y : AV) (l : List AV) : rdAt G h 1 (.iptr (x :: y :: l) 1) = some [y] := by simp [rdAt]
theorem rp_2 (h : Mem) (x y z : AV) (l : List AV) : rdAt G h 1 (.iptr (x :: y :: z :: l) 2) = some [z] := by simp [rdAt]
theorem repA_3 (z : List AV) : repA 3 z = z ++ (z ++ z) := by simp [repA]
theorem wr_1 : IntKind.i64.wrap (0 + 1) = 1 := rfl
theorem wr_2 : IntKind.i64.wrap (1 + 1) = 2 := rfl
theorem wr_3 : IntKind.i64.wrap (2 + 1) = 3 := rfl
theorem wr1 : IntKind.i64.wrap 1 = 1 := rfl
theorem wr2 : IntKind.i64.wrap 2 = 2 := rfl
theorem wr3 : IntKind.i64.wrap 3 = 3 := rfl

/-- A part: class, sign, value. -/
def ptC (F : Fm) (w : Nat) (z : Bool) : List AV := [.int .u8 (F.cls w), .bool (F.ng w), .bool (F.vl w).n, D z (dl (F.vl w).m), .int .i64 (F.vl w).e]

set_option maxHeartbeats 8000000 in
theorem soft_open2 (hA : HasA g T) (hG : Glob G g) (hC : HasC g T) (hD : HasD g T) (hE : HasE g T) (hU : HasG g T) (F : Fm) {md : Int} (hm : 1 ≤ md ∧ md ≤ 5) {a : Nat} {b : Nat} (ha : a < 2 * F.sg) (hb : b < 2 * F.sg) :
    ∃ z1 z2, run G T 176 [.int .u8 F.u, .int .u8 md, .imm 2 [.int .u64 (a : Int), .int .u64 (b : Int)]] = some (.tup [.imm 2 (ptC F a z1 ++ ptC F b z2), .int .i64 0]) := by
  have o1 := round_Over (G := G) (T := T) hD hE F hm (neg := false)
  have s1 := word_Split (G := G) (T := T) hD hU F ha
  have c1 := word_Class (G := G) (T := T) hD hU F ha
  obtain ⟨z1, k1, v1⟩ := word_Value (G := G) (T := T) hA hG hC hD hU F ha
  have s2 := word_Split (G := G) (T := T) hD hU F hb
  have c2 := word_Class (G := G) (T := T) hD hU F hb
  obtain ⟨z2, k2, v2⟩ := word_Value (G := G) (T := T) hA hG hC hD hU F hb
  refine ⟨z1, z2, ?_⟩
  rw [run_k G T hU.soft_open]
  unfold ptC
  generalize F.cls a = ca' at *
  generalize F.ng a = na' at *
  generalize F.ex a = xa' at *
  generalize F.fc a = ya' at *
  generalize F.vl a = va' at *
  generalize F.cls b = cb' at *
  generalize F.ng b = nb' at *
  generalize F.ex b = xb' at *
  generalize F.fc b = yb' at *
  generalize F.vl b = vb' at *
  simp only [fldA, DyA, A3, List.cons_append, List.nil_append] at *
  repeat' (first | (simp (maxSteps := 1000000) only [evB, if_true, if_false, ne_eq, Nat.reduceEqDiff, Nat.reduceAdd, reduceCtorEq, Int.reduceLE, Int.reduceLT, Int.reduceEq, Int.reduceNeg, Int.reduceToNat, Int.reducePow, Int.reduceMod, Int.reduceDiv, Int.reduceSub, Int.reduceAdd, Int.reduceMul, Nat.reduceMul, Nat.reduceSub, Nat.reducePow, exB, resC_ptr, res_cell, nilb, nilf, faddr_p, c_soft_open, st_bs5, o1, s1, c1, v1, s2, c2, v2, so_loop, c_soft_open_b1, iw20, iw21, rp_0, rp_1, ap_0, ap_1, wr_1, wr1, wr_2, wr2, repA_2, ap_x, List.set_cons_zero, List.set_cons_succ, List.cons_append, List.nil_append ]) | (simp (maxSteps := 1000000) (disch := first | with_reducible assumption | omega) only [dxB,  kM_int]) | (simp only [kI_d, kG_dt, kG_df]; split) | (simp only [kI_v, kG_vt, kG_vf]; split))
set_option maxHeartbeats 8000000 in
theorem soft_open3 (hA : HasA g T) (hG : Glob G g) (hC : HasC g T) (hD : HasD g T) (hE : HasE g T) (hU : HasG g T) (F : Fm) {md : Int} (hm : 1 ≤ md ∧ md ≤ 5) {a : Nat} {b : Nat} {c : Nat} (ha : a < 2 * F.sg) (hb : b < 2 * F.sg) (hc : c < 2 * F.sg) :
    ∃ z1 z2 z3, run G T 176 [.int .u8 F.u, .int .u8 md, .imm 3 [.int .u64 (a : Int), .int .u64 (b : Int), .int .u64 (c : Int)]] = some (.tup [.imm 3 (ptC F a z1 ++ ptC F b z2 ++ ptC F c z3), .int .i64 0]) := by
  have o1 := round_Over (G := G) (T := T) hD hE F hm (neg := false)
  have s1 := word_Split (G := G) (T := T) hD hU F ha
  have c1 := word_Class (G := G) (T := T) hD hU F ha
  obtain ⟨z1, k1, v1⟩ := word_Value (G := G) (T := T) hA hG hC hD hU F ha
  have s2 := word_Split (G := G) (T := T) hD hU F hb
  have c2 := word_Class (G := G) (T := T) hD hU F hb
  obtain ⟨z2, k2, v2⟩ := word_Value (G := G) (T := T) hA hG hC hD hU F hb
  have s3 := word_Split (G := G) (T := T) hD hU F hc
  have c3 := word_Class (G := G) (T := T) hD hU F hc
  obtain ⟨z3, k3, v3⟩ := word_Value (G := G) (T := T) hA hG hC hD hU F hc
  refine ⟨z1, z2, z3, ?_⟩
  rw [run_k G T hU.soft_open]
  unfold ptC
  generalize F.cls a = ca' at *
  generalize F.ng a = na' at *
  generalize F.ex a = xa' at *
  generalize F.fc a = ya' at *
  generalize F.vl a = va' at *
  generalize F.cls b = cb' at *
  generalize F.ng b = nb' at *
  generalize F.ex b = xb' at *
  generalize F.fc b = yb' at *
  generalize F.vl b = vb' at *
  generalize F.cls c = cc' at *
  generalize F.ng c = nc' at *
  generalize F.ex c = xc' at *
  generalize F.fc c = yc' at *
  generalize F.vl c = vc' at *
  simp only [fldA, DyA, A3, List.cons_append, List.nil_append] at *
  repeat' (first | (simp (maxSteps := 1000000) only [evB, if_true, if_false, ne_eq, Nat.reduceEqDiff, Nat.reduceAdd, reduceCtorEq, Int.reduceLE, Int.reduceLT, Int.reduceEq, Int.reduceNeg, Int.reduceToNat, Int.reducePow, Int.reduceMod, Int.reduceDiv, Int.reduceSub, Int.reduceAdd, Int.reduceMul, Nat.reduceMul, Nat.reduceSub, Nat.reducePow, exB, resC_ptr, res_cell, nilb, nilf, faddr_p, c_soft_open, st_bs5, o1, s1, c1, v1, s2, c2, v2, s3, c3, v3, so_loop, c_soft_open_b1, iw30, iw31, iw32, rp_0, rp_1, rp_2, ap_0, ap_1, ap_2, wr_1, wr1, wr_2, wr2, wr_3, wr3, repA_3, ap_x, List.set_cons_zero, List.set_cons_succ, List.cons_append, List.nil_append ]) | (simp (maxSteps := 1000000) (disch := first | with_reducible assumption | omega) only [dxB,  kM_int]) | (simp only [kI_d, kG_dt, kG_df]; split) | (simp only [kI_v, kG_vt, kG_vf]; split))
set_option maxHeartbeats 8000000 in
theorem soft_open2_bad1 (hA : HasA g T) (hG : Glob G g) (hC : HasC g T) (hD : HasD g T) (hE : HasE g T) (hU : HasG g T) (F : Fm) {md : Int} (hm : 1 ≤ md ∧ md ≤ 5) {a : Nat} {b : Nat}  (hw : a < 18446744073709551616) (hbad : ¬ a < 2 * F.sg) :
    run G T 176 [.int .u8 F.u, .int .u8 md, .imm 2 [.int .u64 (a : Int), .int .u64 (b : Int)]] = some (.tup [.nil, .int .i64 6]) := by
  have o1 := round_Over (G := G) (T := T) hD hE F hm (neg := false)
  have sb := word_Split_bad (G := G) (T := T) hD hU F hw hbad
  rw [run_k G T hU.soft_open]
  simp only [fldA, DyA, A3] at *
  repeat' (first | (simp (maxSteps := 1000000) only [evB, if_true, if_false, ne_eq, Nat.reduceEqDiff, Nat.reduceAdd, reduceCtorEq, Int.reduceLE, Int.reduceLT, Int.reduceEq, Int.reduceNeg, Int.reduceToNat, Int.reducePow, Int.reduceMod, Int.reduceDiv, Int.reduceSub, Int.reduceAdd, Int.reduceMul, Nat.reduceMul, Nat.reduceSub, Nat.reducePow, exB, resC_ptr, res_cell, nilb, nilf, faddr_p, c_soft_open, st_bs5, o1, sb, so_loop, c_soft_open_b1, iw20, iw21, rp_0, rp_1, ap_0, ap_1, wr_1, wr1, wr_2, wr2, repA_2, ap_x, List.set_cons_zero, List.set_cons_succ, List.cons_append, List.nil_append ]) | (simp (maxSteps := 1000000) (disch := first | with_reducible assumption | omega) only [dxB,  kM_int]) | (simp only [kI_d, kG_dt, kG_df]; split) | (simp only [kI_v, kG_vt, kG_vf]; split))
set_option maxHeartbeats 8000000 in
theorem soft_open2_bad2 (hA : HasA g T) (hG : Glob G g) (hC : HasC g T) (hD : HasD g T) (hE : HasE g T) (hU : HasG g T) (F : Fm) {md : Int} (hm : 1 ≤ md ∧ md ≤ 5) {a : Nat} {b : Nat} (ha : a < 2 * F.sg) (hw : b < 18446744073709551616) (hbad : ¬ b < 2 * F.sg) :
    run G T 176 [.int .u8 F.u, .int .u8 md, .imm 2 [.int .u64 (a : Int), .int .u64 (b : Int)]] = some (.tup [.nil, .int .i64 6]) := by
  have o1 := round_Over (G := G) (T := T) hD hE F hm (neg := false)
  have s1 := word_Split (G := G) (T := T) hD hU F ha
  have c1 := word_Class (G := G) (T := T) hD hU F ha
  obtain ⟨z1, k1, v1⟩ := word_Value (G := G) (T := T) hA hG hC hD hU F ha
  have sb := word_Split_bad (G := G) (T := T) hD hU F hw hbad
  rw [run_k G T hU.soft_open]
  generalize F.cls a = ca' at *
  generalize F.ng a = na' at *
  generalize F.ex a = xa' at *
  generalize F.fc a = ya' at *
  generalize F.vl a = va' at *
  simp only [fldA, DyA, A3] at *
  repeat' (first | (simp (maxSteps := 1000000) only [evB, if_true, if_false, ne_eq, Nat.reduceEqDiff, Nat.reduceAdd, reduceCtorEq, Int.reduceLE, Int.reduceLT, Int.reduceEq, Int.reduceNeg, Int.reduceToNat, Int.reducePow, Int.reduceMod, Int.reduceDiv, Int.reduceSub, Int.reduceAdd, Int.reduceMul, Nat.reduceMul, Nat.reduceSub, Nat.reducePow, exB, resC_ptr, res_cell, nilb, nilf, faddr_p, c_soft_open, st_bs5, o1, sb, s1, c1, v1, so_loop, c_soft_open_b1, iw20, iw21, rp_0, rp_1, ap_0, ap_1, wr_1, wr1, wr_2, wr2, repA_2, ap_x, List.set_cons_zero, List.set_cons_succ, List.cons_append, List.nil_append ]) | (simp (maxSteps := 1000000) (disch := first | with_reducible assumption | omega) only [dxB,  kM_int]) | (simp only [kI_d, kG_dt, kG_df]; split) | (simp only [kI_v, kG_vt, kG_vf]; split))
theorem soft_open_no (hE : HasE g T) (hU : HasG g T) {f md : Int} (hf : ¬ (f = 1 ∨ f = 2)) {v : AV} :
    run G T 176 [.int .u8 f, .int .u8 md, v] = some (.tup [.nil, .int .i64 4]) := by
  rw [run_k G T hU.soft_open]
  have o1 := round_Over_no (G := G) (T := T) hE hf (m := md) (neg := false)
  repeat' (first | (simp (maxSteps := 1000000) only [evB, if_true, if_false, ne_eq, Nat.reduceEqDiff, Nat.reduceAdd, reduceCtorEq, Int.reduceLE, Int.reduceLT, Int.reduceEq, Int.reduceNeg, Int.reduceToNat, Int.reducePow, Int.reduceMod, Int.reduceDiv, Int.reduceSub, Int.reduceAdd, Int.reduceMul, Nat.reduceMul, Nat.reduceSub, Nat.reducePow, exB, resC_ptr, res_cell, nilb, nilf, faddr_p, c_soft_open, o1]) | (simp (maxSteps := 1000000) (disch := first | with_reducible assumption | omega) only [dxB]) | (simp only [kI_d, kG_dt, kG_df]; split) | (simp only [kI_v, kG_vt, kG_vf]; split))
theorem soft_open_mode (hE : HasE g T) (hU : HasG g T) (F : Fm) {md : Int} (hm : md < 1 ∨ 5 < md) {v : AV} :
    run G T 176 [.int .u8 F.u, .int .u8 md, v] = some (.tup [.nil, .int .i64 5]) := by
  rw [run_k G T hU.soft_open]
  have o1 := round_Over_mode (G := G) (T := T) hE F hm (neg := false)
  repeat' (first | (simp (maxSteps := 1000000) only [evB, if_true, if_false, ne_eq, Nat.reduceEqDiff, Nat.reduceAdd, reduceCtorEq, Int.reduceLE, Int.reduceLT, Int.reduceEq, Int.reduceNeg, Int.reduceToNat, Int.reducePow, Int.reduceMod, Int.reduceDiv, Int.reduceSub, Int.reduceAdd, Int.reduceMul, Nat.reduceMul, Nat.reduceSub, Nat.reducePow, exB, resC_ptr, res_cell, nilb, nilf, faddr_p, c_soft_open, o1]) | (simp (maxSteps := 1000000) (disch := first | with_reducible assumption | omega) only [dxB]) | (simp only [kI_d, kG_dt, kG_df]; split) | (simp only [kI_v, kG_vt, kG_vf]; split))
end Go.Cv

/-
  The program's sums of parts.
-/
namespace Go.Cv
variable {G : Nat → Option (List AV)} {T : Tbl} {g : Nat}

theorem hs_loop (e : Env) (h : Heap) : evL G T c_soft_has_l1 e h = kS G T (evL G T c_soft_has_b1 (keepE [0, 7, 8, 9] e) h) c_soft_has_l1 := s_loopc G T rfl e h
section
variable (a1 a2 a3 a4 a5 b1 b2 b3 b4 b5 c1 c2 c3 c4 c5 : AV) (k : IntKind)
theorem i5_20 : iaddrV 5 (.imm 2 [a1, a2, a3, a4, a5, b1, b2, b3, b4, b5]) (.int k 0) = some (.iptr [a1, a2, a3, a4, a5, b1, b2, b3, b4, b5] 0) := rfl
theorem i5_21 : iaddrV 5 (.imm 2 [a1, a2, a3, a4, a5, b1, b2, b3, b4, b5]) (.int k 1) = some (.iptr [a1, a2, a3, a4, a5, b1, b2, b3, b4, b5] 5) := rfl
theorem i5_30 : iaddrV 5 (.imm 3 [a1, a2, a3, a4, a5, b1, b2, b3, b4, b5, c1, c2, c3, c4, c5]) (.int k 0) = some (.iptr [a1, a2, a3, a4, a5, b1, b2, b3, b4, b5, c1, c2, c3, c4, c5] 0) := rfl
theorem i5_31 : iaddrV 5 (.imm 3 [a1, a2, a3, a4, a5, b1, b2, b3, b4, b5, c1, c2, c3, c4, c5]) (.int k 1) = some (.iptr [a1, a2, a3, a4, a5, b1, b2, b3, b4, b5, c1, c2, c3, c4, c5] 5) := rfl
theorem i5_32 : iaddrV 5 (.imm 3 [a1, a2, a3, a4, a5, b1, b2, b3, b4, b5, c1, c2, c3, c4, c5]) (.int k 2) = some (.iptr [a1, a2, a3, a4, a5, b1, b2, b3, b4, b5, c1, c2, c3, c4, c5] 10) := rfl
theorem r5_0 (h : Mem) (l : List AV) : rdAt G h 5 (.iptr (a1 :: a2 :: a3 :: a4 :: a5 :: l) 0) = some [a1, a2, a3, a4, a5] := by simp [rdAt]
theorem r5_5 (h : Mem) (l : List AV) : rdAt G h 5 (.iptr (a1 :: a2 :: a3 :: a4 :: a5 :: b1 :: b2 :: b3 :: b4 :: b5 :: l) 5) = some [b1, b2, b3, b4, b5] := by simp [rdAt]
theorem r5_10 (h : Mem) (l : List AV) : rdAt G h 5 (.iptr (a1 :: a2 :: a3 :: a4 :: a5 :: b1 :: b2 :: b3 :: b4 :: b5 :: c1 :: c2 :: c3 :: c4 :: c5 :: l) 10) = some [c1, c2, c3, c4, c5] := by simp [rdAt]
end

theorem soft_has2 (hU : HasG g T) {k c c' : Int} {n s n' s' z z' : Bool} {l l' : List Nat} {e e' : Int} :
    run G T 178 [.int .u8 k, .imm 2 [.int .u8 c, .bool n, .bool s, D z l, .int .i64 e, .int .u8 c', .bool n', .bool s', D z' l', .int .i64 e']] = some (.bool (decide (c = k ∨ c' = k))) := by
  rw [run_k G T hU.soft_has]
  by_cases h1 : c = k
  · rw [decide_eq_true (Or.inl h1)]
    repeat' (first | (simp (maxSteps := 1000000) only [evB, if_true, if_false, ne_eq, Nat.reduceEqDiff, Nat.reduceAdd, reduceCtorEq, Int.reduceLE, Int.reduceLT, Int.reduceEq, Int.reduceNeg, Int.reduceToNat, Int.reducePow, Int.reduceMod, Int.reduceDiv, Int.reduceSub, Int.reduceAdd, Int.reduceMul, Nat.reduceMul, Nat.reduceSub, Nat.reducePow, exB, resC_ptr, res_cell, nilb, nilf, faddr_p, c_soft_has, hs_loop, c_soft_has_b1, i5_20, i5_21, r5_0, r5_5, wr_1, wr1, wr_2, wr2, h1]) | (simp (maxSteps := 1000000) (disch := first | with_reducible assumption | omega) only [dxB]) | (simp only [kI_d, kG_dt, kG_df]; split) | (simp only [kI_v, kG_vt, kG_vf]; split))
  · by_cases h2 : c' = k
    · rw [decide_eq_true (Or.inr h2)]
      repeat' (first | (simp (maxSteps := 1000000) only [evB, if_true, if_false, ne_eq, Nat.reduceEqDiff, Nat.reduceAdd, reduceCtorEq, Int.reduceLE, Int.reduceLT, Int.reduceEq, Int.reduceNeg, Int.reduceToNat, Int.reducePow, Int.reduceMod, Int.reduceDiv, Int.reduceSub, Int.reduceAdd, Int.reduceMul, Nat.reduceMul, Nat.reduceSub, Nat.reducePow, exB, resC_ptr, res_cell, nilb, nilf, faddr_p, c_soft_has, hs_loop, c_soft_has_b1, i5_20, i5_21, r5_0, r5_5, wr_1, wr1, wr_2, wr2, h1, h2]) | (simp (maxSteps := 1000000) (disch := first | with_reducible assumption | omega) only [dxB]) | (simp only [kI_d, kG_dt, kG_df]; split) | (simp only [kI_v, kG_vt, kG_vf]; split))
    · rw [decide_eq_false (by omega)]
      repeat' (first | (simp (maxSteps := 1000000) only [evB, if_true, if_false, ne_eq, Nat.reduceEqDiff, Nat.reduceAdd, reduceCtorEq, Int.reduceLE, Int.reduceLT, Int.reduceEq, Int.reduceNeg, Int.reduceToNat, Int.reducePow, Int.reduceMod, Int.reduceDiv, Int.reduceSub, Int.reduceAdd, Int.reduceMul, Nat.reduceMul, Nat.reduceSub, Nat.reducePow, exB, resC_ptr, res_cell, nilb, nilf, faddr_p, c_soft_has, hs_loop, c_soft_has_b1, i5_20, i5_21, r5_0, r5_5, wr_1, wr1, wr_2, wr2, h1, h2]) | (simp (maxSteps := 1000000) (disch := first | with_reducible assumption | omega) only [dxB]) | (simp only [kI_d, kG_dt, kG_df]; split) | (simp only [kI_v, kG_vt, kG_vf]; split))
set_option maxHeartbeats 2000000 in
theorem soft_has3 (hU : HasG g T) {k c c' c'' : Int} {n s n' s' n'' s'' z z' z'' : Bool} {l l' l'' : List Nat} {e e' e'' : Int} :
    run G T 178 [.int .u8 k, .imm 3 [.int .u8 c, .bool n, .bool s, D z l, .int .i64 e, .int .u8 c', .bool n', .bool s', D z' l', .int .i64 e', .int .u8 c'', .bool n'', .bool s'', D z'' l'', .int .i64 e'']] = some (.bool (decide (c = k ∨ c' = k ∨ c'' = k))) := by
  rw [run_k G T hU.soft_has]
  by_cases h1 : c = k
  · rw [decide_eq_true (Or.inl h1)]
    repeat' (first | (simp (maxSteps := 1000000) only [evB, if_true, if_false, ne_eq, Nat.reduceEqDiff, Nat.reduceAdd, reduceCtorEq, Int.reduceLE, Int.reduceLT, Int.reduceEq, Int.reduceNeg, Int.reduceToNat, Int.reducePow, Int.reduceMod, Int.reduceDiv, Int.reduceSub, Int.reduceAdd, Int.reduceMul, Nat.reduceMul, Nat.reduceSub, Nat.reducePow, exB, resC_ptr, res_cell, nilb, nilf, faddr_p, c_soft_has, hs_loop, c_soft_has_b1, i5_30, i5_31, i5_32, r5_0, r5_5, r5_10, wr_1, wr1, wr_2, wr2, wr_3, wr3, h1]) | (simp (maxSteps := 1000000) (disch := first | with_reducible assumption | omega) only [dxB]) | (simp only [kI_d, kG_dt, kG_df]; split) | (simp only [kI_v, kG_vt, kG_vf]; split))
  · by_cases h2 : c' = k
    · rw [decide_eq_true (Or.inr (Or.inl h2))]
      repeat' (first | (simp (maxSteps := 1000000) only [evB, if_true, if_false, ne_eq, Nat.reduceEqDiff, Nat.reduceAdd, reduceCtorEq, Int.reduceLE, Int.reduceLT, Int.reduceEq, Int.reduceNeg, Int.reduceToNat, Int.reducePow, Int.reduceMod, Int.reduceDiv, Int.reduceSub, Int.reduceAdd, Int.reduceMul, Nat.reduceMul, Nat.reduceSub, Nat.reducePow, exB, resC_ptr, res_cell, nilb, nilf, faddr_p, c_soft_has, hs_loop, c_soft_has_b1, i5_30, i5_31, i5_32, r5_0, r5_5, r5_10, wr_1, wr1, wr_2, wr2, wr_3, wr3, h1, h2]) | (simp (maxSteps := 1000000) (disch := first | with_reducible assumption | omega) only [dxB]) | (simp only [kI_d, kG_dt, kG_df]; split) | (simp only [kI_v, kG_vt, kG_vf]; split))
    · by_cases h3 : c'' = k
      · rw [decide_eq_true (Or.inr (Or.inr h3))]
        repeat' (first | (simp (maxSteps := 1000000) only [evB, if_true, if_false, ne_eq, Nat.reduceEqDiff, Nat.reduceAdd, reduceCtorEq, Int.reduceLE, Int.reduceLT, Int.reduceEq, Int.reduceNeg, Int.reduceToNat, Int.reducePow, Int.reduceMod, Int.reduceDiv, Int.reduceSub, Int.reduceAdd, Int.reduceMul, Nat.reduceMul, Nat.reduceSub, Nat.reducePow, exB, resC_ptr, res_cell, nilb, nilf, faddr_p, c_soft_has, hs_loop, c_soft_has_b1, i5_30, i5_31, i5_32, r5_0, r5_5, r5_10, wr_1, wr1, wr_2, wr2, wr_3, wr3, h1, h2, h3]) | (simp (maxSteps := 1000000) (disch := first | with_reducible assumption | omega) only [dxB]) | (simp only [kI_d, kG_dt, kG_df]; split) | (simp only [kI_v, kG_vt, kG_vf]; split))
      · rw [decide_eq_false (by omega)]
        repeat' (first | (simp (maxSteps := 1000000) only [evB, if_true, if_false, ne_eq, Nat.reduceEqDiff, Nat.reduceAdd, reduceCtorEq, Int.reduceLE, Int.reduceLT, Int.reduceEq, Int.reduceNeg, Int.reduceToNat, Int.reducePow, Int.reduceMod, Int.reduceDiv, Int.reduceSub, Int.reduceAdd, Int.reduceMul, Nat.reduceMul, Nat.reduceSub, Nat.reducePow, exB, resC_ptr, res_cell, nilb, nilf, faddr_p, c_soft_has, hs_loop, c_soft_has_b1, i5_30, i5_31, i5_32, r5_0, r5_5, r5_10, wr_1, wr1, wr_2, wr2, wr_3, wr3, h1, h2, h3]) | (simp (maxSteps := 1000000) (disch := first | with_reducible assumption | omega) only [dxB]) | (simp only [kI_d, kG_dt, kG_df]; split) | (simp only [kI_v, kG_vt, kG_vf]; split))

def deskA (F : Fm) (md : Int) : AV := .agg [.int .u8 F.u, .int .u8 md]
def ptA (c : Int) (n z : Bool) (d : Dy) : AV := .agg [.int .u8 c, .bool n, .bool d.n, D z (dl d.m), .int .i64 d.e]

theorem desk_none (hD : HasD g T) (hU : HasG g T) (F : Fm) {md x : Int} : run G T 179 [deskA F md, .int .u8 x] = some (.tup [.int .u64 (F.nan : Int), .int .u8 x, .int .i64 0]) := by
  rw [run_k G T hU.soft_desk_none]
  have h1 := word_None (G := G) (T := T) hU hD F
  simp only [deskA] at *
  repeat' (first | (simp (maxSteps := 1000000) only [evB, if_true, if_false, ne_eq, Nat.reduceEqDiff, Nat.reduceAdd, reduceCtorEq, Int.reduceLE, Int.reduceLT, Int.reduceEq, Int.reduceNeg, Int.reduceToNat, Int.reducePow, Int.reduceMod, Int.reduceDiv, Int.reduceSub, Int.reduceAdd, Int.reduceMul, Nat.reduceMul, Nat.reduceSub, Nat.reducePow, exB, resC_ptr, res_cell, nilb, nilf, faddr_p, c_soft_desk_none, h1]) | (simp (maxSteps := 1000000) (disch := first | with_reducible assumption | omega) only [dxB]) | (simp only [kI_d, kG_dt, kG_df]; split) | (simp only [kI_v, kG_vt, kG_vf]; split))
theorem desk_inf (hD : HasD g T) (hU : HasG g T) (F : Fm) {md x : Int} {n : Bool} : run G T 180 [deskA F md, .bool n, .int .u8 x] = some (.tup [.int .u64 ((F.inf n : Nat) : Int), .int .u8 x, .int .i64 0]) := by
  rw [run_k G T hU.soft_desk_inf]
  have h1 := word_Inf (G := G) (T := T) hD F (n := n)
  simp only [deskA] at *
  cases n <;> repeat' (first | (simp (maxSteps := 1000000) only [evB, if_true, if_false, ne_eq, Nat.reduceEqDiff, Nat.reduceAdd, reduceCtorEq, Int.reduceLE, Int.reduceLT, Int.reduceEq, Int.reduceNeg, Int.reduceToNat, Int.reducePow, Int.reduceMod, Int.reduceDiv, Int.reduceSub, Int.reduceAdd, Int.reduceMul, Nat.reduceMul, Nat.reduceSub, Nat.reducePow, exB, resC_ptr, res_cell, nilb, nilf, faddr_p, c_soft_desk_inf, h1]) | (simp (maxSteps := 1000000) (disch := first | with_reducible assumption | omega) only [dxB]) | (simp only [kI_d, kG_dt, kG_df]; split) | (simp only [kI_v, kG_vt, kG_vf]; split))
theorem desk_zero (hD : HasD g T) (hU : HasG g T) (F : Fm) {md : Int} {n : Bool} : run G T 181 [deskA F md, .bool n] = some (.tup [.int .u64 ((F.sgn n : Nat) : Int), .int .u8 0, .int .i64 0]) := by
  rw [run_k G T hU.soft_desk_zero]
  have h1 := word_Zero (G := G) (T := T) hD F (n := n)
  simp only [deskA] at *
  cases n <;> repeat' (first | (simp (maxSteps := 1000000) only [evB, if_true, if_false, ne_eq, Nat.reduceEqDiff, Nat.reduceAdd, reduceCtorEq, Int.reduceLE, Int.reduceLT, Int.reduceEq, Int.reduceNeg, Int.reduceToNat, Int.reducePow, Int.reduceMod, Int.reduceDiv, Int.reduceSub, Int.reduceAdd, Int.reduceMul, Nat.reduceMul, Nat.reduceSub, Nat.reducePow, exB, resC_ptr, res_cell, nilb, nilf, faddr_p, c_soft_desk_zero, h1]) | (simp (maxSteps := 1000000) (disch := first | with_reducible assumption | omega) only [dxB]) | (simp only [kI_d, kG_dt, kG_df]; split) | (simp only [kI_v, kG_vt, kG_vf]; split))
theorem desk_sum (hA : HasA g T) (hG : Glob G g) (hC : HasC g T) (hD : HasD g T) (hE : HasE g T) (hU : HasG g T) (F : Fm) {md : Int} (hm : 1 ≤ md ∧ md ≤ 5) {z : Bool} {d : Dy} (hz : Nz d) (hb : Bd d 131072) :
    run G T 183 [deskA F md, DyA z d] = some (.tup [.int .u64 ((sumW F md d).1 : Int), .int .u8 ((sumW F md d).2 : Int), .int .i64 0]) := by
  rw [run_k G T hU.soft_desk_sum]
  have hmd := mayD_nzb hz hb
  have s1 := dyad_Sign (G := G) (T := T) hA hC (n := d.n) (z := z) (Dg_dl d.m) (e := d.e)
  rw [sign_may hmd] at s1
  unfold sumW
  by_cases h0 : d.m = 0
  · rw [if_pos h0] at s1 ⊢
    have h1 := desk_zero (G := G) (T := T) hD hU F (md := md) (n := decide (md = 5))
    simp only [deskA, DyA, A3] at *
    repeat' (first | (simp (maxSteps := 1000000) only [evB, if_true, if_false, ne_eq, Nat.reduceEqDiff, Nat.reduceAdd, reduceCtorEq, Int.reduceLE, Int.reduceLT, Int.reduceEq, Int.reduceNeg, Int.reduceToNat, Int.reducePow, Int.reduceMod, Int.reduceDiv, Int.reduceSub, Int.reduceAdd, Int.reduceMul, Nat.reduceMul, Nat.reduceSub, Nat.reducePow, exB, resC_ptr, res_cell, nilb, nilf, faddr_p, c_soft_desk_sum, s1, h1]) | (simp (maxSteps := 1000000) (disch := first | with_reducible assumption | omega) only [dxB]) | (simp only [kI_d, kG_dt, kG_df]; split) | (simp only [kI_v, kG_vt, kG_vf]; split))
    all_goals try rfl
  · rw [if_neg h0] at s1 ⊢
    have h1 := round_Round (G := G) (T := T) hA hC hG hD hE F hm (z := z) (d := d) hmd
    have c1 : ¬ (if d.n = true then (-1 : Int) else 1) = 0 := by split <;> decide
    generalize (if d.n = true then (-1 : Int) else 1) = sg at *
    generalize rndW F md d = S at *
    simp only [deskA, DyA, A3] at *
    repeat' (first | (simp (maxSteps := 1000000) only [evB, if_true, if_false, ne_eq, Nat.reduceEqDiff, Nat.reduceAdd, reduceCtorEq, Int.reduceLE, Int.reduceLT, Int.reduceEq, Int.reduceNeg, Int.reduceToNat, Int.reducePow, Int.reduceMod, Int.reduceDiv, Int.reduceSub, Int.reduceAdd, Int.reduceMul, Nat.reduceMul, Nat.reduceSub, Nat.reducePow, exB, resC_ptr, res_cell, nilb, nilf, faddr_p, c_soft_desk_sum, s1, c1, h1]) | (simp (maxSteps := 1000000) (disch := first | with_reducible assumption | omega) only [dxB]) | (simp only [kI_d, kG_dt, kG_df]; split) | (simp only [kI_v, kG_vt, kG_vf]; split))
    all_goals try rfl

set_option maxHeartbeats 8000000 in
theorem desk_add (hA : HasA g T) (hG : Glob G g) (hC : HasC g T) (hD : HasD g T) (hE : HasE g T) (hU : HasG g T) (F : Fm) {md : Int} (hm : 1 ≤ md ∧ md ≤ 5) {c c' : Int} {n n' z z' : Bool} {d d' : Dy}
    (hz : Nz d) (hz' : Nz d') (hb : Bd d 16384) (hb' : Bd d' 16384) :
    run G T 177 [deskA F md, ptA c n z d, ptA c' n' z' d'] = some (.tup [.int .u64 ((addP F md c n d c' n' d').1 : Int), .int .u8 ((addP F md c n d c' n' d').2 : Int), .int .i64 0]) := by
  rw [run_k G T hU.soft_desk_add]
  have h5 := soft_has2 (G := G) (T := T) hU (k := 5) (c := c) (c' := c') (n := n) (s := d.n) (n' := n') (s' := d'.n) (z := z) (z' := z') (l := dl d.m) (l' := dl d'.m) (e := d.e) (e' := d'.e)
  have nn := fun x => desk_none (G := G) (T := T) hD hU F (md := md) (x := x)
  have inf := fun m => desk_inf (G := G) (T := T) hD hU F (md := md) (x := 0) (n := m)
  have ze := fun m => desk_zero (G := G) (T := T) hD hU F (md := md) (n := m)
  unfold addP
  by_cases a5 : c = 5 ∨ c' = 5
  · rw [decide_eq_true a5] at h5
    rw [if_pos a5]
    simp only [deskA, ptA] at *
    repeat' (first | (simp (maxSteps := 1000000) only [evB, if_true, if_false, ne_eq, Nat.reduceEqDiff, Nat.reduceAdd, reduceCtorEq, Int.reduceLE, Int.reduceLT, Int.reduceEq, Int.reduceNeg, Int.reduceToNat, Int.reducePow, Int.reduceMod, Int.reduceDiv, Int.reduceSub, Int.reduceAdd, Int.reduceMul, Nat.reduceMul, Nat.reduceSub, Nat.reducePow, exB, resC_ptr, res_cell, nilb, nilf, faddr_p, c_soft_desk_add, st_bs5, h5, nn]) | (simp (maxSteps := 1000000) (disch := first | with_reducible assumption | omega) only [dxB]) | (simp only [kI_d, kG_dt, kG_df]; split) | (simp only [kI_v, kG_vt, kG_vf]; split))
    all_goals try rfl
  · rw [decide_eq_false a5] at h5
    rw [if_neg a5]
    by_cases a4 : c = 4
    · by_cases b4 : c' = 4
      · by_cases hn : n = n'
        · rw [if_neg (show ¬ (c = 4 ∧ c' = 4 ∧ n ≠ n') from fun h => h.2.2 hn), if_pos a4]
          have i1 := inf n'
          subst a4 b4 hn
          simp only [deskA, ptA] at *
          cases n <;> (
            repeat' (first | (simp (maxSteps := 1000000) only [evB, if_true, if_false, ne_eq, Nat.reduceEqDiff, Nat.reduceAdd, reduceCtorEq, Int.reduceLE, Int.reduceLT, Int.reduceEq, Int.reduceNeg, Int.reduceToNat, Int.reducePow, Int.reduceMod, Int.reduceDiv, Int.reduceSub, Int.reduceAdd, Int.reduceMul, Nat.reduceMul, Nat.reduceSub, Nat.reducePow, exB, resC_ptr, res_cell, nilb, nilf, faddr_p, c_soft_desk_add, st_bs5, h5, i1]) | (simp (maxSteps := 1000000) (disch := first | with_reducible assumption | omega) only [dxB]) | (simp only [kI_d, kG_dt, kG_df]; split) | (simp only [kI_v, kG_vt, kG_vf]; split))
            all_goals try rfl)
        · rw [if_pos (show c = 4 ∧ c' = 4 ∧ n ≠ n' from ⟨a4, b4, hn⟩)]
          subst a4 b4
          simp only [deskA, ptA] at *
          cases n <;> cases n' <;> first | exact absurd rfl hn | (
            repeat' (first | (simp (maxSteps := 1000000) only [evB, if_true, if_false, ne_eq, Nat.reduceEqDiff, Nat.reduceAdd, reduceCtorEq, Int.reduceLE, Int.reduceLT, Int.reduceEq, Int.reduceNeg, Int.reduceToNat, Int.reducePow, Int.reduceMod, Int.reduceDiv, Int.reduceSub, Int.reduceAdd, Int.reduceMul, Nat.reduceMul, Nat.reduceSub, Nat.reducePow, exB, resC_ptr, res_cell, nilb, nilf, faddr_p, c_soft_desk_add, st_bs5, h5, nn]) | (simp (maxSteps := 1000000) (disch := first | with_reducible assumption | omega) only [dxB]) | (simp only [kI_d, kG_dt, kG_df]; split) | (simp only [kI_v, kG_vt, kG_vf]; split))
            all_goals try rfl)
      · rw [if_neg (show ¬ (c = 4 ∧ c' = 4 ∧ n ≠ n') by omega), if_pos a4]
        have i1 := inf n
        subst a4
        simp only [deskA, ptA] at *
        cases n <;> (
          repeat' (first | (simp (maxSteps := 1000000) only [evB, if_true, if_false, ne_eq, Nat.reduceEqDiff, Nat.reduceAdd, reduceCtorEq, Int.reduceLE, Int.reduceLT, Int.reduceEq, Int.reduceNeg, Int.reduceToNat, Int.reducePow, Int.reduceMod, Int.reduceDiv, Int.reduceSub, Int.reduceAdd, Int.reduceMul, Nat.reduceMul, Nat.reduceSub, Nat.reducePow, exB, resC_ptr, res_cell, nilb, nilf, faddr_p, c_soft_desk_add, st_bs5, h5, b4, i1]) | (simp (maxSteps := 1000000) (disch := first | with_reducible assumption | omega) only [dxB]) | (simp only [kI_d, kG_dt, kG_df]; split) | (simp only [kI_v, kG_vt, kG_vf]; split))
          all_goals try rfl)
    · rw [if_neg (show ¬ (c = 4 ∧ c' = 4 ∧ n ≠ n') by omega), if_neg a4]
      by_cases b4 : c' = 4
      · rw [if_pos b4]
        have i1 := inf n'
        subst b4
        simp only [deskA, ptA] at *
        cases n' <;> (
          repeat' (first | (simp (maxSteps := 1000000) only [evB, if_true, if_false, ne_eq, Nat.reduceEqDiff, Nat.reduceAdd, reduceCtorEq, Int.reduceLE, Int.reduceLT, Int.reduceEq, Int.reduceNeg, Int.reduceToNat, Int.reducePow, Int.reduceMod, Int.reduceDiv, Int.reduceSub, Int.reduceAdd, Int.reduceMul, Nat.reduceMul, Nat.reduceSub, Nat.reducePow, exB, resC_ptr, res_cell, nilb, nilf, faddr_p, c_soft_desk_add, st_bs5, h5, a4, i1]) | (simp (maxSteps := 1000000) (disch := first | with_reducible assumption | omega) only [dxB]) | (simp only [kI_d, kG_dt, kG_df]; split) | (simp only [kI_v, kG_vt, kG_vf]; split))
          all_goals try rfl)
      · rw [if_neg b4]
        by_cases h1 : c = 1 ∧ c' = 1 ∧ n = n'
        · rw [if_pos h1]
          have i1 := ze n
          obtain ⟨k1, k2, k3⟩ := h1
          subst k1 k2 k3
          simp only [deskA, ptA] at *
          cases n <;> (
            repeat' (first | (simp (maxSteps := 1000000) only [evB, if_true, if_false, ne_eq, Nat.reduceEqDiff, Nat.reduceAdd, reduceCtorEq, Int.reduceLE, Int.reduceLT, Int.reduceEq, Int.reduceNeg, Int.reduceToNat, Int.reducePow, Int.reduceMod, Int.reduceDiv, Int.reduceSub, Int.reduceAdd, Int.reduceMul, Nat.reduceMul, Nat.reduceSub, Nat.reducePow, exB, resC_ptr, res_cell, nilb, nilf, faddr_p, c_soft_desk_add, st_bs5, h5, i1]) | (simp (maxSteps := 1000000) (disch := first | with_reducible assumption | omega) only [dxB]) | (simp only [kI_d, kG_dt, kG_df]; split) | (simp only [kI_v, kG_vt, kG_vf]; split))
            all_goals try rfl)
        · rw [if_neg h1]
          obtain ⟨z3, s1⟩ := dyad_Add (G := G) (T := T) hA hG hC hU (z := z) (y := z') hb hb' (mayD_nzb hz (hb.mono (by decide))) (mayD_nzb hz' (hb'.mono (by decide)))
          have s2 := desk_sum (G := G) (T := T) hA hG hC hD hE hU F hm (z := z3) (Nz_add hz hz') ((Bd_add hb hb').mono (by decide))
          generalize sumW F md (addD d d') = S at *
          generalize addD d d' = s at *
          have hk : ¬ c = 1 ∨ (c = 1 ∧ ¬ c' = 1) ∨ (c = 1 ∧ c' = 1 ∧ n ≠ n') := by
            by_cases q1 : c = 1
            · by_cases q2 : c' = 1
              · right; right; exact ⟨q1, q2, fun h => h1 ⟨q1, q2, h⟩⟩
              · right; left; exact ⟨q1, q2⟩
            · left; exact q1
          clear h1 hb hb' hz hz' inf ze nn
          simp only [deskA, ptA, DyA, A3] at *
          rcases hk with k1 | ⟨k1, k2⟩ | ⟨k1, k2, k3⟩
          · repeat' (first | (simp (maxSteps := 1000000) only [evB, if_true, if_false, ne_eq, Nat.reduceEqDiff, Nat.reduceAdd, reduceCtorEq, Int.reduceLE, Int.reduceLT, Int.reduceEq, Int.reduceNeg, Int.reduceToNat, Int.reducePow, Int.reduceMod, Int.reduceDiv, Int.reduceSub, Int.reduceAdd, Int.reduceMul, Nat.reduceMul, Nat.reduceSub, Nat.reducePow, exB, resC_ptr, res_cell, nilb, nilf, faddr_p, c_soft_desk_add, st_bs5, h5, a4, b4, k1, s1, s2]) | (simp (maxSteps := 1000000) (disch := first | with_reducible assumption | omega) only [dxB]) | (simp only [kI_d, kG_dt, kG_df]; split) | (simp only [kI_v, kG_vt, kG_vf]; split))
            all_goals try rfl
          · subst k1
            repeat' (first | (simp (maxSteps := 1000000) only [evB, if_true, if_false, ne_eq, Nat.reduceEqDiff, Nat.reduceAdd, reduceCtorEq, Int.reduceLE, Int.reduceLT, Int.reduceEq, Int.reduceNeg, Int.reduceToNat, Int.reducePow, Int.reduceMod, Int.reduceDiv, Int.reduceSub, Int.reduceAdd, Int.reduceMul, Nat.reduceMul, Nat.reduceSub, Nat.reducePow, exB, resC_ptr, res_cell, nilb, nilf, faddr_p, c_soft_desk_add, st_bs5, h5, a4, b4, k2, s1, s2]) | (simp (maxSteps := 1000000) (disch := first | with_reducible assumption | omega) only [dxB]) | (simp only [kI_d, kG_dt, kG_df]; split) | (simp only [kI_v, kG_vt, kG_vf]; split))
            all_goals try rfl
          · subst k1 k2
            cases n <;> cases n' <;> first | exact absurd rfl k3 | (
              repeat' (first | (simp (maxSteps := 1000000) only [evB, if_true, if_false, ne_eq, Nat.reduceEqDiff, Nat.reduceAdd, reduceCtorEq, Int.reduceLE, Int.reduceLT, Int.reduceEq, Int.reduceNeg, Int.reduceToNat, Int.reducePow, Int.reduceMod, Int.reduceDiv, Int.reduceSub, Int.reduceAdd, Int.reduceMul, Nat.reduceMul, Nat.reduceSub, Nat.reducePow, exB, resC_ptr, res_cell, nilb, nilf, faddr_p, c_soft_desk_add, st_bs5, h5, s1, s2]) | (simp (maxSteps := 1000000) (disch := first | with_reducible assumption | omega) only [dxB]) | (simp only [kI_d, kG_dt, kG_df]; split) | (simp only [kI_v, kG_vt, kG_vf]; split))
              all_goals try rfl)
end Go.Cv

/-
  The program's sums, differences, products, quotients, roots of words.
-/
namespace Go.Cv
variable {G : Nat → Option (List AV)} {T : Tbl} {g : Nat}

theorem apart_ip (cs : List AV) (o b o' : Nat) : apart (.iptr cs o) (.ptr b o') = true := rfl
theorem soft_Add (hA : HasA g T) (hG : Glob G g) (hC : HasC g T) (hD : HasD g T) (hE : HasE g T) (hU : HasG g T) (F : Fm) {md : Int} (hm : 1 ≤ md ∧ md ≤ 5) {a b : Nat} (ha : a < 2 * F.sg) (hb : b < 2 * F.sg) :
    run G T 164 [.int .u8 F.u, .int .u8 md, .int .u64 (a : Int), .int .u64 (b : Int)] = some (.tup [.int .u64 ((addW F md a b).1 : Int), .int .u8 ((addW F md a b).2 : Int), .int .i64 0]) := by
  rw [run_k G T hU.soft_Add]
  obtain ⟨z1, z2, o1⟩ := soft_open2 (G := G) (T := T) hA hG hC hD hE hU F hm ha hb
  have s1 := desk_add (G := G) (T := T) hA hG hC hD hE hU F hm (c := F.cls a) (n := F.ng a) (z := z1) (d := F.vl a) (c' := F.cls b) (n' := F.ng b) (z' := z2) (d' := F.vl b) (Nz_vl F a) (Nz_vl F b) ((Bd_vl F a).mono (by decide)) ((Bd_vl F b).mono (by decide))
  unfold addW
  generalize addP F md (F.cls a) (F.ng a) (F.vl a) (F.cls b) (F.ng b) (F.vl b) = S at *
  unfold ptC at o1
  generalize F.cls a = ca at *
  generalize F.ng a = na at *
  generalize F.vl a = va at *
  generalize F.cls b = cb at *
  generalize F.ng b = nb at *
  generalize F.vl b = vb at *
  simp only [deskA, ptA, List.cons_append, List.nil_append] at *
  repeat' (first | (simp (maxSteps := 1000000) only [evB, if_true, if_false, ne_eq, Nat.reduceEqDiff, Nat.reduceAdd, reduceCtorEq, Int.reduceLE, Int.reduceLT, Int.reduceEq, Int.reduceNeg, Int.reduceToNat, Int.reducePow, Int.reduceMod, Int.reduceDiv, Int.reduceSub, Int.reduceAdd, Int.reduceMul, Nat.reduceMul, Nat.reduceSub, Nat.reducePow, exB, resC_ptr, res_cell, nilb, nilf, faddr_p, c_soft_Add, o1, i5_20, i5_21, r5_0, r5_5, s1]) | (simp (maxSteps := 1000000) (disch := first | with_reducible assumption | omega) only [dxB]) | (simp only [kI_d, kG_dt, kG_df]; split) | (simp only [kI_v, kG_vt, kG_vf]; split))
  all_goals try rfl

set_option maxHeartbeats 8000000 in
theorem soft_Mul (hA : HasA g T) (hG : Glob G g) (hC : HasC g T) (hD : HasD g T) (hE : HasE g T) (hU : HasG g T) (F : Fm) {md : Int} (hm : 1 ≤ md ∧ md ≤ 5) {a b : Nat} (ha : a < 2 * F.sg) (hb : b < 2 * F.sg) :
    run G T 165 [.int .u8 F.u, .int .u8 md, .int .u64 (a : Int), .int .u64 (b : Int)] = some (.tup [.int .u64 ((mulW2 F md a b).1 : Int), .int .u8 ((mulW2 F md a b).2 : Int), .int .i64 0]) := by
  rw [run_k G T hU.soft_Mul]
  obtain ⟨z1, z2, o1⟩ := soft_open2 (G := G) (T := T) hA hG hC hD hE hU F hm ha hb
  have hk := fun k => soft_has2 (G := G) (T := T) hU (k := k) (c := F.cls a) (c' := F.cls b) (n := F.ng a) (s := (F.vl a).n) (n' := F.ng b) (s' := (F.vl b).n) (z := z1) (z' := z2) (l := dl (F.vl a).m) (l' := dl (F.vl b).m) (e := (F.vl a).e) (e' := (F.vl b).e)
  have h5 := hk 5
  have h4 := hk 4
  have h1 := hk 1
  have nn := fun x => desk_none (G := G) (T := T) hD hU F (md := md) (x := x)
  have inf := fun x => desk_inf (G := G) (T := T) hD hU F (md := md) (x := x) (n := F.ng a != F.ng b)
  have ze := desk_zero (G := G) (T := T) hD hU F (md := md) (n := F.ng a != F.ng b)
  have b1 := Bd_vl F a
  have b2 := Bd_vl F b
  obtain ⟨z3, m1⟩ := dyad_Mul (G := G) (T := T) hA hG hC hU (z := z1) (y := z2) (b1.mono (by decide)) (b2.mono (by decide)) (mayD_nzb (Nz_vl F a) (b1.mono (by decide))) (mayD_nzb (Nz_vl F b) (b2.mono (by decide)))
  have s1 := desk_sum (G := G) (T := T) hA hG hC hD hE hU F hm (z := z3) (Nz_mul (F.vl a) (F.vl b)) ((Bd_mul b1 b2).mono (by decide))
  unfold mulW2 mulP
  unfold ptC at o1
  generalize sumW F md (mulD (F.vl a) (F.vl b)) = S at *
  generalize mulD (F.vl a) (F.vl b) = s at *
  clear b1 b2 hk
  generalize F.cls a = ca at *
  generalize F.ng a = na at *
  generalize F.vl a = va at *
  generalize F.cls b = cb at *
  generalize F.ng b = nb at *
  generalize F.vl b = vb at *
  simp only [deskA, DyA, A3, List.cons_append, List.nil_append] at *
  have hne : (na != nb) = !decide (na = nb) := by cases na <;> cases nb <;> rfl
  rw [hne] at inf ze ⊢
  by_cases q5 : ca = 5 ∨ cb = 5
  · rw [decide_eq_true q5] at h5
    rw [if_pos q5]
    repeat' (first | (simp (maxSteps := 1000000) only [evB, if_true, if_false, ne_eq, Nat.reduceEqDiff, Nat.reduceAdd, reduceCtorEq, Int.reduceLE, Int.reduceLT, Int.reduceEq, Int.reduceNeg, Int.reduceToNat, Int.reducePow, Int.reduceMod, Int.reduceDiv, Int.reduceSub, Int.reduceAdd, Int.reduceMul, Nat.reduceMul, Nat.reduceSub, Nat.reducePow, exB, resC_ptr, res_cell, nilb, nilf, faddr_p, c_soft_Mul, apart_ip, o1, i5_20, i5_21, r5_0, r5_5, h5, nn]) | (simp (maxSteps := 1000000) (disch := first | with_reducible assumption | omega) only [dxB]) | (simp only [kI_d, kG_dt, kG_df]; split) | (simp only [kI_v, kG_vt, kG_vf]; split))
    all_goals try rfl
  · rw [decide_eq_false q5] at h5
    rw [if_neg q5]
    by_cases q4 : ca = 4 ∨ cb = 4
    · rw [decide_eq_true q4] at h4
      by_cases q1 : ca = 1 ∨ cb = 1
      · rw [decide_eq_true q1] at h1
        rw [if_pos (show (ca = 4 ∨ cb = 4) ∧ (ca = 1 ∨ cb = 1) from ⟨q4, q1⟩)]
        repeat' (first | (simp (maxSteps := 1000000) only [evB, if_true, if_false, ne_eq, Nat.reduceEqDiff, Nat.reduceAdd, reduceCtorEq, Int.reduceLE, Int.reduceLT, Int.reduceEq, Int.reduceNeg, Int.reduceToNat, Int.reducePow, Int.reduceMod, Int.reduceDiv, Int.reduceSub, Int.reduceAdd, Int.reduceMul, Nat.reduceMul, Nat.reduceSub, Nat.reducePow, exB, resC_ptr, res_cell, nilb, nilf, faddr_p, c_soft_Mul, apart_ip, o1, i5_20, i5_21, r5_0, r5_5, h5, h4, h1, nn]) | (simp (maxSteps := 1000000) (disch := first | with_reducible assumption | omega) only [dxB]) | (simp only [kI_d, kG_dt, kG_df]; split) | (simp only [kI_v, kG_vt, kG_vf]; split))
        all_goals try rfl
      · rw [decide_eq_false q1] at h1
        rw [if_neg (show ¬ ((ca = 4 ∨ cb = 4) ∧ (ca = 1 ∨ cb = 1)) from fun h => q1 h.2), if_pos q4]
        repeat' (first | (simp (maxSteps := 1000000) only [evB, if_true, if_false, ne_eq, Nat.reduceEqDiff, Nat.reduceAdd, reduceCtorEq, Int.reduceLE, Int.reduceLT, Int.reduceEq, Int.reduceNeg, Int.reduceToNat, Int.reducePow, Int.reduceMod, Int.reduceDiv, Int.reduceSub, Int.reduceAdd, Int.reduceMul, Nat.reduceMul, Nat.reduceSub, Nat.reducePow, exB, resC_ptr, res_cell, nilb, nilf, faddr_p, c_soft_Mul, apart_ip, o1, i5_20, i5_21, r5_0, r5_5, h5, h4, h1, inf]) | (simp (maxSteps := 1000000) (disch := first | with_reducible assumption | omega) only [dxB]) | (simp only [kI_d, kG_dt, kG_df]; split) | (simp only [kI_v, kG_vt, kG_vf]; split))
        all_goals try rfl
    · rw [decide_eq_false q4] at h4
      rw [if_neg (show ¬ ((ca = 4 ∨ cb = 4) ∧ (ca = 1 ∨ cb = 1)) from fun h => q4 h.1), if_neg q4]
      by_cases q1 : ca = 1 ∨ cb = 1
      · rw [decide_eq_true q1] at h1
        rw [if_pos q1]
        repeat' (first | (simp (maxSteps := 1000000) only [evB, if_true, if_false, ne_eq, Nat.reduceEqDiff, Nat.reduceAdd, reduceCtorEq, Int.reduceLE, Int.reduceLT, Int.reduceEq, Int.reduceNeg, Int.reduceToNat, Int.reducePow, Int.reduceMod, Int.reduceDiv, Int.reduceSub, Int.reduceAdd, Int.reduceMul, Nat.reduceMul, Nat.reduceSub, Nat.reducePow, exB, resC_ptr, res_cell, nilb, nilf, faddr_p, c_soft_Mul, apart_ip, o1, i5_20, i5_21, r5_0, r5_5, h5, h4, h1, ze]) | (simp (maxSteps := 1000000) (disch := first | with_reducible assumption | omega) only [dxB]) | (simp only [kI_d, kG_dt, kG_df]; split) | (simp only [kI_v, kG_vt, kG_vf]; split))
        all_goals try rfl
      · rw [decide_eq_false q1] at h1
        rw [if_neg q1]
        repeat' (first | (simp (maxSteps := 1000000) only [evB, if_true, if_false, ne_eq, Nat.reduceEqDiff, Nat.reduceAdd, reduceCtorEq, Int.reduceLE, Int.reduceLT, Int.reduceEq, Int.reduceNeg, Int.reduceToNat, Int.reducePow, Int.reduceMod, Int.reduceDiv, Int.reduceSub, Int.reduceAdd, Int.reduceMul, Nat.reduceMul, Nat.reduceSub, Nat.reducePow, exB, resC_ptr, res_cell, nilb, nilf, faddr_p, c_soft_Mul, apart_ip, o1, i5_20, i5_21, r5_0, r5_5, h5, h4, h1, m1, s1]) | (simp (maxSteps := 1000000) (disch := first | with_reducible assumption | omega) only [dxB]) | (simp only [kI_d, kG_dt, kG_df]; split) | (simp only [kI_v, kG_vt, kG_vf]; split))
        all_goals try rfl
end Go.Cv

/-
  The program's quotients, roots, fused products of words.
-/
namespace Go.Cv
variable {G : Nat → Option (List AV)} {T : Tbl} {g : Nat}

theorem vl_ne {F : Fm} {w : Nat} (h : w < 2 * F.sg) (h1 : F.cls w ≠ 1) (h4 : F.cls w ≠ 4) (h5 : F.cls w ≠ 5) : (F.vl w).m ≠ 0 := by
  have r := cls_range F w
  have hf : F.fin w := fin_iff.2 (by omega)
  have := val_cls h h1 hf
  rw [← vl_val hf] at this
  exact this

set_option maxHeartbeats 8000000 in
theorem soft_Div (hA : HasA g T) (hG : Glob G g) (hC : HasC g T) (hD : HasD g T) (hE : HasE g T) (hU : HasG g T) (hV : HasH g T) (F : Fm) {md : Int} (hm : 1 ≤ md ∧ md ≤ 5) {a b : Nat} (ha : a < 2 * F.sg) (hb : b < 2 * F.sg) :
    run G T 221 [.int .u8 F.u, .int .u8 md, .int .u64 (a : Int), .int .u64 (b : Int)] = some (.tup [.int .u64 ((divW2 F md a b).1 : Int), .int .u8 ((divW2 F md a b).2 : Int), .int .i64 0]) := by
  rw [run_k G T hV.soft_Div]
  obtain ⟨z1, z2, o1⟩ := soft_open2 (G := G) (T := T) hA hG hC hD hE hU F hm ha hb
  have h5 := soft_has2 (G := G) (T := T) hU (k := 5) (c := F.cls a) (c' := F.cls b) (n := F.ng a) (s := (F.vl a).n) (n' := F.ng b) (s' := (F.vl b).n) (z := z1) (z' := z2) (l := dl (F.vl a).m) (l' := dl (F.vl b).m) (e := (F.vl a).e) (e' := (F.vl b).e)
  have nn := fun x => desk_none (G := G) (T := T) hD hU F (md := md) (x := x)
  have inf := fun x => desk_inf (G := G) (T := T) hD hU F (md := md) (x := x) (n := F.ng a != F.ng b)
  have ze := desk_zero (G := G) (T := T) hD hU F (md := md) (n := F.ng a != F.ng b)
  have b1 := Bd_vl F a
  have b2 := Bd_vl F b
  have hq : F.cls a ≠ 1 → F.cls a ≠ 4 → F.cls a ≠ 5 → F.cls b ≠ 1 → F.cls b ≠ 4 → F.cls b ≠ 5 → run G T 15 [.int .u8 F.u, .int .u8 md, DyA z1 (F.vl a), DyA z2 (F.vl b)] = some (.tup [.int .u64 ((quoW F md (F.vl a) (F.vl b)).1 : Int), .int .u8 ((quoW F md (F.vl a) (F.vl b)).2 : Int), .int .i64 0]) := fun k1 k2 k3 k4 k5 k6 => by
    have p1 := b1.bl
    have p2 := b2.bl
    have hN : quoN 64 (F.vl a).m (F.vl b).m = 64 + 1 + blen (F.vl b).m - blen (F.vl a).m := rfl
    exact round_Quo (G := G) (T := T) hA hC hG hD hE F hm (mayD_nzb (Nz_vl F a) (b1.mono (by decide))) (mayD_nzb (Nz_vl F b) (b2.mono (by decide))) (vl_ne ha k1 k2 k3) (vl_ne hb k4 k5 k6) (by omega)
  have ra := cls_range F a
  have rb := cls_range F b
  unfold divW2 divP
  unfold ptC at o1
  generalize quoW F md (F.vl a) (F.vl b) = S at *
  clear b1 b2
  generalize F.cls a = ca at *
  generalize F.ng a = na at *
  generalize F.vl a = va at *
  generalize F.cls b = cb at *
  generalize F.ng b = nb at *
  generalize F.vl b = vb at *
  simp only [deskA, DyA, A3, List.cons_append, List.nil_append] at *
  have hne : (na != nb) = !decide (na = nb) := by cases na <;> cases nb <;> rfl
  rw [hne] at inf ze ⊢
  by_cases q5 : ca = 5 ∨ cb = 5
  · rw [decide_eq_true q5] at h5
    rw [if_pos q5]
    repeat' (first | (simp (maxSteps := 1000000) only [evB, if_true, if_false, ne_eq, Nat.reduceEqDiff, Nat.reduceAdd, reduceCtorEq, Int.reduceLE, Int.reduceLT, Int.reduceEq, Int.reduceNeg, Int.reduceToNat, Int.reducePow, Int.reduceMod, Int.reduceDiv, Int.reduceSub, Int.reduceAdd, Int.reduceMul, Nat.reduceMul, Nat.reduceSub, Nat.reducePow, exB, resC_ptr, res_cell, nilb, nilf, faddr_p, c_soft_Div, apart_ip, o1, i5_20, i5_21, r5_0, r5_5, h5, nn]) | (simp (maxSteps := 1000000) (disch := first | with_reducible assumption | omega) only [dxB]) | (simp only [kI_d, kG_dt, kG_df]; split) | (simp only [kI_v, kG_vt, kG_vf]; split))
    all_goals try rfl
  · rw [decide_eq_false q5] at h5
    rw [if_neg q5]
    by_cases q0 : ca = cb ∧ (ca = 1 ∨ ca = 4)
    · rw [if_pos q0]
      obtain ⟨e1, e2⟩ := q0
      subst e1
      clear hq
      rcases e2 with rfl | rfl
      · repeat' (first | (simp (maxSteps := 1000000) only [evB, if_true, if_false, ne_eq, Nat.reduceEqDiff, Nat.reduceAdd, reduceCtorEq, Int.reduceLE, Int.reduceLT, Int.reduceEq, Int.reduceNeg, Int.reduceToNat, Int.reducePow, Int.reduceMod, Int.reduceDiv, Int.reduceSub, Int.reduceAdd, Int.reduceMul, Nat.reduceMul, Nat.reduceSub, Nat.reducePow, exB, resC_ptr, res_cell, nilb, nilf, faddr_p, c_soft_Div, apart_ip, o1, i5_20, i5_21, r5_0, r5_5, h5, nn]) | (simp (maxSteps := 1000000) (disch := first | with_reducible assumption | omega) only [dxB]) | (simp only [kI_d, kG_dt, kG_df]; split) | (simp only [kI_v, kG_vt, kG_vf]; split))
        all_goals try rfl
      · repeat' (first | (simp (maxSteps := 1000000) only [evB, if_true, if_false, ne_eq, Nat.reduceEqDiff, Nat.reduceAdd, reduceCtorEq, Int.reduceLE, Int.reduceLT, Int.reduceEq, Int.reduceNeg, Int.reduceToNat, Int.reducePow, Int.reduceMod, Int.reduceDiv, Int.reduceSub, Int.reduceAdd, Int.reduceMul, Nat.reduceMul, Nat.reduceSub, Nat.reducePow, exB, resC_ptr, res_cell, nilb, nilf, faddr_p, c_soft_Div, apart_ip, o1, i5_20, i5_21, r5_0, r5_5, h5, nn]) | (simp (maxSteps := 1000000) (disch := first | with_reducible assumption | omega) only [dxB]) | (simp only [kI_d, kG_dt, kG_df]; split) | (simp only [kI_v, kG_vt, kG_vf]; split))
        all_goals try rfl
    · rw [if_neg q0]
      by_cases a4 : ca = 4
      · rw [if_pos a4]
        have c1 : ¬ ca = cb := by omega
        clear hq
        subst a4
        repeat' (first | (simp (maxSteps := 1000000) only [evB, if_true, if_false, ne_eq, Nat.reduceEqDiff, Nat.reduceAdd, reduceCtorEq, Int.reduceLE, Int.reduceLT, Int.reduceEq, Int.reduceNeg, Int.reduceToNat, Int.reducePow, Int.reduceMod, Int.reduceDiv, Int.reduceSub, Int.reduceAdd, Int.reduceMul, Nat.reduceMul, Nat.reduceSub, Nat.reducePow, exB, resC_ptr, res_cell, nilb, nilf, faddr_p, c_soft_Div, apart_ip, o1, i5_20, i5_21, r5_0, r5_5, h5, c1, inf]) | (simp (maxSteps := 1000000) (disch := first | with_reducible assumption | omega) only [dxB]) | (simp only [kI_d, kG_dt, kG_df]; split) | (simp only [kI_v, kG_vt, kG_vf]; split))
        all_goals try rfl
      · rw [if_neg a4]
        by_cases b1 : cb = 1
        · rw [if_pos b1]
          have c1 : ¬ ca = 1 := by omega
          clear hq
          subst b1
          repeat' (first | (simp (maxSteps := 1000000) only [evB, if_true, if_false, ne_eq, Nat.reduceEqDiff, Nat.reduceAdd, reduceCtorEq, Int.reduceLE, Int.reduceLT, Int.reduceEq, Int.reduceNeg, Int.reduceToNat, Int.reducePow, Int.reduceMod, Int.reduceDiv, Int.reduceSub, Int.reduceAdd, Int.reduceMul, Nat.reduceMul, Nat.reduceSub, Nat.reducePow, exB, resC_ptr, res_cell, nilb, nilf, faddr_p, c_soft_Div, apart_ip, o1, i5_20, i5_21, r5_0, r5_5, h5, a4, c1, inf]) | (simp (maxSteps := 1000000) (disch := first | with_reducible assumption | omega) only [dxB]) | (simp only [kI_d, kG_dt, kG_df]; split) | (simp only [kI_v, kG_vt, kG_vf]; split))
          all_goals try rfl
        · rw [if_neg b1]
          by_cases q1 : ca = 1 ∨ cb = 4
          · rw [if_pos q1]
            clear hq
            have c1 : ¬ ca = cb := by omega
            by_cases a1 : ca = 1
            · subst a1
              repeat' (first | (simp (maxSteps := 1000000) only [evB, if_true, if_false, ne_eq, Nat.reduceEqDiff, Nat.reduceAdd, reduceCtorEq, Int.reduceLE, Int.reduceLT, Int.reduceEq, Int.reduceNeg, Int.reduceToNat, Int.reducePow, Int.reduceMod, Int.reduceDiv, Int.reduceSub, Int.reduceAdd, Int.reduceMul, Nat.reduceMul, Nat.reduceSub, Nat.reducePow, exB, resC_ptr, res_cell, nilb, nilf, faddr_p, c_soft_Div, apart_ip, o1, i5_20, i5_21, r5_0, r5_5, h5, c1, b1, ze]) | (simp (maxSteps := 1000000) (disch := first | with_reducible assumption | omega) only [dxB]) | (simp only [kI_d, kG_dt, kG_df]; split) | (simp only [kI_v, kG_vt, kG_vf]; split))
              all_goals try rfl
            · have b4 : cb = 4 := by omega
              subst b4
              repeat' (first | (simp (maxSteps := 1000000) only [evB, if_true, if_false, ne_eq, Nat.reduceEqDiff, Nat.reduceAdd, reduceCtorEq, Int.reduceLE, Int.reduceLT, Int.reduceEq, Int.reduceNeg, Int.reduceToNat, Int.reducePow, Int.reduceMod, Int.reduceDiv, Int.reduceSub, Int.reduceAdd, Int.reduceMul, Nat.reduceMul, Nat.reduceSub, Nat.reducePow, exB, resC_ptr, res_cell, nilb, nilf, faddr_p, c_soft_Div, apart_ip, o1, i5_20, i5_21, r5_0, r5_5, h5, a4, a1, c1, ze]) | (simp (maxSteps := 1000000) (disch := first | with_reducible assumption | omega) only [dxB]) | (simp only [kI_d, kG_dt, kG_df]; split) | (simp only [kI_v, kG_vt, kG_vf]; split))
              all_goals try rfl
          · rw [if_neg q1]
            have c2 : ¬ ca = 1 := by omega
            have c3 : ¬ cb = 4 := by omega
            have hq2 := hq c2 a4 (by omega) b1 c3 (by omega)
            clear hq
            by_cases c1 : ca = cb
            · subst c1
              repeat' (first | (simp (maxSteps := 1000000) only [evB, if_true, if_false, ne_eq, Nat.reduceEqDiff, Nat.reduceAdd, reduceCtorEq, Int.reduceLE, Int.reduceLT, Int.reduceEq, Int.reduceNeg, Int.reduceToNat, Int.reducePow, Int.reduceMod, Int.reduceDiv, Int.reduceSub, Int.reduceAdd, Int.reduceMul, Nat.reduceMul, Nat.reduceSub, Nat.reducePow, exB, resC_ptr, res_cell, nilb, nilf, faddr_p, c_soft_Div, apart_ip, o1, i5_20, i5_21, r5_0, r5_5, h5, a4, c2, hq2]) | (simp (maxSteps := 1000000) (disch := first | with_reducible assumption | omega) only [dxB]) | (simp only [kI_d, kG_dt, kG_df]; split) | (simp only [kI_v, kG_vt, kG_vf]; split))
              all_goals try rfl
            · repeat' (first | (simp (maxSteps := 1000000) only [evB, if_true, if_false, ne_eq, Nat.reduceEqDiff, Nat.reduceAdd, reduceCtorEq, Int.reduceLE, Int.reduceLT, Int.reduceEq, Int.reduceNeg, Int.reduceToNat, Int.reducePow, Int.reduceMod, Int.reduceDiv, Int.reduceSub, Int.reduceAdd, Int.reduceMul, Nat.reduceMul, Nat.reduceSub, Nat.reducePow, exB, resC_ptr, res_cell, nilb, nilf, faddr_p, c_soft_Div, apart_ip, o1, i5_20, i5_21, r5_0, r5_5, h5, a4, b1, c1, c2, c3, hq2]) | (simp (maxSteps := 1000000) (disch := first | with_reducible assumption | omega) only [dxB]) | (simp only [kI_d, kG_dt, kG_df]; split) | (simp only [kI_v, kG_vt, kG_vf]; split))
              all_goals try rfl

end Go.Cv

/-
  The program's fused product and sum of words.
-/
namespace Go.Cv
variable {G : Nat → Option (List AV)} {T : Tbl} {g : Nat}

set_option maxHeartbeats 16000000 in
theorem soft_MulAdd (hA : HasA g T) (hG : Glob G g) (hC : HasC g T) (hD : HasD g T) (hE : HasE g T) (hU : HasG g T) (F : Fm) {md : Int} (hm : 1 ≤ md ∧ md ≤ 5) {a b c : Nat} (ha : a < 2 * F.sg) (hb : b < 2 * F.sg) (hc : c < 2 * F.sg) :
    run G T 175 [.int .u8 F.u, .int .u8 md, .int .u64 (a : Int), .int .u64 (b : Int), .int .u64 (c : Int)] = some (.tup [.int .u64 ((fmaW F md a b c).1 : Int), .int .u8 ((fmaW F md a b c).2 : Int), .int .i64 0]) := by
  rw [run_k G T hU.soft_MulAdd]
  obtain ⟨z1, z2, z3, o1⟩ := soft_open3 (G := G) (T := T) hA hG hC hD hE hU F hm ha hb hc
  have h5 := soft_has3 (G := G) (T := T) hU (k := 5) (c := F.cls a) (c' := F.cls b) (c'' := F.cls c) (n := F.ng a) (s := (F.vl a).n) (n' := F.ng b) (s' := (F.vl b).n) (n'' := F.ng c) (s'' := (F.vl c).n) (z := z1) (z' := z2) (z'' := z3) (l := dl (F.vl a).m) (l' := dl (F.vl b).m) (l'' := dl (F.vl c).m) (e := (F.vl a).e) (e' := (F.vl b).e) (e'' := (F.vl c).e)
  have hk := fun k => soft_has2 (G := G) (T := T) hU (k := k) (c := F.cls a) (c' := F.cls b) (n := F.ng a) (s := (F.vl a).n) (n' := F.ng b) (s' := (F.vl b).n) (z := z1) (z' := z2) (l := dl (F.vl a).m) (l' := dl (F.vl b).m) (e := (F.vl a).e) (e' := (F.vl b).e)
  have h4 := hk 4
  have h1 := hk 1
  have nn := fun x => desk_none (G := G) (T := T) hD hU F (md := md) (x := x)
  have b1 := Bd_vl F a
  have b2 := Bd_vl F b
  obtain ⟨z4, m1⟩ := dyad_Mul (G := G) (T := T) hA hG hC hU (z := z1) (y := z2) (b1.mono (by decide)) (b2.mono (by decide)) (mayD_nzb (Nz_vl F a) (b1.mono (by decide))) (mayD_nzb (Nz_vl F b) (b2.mono (by decide)))
  have ad := fun (k : Int) (z : Bool) (d : Dy) (hz : Nz d) (hb : Bd d 16384) => desk_add (G := G) (T := T) hA hG hC hD hE hU F hm (c := k) (n := F.ng a != F.ng b) (z := z) (d := d) (c' := F.cls c) (n' := F.ng c) (z' := z3) (d' := F.vl c) hz (Nz_vl F c) hb ((Bd_vl F c).mono (by decide))
  have ad4 := ad 4 true ⟨false, 0, 0⟩ ⟨fun _ => rfl, fun h => absurd rfl h⟩ ⟨by simp only [blen_zero]; omega, by simp, by simp⟩
  have ad1 := ad 1 true ⟨false, 0, 0⟩ ⟨fun _ => rfl, fun h => absurd rfl h⟩ ⟨by simp only [blen_zero]; omega, by simp, by simp⟩
  have ad3 := ad 3 z4 (mulD (F.vl a) (F.vl b)) (Nz_mul _ _) ((Bd_mul b1 b2).mono (by decide))
  clear ad b1 b2 hk
  unfold fmaW prC
  unfold ptC at o1
  generalize mulD (F.vl a) (F.vl b) = s at *
  have hne : (F.ng a != F.ng b) = !decide (F.ng a = F.ng b) := by cases F.ng a <;> cases F.ng b <;> rfl
  rw [hne] at ad4 ad1 ad3 ⊢
  generalize F.cls a = ca at *
  generalize F.ng a = na at *
  generalize F.vl a = va at *
  generalize F.cls b = cb at *
  generalize F.ng b = nb at *
  generalize F.vl b = vb at *
  generalize F.cls c = cc at *
  generalize F.ng c = nc at *
  generalize F.vl c = vc at *
  by_cases q5 : ca = 5 ∨ cb = 5 ∨ cc = 5
  · rw [decide_eq_true q5] at h5
    rw [if_pos q5]
    simp only [deskA, ptA, DyA, A3, dl_zero, List.cons_append, List.nil_append] at *
    repeat' (first | (simp (maxSteps := 1000000) only [evB, if_true, if_false, ne_eq, Nat.reduceEqDiff, Nat.reduceAdd, reduceCtorEq, Int.reduceLE, Int.reduceLT, Int.reduceEq, Int.reduceNeg, Int.reduceToNat, Int.reducePow, Int.reduceMod, Int.reduceDiv, Int.reduceSub, Int.reduceAdd, Int.reduceMul, Nat.reduceMul, Nat.reduceSub, Nat.reducePow, exB, resC_ptr, res_cell, nilb, nilf, faddr_p, c_soft_MulAdd, apart_ip, repA_3, st_bs5, o1, i5_30, i5_31, i5_32, r5_0, r5_5, r5_10, h5, nn]) | (simp (maxSteps := 1000000) (disch := first | with_reducible assumption | omega) only [dxB]) | (simp only [kI_d, kG_dt, kG_df]; split) | (simp only [kI_v, kG_vt, kG_vf]; split))
    all_goals try rfl
  · rw [decide_eq_false q5] at h5
    rw [if_neg q5]
    by_cases q4 : ca = 4 ∨ cb = 4
    · rw [decide_eq_true q4] at h4
      by_cases q1 : ca = 1 ∨ cb = 1
      · rw [decide_eq_true q1] at h1
        rw [if_pos (show (ca = 4 ∨ cb = 4) ∧ (ca = 1 ∨ cb = 1) from ⟨q4, q1⟩)]
        simp only [deskA, ptA, DyA, A3, dl_zero, List.cons_append, List.nil_append] at *
        repeat' (first | (simp (maxSteps := 1000000) only [evB, if_true, if_false, ne_eq, Nat.reduceEqDiff, Nat.reduceAdd, reduceCtorEq, Int.reduceLE, Int.reduceLT, Int.reduceEq, Int.reduceNeg, Int.reduceToNat, Int.reducePow, Int.reduceMod, Int.reduceDiv, Int.reduceSub, Int.reduceAdd, Int.reduceMul, Nat.reduceMul, Nat.reduceSub, Nat.reducePow, exB, resC_ptr, res_cell, nilb, nilf, faddr_p, c_soft_MulAdd, apart_ip, repA_3, st_bs5, o1, i5_30, i5_31, i5_32, r5_0, r5_5, r5_10, h5, h4, h1, nn]) | (simp (maxSteps := 1000000) (disch := first | with_reducible assumption | omega) only [dxB]) | (simp only [kI_d, kG_dt, kG_df]; split) | (simp only [kI_v, kG_vt, kG_vf]; split))
        all_goals try rfl
      · rw [decide_eq_false q1] at h1
        rw [if_neg (show ¬ ((ca = 4 ∨ cb = 4) ∧ (ca = 1 ∨ cb = 1)) from fun h => q1 h.2), if_pos q4, if_neg (by decide)]
        generalize addP F md 4 (!decide (na = nb)) ⟨false, 0, 0⟩ cc nc vc = S at *
        clear ad1 ad3
        simp only [deskA, ptA, DyA, A3, dl_zero, D_nil.symm, List.cons_append, List.nil_append] at *
        repeat' (first | (simp (maxSteps := 1000000) only [evB, if_true, if_false, ne_eq, Nat.reduceEqDiff, Nat.reduceAdd, reduceCtorEq, Int.reduceLE, Int.reduceLT, Int.reduceEq, Int.reduceNeg, Int.reduceToNat, Int.reducePow, Int.reduceMod, Int.reduceDiv, Int.reduceSub, Int.reduceAdd, Int.reduceMul, Nat.reduceMul, Nat.reduceSub, Nat.reducePow, exB, resC_ptr, res_cell, nilb, nilf, faddr_p, c_soft_MulAdd, apart_ip, repA_3, st_bs5, o1, i5_30, i5_31, i5_32, r5_0, r5_5, r5_10, h5, h4, h1, ad4]) | (simp (maxSteps := 1000000) (disch := first | with_reducible assumption | omega) only [dxB]) | (simp only [kI_d, kG_dt, kG_df]; split) | (simp only [kI_v, kG_vt, kG_vf]; split))
        all_goals try rfl
    · rw [decide_eq_false q4] at h4
      rw [if_neg (show ¬ ((ca = 4 ∨ cb = 4) ∧ (ca = 1 ∨ cb = 1)) from fun h => q4 h.1), if_neg q4]
      by_cases q1 : ca = 1 ∨ cb = 1
      · rw [decide_eq_true q1] at h1
        rw [if_pos q1, if_neg (by decide)]
        generalize addP F md 1 (!decide (na = nb)) ⟨false, 0, 0⟩ cc nc vc = S at *
        clear ad4 ad3
        simp only [deskA, ptA, DyA, A3, dl_zero, D_nil.symm, List.cons_append, List.nil_append] at *
        repeat' (first | (simp (maxSteps := 1000000) only [evB, if_true, if_false, ne_eq, Nat.reduceEqDiff, Nat.reduceAdd, reduceCtorEq, Int.reduceLE, Int.reduceLT, Int.reduceEq, Int.reduceNeg, Int.reduceToNat, Int.reducePow, Int.reduceMod, Int.reduceDiv, Int.reduceSub, Int.reduceAdd, Int.reduceMul, Nat.reduceMul, Nat.reduceSub, Nat.reducePow, exB, resC_ptr, res_cell, nilb, nilf, faddr_p, c_soft_MulAdd, apart_ip, repA_3, st_bs5, o1, i5_30, i5_31, i5_32, r5_0, r5_5, r5_10, h5, h4, h1, ad1]) | (simp (maxSteps := 1000000) (disch := first | with_reducible assumption | omega) only [dxB]) | (simp only [kI_d, kG_dt, kG_df]; split) | (simp only [kI_v, kG_vt, kG_vf]; split))
        all_goals try rfl
      · rw [decide_eq_false q1] at h1
        rw [if_neg q1, if_pos rfl]
        generalize addP F md 3 (!decide (na = nb)) s cc nc vc = S at *
        clear ad4 ad1
        simp only [deskA, ptA, DyA, A3, dl_zero, List.cons_append, List.nil_append] at *
        repeat' (first | (simp (maxSteps := 1000000) only [evB, if_true, if_false, ne_eq, Nat.reduceEqDiff, Nat.reduceAdd, reduceCtorEq, Int.reduceLE, Int.reduceLT, Int.reduceEq, Int.reduceNeg, Int.reduceToNat, Int.reducePow, Int.reduceMod, Int.reduceDiv, Int.reduceSub, Int.reduceAdd, Int.reduceMul, Nat.reduceMul, Nat.reduceSub, Nat.reducePow, exB, resC_ptr, res_cell, nilb, nilf, faddr_p, c_soft_MulAdd, apart_ip, repA_3, st_bs5, o1, i5_30, i5_31, i5_32, r5_0, r5_5, r5_10, h5, h4, h1, m1, ad3]) | (simp (maxSteps := 1000000) (disch := first | with_reducible assumption | omega) only [dxB]) | (simp only [kI_d, kG_dt, kG_df]; split) | (simp only [kI_v, kG_vt, kG_vf]; split))
        all_goals try rfl
end Go.Cv
