/-
  A part of the proof of the statements of this seat (texts that the law's own text leans on): no condition.
-/
import Derived.Test.YtmjcmppbmolmnaaGreatDoorM6
import Derived.Test.YtmjcmppbmolmnaaGreatDoorM5
import Derived.Test.YtmjcmppbmolmnaaGreatDoorM3
import Derived.Test.YtmjcmppbmolmnaaGreatDoorM4
set_option linter.unusedVariables false
set_option linter.unusedSimpArgs false
/-
  The program's quotients.
-/
namespace Go.Cv
variable {G : Nat → Option (List AV)} {T : Tbl} {g : Nat}

theorem all_loop (e : Env) (h : Heap) : evL G T c_nat_all_l1 e h = kS G T (evL G T c_nat_all_b1 (keepE [5, 6, 7] e) h) c_nat_all_l1 := s_loopc G T rfl e h
theorem ia1_0 (x y : AV) (k : IntKind) : iaddrV 1 (.imm 2 [x, y]) (.int k 0) = some (.iptr [x, y] 0) := rfl
theorem ia1_1 (x y : AV) (k : IntKind) : iaddrV 1 (.imm 2 [x, y]) (.int k 1) = some (.iptr [x, y] 1) := rfl
theorem rd1_0 (h : Mem) (x y : AV) : rdAt G h 1 (.iptr [x, y] 0) = some [x] := rfl
theorem rd1_1 (h : Mem) (x y : AV) : rdAt G h 1 (.iptr [x, y] 1) = some [y] := rfl

theorem nat_all (hT : HasA g T) {z y : Bool} {a b : List Nat} : run G T 106 [.imm 2 [D z a, D y b]] = some (.bool (mayL a && mayL b)) := by
  rw [run_k G T hT.nat_all]
  have h1 := nat_May (G := G) hT z a
  have h2 := nat_May (G := G) hT y b
  cases ha : mayL a <;> cases hb : mayL b <;> (
    rw [ha] at h1
    rw [hb] at h2
    repeat' (first | (simp (maxSteps := 1000000) only [evB, if_true, if_false, ne_eq, Nat.reduceEqDiff, Nat.reduceAdd, reduceCtorEq, Int.reduceLE, Int.reduceLT, Int.reduceEq, Int.reduceNeg, Int.reduceToNat, Int.reducePow, Int.reduceMod, Int.reduceDiv, Int.reduceSub, Int.reduceAdd, Int.reduceMul, Nat.reduceMul, Nat.reduceSub, Nat.reducePow, exB, resC_ptr, res_cell, nilb, nilf, faddr_p, c_nat_all, h1, h2, all_loop, c_nat_all_b1, ia1_0, ia1_1, rd1_0, rd1_1]) | (simp (maxSteps := 1000000) (disch := first | with_reducible assumption | omega) only [dxB]) | (simp only [kI_d, kG_dt, kG_df]; split) | (simp only [kI_v, kG_vt, kG_vf]; split))
    all_goals rfl)

theorem app_nil {h : Heap} {z : Bool} {l : List Nat} (hl : l ≠ []) (hs : l.length < 549755813888) : appV h 1 4 .nil (D z l) = some (.own h.b.length 0 l.length 1, new h l) := by
  cases l with
  | nil => exact absurd rfl hl
  | cons a l =>
    have e : sliceCells h.mem 1 (D z (a :: l)) = some ((a :: l).length, cells (a :: l)) := by
      simp [D, sliceCells, cells]
    simp only [appV, e]
    rw [if_neg (by simp), if_pos (by simp only [boundBytes]; omega)]
    rfl
theorem app_nil0 {h : Heap} {z : Bool} : appV h 1 4 .nil (D z []) = some (.nil, h) := by
  cases z <;> rfl

theorem cmpN_neg {a b : Nat} : cmpN a b < 0 ↔ a < b := by
  unfold cmpN; split
  · constructor <;> intro <;> omega
  · split <;> constructor <;> intro <;> omega

theorem snap_new {h : Heap} (hf : FreH h) (l : List Nat) : snapG (new h l).mem 3 h.b.length 0 l.length 1 = some (D false l) := by
  have := snap_own (Holds_new hf l) (n := l.length) (Nat.le_refl _)
  rw [List.take_length] at this; exact this

theorem nat_QuoRem (hT : HasA g T) {z y : Bool} {a b : Nat} (ha : mayL (dl a) = true) (hb : mayL (dl b) = true) (h0 : b ≠ 0) :
    ∃ z1 z2, run G T 77 [D z (dl a), D y (dl b)] = some (.tup [D z1 (dl (a / b)), D z2 (dl (a % b)), .int .i64 0]) := by
  have la := (mayL_iff.1 ha).1
  have lb := (mayL_iff.1 hb).1
  have h1 := nat_all (G := G) hT (z := z) (y := y) (a := dl a) (b := dl b)
  rw [ha, hb, Bool.and_self] at h1
  have h2 := nat_cmp (G := G) hT (z := z) (y := y) (a := a) (b := b) (by omega) (by omega)
  have hl0 : ¬ ((dl b).length : Int) = 0 := by
    intro hc; exact h0 (dl_len0.1 (by omega))
  by_cases hab : a < b
  · have c1 : cmpN a b < 0 := cmpN_neg.2 hab
    rw [Nat.div_eq_of_lt hab, Nat.mod_eq_of_lt hab, dl_zero]
    by_cases ha0 : a = 0
    · subst ha0
      rw [dl_zero] at *
      refine ⟨true, true, ?_⟩
      rw [run_k G T hT.nat_QuoRem]
      clear la lb ha hb hab
      repeat' (first | (simp (maxSteps := 1000000) only [evB, if_true, if_false, ne_eq, Nat.reduceEqDiff, Nat.reduceAdd, reduceCtorEq, Int.reduceLE, Int.reduceLT, Int.reduceEq, Int.reduceNeg, Int.reduceToNat, Int.reducePow, Int.reduceMod, Int.reduceDiv, Int.reduceSub, Int.reduceAdd, Int.reduceMul, Nat.reduceMul, Nat.reduceSub, Nat.reducePow, exB, resC_ptr, res_cell, nilb, nilf, faddr_p, c_nat_QuoRem, h1, h2, hl0, c1, app_nil0]) | (simp (maxSteps := 1000000) (disch := first | with_reducible assumption | omega) only [dxB]) | (simp only [kI_d, kG_dt, kG_df]; split) | (simp only [kI_v, kG_vt, kG_vf]; split))
      rfl
    · have hne : dl a ≠ [] := fun hc => ha0 (dl_eq_nil.1 hc)
      refine ⟨true, false, ?_⟩
      rw [run_k G T hT.nat_QuoRem]
      clear ha hb hab
      repeat' (first | (simp (maxSteps := 1000000) only [evB, if_true, if_false, ne_eq, Nat.reduceEqDiff, Nat.reduceAdd, reduceCtorEq, Int.reduceLE, Int.reduceLT, Int.reduceEq, Int.reduceNeg, Int.reduceToNat, Int.reducePow, Int.reduceMod, Int.reduceDiv, Int.reduceSub, Int.reduceAdd, Int.reduceMul, Nat.reduceMul, Nat.reduceSub, Nat.reducePow, exB, resC_ptr, res_cell, nilb, nilf, faddr_p, c_nat_QuoRem, h1, h2, hl0, c1 ]) | (simp (maxSteps := 1000000) (disch := first | with_reducible assumption | omega) only [dxB,  app_nil]) | (simp only [kI_d, kG_dt, kG_df]; split) | (simp only [kI_v, kG_vt, kG_vf]; split))
      have hsn := snap_new (h := { b := [{ cs := [D z (dl a), D y (dl b)] }], f := fz1 (AV.bool true) [0] }) (fun c hc => absurd hc List.not_mem_nil) (dl a)
      simp only [List.length_cons, List.length_nil, Nat.zero_add] at hsn
      rw [hsn]
      rfl
  · have c1 : ¬ cmpN a b < 0 := fun hc => hab (cmpN_neg.1 hc)
    by_cases hb1 : (dl b).length = 1
    · have hd0 : dl b = [b] := by
        have e1 : b < 4294967296 := by have := dl_len.1 (Nat.le_of_eq hb1); simpa using this
        rw [dl_pos h0, Nat.mod_eq_of_lt e1, Nat.div_eq_of_lt e1, dl_zero]
      have e1 : b < 4294967296 := by have := dl_len.1 (Nat.le_of_eq hb1); simpa using this
      have hr : a % b < b := Nat.mod_lt _ (by omega)
      obtain ⟨z1, hz1⟩ := nat_small (G := G) hT (z := z) (a := a) (d := b) (by omega) e1 (by omega)
      obtain ⟨z2, hz2⟩ := nat_trim (G := G) hT (z := false) (l := [a % b]) (Dg_cons.2 ⟨by omega, Dg.nil⟩) (by simp)
      rw [show val [a % b] = a % b by simp [val]] at hz2
      have hz2 : run G T 94 [.imm 1 [.int .u32 ((a % b : Nat) : Int)]] = some (D z2 (dl (a % b))) := hz2
      have hdb : dg (dl b) 0 = b := by rw [hd0]; rfl
      have hb1' : ((dl b).length : Int) = 1 := by omega
      refine ⟨z1, z2, ?_⟩
      rw [run_k G T hT.nat_QuoRem]
      clear ha hb hab hr
      repeat' (first | (simp (maxSteps := 1000000) only [evB, if_true, if_false, ne_eq, Nat.reduceEqDiff, Nat.reduceAdd, reduceCtorEq, Int.reduceLE, Int.reduceLT, Int.reduceEq, Int.reduceNeg, Int.reduceToNat, Int.reducePow, Int.reduceMod, Int.reduceDiv, Int.reduceSub, Int.reduceAdd, Int.reduceMul, Nat.reduceMul, Nat.reduceSub, Nat.reducePow, exB, resC_ptr, res_cell, nilb, nilf, faddr_p, c_nat_QuoRem, h1, h2, hl0, c1, hb1', hdb, hz1, hz2]) | (simp (maxSteps := 1000000) (disch := first | with_reducible assumption | omega) only [dxB]) | (simp only [kI_d, kG_dt, kG_df]; split) | (simp only [kI_v, kG_vt, kG_vf]; split))
    · have hb2 : ¬ ((dl b).length : Int) = 1 := by omega
      have hb3 : ¬ (dl b).length = 0 := by omega
      obtain ⟨z1, z2, hz⟩ := nat_long (G := G) hT (z := z) (y := y) (a := a) (b := b) (by omega) (by omega) (by omega)
      refine ⟨z1, z2, ?_⟩
      rw [run_k G T hT.nat_QuoRem]
      clear ha hb hab
      repeat' (first | (simp (maxSteps := 1000000) only [evB, if_true, if_false, ne_eq, Nat.reduceEqDiff, Nat.reduceAdd, reduceCtorEq, Int.reduceLE, Int.reduceLT, Int.reduceEq, Int.reduceNeg, Int.reduceToNat, Int.reducePow, Int.reduceMod, Int.reduceDiv, Int.reduceSub, Int.reduceAdd, Int.reduceMul, Nat.reduceMul, Nat.reduceSub, Nat.reducePow, exB, resC_ptr, res_cell, nilb, nilf, faddr_p, c_nat_QuoRem, h1, h2, hl0, c1, hb2, hz]) | (simp (maxSteps := 1000000) (disch := first | with_reducible assumption | omega) only [dxB]) | (simp only [kI_d, kG_dt, kG_df]; split) | (simp only [kI_v, kG_vt, kG_vf]; split))
end Go.Cv

/-
  The program's roots.
-/
namespace Go.Cv
variable {G : Nat → Option (List AV)} {T : Tbl} {g : Nat}

theorem sum_loop (hT : HasA g T) {h : Heap} {b N : Nat} {Q X l0 : List Nat} {zq zx : Bool} {va : AV} (H : Holds h b l0) (dQ : Dg Q) (dX : Dg X) (hs : N < 17179869184) : ∀ (m i : Nat) (l : List Nat) (c : Nat), m + i = N → l.length = N → Dg l → c ≤ 1 → val (l.take i) + 4294967296 ^ i * c = val (Q.take i) + val (X.take i) →
    Post (evL G T c_nat_Root_l1 [(0, va), (5, D zx X), (6, D zq Q), (9, .own b 0 N 1), (10, .int .u32 (c : Int)), (42, .int .i64 (N : Int)), (43, .int .i64 (i : Int))] (put h b l)) fun r =>
      ∃ e l' c', r = (.exit 2, (0, va) :: (5, D zx X) :: (6, D zq Q) :: (9, .own b 0 N 1) :: (10, .int .u32 ((c' : Nat) : Int)) :: e, put h b l') ∧ l'.length = N ∧ Dg l' ∧ val l' + 4294967296 ^ N * c' = val (Q.take N) + val (X.take N)
  | 0, i, l, c, hm, hl, dl', hc, he => by
    rw [s_loopc G T (c := c_nat_Root_l1) rfl]
    have h1 : ¬ (i : Int) < (N : Int) := by omega
    repeat (first | (simp (maxSteps := 1000000) only [evB, if_true, if_false, ne_eq, Nat.reduceEqDiff, Nat.reduceAdd, reduceCtorEq, Int.reduceLE, Int.reduceLT, Int.reduceEq, Int.reduceNeg, Int.reduceToNat, Int.reducePow, Int.reduceMod, Int.reduceDiv, Int.reduceSub, Int.reduceAdd, Int.reduceMul, Nat.reduceMul, Nat.reduceSub, Nat.reducePow, c_nat_Root_b1, h1]) | (simp (disch := omega) only [dsB]))
    obtain rfl : i = N := by omega
    rw [List.take_of_length_le (by omega)] at he
    exact Post.some ⟨_, _, _, rfl, hl, dl', he⟩
  | m + 1, i, l, c, hm, hl, dl', hc, he => by
    rw [s_loopc G T (c := c_nat_Root_l1) rfl]
    have h1 : (i : Int) < (N : Int) := by omega
    have e7 : (i : Int) + 1 = ((i + 1 : Nat) : Int) := by omega
    have HU := H.put l
    have hx := dX.dg i
    have hq := dQ.dg i
    obtain ⟨d, z, hd1, hz, hdz⟩ := add_dig hq hx hc
    have call := bits_Add32 (G := G) hT hq hx hc hd1 hz hdz
    have st := store_n HU (i := i) (x := d) (by omega)
    rw [put_put] at st
    have fin := sum_loop hT (zq := zq) (zx := zx) (va := va) H dQ dX hs m (i + 1) (l.set i d) z (by omega) (by rw [List.length_set]; exact hl) (Dg_set dl' hd1) hz (by
      rw [take_set (by omega), val_take_succ', val_take_succ']
      exact add_step (by rw [List.length_take]; omega) he (by omega))
    by_cases c1 : (i : Int) < (Q.length : Int)
    · by_cases c2 : (i : Int) < (X.length : Int)
      · repeat (first | (simp (maxSteps := 1000000) only [evB, if_true, if_false, ne_eq, Nat.reduceEqDiff, Nat.reduceAdd, reduceCtorEq, Int.reduceLE, Int.reduceLT, Int.reduceEq, Int.reduceNeg, Int.reduceToNat, Int.reducePow, Int.reduceMod, Int.reduceDiv, Int.reduceSub, Int.reduceAdd, Int.reduceMul, Nat.reduceMul, Nat.reduceSub, Nat.reducePow, c_nat_Root_b1, h1, c1, c2, e7, call, st]) | (simp (disch := omega) only [dsB]))
        exact fin
      · have z2 : dg X i = 0 := dg_ge (by omega)
        rw [z2, cast0] at call
        repeat (first | (simp (maxSteps := 1000000) only [evB, if_true, if_false, ne_eq, Nat.reduceEqDiff, Nat.reduceAdd, reduceCtorEq, Int.reduceLE, Int.reduceLT, Int.reduceEq, Int.reduceNeg, Int.reduceToNat, Int.reducePow, Int.reduceMod, Int.reduceDiv, Int.reduceSub, Int.reduceAdd, Int.reduceMul, Nat.reduceMul, Nat.reduceSub, Nat.reducePow, c_nat_Root_b1, h1, c1, c2, e7, call, st]) | (simp (disch := omega) only [dsB]))
        exact fin
    · have z1 : dg Q i = 0 := dg_ge (by omega)
      rw [z1, cast0] at call
      by_cases c2 : (i : Int) < (X.length : Int)
      · repeat (first | (simp (maxSteps := 1000000) only [evB, if_true, if_false, ne_eq, Nat.reduceEqDiff, Nat.reduceAdd, reduceCtorEq, Int.reduceLE, Int.reduceLT, Int.reduceEq, Int.reduceNeg, Int.reduceToNat, Int.reducePow, Int.reduceMod, Int.reduceDiv, Int.reduceSub, Int.reduceAdd, Int.reduceMul, Nat.reduceMul, Nat.reduceSub, Nat.reducePow, c_nat_Root_b1, h1, c1, c2, e7, call, st]) | (simp (disch := omega) only [dsB]))
        exact fin
      · have z2 : dg X i = 0 := dg_ge (by omega)
        rw [z2, cast0] at call
        repeat (first | (simp (maxSteps := 1000000) only [evB, if_true, if_false, ne_eq, Nat.reduceEqDiff, Nat.reduceAdd, reduceCtorEq, Int.reduceLE, Int.reduceLT, Int.reduceEq, Int.reduceNeg, Int.reduceToNat, Int.reducePow, Int.reduceMod, Int.reduceDiv, Int.reduceSub, Int.reduceAdd, Int.reduceMul, Nat.reduceMul, Nat.reduceSub, Nat.reducePow, c_nat_Root_b1, h1, c1, c2, e7, call, st]) | (simp (disch := omega) only [dsB]))
        exact fin

/-- Newton's step (plain). -/
theorem newton {a x : Nat} (ha : 0 < a) (hx : 0 < x) : a < ((a / x + x) / 2 + 1) * ((a / x + x) / 2 + 1) ∧ 0 < (a / x + x) / 2 := by
  have h1 := Nat.div_add_mod a x
  have h2 := Nat.mod_lt a hx
  generalize hq : a / x = q at *
  constructor
  · obtain ⟨w, hw⟩ : ∃ w, w = (q + x) / 2 + 1 := ⟨_, rfl⟩
    rw [← hw]
    have h3 : q + x + 1 ≤ 2 * w := by omega
    have h4 : (q + 1 + x) * (q + 1 + x) ≤ (2 * w) * (2 * w) := Nat.mul_le_mul (by omega) (by omega)
    have h5 : 4 * ((q + 1) * x) ≤ (q + 1 + x) * (q + 1 + x) := by
      rcases Nat.le_total (q + 1) x with h | h
      · obtain ⟨d, rfl⟩ := Nat.exists_eq_add_of_le h
        generalize q + 1 = p
        have : (p + (p + d)) * (p + (p + d)) = 4 * (p * (p + d)) + d * d := by
          simp only [Nat.mul_add, Nat.add_mul, Nat.mul_comm d p]; omega
        omega
      · obtain ⟨d, hd⟩ := Nat.exists_eq_add_of_le h
        rw [hd]
        have : (x + d + x) * (x + d + x) = 4 * ((x + d) * x) + d * d := by
          simp only [Nat.mul_add, Nat.add_mul, Nat.mul_comm d x]; omega
        omega
    have h6 : (2 * w) * (2 * w) = 4 * (w * w) := by
      rw [Nat.mul_mul_mul_comm]
    have h7 : a < (q + 1) * x := by rw [Nat.add_mul, Nat.one_mul, Nat.mul_comm]; omega
    omega
  · apply Classical.byContradiction
    intro hc
    have h3 : q + x ≤ 1 := by omega
    obtain rfl : x = 1 := by omega
    obtain rfl : q = 0 := by omega
    omega
theorem newton_end {a x : Nat} (hx : 0 < x) (h : x ≤ (a / x + x) / 2) : x * x ≤ a := by
  have h1 : x ≤ a / x := by omega
  exact (Nat.le_div_iff_mul_le hx).1 h1
end Go.Cv

/-
  The program's root.
-/
namespace Go.Cv
variable {G : Nat → Option (List AV)} {T : Tbl} {g : Nat}

theorem reach_own {h : Heap} {b : Nat} {l : List Nat} (H : Holds h b l) : reachG h.mem 3 b = [b] := by
  cases h with
  | mk bs fs => rw [rg_x, H.at_, rgO_some, rl_cells]
theorem FreH_fz {h : Heap} {b : Nat} {l : List Nat} (H : Holds h b l) (hf : FreH h) (r : AV) : FreH ⟨h.b, fz1 r [b] ++ h.f⟩ := by
  intro c hc
  rcases List.mem_append.1 hc with h1 | h1
  · unfold fz1 at h1
    split at h1
    · have := List.mem_singleton.1 h1; subst this; exact H.lt
    · exact absurd h1 List.not_mem_nil
  · exact hf c h1
theorem cmpN_zero {a b : Nat} : cmpN a b = 0 ↔ a = b := by
  unfold cmpN; split
  · constructor <;> intro <;> omega
  · split <;> constructor <;> intro <;> omega

theorem root_loop (hT : HasA g T) {z : Bool} {a : Nat} (ha : mayL (dl a) = true) (ha0 : 0 < a) : ∀ (x : Nat) (h : Heap) (zx : Bool), FreH h → 0 < x → mayL (dl x) = true → a < (x + 1) * (x + 1) →
    Post (evL G T c_nat_Root_l2 [(0, D z (dl a)), (5, D zx (dl x))] h) fun R =>
      ∃ e h' r z', R = (.ret, (2, D z' (dl r)) :: (3, .bool (decide (r * r = a))) :: (4, .int .i64 0) :: e, h') ∧ r * r ≤ a ∧ a < (r + 1) * (r + 1) := by
  intro x
  induction x using Nat.strongRecOn with
  | ind x ih =>
    intro h zx hf hx hmx hlt
    rw [s_loopc G T (c := c_nat_Root_l2) rfl]
    have la := (mayL_iff.1 ha).1
    have lx := (mayL_iff.1 hmx).1
    obtain ⟨zq, zr, hq⟩ := nat_QuoRem (G := G) hT (z := z) (y := zx) ha hmx (by omega)
    have hqa : a / x ≤ a := Nat.div_le_self _ _
    have lq : (dl (a / x)).length ≤ 4096 := by
      have h1 := blen_mono hqa
      have h2 := dl_len_blen (a / x)
      have h3 := dl_len_blen a
      omega
    obtain ⟨nw1, nw2⟩ := newton ha0 hx
    have nw3 := newton_end (a := a) hx
    generalize a / x = q at *
    obtain ⟨N, hN⟩ : ∃ N, N = max (dl q).length (dl x).length + 1 := ⟨_, rfl⟩
    have e1 : max ((dl q).length : Int) ((dl x).length : Int) + 1 = (N : Int) := by omega
    have H0 := Holds_new hf (List.replicate N 0)
    obtain ⟨_, hr, e, l', c', rfl, hl, dl2, hv⟩ := sum_loop (G := G) (zq := zq) (zx := zx) (va := D z (dl a)) hT H0 (Dg_dl q) (Dg_dl x) (N := N) (by omega) N 0 (List.replicate N 0) 0 (by omega) (List.length_replicate ..) (Dg_rep _) (by decide) (by simp [val])
    rw [put_self H0, cast0] at hr
    rw [List.take_of_length_le (by omega), List.take_of_length_le (by omega), val_dl, val_dl] at hv
    have hl4 := val_lt dl2
    rw [hl] at hl4
    have hsum : q + x < 4294967296 ^ N := by
      have h1 : q < 4294967296 ^ (N - 1) := dl_len.1 (by omega)
      have h2 : x < 4294967296 ^ (N - 1) := dl_len.1 (by omega)
      have h3 : 4294967296 ^ N = 4294967296 ^ (N - 1) * 4294967296 := by rw [← Nat.pow_succ, show (N - 1).succ = N by omega]
      rw [h3]; omega
    have hval : val l' = q + x := by
      rcases Nat.eq_zero_or_pos c' with h1 | h1
      · subst h1; rw [Nat.mul_zero] at hv; omega
      · have : 4294967296 ^ N * 1 ≤ 4294967296 ^ N * c' := Nat.mul_le_mul_left _ h1
        omega
    have H1 := H0.put l'
    have hsn := snap_own H1 (n := N) (by omega)
    rw [← hl, List.take_length, hl] at hsn
    obtain ⟨z1, hz1⟩ := nat_trim (G := G) hT (z := false) dl2 (by omega)
    rw [hval] at hz1
    have lsum : (dl (q + x)).length ≤ N := dl_len.2 hsum
    obtain ⟨z2, hz2⟩ := nat_down (G := G) hT (z := z1) (a := q + x) (n := 1) (by omega) (by decide)
    rw [Nat.pow_one, show ((1 : Nat) : Int) = 1 from rfl] at hz2
    generalize hy : (q + x) / 2 = y at *
    have ly : (dl y).length ≤ N := by
      have h1 := blen_mono (a := y) (b := q + x) (by omega)
      have h2 := dl_len_blen y
      have h3 := dl_len_blen (q + x)
      omega
    have hc := nat_cmp (G := G) hT (z := z2) (y := zx) (a := y) (b := x) (by omega) (by omega)
    have hf2 : FreH ⟨(put (new h (List.replicate N 0)) h.b.length l').b, fz1 (D z1 (dl (q + x))) [h.b.length] ++ (put (new h (List.replicate N 0)) h.b.length l').f⟩ := FreH_fz H1 ((hf.new _).put _ _) _
    have hre := reach_own H1
    by_cases c1 : y < x
    · have c2 : ¬ 0 ≤ cmpN y x := by have := cmpN_neg.2 c1; omega
      have hmy : mayL (dl y) = true := by
        rw [mayL_iff]; refine ⟨?_, Nm_dl _⟩
        have h1 := blen_mono (Nat.le_of_lt c1)
        have h2 := dl_len_blen y
        have h3 := dl_len_blen x
        omega
      have fin := ih y c1 _ z2 hf2 nw2 hmy nw1
      clear nw1 nw3 ih hv hl4 hsum hlt hy
      repeat (first | (simp (maxSteps := 1000000) only [evB, if_true, if_false, ne_eq, Nat.reduceEqDiff, Nat.reduceAdd, reduceCtorEq, Int.reduceLE, Int.reduceLT, Int.reduceEq, Int.reduceNeg, Int.reduceToNat, Int.reducePow, Int.reduceMod, Int.reduceDiv, Int.reduceSub, Int.reduceAdd, Int.reduceMul, Nat.reduceMul, Nat.reduceSub, Nat.reducePow, c_nat_Root_b2, hq, mm_max2, e1, hr, hsn, hz1, hz2, hc, c2, frz_own, hre]) | (simp (disch := omega) only [dsB]))
      exact fin
    · have c2 : 0 ≤ cmpN y x := by
        have : ¬ cmpN y x < 0 := fun hh => c1 (cmpN_neg.1 hh)
        omega
      obtain ⟨z3, hz3⟩ := nat_mul (G := G) hT (z := zx) (y := zx) (a := x) (b := x) (by omega)
      have lxx : (dl (x * x)).length ≤ 8192 := by
        have h1 := dl_len_blen (x * x)
        have h2 := dl_len_blen x
        have h3 : blen (x * x) ≤ blen x + blen x := by
          rw [blen_le, Nat.pow_add]
          exact Nat.mul_lt_mul'' (lt_pow_blen x) (lt_pow_blen x)
        omega
      have hc3 := nat_cmp (G := G) hT (z := z3) (y := z) (a := x * x) (b := a) (by omega) (by omega)
      have hd : decide (cmpN (x * x) a = 0) = decide (x * x = a) := decide_eq_decide.2 cmpN_zero
      have fin := nw3 (by omega)
      clear nw1 nw3 ih hv hl4 hsum hy
      repeat (first | (simp (maxSteps := 1000000) only [evB, if_true, if_false, ne_eq, Nat.reduceEqDiff, Nat.reduceAdd, reduceCtorEq, Int.reduceLE, Int.reduceLT, Int.reduceEq, Int.reduceNeg, Int.reduceToNat, Int.reducePow, Int.reduceMod, Int.reduceDiv, Int.reduceSub, Int.reduceAdd, Int.reduceMul, Nat.reduceMul, Nat.reduceSub, Nat.reducePow, c_nat_Root_b2, hq, mm_max2, e1, hr, hsn, hz1, hz2, hc, c2, frz_own, hre, hz3, hc3, hd]) | (simp (disch := omega) only [dsB]))
      exact Post.some ⟨_, _, _, _, rfl, fin, hlt⟩
end Go.Cv

/-
  The program's root, whole.
-/
namespace Go.Cv
variable {G : Nat → Option (List AV)} {T : Tbl} {g : Nat}

theorem nat_Root (hT : HasA g T) {z : Bool} {a : Nat} (ha : mayL (dl a) = true) :
    ∃ r z', run G T 81 [D z (dl a)] = some (.tup [D z' (dl r), .bool (decide (r * r = a)), .int .i64 0]) ∧ r * r ≤ a ∧ a < (r + 1) * (r + 1) := by
  have la := (mayL_iff.1 ha).1
  have h1 := nat_May (G := G) hT z (dl a)
  rw [ha] at h1
  by_cases h0 : a = 0
  · subst h0
    rw [dl_zero] at *
    refine ⟨0, true, ?_, by decide, by decide⟩
    rw [run_k G T hT.nat_Root, dl_zero]
    clear la ha
    repeat' (first | (simp (maxSteps := 1000000) only [evB, if_true, if_false, ne_eq, Nat.reduceEqDiff, Nat.reduceAdd, reduceCtorEq, Int.reduceLE, Int.reduceLT, Int.reduceEq, Int.reduceNeg, Int.reduceToNat, Int.reducePow, Int.reduceMod, Int.reduceDiv, Int.reduceSub, Int.reduceAdd, Int.reduceMul, Nat.reduceMul, Nat.reduceSub, Nat.reducePow, exB, resC_ptr, res_cell, nilb, nilf, faddr_p, c_nat_Root, h1]) | (simp (maxSteps := 1000000) (disch := first | with_reducible assumption | omega) only [dxB]) | (simp only [kI_d, kG_dt, kG_df]; split) | (simp only [kI_v, kG_vt, kG_vf]; split))
    rfl
  · have hl : ¬ ((dl a).length : Int) = 0 := fun hc => h0 (dl_len0.1 (by omega))
    have h2 := nat_Len (G := G) hT (z := z) ha
    have hb : blen a ≤ 131072 := may_blen ha
    have w1 : ((blen a : Nat) : Int) + 1 = ((blen a + 1 : Nat) : Int) := by omega
    have w2 : ((blen a + 1 : Nat) : Int).tdiv 2 = (((blen a + 1) / 2 : Nat) : Int) := rfl
    have w3 : ((blen a + 1 : Nat) : Int) / 2 = (((blen a + 1) / 2 : Nat) : Int) := rfl
    have ltb := lt_pow_blen a
    have hk : blen a ≤ 2 * ((blen a + 1) / 2) := by omega
    have hk2 : (blen a + 1) / 2 ≤ 65536 := by omega
    generalize (blen a + 1) / 2 = k at *
    have d1 : dl 1 = [1] := by rw [dl_pos (by decide), Nat.mod_eq_of_lt (by decide), Nat.div_eq_of_lt (by decide), dl_zero]
    obtain ⟨zx, hz⟩ := nat_up (G := G) hT (z := false) (a := 1) (n := k) (by rw [d1]; decide) (by omega)
    rw [Nat.one_mul, d1] at hz
    have hz2 : run G T 91 [.imm 1 [.int .u32 1], .int .i64 (k : Int)] = some (D zx (dl (2 ^ k))) := hz
    have H0 : Holds ⟨[⟨[.int .u32 1], false⟩], []⟩ 0 [1] := ⟨rfl, rfl⟩
    have hre := reach_own H0
    have hf : FreH ⟨[⟨[.int .u32 1], false⟩], fz1 (D zx (dl (2 ^ k))) [0] ++ []⟩ := FreH_fz H0 (fun c hc => absurd hc List.not_mem_nil) _
    rw [List.append_nil] at hf
    have hmx : mayL (dl (2 ^ k)) = true := mayL_small (by
      have := blen_eq (n := 2 ^ k) (k := k) (Nat.le_refl _) (Nat.pow_lt_pow_right (by decide) (Nat.lt_succ_self k)); omega)
    have hlt : a < (2 ^ k + 1) * (2 ^ k + 1) := by
      have e1 : a < 2 ^ k * 2 ^ k := by
        rw [← Nat.pow_add]
        exact Nat.lt_of_lt_of_le ltb (Nat.pow_le_pow_right (by decide) (by omega))
      exact Nat.lt_of_lt_of_le e1 (Nat.mul_le_mul (by omega) (by omega))
    obtain ⟨_, hr, e, h', r, z', rfl, p1, p2⟩ := root_loop (G := G) hT (z := z) ha (by omega) (2 ^ k) _ zx hf (Nat.two_pow_pos k) hmx hlt
    refine ⟨r, z', ?_, p1, p2⟩
    rw [run_k G T hT.nat_Root]
    clear ltb hk hlt hmx p1 p2 ha hf
    repeat' (first | (simp (maxSteps := 1000000) only [evB, if_true, if_false, ne_eq, Nat.reduceEqDiff, Nat.reduceAdd, reduceCtorEq, Int.reduceLE, Int.reduceLT, Int.reduceEq, Int.reduceNeg, Int.reduceToNat, Int.reducePow, Int.reduceMod, Int.reduceDiv, Int.reduceSub, Int.reduceAdd, Int.reduceMul, Nat.reduceMul, Nat.reduceSub, Nat.reducePow, exB, resC_ptr, res_cell, nilb, nilf, faddr_p, c_nat_Root, h1, h2, hl, w1, w2, w3, hz, hz2, hre, hr]) | (simp (maxSteps := 1000000) (disch := first | with_reducible assumption | omega) only [dxB]) | (simp only [kI_d, kG_dt, kG_df]; split) | (simp only [kI_v, kG_vt, kG_vf]; split))
end Go.Cv

/-
  The document's quotient: bit by bit.
-/
namespace Go.Cv
variable {G : Nat → Option (List AV)} {T : Tbl} {g : Nat}

end Go.Cv

/-
  The document's quotient: its loop.
-/
namespace Go.Cv
variable {G : Nat → Option (List AV)} {T : Tbl} {g : Nat}

theorem boxed_snap (h : Heap) : snapG (Heap.mem ⟨h.b ++ [⟨[.int .u32 1], false⟩], h.f⟩) 3 h.b.length 0 1 1 = some (D false [1]) := by
  have e : (Heap.mem ⟨h.b ++ [⟨[.int .u32 1], false⟩], h.f⟩) h.b.length = some ⟨cells [1], false⟩ := by
    simp [Heap.mem, cells]
  exact sg_digits (d := 2) (l := [1]) (by rw [rdBlk, e]; rfl) rfl
end Go.Cv

/-
  The document's quotient, whole.
-/
namespace Go.Cv
variable {G : Nat → Option (List AV)} {T : Tbl} {g : Nat}

end Go.Cv

/-
  The document's root (plain part).
-/
namespace Go.Cv
variable {G : Nat → Option (List AV)} {T : Tbl} {g : Nat}

theorem four_down {a i : Nat} : a / 2 ^ i = 4 * (a / 2 ^ (i + 2)) + (2 * (a / 2 ^ (i + 1) % 2) + a / 2 ^ i % 2) := by
  rw [Nat.pow_succ, Nat.pow_succ, ← Nat.div_div_eq_div_mul, ← Nat.div_div_eq_div_mul]; omega
theorem root_yes {r s v p : Nat} (h : p = r * r + s) (hs : s ≤ 2 * r) (hv : v < 4) (hc : 4 * r + 1 ≤ 4 * s + v) :
    4 * p + v = (2 * r + 1) * (2 * r + 1) + (4 * s + v - (4 * r + 1)) ∧ 4 * s + v - (4 * r + 1) ≤ 2 * (2 * r + 1) := by
  have e : (2 * r + 1) * (2 * r + 1) = 4 * (r * r) + 4 * r + 1 := by
    simp only [Nat.mul_add, Nat.add_mul, Nat.mul_one, Nat.one_mul]
    have : 2 * r * (2 * r) = 4 * (r * r) := by rw [Nat.mul_mul_mul_comm]
    omega
  rw [e, h]; omega
theorem root_no {r s v p : Nat} (h : p = r * r + s) (hc : 4 * s + v < 4 * r + 1) :
    4 * p + v = (2 * r) * (2 * r) + (4 * s + v) ∧ 4 * s + v ≤ 2 * (2 * r) := by
  have e : 2 * r * (2 * r) = 4 * (r * r) := by rw [Nat.mul_mul_mul_comm]
  rw [e, h]; omega
theorem root_end {r s a : Nat} (h : a = r * r + s) (hs : s ≤ 2 * r) : r * r ≤ a ∧ a < (r + 1) * (r + 1) ∧ (s = 0 ↔ r * r = a) := by
  have e : (r + 1) * (r + 1) = r * r + 2 * r + 1 := by
    simp only [Nat.mul_add, Nat.add_mul, Nat.mul_one, Nat.one_mul]; omega
  rw [e]; omega
theorem root_uniq {r t a : Nat} (h1 : r * r ≤ a) (h2 : a < (r + 1) * (r + 1)) (h3 : t * t ≤ a) (h4 : a < (t + 1) * (t + 1)) : r = t := by
  rcases Nat.lt_trichotomy r t with h | h | h
  · have : (r + 1) * (r + 1) ≤ t * t := Nat.mul_le_mul h h
    omega
  · exact h
  · have : (t + 1) * (t + 1) ≤ r * r := Nat.mul_le_mul h h
    omega
end Go.Cv

/-
  The document's root: the loop.
-/
namespace Go.Cv
variable {G : Nat → Option (List AV)} {T : Tbl} {g : Nat}

theorem box_snap (bs : List Blk) (f : List Nat) : snapG (Heap.mem ⟨bs ++ [⟨[.int .u32 1], false⟩], f⟩) 3 bs.length 0 1 1 = some (D false [1]) := boxed_snap ⟨bs, f⟩

theorem dl_bd {x k : Nat} (h : x < 2 ^ k) : (dl x).length ≤ (k + 31) / 32 := by
  have h1 := dl_len_blen x
  have h2 := blen_le.2 h
  omega

theorem rroot_loop (hT : HasB g T) {a : Nat} {z : Bool} (ha : (dl a).length < 1073741824) : ∀ (j : Nat) (h : Heap) (zr zs : Bool) (r s : Nat),
    2 * j < 68719476736 → a / 2 ^ (2 * j) = r * r + s → s ≤ 2 * r →
    Post (evL G T c_ref01_Root_l1 [(0, D z (dl a)), (4, D zr (dl r)), (5, D zs (dl s)), (7, .int .i64 (2 * (j : Int) - 2))] h) fun R =>
      ∃ e h' zr' zs' r' s', R = (.exit 0, (0, D z (dl a)) :: (4, D zr' (dl r')) :: (5, D zs' (dl s')) :: e, h') ∧ a = r' * r' + s' ∧ s' ≤ 2 * r'
  | 0, h, zr, zs, r, s, hj, he, hs => by
    rw [s_loopc G T (c := c_ref01_Root_l1) rfl]
    have c1 : ¬ (0 : Int) ≤ 2 * ((0 : Nat) : Int) - 2 := by omega
    repeat (first | (simp (maxSteps := 1000000) only [evB, if_true, if_false, ne_eq, Nat.reduceEqDiff, Nat.reduceAdd, reduceCtorEq, Int.reduceLE, Int.reduceLT, Int.reduceEq, Int.reduceNeg, Int.reduceToNat, Int.reducePow, Int.reduceMod, Int.reduceDiv, Int.reduceSub, Int.reduceAdd, Int.reduceMul, Nat.reduceMul, Nat.reduceSub, Nat.reducePow, c_ref01_Root_b1, c1]) | (simp (disch := omega) only [dsB]))
    rw [Nat.mul_zero, Nat.pow_zero, Nat.div_one] at he
    exact Post.some ⟨_, _, _, _, _, _, rfl, he, hs⟩
  | j + 1, h, zr, zs, r, s, hj, he, hs => by
    rw [s_loopc G T (c := c_ref01_Root_l1) rfl]
    have e1 : 2 * ((j + 1 : Nat) : Int) - 2 = ((2 * j : Nat) : Int) := by omega
    have e2 : ((2 * j : Nat) : Int) - 2 = 2 * (j : Int) - 2 := by omega
    have e3 : ((2 * j : Nat) : Int) + 1 = ((2 * j + 1 : Nat) : Int) := by omega
    have c1 : (0 : Int) ≤ ((2 * j : Nat) : Int) := by omega
    have u1 := ref01_Bit (G := G) hT (z := z) (a := a) (i := 2 * j + 1) (by omega) (by omega)
    have u0 := ref01_Bit (G := G) hT (z := z) (a := a) (i := 2 * j) (by omega) (by omega)
    have hfd := four_down (a := a) (i := 2 * j)
    rw [show 2 * j + 2 = 2 * (j + 1) by omega, he] at hfd
    have b1 : a / 2 ^ (2 * j + 1) % 2 < 2 := Nat.mod_lt _ (by decide)
    have b0 : a / 2 ^ (2 * j) % 2 < 2 := Nat.mod_lt _ (by decide)
    generalize a / 2 ^ (2 * j + 1) % 2 = t1 at *
    generalize a / 2 ^ (2 * j) % 2 = t0 at *
    have hra : r * r ≤ a := by
      have := Nat.div_le_self a (2 ^ (2 * (j + 1))); omega
    have hr0 : r ≤ a := Nat.le_trans (Nat.le_mul_self r) hra
    have lr : ∀ x, x ≤ 16 * a + 16 → (dl x).length < 1073741900 := fun x hx => by
      have h1 : a < 2 ^ blen a := lt_pow_blen a
      have h2 := dl_bd (x := x) (k := blen a + 6) (by rw [Nat.pow_add]; omega)
      have h3 := dl_len_blen a
      omega
    have w1 : mulW 2 (t1 : Int) = ((2 * t1 : Nat) : Int) := by rw [mulW_eq]; omega
    have w2 : (((2 * t1 : Nat) : Int) + (t0 : Int)) % 4294967296 = ((2 * t1 + t0 : Nat) : Int) := by omega
    have w3 : ((2 * t1 + t0 : Nat) : Int) % 18446744073709551616 = ((2 * t1 + t0 : Nat) : Int) := by omega
    obtain ⟨z1, v1⟩ := ref01_Up (G := G) hT (z := zs) (a := s) (n := 2) (by have := lr s (by omega); omega) (by decide)
    obtain ⟨z2, v2⟩ := ref01_Of (G := G) hT (n := 2 * t1 + t0) (by omega)
    obtain ⟨z3, v3⟩ := ref01_Add (G := G) hT (z := z1) (y := z2) (a := s * 2 ^ 2) (b := 2 * t1 + t0) (by have := lr (s * 2 ^ 2) (by omega); omega) (by have := lr (2 * t1 + t0) (by omega); omega)
    obtain ⟨z4, v4⟩ := ref01_Up (G := G) hT (z := zr) (a := r) (n := 2) (by have := lr r (by omega); omega) (by decide)
    obtain ⟨z5, v5⟩ := ref01_Add (G := G) hT (z := z4) (y := false) (a := r * 2 ^ 2) (b := 1) (by have := lr (r * 2 ^ 2) (by omega); omega) (by rw [dl_one]; decide)
    obtain ⟨z6, v6⟩ := ref01_Up (G := G) hT (z := zr) (a := r) (n := 1) (by have := lr r (by omega); omega) (by decide)
    obtain ⟨z7, v7⟩ := ref01_Add (G := G) hT (z := z6) (y := false) (a := r * 2 ^ 1) (b := 1) (by have := lr (r * 2 ^ 1) (by omega); omega) (by rw [dl_one]; decide)
    have cm := ref01_Cmp (G := G) hT (z := z3) (y := z5) (a := s * 2 ^ 2 + (2 * t1 + t0)) (b := r * 2 ^ 2 + 1) (by have := lr (s * 2 ^ 2 + (2 * t1 + t0)) (by omega); omega) (by have := lr (r * 2 ^ 2 + 1) (by omega); omega)
    rw [dl_one] at v5 v7
    rw [show ((2 : Nat) : Int) = 2 from rfl] at v1 v4
    rw [show ((1 : Nat) : Int) = 1 from rfl] at v6
    rw [e1]
    by_cases c2 : s * 2 ^ 2 + (2 * t1 + t0) < r * 2 ^ 2 + 1
    · have c3 : ¬ 0 ≤ cmpN (s * 2 ^ 2 + (2 * t1 + t0)) (r * 2 ^ 2 + 1) := by have := cmpN_neg.2 c2; omega
      obtain ⟨p1, p2⟩ := root_no (p := r * r + s) (v := 2 * t1 + t0) rfl (by omega)
      have fin := fun h => rroot_loop hT (z := z) ha j h z6 z3 (r * 2 ^ 1) (s * 2 ^ 2 + (2 * t1 + t0)) (by omega) (by rw [hfd, p1, show r * 2 ^ 1 = 2 * r by omega, show s * 2 ^ 2 = 4 * s by omega]) (by omega)
      clear hfd he hra hr0 lr p1 p2 hs c2
      repeat (first | (simp (maxSteps := 1000000) only [evB, if_true, if_false, ne_eq, Nat.reduceEqDiff, Nat.reduceAdd, reduceCtorEq, Int.reduceLE, Int.reduceLT, Int.reduceEq, Int.reduceNeg, Int.reduceToNat, Int.reducePow, Int.reduceMod, Int.reduceDiv, Int.reduceSub, Int.reduceAdd, Int.reduceMul, Nat.reduceMul, Nat.reduceSub, Nat.reducePow, c_ref01_Root_b1, c1, e2, e3, u1, u0, w1, w2, w3, v1, v2, v3, v4, v5, v6, box_snap, cm, c3]) | (simp (disch := omega) only [dsB]))
      exact fin _
    · have c3 : 0 ≤ cmpN (s * 2 ^ 2 + (2 * t1 + t0)) (r * 2 ^ 2 + 1) := by
        have : ¬ cmpN (s * 2 ^ 2 + (2 * t1 + t0)) (r * 2 ^ 2 + 1) < 0 := fun hh => c2 (cmpN_neg.1 hh)
        omega
      obtain ⟨z8, v8⟩ := ref01_Sub (G := G) hT (z := z3) (y := z5) (a := s * 2 ^ 2 + (2 * t1 + t0)) (b := r * 2 ^ 2 + 1) (by have := lr (s * 2 ^ 2 + (2 * t1 + t0)) (by omega); omega) (by omega)
      obtain ⟨p1, p2⟩ := root_yes (p := r * r + s) (v := 2 * t1 + t0) rfl hs (by omega) (by omega)
      have fin := fun h => rroot_loop hT (z := z) ha j h z7 z8 (r * 2 ^ 1 + 1) (s * 2 ^ 2 + (2 * t1 + t0) - (r * 2 ^ 2 + 1)) (by omega) (by rw [hfd, p1, show r * 2 ^ 1 = 2 * r by omega, show s * 2 ^ 2 = 4 * s by omega, show r * 2 ^ 2 = 4 * r by omega]) (by omega)
      clear hfd he hra hr0 lr p1 p2 hs c2
      repeat (first | (simp (maxSteps := 1000000) only [evB, if_true, if_false, ne_eq, Nat.reduceEqDiff, Nat.reduceAdd, reduceCtorEq, Int.reduceLE, Int.reduceLT, Int.reduceEq, Int.reduceNeg, Int.reduceToNat, Int.reducePow, Int.reduceMod, Int.reduceDiv, Int.reduceSub, Int.reduceAdd, Int.reduceMul, Nat.reduceMul, Nat.reduceSub, Nat.reducePow, c_ref01_Root_b1, c1, e2, e3, u1, u0, w1, w2, w3, v1, v2, v3, v4, v5, v6, v7, v8, box_snap, cm, c3]) | (simp (disch := omega) only [dsB]))
      exact fin _
end Go.Cv

/-
  The document's root, whole.
-/
namespace Go.Cv
variable {G : Nat → Option (List AV)} {T : Tbl} {g : Nat}

theorem ref01_Root (hT : HasB g T) {a : Nat} {z : Bool} (ha : (dl a).length < 1073741824) :
    ∃ r z', run G T 82 [D z (dl a)] = some (.tup [D z' (dl r), .bool (decide (r * r = a))]) ∧ r * r ≤ a ∧ a < (r + 1) * (r + 1) := by
  have hla := dl_len_blen a
  have l1 := ref01_Len (G := G) hT (z := z) (a := a) (by omega)
  obtain ⟨j, hj⟩ : ∃ j, j = (blen a + 1) / 2 := ⟨_, rfl⟩
  have h0 : a / 2 ^ (2 * j) = 0 * 0 + 0 := by
    rw [Nat.div_eq_of_lt (Nat.lt_of_lt_of_le (lt_pow_blen a) (Nat.pow_le_pow_right (by decide) (by omega)))]
  obtain ⟨_, hr, e, h', zr', zs', r', s', rfl, he, hs⟩ := rroot_loop (G := G) (z := z) hT ha j .nil true true 0 0 (by omega) h0 (by decide)
  obtain ⟨p1, p2, p3⟩ := root_end he hs
  have hr : evL G T c_ref01_Root_l1 [(0, D z (dl a)), (4, .nil), (5, .nil), (7, .int .i64 (2 * (j : Int) - 2))] ⟨[], []⟩ = some (Ex.exit 0, (0, D z (dl a)) :: (4, D zr' (dl r')) :: (5, D zs' (dl s')) :: e, h') := by
    rw [dl_zero] at hr; exact hr
  have hd : decide (((dl s').length : Int) = 0) = decide (r' * r' = a) := by
    refine decide_eq_decide.2 ?_
    rw [← p3, ← dl_len0]; omega
  refine ⟨r', zr', ?_, p1, p2⟩
  rw [run_k G T hT.ref01_Root]
  have w1 : ((blen a : Nat) : Int).tmod 2 = ((blen a % 2 : Nat) : Int) := rfl
  have w2 : ((blen a : Nat) : Int) % 2 = ((blen a % 2 : Nat) : Int) := rfl
  by_cases ho : blen a % 2 = 1
  · have c1 : ((blen a % 2 : Nat) : Int) = 1 := by omega
    have e1 : ((blen a : Nat) : Int) + 1 - 2 = 2 * (j : Int) - 2 := by omega
    have w3 : IntKind.i64.wrap (((blen a : Nat) : Int) + 1) = ((blen a : Nat) : Int) + 1 := wrap_i64 (by omega)
    have w4 : IntKind.i64.wrap (2 * (j : Int) - 2) = 2 * (j : Int) - 2 := wrap_i64 (by omega)
    clear h0 he hs p1 p2 p3 hla ha
    repeat' (first | (simp (maxSteps := 1000000) only [evB, if_true, if_false, ne_eq, Nat.reduceEqDiff, Nat.reduceAdd, reduceCtorEq, Int.reduceLE, Int.reduceLT, Int.reduceEq, Int.reduceNeg, Int.reduceToNat, Int.reducePow, Int.reduceMod, Int.reduceDiv, Int.reduceSub, Int.reduceAdd, Int.reduceMul, Nat.reduceMul, Nat.reduceSub, Nat.reducePow, exB, resC_ptr, res_cell, nilb, nilf, faddr_p, c_ref01_Root, l1, w1, w2, c1, w3, e1, w4, hr, hd]) | (simp (maxSteps := 1000000) (disch := first | with_reducible assumption | omega) only [dxB]) | (simp only [kI_d, kG_dt, kG_df]; split) | (simp only [kI_v, kG_vt, kG_vf]; split))
  · have c1 : ¬ ((blen a % 2 : Nat) : Int) = 1 := by omega
    have e1 : ((blen a : Nat) : Int) - 2 = 2 * (j : Int) - 2 := by omega
    have w4 : IntKind.i64.wrap (2 * (j : Int) - 2) = 2 * (j : Int) - 2 := wrap_i64 (by omega)
    clear h0 he hs p1 p2 p3 hla ha
    repeat' (first | (simp (maxSteps := 1000000) only [evB, if_true, if_false, ne_eq, Nat.reduceEqDiff, Nat.reduceAdd, reduceCtorEq, Int.reduceLE, Int.reduceLT, Int.reduceEq, Int.reduceNeg, Int.reduceToNat, Int.reducePow, Int.reduceMod, Int.reduceDiv, Int.reduceSub, Int.reduceAdd, Int.reduceMul, Nat.reduceMul, Nat.reduceSub, Nat.reducePow, exB, resC_ptr, res_cell, nilb, nilf, faddr_p, c_ref01_Root, l1, w1, w2, c1, e1, w4, hr, hd]) | (simp (maxSteps := 1000000) (disch := first | with_reducible assumption | omega) only [dxB]) | (simp only [kI_d, kG_dt, kG_df]; split) | (simp only [kI_v, kG_vt, kG_vf]; split))
end Go.Cv

/-
  Numbers cut: the document's; how many bits may be asked for.
-/
namespace Go.Cv
variable {G : Nat → Option (List AV)} {T : Tbl} {g : Nat}

theorem dyad_asked (hT : HasC g T) {n : Nat} (h : 1 ≤ n ∧ n ≤ 8192) : run G T 75 [.int .i64 (n : Int)] = some (.int .i64 0) := by
  rw [run_k G T hT.dyad_asked]
  have c1 : ¬ (n : Int) < 1 := by omega
  have c2 : ¬ (8192 : Int) < (n : Int) := by omega
  repeat' (first | (simp (maxSteps := 1000000) only [evB, if_true, if_false, ne_eq, Nat.reduceEqDiff, Nat.reduceAdd, reduceCtorEq, Int.reduceLE, Int.reduceLT, Int.reduceEq, Int.reduceNeg, Int.reduceToNat, Int.reducePow, Int.reduceMod, Int.reduceDiv, Int.reduceSub, Int.reduceAdd, Int.reduceMul, Nat.reduceMul, Nat.reduceSub, Nat.reducePow, exB, resC_ptr, res_cell, nilb, nilf, faddr_p, c_dyad_asked, c1, c2]) | (simp (maxSteps := 1000000) (disch := first | with_reducible assumption | omega) only [dxB]) | (simp only [kI_d, kG_dt, kG_df]; split) | (simp only [kI_v, kG_vt, kG_vf]; split))

theorem ref02_Cut (hB : HasB g T) (hT : HasC g T) {z : Bool} {d : Dy} {k s : Nat} (hs : (dl d.m).length < 17179869183) (he : -274877906944 < d.e ∧ d.e < 274877906944) (hk : blen d.m = k + s) (h0 : 0 < s) (hkk : k < 8192) (hb : blen d.m < 274877906944) :
    ∃ z', run G T 80 [DyA z d, .int .i64 (k : Int)] = some (.tup [DyA z' (mkD d.n (d.m / 2 ^ s) (d.e + s)), .bool (!decide (d.m % 2 ^ s = 0))]) := by
  obtain ⟨n, m, e⟩ := d
  simp only at *
  have l1 := ref01_Len (G := G) hB (z := z) (a := m) (by omega)
  obtain ⟨z1, h1⟩ := ref01_Down (G := G) hB (z := z) (a := m) (n := s) (by omega) (by omega)
  have hlen : (dl (m / 2 ^ s)).length < 17179869184 := by
    have h1 := blen_mono (Nat.div_le_self m (2 ^ s))
    have h2 := dl_len_blen (m / 2 ^ s)
    omega
  obtain ⟨z2, h2⟩ := ref02_Form (G := G) hB hT (n := n) (z := z1) (a := m / 2 ^ s) (e := e + s) hlen (by omega)
  have w1 : ((blen m : Nat) : Int) - (k : Int) = (s : Int) := by omega
  have w2 : ¬ (s : Int) ≤ 0 := by omega
  have w3 : IntKind.i64.wrap (e + (s : Int)) = e + s := wrap_i64 (by omega)
  refine ⟨z2, ?_⟩
  rw [run_k G T hT.ref02_Cut]
  clear hlen hk
  simp only [DyA, A3] at *
  repeat' (first | (simp (maxSteps := 1000000) only [evB, if_true, if_false, ne_eq, Nat.reduceEqDiff, Nat.reduceAdd, reduceCtorEq, Int.reduceLE, Int.reduceLT, Int.reduceEq, Int.reduceNeg, Int.reduceToNat, Int.reducePow, Int.reduceMod, Int.reduceDiv, Int.reduceSub, Int.reduceAdd, Int.reduceMul, Nat.reduceMul, Nat.reduceSub, Nat.reducePow, exB, resC_ptr, res_cell, nilb, nilf, faddr_p, c_ref02_Cut, l1, w1, w2, w3, h1, h2]) | (simp (maxSteps := 1000000) (disch := first | with_reducible assumption | omega) only [dxB]) | (simp only [kI_d, kG_dt, kG_df]; split) | (simp only [kI_v, kG_vt, kG_vf]; split))
end Go.Cv

/-
  A quotient that was reckoned with some bits more is cut.
-/
namespace Go.Cv
variable {G : Nat → Option (List AV)} {T : Tbl} {g : Nat}

theorem dyad_made (hA : HasA g T) (hG : Glob G g) (hT : HasC g T) {z n more : Bool} {q k s : Nat} {e : Int} (hm : mayL (dl q) = true) (hk : blen q = k + s) (h0 : 0 < s) (he : -16000000 < e ∧ e < 16000000) :
    ∃ z', run G T 78 [.bool n, D z (dl q), .int .i64 e, .bool more, .int .i64 (k : Int)] = some (.tup [DyA z' (mkD n (q / 2 ^ s) (e + s)), .bool (!decide (q % 2 ^ s = 0) || more), .int .i64 0]) := by
  have hb := may_blen hm
  have l1 := nat_Len (G := G) hA (z := z) hm
  obtain ⟨z1, h1⟩ := nat_Shift_down (G := G) hA hG (z := z) (a := q) (n := s) hm h0 (by omega)
  have hbd := blen_div q s
  have hm2 : mayL (dl (q / 2 ^ s)) = true := mayL_small (by omega)
  have htz : tz (q / 2 ^ s) ≤ 131072 ∨ q / 2 ^ s = 0 := by
    by_cases hz : q / 2 ^ s = 0
    · exact Or.inr hz
    · left; have := tz_blen hz; omega
  obtain ⟨z2, h2⟩ := dyad_Make (G := G) hA hG hT (n := n) (z := z1) (a := q / 2 ^ s) (e := e + s) hm2 (by
    rcases htz with h | h
    · right; omega
    · left; exact h) (by omega)
  have w1 : max (0 : Int) ((blen q : Int) - (k : Int)) = (s : Int) := by omega
  have w2 : (0 : Int) - (s : Int) = -(s : Int) := by omega
  have w3 : IntKind.i64.wrap (e + (s : Int)) = e + s := wrap_i64 (by omega)
  have w4 : IntKind.i64.wrap ((blen q : Int) - (k : Int)) = (blen q : Int) - (k : Int) := wrap_i64 (by omega)
  have w5 : IntKind.i64.wrap (-(s : Int)) = -(s : Int) := wrap_i64 (by omega)
  refine ⟨z2, ?_⟩
  rw [run_k G T hT.dyad_made]
  clear hm2 htz hbd hk hb hm
  simp only [DyA, A3] at *
  generalize decide (q % 2 ^ s = 0) = o at *
  cases o <;> cases more <;> repeat' (first | (simp (maxSteps := 1000000) only [evB, if_true, if_false, ne_eq, Nat.reduceEqDiff, Nat.reduceAdd, reduceCtorEq, Int.reduceLE, Int.reduceLT, Int.reduceEq, Int.reduceNeg, Int.reduceToNat, Int.reducePow, Int.reduceMod, Int.reduceDiv, Int.reduceSub, Int.reduceAdd, Int.reduceMul, Nat.reduceMul, Nat.reduceSub, Nat.reducePow, exB, resC_ptr, res_cell, nilb, nilf, faddr_p, c_dyad_made, l1, w1, w2, w3, w4, w5, mm_max2, h1, h2]) | (simp (maxSteps := 1000000) (disch := first | with_reducible assumption | omega) only [dxB]) | (simp only [kI_d, kG_dt, kG_df]; split) | (simp only [kI_v, kG_vt, kG_vf]; split))
end Go.Cv

/-
  The document's quotient of dyadic numbers.
-/
namespace Go.Cv
variable {G : Nat → Option (List AV)} {T : Tbl} {g : Nat}

end Go.Cv

/-
  Numbers cut, in their one form (plain).
-/
namespace Go.Cv

theorem div_cut {Q t S : Nat} (h : t ≤ S) : Q / 2 ^ t / 2 ^ (S - t) = Q / 2 ^ S := by
  rw [Nat.div_div_eq_div_mul, ← Nat.pow_add, show t + (S - t) = S by omega]
theorem mod_cut {Q t S : Nat} (h : t ≤ S) (ht : Q % 2 ^ t = 0) : Q / 2 ^ t % 2 ^ (S - t) = 0 ↔ Q % 2 ^ S = 0 := by
  have := mod_mod_pow Q t (S - t)
  rw [show t + (S - t) = S by omega] at this
  rw [this]; exact ⟨fun h2 => ⟨ht, h2⟩, fun h2 => h2.2⟩
/-- A number whose lowest S bits go: it is the same whether the noughts went first or not. -/
theorem mkD_cut {n : Bool} {Q t S : Nat} {e : Int} (h : Q ≠ 0) (h2 : Q / 2 ^ t ≠ 0) (ht : Q % 2 ^ t = 0) : mkD n (Q / 2 ^ t) (e + t) = mkD n Q e := by
  have e1 : Q = Q / 2 ^ t * 2 ^ t := by
    have := Nat.div_add_mod Q (2 ^ t)
    rw [ht, Nat.add_zero, Nat.mul_comm] at this; exact this.symm
  have e2 : tz Q = tz (Q / 2 ^ t) + t := by
    conv => lhs; rw [e1]
    exact tz_mul h2 t
  rw [mkD_pos h, mkD_pos h2, e2, Nat.div_div_eq_div_mul, ← Nat.pow_add, Nat.add_comm t]
  congr 1; omega
end Go.Cv

/-
  A number that is short enough is not cut.
-/
namespace Go.Cv
variable {G : Nat → Option (List AV)} {T : Tbl} {g : Nat}

theorem ref02_Cut_no (hB : HasB g T) (hT : HasC g T) {z : Bool} {d : Dy} {k : Nat} (hs : (dl d.m).length < 17179869183) (hk : blen d.m ≤ k) (hkk : k < 8192) :
    run G T 80 [DyA z d, .int .i64 (k : Int)] = some (.tup [DyA z d, .bool false]) := by
  obtain ⟨n, m, e⟩ := d
  simp only at *
  have l1 := ref01_Len (G := G) hB (z := z) (a := m) (by omega)
  have w2 : ((blen m : Nat) : Int) - (k : Int) ≤ 0 := by omega
  have w4 : IntKind.i64.wrap ((blen m : Int) - (k : Int)) = (blen m : Int) - (k : Int) := wrap_i64 (by omega)
  rw [run_k G T hT.ref02_Cut]
  clear hs hk
  simp only [DyA, A3] at *
  repeat' (first | (simp (maxSteps := 1000000) only [evB, if_true, if_false, ne_eq, Nat.reduceEqDiff, Nat.reduceAdd, reduceCtorEq, Int.reduceLE, Int.reduceLT, Int.reduceEq, Int.reduceNeg, Int.reduceToNat, Int.reducePow, Int.reduceMod, Int.reduceDiv, Int.reduceSub, Int.reduceAdd, Int.reduceMul, Nat.reduceMul, Nat.reduceSub, Nat.reducePow, exB, resC_ptr, res_cell, nilb, nilf, faddr_p, c_ref02_Cut, l1, w2, w4]) | (simp (maxSteps := 1000000) (disch := first | with_reducible assumption | omega) only [dxB]) | (simp only [kI_d, kG_dt, kG_df]; split) | (simp only [kI_v, kG_vt, kG_vf]; split))
end Go.Cv

/-
  The document's quotient of dyadic numbers.
-/
namespace Go.Cv
variable {G : Nat → Option (List AV)} {T : Tbl} {g : Nat}

/-- What Form and Cut make of a number of more than k bits. -/
theorem form_cut (hB : HasB g T) (hT : HasC g T) {n z : Bool} {Q k S : Nat} {e : Int} (hl : (dl Q).length < 1048576) (hS : blen Q = k + S) (h0 : 0 < S) (hk0 : 0 < k) (hk : k < 8192) (he : -68719476736 < e ∧ e < 68719476736) :
    ∃ z', run G T 80 [DyA z (mkD n Q e), .int .i64 (k : Int)] = some (.tup [DyA z' (mkD n (Q / 2 ^ S) (e + S)), .bool (!decide (Q % 2 ^ S = 0))]) := by
  have hQ : Q ≠ 0 := by rintro rfl; rw [blen_zero] at hS; omega
  have hl2 := dl_len_blen Q
  have t1 := (tz_spec hQ).1
  have tm : Q % 2 ^ tz Q = 0 := by
    have := Nat.mul_mod_left (Q / 2 ^ tz Q) (2 ^ tz Q)
    rw [← t1] at this; exact this
  have tb := tz_blen hQ
  have bd := blen_div Q (tz Q)
  have ld := dl_len_blen (Q / 2 ^ tz Q)
  have bS := blen_div Q S
  have hQS : Q / 2 ^ S ≠ 0 := by intro hc; rw [hc, blen_zero] at bS; omega
  rcases Nat.lt_or_ge (tz Q) S with h | h
  · obtain ⟨z', hc⟩ := ref02_Cut (G := G) hB hT (z := z) (d := mkD n Q e) (k := k) (s := S - tz Q) (by rw [mkD_pos hQ]; simp only; omega) (by rw [mkD_pos hQ]; simp only; omega) (by rw [mkD_pos hQ]; simp only; omega) (by omega) hk (by rw [mkD_pos hQ]; simp only; omega)
    refine ⟨z', ?_⟩
    rw [hc, mkD_pos hQ]
    simp only
    rw [div_cut (Nat.le_of_lt h), show e + (tz Q : Int) + ((S - tz Q : Nat) : Int) = e + S by omega]
    congr 4
    simp only [mod_cut (Nat.le_of_lt h) tm]
  · have hm : Q % 2 ^ S = 0 := by
      have e1 := mod_mod_pow Q S (tz Q - S)
      rw [show S + (tz Q - S) = tz Q by omega] at e1
      exact (e1.1 tm).1
    have hc := ref02_Cut_no (G := G) hB hT (z := z) (d := mkD n Q e) (k := k) (by rw [mkD_pos hQ]; simp only; omega) (by rw [mkD_pos hQ]; simp only; omega) hk
    refine ⟨z, ?_⟩
    rw [hc, mkD_cut (t := S) (S := 0) hQ hQS hm, hm]; rfl
end Go.Cv

/-
  The document's quotient of dyadic numbers.
-/
namespace Go.Cv
variable {G : Nat → Option (List AV)} {T : Tbl} {g : Nat}

end Go.Cv

/-
  The program's quotient of dyadic numbers.
-/
namespace Go.Cv
variable {G : Nat → Option (List AV)} {T : Tbl} {g : Nat}

theorem both_loop (e : Env) (h : Heap) : evL G T c_dyad_both_l1 e h = kS G T (evL G T c_dyad_both_b1 (keepE [5, 6, 7] e) h) c_dyad_both_l1 := s_loopc G T rfl e h

theorem dyad_both (hA : HasA g T) (hT : HasC g T) {n z n' z' : Bool} {l l' : List Nat} (hd : Dg l) (hd' : Dg l') {e e' : Int} :
    run G T 74 [.imm 2 [.bool n, D z l, .int .i64 e, .bool n', D z' l', .int .i64 e']] = some (.bool (mayD n l e && mayD n' l' e')) := by
  rw [run_k G T hT.dyad_both]
  have h2 := dyad_May (G := G) (T := T) hA hT (n := n) (z := z) hd (e := e)
  have h3 := dyad_May (G := G) (T := T) hA hT (n := n') (z := z') hd' (e := e')
  simp only [A3] at *
  cases hm : mayD n l e <;> cases hm' : mayD n' l' e' <;> (
    rw [hm] at h2
    rw [hm'] at h3
    repeat' (first | (simp (maxSteps := 1000000) only [evB, if_true, if_false, ne_eq, Nat.reduceEqDiff, Nat.reduceAdd, reduceCtorEq, Int.reduceLE, Int.reduceLT, Int.reduceEq, Int.reduceNeg, Int.reduceToNat, Int.reducePow, Int.reduceMod, Int.reduceDiv, Int.reduceSub, Int.reduceAdd, Int.reduceMul, Nat.reduceMul, Nat.reduceSub, Nat.reducePow, exB, resC_ptr, res_cell, nilb, nilf, faddr_p, c_dyad_both, h2, h3, both_loop, c_dyad_both_b1, iad20, iad21, rd_ip]) | (simp (maxSteps := 1000000) (disch := first | with_reducible assumption | omega) only [dxB]) | (simp only [kI_d, kG_dt, kG_df]; split) | (simp only [kI_v, kG_vt, kG_vf]; split))
    all_goals rfl)
end Go.Cv

/-
  The program's quotient of dyadic numbers.
-/
namespace Go.Cv
variable {G : Nat → Option (List AV)} {T : Tbl} {g : Nat}

end Go.Cv

/-
  The program's root of a dyadic number.
-/
namespace Go.Cv
variable {G : Nat → Option (List AV)} {T : Tbl} {g : Nat}

/-- A number shifted, up or down; is something lost? -/
def shN (m : Nat) (n : Int) : Nat := if 0 ≤ n then m * 2 ^ n.toNat else m / 2 ^ (-n).toNat
def shB (m : Nat) (n : Int) : Bool := if 0 ≤ n then false else !decide (m % 2 ^ (-n).toNat = 0)

theorem shN_blen {m : Nat} (h : m ≠ 0) {n : Int} (hn : 0 ≤ (blen m : Int) + n) : (blen (shN m n) : Int) = blen m + n := by
  unfold shN; split
  · rw [blen_mul h]; omega
  · rw [blen_div]; omega

theorem nat_Shift_sh (hA : HasA g T) (hG : Glob G g) {z : Bool} {m : Nat} {n : Int} (hm : mayL (dl m) = true) (h1 : (blen m : Int) + n ≤ 131072) (h2 : -1099511627776 < n ∧ n < 1099511627776) :
    ∃ z', run G T 50 [D z (dl m), .int .i64 n] = some (.tup [D z' (dl (shN m n)), .bool (shB m n), .int .i64 0]) := by
  unfold shN shB
  by_cases h : 0 ≤ n
  · obtain ⟨z', hz⟩ := nat_Shift_up (G := G) (T := T) hA (z := z) (a := m) (n := n.toNat) hm (by omega) (by omega)
    rw [if_pos h, if_pos h]
    rw [show ((n.toNat : Nat) : Int) = n by omega] at hz
    exact ⟨z', hz⟩
  · obtain ⟨z', hz⟩ := nat_Shift_down (G := G) (T := T) hA hG (z := z) (a := m) (n := (-n).toNat) hm (by omega) (by omega)
    rw [if_neg h, if_neg h]
    rw [show -(((-n).toNat : Nat) : Int) = n by omega] at hz
    exact ⟨z', hz⟩

theorem root_blen {k r M : Nat} (h1 : 2 ^ k * 2 ^ k ≤ M) (h2 : M < (r + 1) * (r + 1)) : k < blen r := by
  rw [lt_blen]
  rcases Nat.lt_or_ge r (2 ^ k) with h | h
  · have := Nat.mul_le_mul (show r + 1 ≤ 2 ^ k by omega) (show r + 1 ≤ 2 ^ k by omega)
    omega
  · exact h

theorem and1_i64 (x : Int) : andI .i64 x 1 = x % 2 := by
  rw [andI_eq]
  unfold andI0
  have h1 : (BitVec.ofInt IntKind.i64.bits x &&& BitVec.ofInt IntKind.i64.bits 1).toNat = (x % 18446744073709551616).toNat % 2 := by
    rw [BitVec.toNat_and]
    rw [show (BitVec.ofInt IntKind.i64.bits 1).toNat = 1 from rfl, BitVec.toNat_ofInt]
    rw [show ((2 : Nat) ^ IntKind.i64.bits : Nat) = 18446744073709551616 from rfl]
    exact and_one _
  rw [h1]
  rw [wrap_i64 (by omega)]
  omega

set_option maxHeartbeats 2000000 in
theorem dyad_Root (hA : HasA g T) (hG : Glob G g) (hT : HasC g T) {z : Bool} {d : Dy} {k S : Nat} {n c : Int} {r : Nat} (dd : mayD d.n (dl d.m) d.e = true) (h0 : d.m ≠ 0) (hs : d.n = false)
    (hk : 1 ≤ k ∧ k ≤ 8192) (hn : n = 2 * k + 2 - blen d.m + (d.e - (2 * k + 2 - blen d.m)) % 2) (hc : d.e - n = 2 * c)
    (r1 : r * r ≤ shN d.m n) (r2 : shN d.m n < (r + 1) * (r + 1)) (hS : blen r = k + S) :
    ∃ z', run G T 43 [DyA z d, .int .i64 (k : Int)] = some (.tup [DyA z' (mkD false (r / 2 ^ S) (c + S)),
      .bool (!decide (r % 2 ^ S = 0) || (shB d.m n || !decide (r * r = shN d.m n))), .int .i64 0]) := by
  obtain ⟨f1, f2, f3, f4, f5⟩ := mayD_facts dd
  obtain ⟨ng, m, e⟩ := d
  simp only at *
  subst hs
  have hbm := may_blen f1
  have hbp := blen_pos h0
  have hbs := shN_blen h0 (n := n) (by omega)
  have hrk : k < blen r := root_blen (k := k) (r := r) (M := shN m n) (by
    have := pow_blen_le (n := shN m n) (by intro hc; rw [hc, blen_zero] at hbs; omega)
    rw [← Nat.pow_add]
    exact Nat.le_trans (Nat.pow_le_pow_right (by decide) (by omega)) this) r2
  have b0 := dyad_May (G := G) (T := T) hA hT false z (Dg_dl m) e
  rw [dd] at b0
  have a0 := dyad_asked (G := G) (T := T) hT hk
  have l1 := nat_Len (G := G) (T := T) hA (z := z) f1
  obtain ⟨z1, h1⟩ := nat_Shift_sh (G := G) (T := T) hA hG (z := z) (m := m) (n := n) f1 (by omega) (by omega)
  have mM : mayL (dl (shN m n)) = true := mayL_small (by omega)
  obtain ⟨r', z2, h2, q1, q2⟩ := nat_Root (G := G) (T := T) hA (z := z1) (a := shN m n) mM
  have hrr : r' = r := root_uniq q1 q2 r1 r2
  subst hrr
  have hbr : blen r' ≤ blen (shN m n) := blen_mono (Nat.le_trans (Nat.le_mul_self r') r1)
  have mr : mayL (dl r') = true := mayL_small (by omega)
  obtain ⟨z5, h4⟩ := dyad_made (G := G) (T := T) hA hG hT (n := false) (z := z2) (more := shB m n || !decide (r' * r' = shN m n)) (q := r') (k := k) (s := S) (e := c) mr hS (by omega) (by omega)
  have c1 : ¬ ((dl m).length : Int) = 0 := fun hc => h0 (dl_len0.1 (by omega))
  refine ⟨z5, ?_⟩
  rw [run_k G T hT.dyad_Root]
  simp only [DyA, A3] at *
  have wa : IntKind.i64.wrap (2 * (k : Int)) = 2 * (k : Int) := wrap_i64 (by omega)
  have wb : IntKind.i64.wrap (2 * (k : Int) + 2) = 2 * (k : Int) + 2 := wrap_i64 (by omega)
  have wc : IntKind.i64.wrap (2 * (k : Int) + 2 - (blen m : Int)) = 2 * (k : Int) + 2 - (blen m : Int) := wrap_i64 (by omega)
  have wd : IntKind.i64.wrap (e - (2 * (k : Int) + 2 - (blen m : Int))) = e - (2 * (k : Int) + 2 - (blen m : Int)) := wrap_i64 (by omega)
  have we : IntKind.i64.wrap (e - n) = e - n := wrap_i64 (by omega)
  have wt : IntKind.i64.wrap ((e - n).tdiv 2) = c := by rw [hc, Int.mul_tdiv_cancel_left _ (by decide)]; exact wrap_i64 (by omega)
  have wx := and1_i64 (e - (2 * (k : Int) + 2 - (blen m : Int)))
  have hpar : ((e - (2 * (k : Int) + 2 - (blen m : Int))) % 2 = 0 ∧ n = 2 * (k : Int) + 2 - (blen m : Int)) ∨
     ((e - (2 * (k : Int) + 2 - (blen m : Int))) % 2 = 1 ∧ IntKind.i64.wrap (2 * (k : Int) + 2 - (blen m : Int) + 1) = n) := by
    rcases Int.emod_two_eq (e - (2 * (k : Int) + 2 - (blen m : Int))) with hp | hp
    · left; exact ⟨hp, by omega⟩
    · right; refine ⟨hp, ?_⟩; rw [wrap_i64 (by omega)]; omega
  clear hbs hrk hbr mr mM hS r1 r2 q1 q2 f1 f2 f3 f4 f5 dd hbm hbp hn
  generalize shB m n = o1 at *
  generalize decide (r' * r' = shN m n) = o2 at *
  generalize decide (r' % 2 ^ S = 0) = o at *
  generalize shN m n = M at *
  rcases hpar with ⟨hp, hn⟩ | ⟨hp, hn⟩
  · rw [hp] at wx
    rw [hn] at h1 we wt
    cases o1 <;> cases o2 <;> (simp only [Bool.false_or, Bool.true_or, Bool.not_true, Bool.not_false, Bool.or_false, Bool.or_true] at h4 ⊢; repeat' (first | (simp (maxSteps := 1000000) only [evB, if_true, if_false, ne_eq, Nat.reduceEqDiff, Nat.reduceAdd, reduceCtorEq, Int.reduceLE, Int.reduceLT, Int.reduceEq, Int.reduceNeg, Int.reduceToNat, Int.reducePow, Int.reduceMod, Int.reduceDiv, Int.reduceSub, Int.reduceAdd, Int.reduceMul, Nat.reduceMul, Nat.reduceSub, Nat.reducePow, exB, resC_ptr, res_cell, nilb, nilf, faddr_p, c_dyad_Root, b0, a0, c1, l1, wa, wb, wc, wd, we, wt, wx, h1, h2, h4]) | (simp (maxSteps := 1000000) (disch := first | with_reducible assumption | omega) only [dxB]) | (simp only [kI_d, kG_dt, kG_df]; split) | (simp only [kI_v, kG_vt, kG_vf]; split)); try rfl)
  · rw [hp] at wx
    cases o1 <;> cases o2 <;> (simp only [Bool.false_or, Bool.true_or, Bool.not_true, Bool.not_false, Bool.or_false, Bool.or_true] at h4 ⊢; repeat' (first | (simp (maxSteps := 1000000) only [evB, if_true, if_false, ne_eq, Nat.reduceEqDiff, Nat.reduceAdd, reduceCtorEq, Int.reduceLE, Int.reduceLT, Int.reduceEq, Int.reduceNeg, Int.reduceToNat, Int.reducePow, Int.reduceMod, Int.reduceDiv, Int.reduceSub, Int.reduceAdd, Int.reduceMul, Nat.reduceMul, Nat.reduceSub, Nat.reducePow, exB, resC_ptr, res_cell, nilb, nilf, faddr_p, c_dyad_Root, b0, a0, c1, l1, wa, wb, wc, wd, we, wt, wx, hn, h1, h2, h4]) | (simp (maxSteps := 1000000) (disch := first | with_reducible assumption | omega) only [dxB]) | (simp only [kI_d, kG_dt, kG_df]; split) | (simp only [kI_v, kG_vt, kG_vf]; split)); try rfl)
end Go.Cv

/-
  The document's root of a dyadic number.
-/
namespace Go.Cv
variable {G : Nat → Option (List AV)} {T : Tbl} {g : Nat}

theorem tmod_two (x : Int) : (x.tmod 2 = 0 ↔ x % 2 = 0) := by
  constructor
  · intro h; exact Int.emod_eq_zero_of_dvd (Int.dvd_of_tmod_eq_zero h)
  · intro h; exact Int.tmod_eq_zero_of_dvd (Int.dvd_of_emod_eq_zero h)

set_option maxHeartbeats 2000000 in
theorem ref02_Root (hB : HasB g T) (hT : HasC g T) {z : Bool} {d : Dy} {k S N r : Nat} {c : Int} (h0 : d.m ≠ 0) (lb : blen d.m < 1048576) (hk0 : 0 < k) (hk : k < 8192) (he : -17179869184 < d.e ∧ d.e < 17179869184)
    (hN : (N : Int) = max 0 (2 * (k : Int) + 2 - blen d.m) + (d.e - max 0 (2 * (k : Int) + 2 - blen d.m)) % 2) (hc : d.e - N = 2 * c)
    (r1 : r * r ≤ d.m * 2 ^ N) (r2 : d.m * 2 ^ N < (r + 1) * (r + 1)) (hS : blen r = k + S) :
    ∃ z', run G T 44 [DyA z d, .int .i64 (k : Int)] = some (.tup [DyA z' (mkD false (r / 2 ^ S) (c + S)), .bool (!decide (r % 2 ^ S = 0) || !decide (r * r = d.m * 2 ^ N))]) := by
  obtain ⟨ng, m, e⟩ := d
  simp only at *
  have hbp := blen_pos h0
  have hbN := blen_mul h0 N
  have hrk : k < blen r := root_blen (k := k) (r := r) (M := m * 2 ^ N) (by
    have := pow_blen_le (n := m * 2 ^ N) (by intro hc; rw [hc, blen_zero] at hbN; omega)
    rw [← Nat.pow_add]
    exact Nat.le_trans (Nat.pow_le_pow_right (by decide) (by omega)) this) r2
  have hbr : blen r ≤ blen (m * 2 ^ N) := blen_mono (Nat.le_trans (Nat.le_mul_self r) r1)
  have d1 := dl_len_blen m
  have d2 := dl_len_blen (m * 2 ^ N)
  have d3 := dl_len_blen r
  have l1 := ref01_Len (G := G) hB (z := z) (a := m) (by omega)
  obtain ⟨z1, h1⟩ := ref01_Up (G := G) hB (z := z) (a := m) (n := N) (by omega) (by omega)
  obtain ⟨r', z2, h2, q1, q2⟩ := ref01_Root (G := G) hB (z := z1) (a := m * 2 ^ N) (by omega)
  have hrr : r' = r := root_uniq q1 q2 r1 r2
  subst hrr
  obtain ⟨z4, h3⟩ := ref02_Form (G := G) hB hT (n := false) (z := z2) (a := r') (e := c) (by omega) (by omega)
  obtain ⟨z5, h4⟩ := form_cut (G := G) hB hT (n := false) (z := z4) (Q := r') (k := k) (S := S) (e := c) (by omega) hS (by omega) hk0 hk (by omega)
  refine ⟨z5, ?_⟩
  rw [run_k G T hT.ref02_Root]
  simp only [DyA, A3] at *
  have wa : IntKind.i64.wrap (2 * (k : Int)) = 2 * (k : Int) := wrap_i64 (by omega)
  have wb : IntKind.i64.wrap (2 * (k : Int) + 2) = 2 * (k : Int) + 2 := wrap_i64 (by omega)
  have wc : IntKind.i64.wrap (2 * (k : Int) + 2 - (blen m : Int)) = 2 * (k : Int) + 2 - (blen m : Int) := wrap_i64 (by omega)
  have we : IntKind.i64.wrap (e - (N : Int)) = e - N := wrap_i64 (by omega)
  have wt : IntKind.i64.wrap ((e - (N : Int)).tdiv 2) = c := by rw [hc, Int.mul_tdiv_cancel_left _ (by decide)]; exact wrap_i64 (by omega)
  have hM : ∃ P : Int, P = max 0 (2 * (k : Int) + 2 - (blen m : Int)) := ⟨_, rfl⟩
  obtain ⟨P, hP⟩ := hM
  rw [← hP] at hN
  have wd : IntKind.i64.wrap (e - P) = e - P := wrap_i64 (by omega)
  have wx := tmod_two (e - P)
  have hpar : ((e - P).tmod 2 = 0 ∧ (N : Int) = P) ∨ (¬ (e - P).tmod 2 = 0 ∧ IntKind.i64.wrap (P + 1) = N) := by
    rcases Int.emod_two_eq (e - P) with hp | hp
    · left; exact ⟨wx.2 hp, by omega⟩
    · right; refine ⟨fun h => ?_, ?_⟩
      · have := wx.1 h; omega
      · rw [wrap_i64 (by omega)]; omega
  have hPP : (2 * (k : Int) + 2 - (blen m : Int) < 0 ∧ P = 0) ∨ (¬ 2 * (k : Int) + 2 - (blen m : Int) < 0 ∧ P = 2 * (k : Int) + 2 - (blen m : Int)) := by omega
  clear wx hN hbp hbN hrk hbr d1 d2 d3 r1 r2 q1 q2 hS lb hP
  generalize decide (r' * r' = m * 2 ^ N) = o2 at *
  generalize decide (r' % 2 ^ S = 0) = o at *
  rcases hPP with ⟨c1, rfl⟩ | ⟨c1, hPe⟩
  · rcases hpar with ⟨hp, hn⟩ | ⟨hp, hn⟩
    · rw [hn] at h1 we wt
      cases o <;> cases o2 <;> (repeat' (first | (simp (maxSteps := 1000000) only [evB, if_true, if_false, ne_eq, Nat.reduceEqDiff, Nat.reduceAdd, reduceCtorEq, Int.reduceLE, Int.reduceLT, Int.reduceEq, Int.reduceNeg, Int.reduceToNat, Int.reducePow, Int.reduceMod, Int.reduceDiv, Int.reduceSub, Int.reduceAdd, Int.reduceMul, Nat.reduceMul, Nat.reduceSub, Nat.reducePow, exB, resC_ptr, res_cell, nilb, nilf, faddr_p, c_ref02_Root, l1, c1, wa, wb, wc, wd, we, wt, hp, h1, h2, h3, h4]) | (simp (maxSteps := 1000000) (disch := first | with_reducible assumption | omega) only [dxB]) | (simp only [kI_d, kG_dt, kG_df]; split) | (simp only [kI_v, kG_vt, kG_vf]; split)); all_goals rfl)
    · have w0 : IntKind.i64.wrap (0 + 1) = 1 := rfl
      have w1 : IntKind.i64.wrap 1 = 1 := rfl
      have hN1 : N = 1 := by omega
      subst hN1
      rw [show ((1 : Nat) : Int) = 1 from rfl] at h1 we wt
      clear hn
      cases o <;> cases o2 <;> (repeat' (first | (simp (maxSteps := 1000000) only [evB, if_true, if_false, ne_eq, Nat.reduceEqDiff, Nat.reduceAdd, reduceCtorEq, Int.reduceLE, Int.reduceLT, Int.reduceEq, Int.reduceNeg, Int.reduceToNat, Int.reducePow, Int.reduceMod, Int.reduceDiv, Int.reduceSub, Int.reduceAdd, Int.reduceMul, Nat.reduceMul, Nat.reduceSub, Nat.reducePow, exB, resC_ptr, res_cell, nilb, nilf, faddr_p, c_ref02_Root, l1, c1, wa, wb, wc, wd, we, wt, hp, w0, w1, h1, h2, h3, h4]) | (simp (maxSteps := 1000000) (disch := first | with_reducible assumption | omega) only [dxB]) | (simp only [kI_d, kG_dt, kG_df]; split) | (simp only [kI_v, kG_vt, kG_vf]; split)); all_goals rfl)
  · rw [hPe] at wd hpar
    rcases hpar with ⟨hp, hn⟩ | ⟨hp, hn⟩
    · rw [hn] at h1 we wt
      cases o <;> cases o2 <;> (repeat' (first | (simp (maxSteps := 1000000) only [evB, if_true, if_false, ne_eq, Nat.reduceEqDiff, Nat.reduceAdd, reduceCtorEq, Int.reduceLE, Int.reduceLT, Int.reduceEq, Int.reduceNeg, Int.reduceToNat, Int.reducePow, Int.reduceMod, Int.reduceDiv, Int.reduceSub, Int.reduceAdd, Int.reduceMul, Nat.reduceMul, Nat.reduceSub, Nat.reducePow, exB, resC_ptr, res_cell, nilb, nilf, faddr_p, c_ref02_Root, l1, c1, wa, wb, wc, wd, we, wt, hp, h1, h2, h3, h4]) | (simp (maxSteps := 1000000) (disch := first | with_reducible assumption | omega) only [dxB]) | (simp only [kI_d, kG_dt, kG_df]; split) | (simp only [kI_v, kG_vt, kG_vf]; split)); all_goals rfl)
    · cases o <;> cases o2 <;> (repeat' (first | (simp (maxSteps := 1000000) only [evB, if_true, if_false, ne_eq, Nat.reduceEqDiff, Nat.reduceAdd, reduceCtorEq, Int.reduceLE, Int.reduceLT, Int.reduceEq, Int.reduceNeg, Int.reduceToNat, Int.reducePow, Int.reduceMod, Int.reduceDiv, Int.reduceSub, Int.reduceAdd, Int.reduceMul, Nat.reduceMul, Nat.reduceSub, Nat.reducePow, exB, resC_ptr, res_cell, nilb, nilf, faddr_p, c_ref02_Root, l1, c1, wa, wb, wc, wd, we, wt, hp, hn, h1, h2, h3, h4]) | (simp (maxSteps := 1000000) (disch := first | with_reducible assumption | omega) only [dxB]) | (simp only [kI_d, kG_dt, kG_df]; split) | (simp only [kI_v, kG_vt, kG_vf]; split)); all_goals rfl)
end Go.Cv

/-
  Rounding a number that is told by its first bits and whether there is something behind them.
-/
namespace Go.Cv

/-- The word of Q (and something behind it, or not) times 2^E. -/
def sW (F : Fm) (md : Int) (neg : Bool) (Q : Nat) (more : Bool) (E : Int) : Nat × Nat :=
  wordOf F md neg (rdN md neg Q more (F.eOf (E + blen Q) - E).toNat).1 (rdN md neg Q more (F.eOf (E + blen Q) - E).toNat).2 (F.eOf (E + blen Q)) (E + blen Q) (rdN md neg Q more (blen Q - F.fr - 1)).1

theorem partW_sW (F : Fm) (md : Int) (neg : Bool) {w : Nat} (more : Bool) (top : Int) (hw : blen w = 64) : partW F md neg w more top = sW F md neg w more (top - 64) := by
  unfold partW sW
  have h1 : top - 64 + (blen w : Int) = top := by omega
  rw [h1, show F.eOf top - top + 64 = F.eOf top - (top - 64) by omega, show blen w - F.fr - 1 = 63 - F.fr by omega]

theorem sW_shift (F : Fm) (md : Int) (neg : Bool) {Q j : Nat} (more : Bool) (E : Int) (h : F.fr + 2 + j ≤ blen Q) :
    sW F md neg (Q / 2 ^ j) (more || decide (Q % 2 ^ j ≠ 0)) (E + j) = sW F md neg Q more E := by
  unfold sW
  have hb : (blen (Q / 2 ^ j) : Int) = blen Q - j := by rw [blen_div]; omega
  have hb' : blen (Q / 2 ^ j) = blen Q - j := by omega
  have e1 : E + j + (blen (Q / 2 ^ j) : Int) = E + blen Q := by omega
  have hE : E + (blen Q : Int) - F.fr - 1 ≤ F.eOf (E + blen Q) := by unfold Fm.eOf; omega
  have r1 := rdN_shift md neg Q more j (F.eOf (E + blen Q) - (E + j)).toNat (by omega)
  have r2 := rdN_shift md neg Q more j (blen Q - j - F.fr - 1) (by omega)
  rw [show j + (F.eOf (E + blen Q) - (E + j)).toNat = (F.eOf (E + blen Q) - E).toNat by omega] at r1
  rw [show j + (blen Q - j - F.fr - 1) = blen Q - F.fr - 1 by omega] at r2
  rw [e1, hb', r1, r2]

theorem headN_mul {M : Nat} (h : M ≠ 0) (t : Nat) : headN (M * 2 ^ t) = headN M ∧ behindN (M * 2 ^ t) = behindN M := by
  unfold headN behindN
  rw [blen_mul h]
  by_cases h1 : blen M ≤ 64
  · by_cases h2 : blen M + t ≤ 64
    · rw [if_pos h1, if_pos h2, if_pos h1, if_pos h2, Nat.mul_assoc, ← Nat.pow_add, show t + (64 - (blen M + t)) = 64 - blen M by omega]
      exact ⟨rfl, rfl⟩
    · rw [if_pos h1, if_neg h2, if_pos h1, if_neg h2]
      rw [div_pow_mul (by omega), mod_pow_mul (by omega), show t - (blen M + t - 64) = 64 - blen M by omega]
      exact ⟨rfl, rfl⟩
  · rw [if_neg h1, if_neg (by omega), if_neg h1, if_neg (by omega)]
    rw [div_pow_mul2 (by omega), mod_pow_mul2 (by omega), show blen M + t - 64 - t = blen M - 64 by omega]
    have hp := Nat.two_pow_pos t
    refine ⟨rfl, decide_eq_decide.2 ?_⟩
    constructor
    · intro h3 h4; exact h3 (by rw [h4, Nat.zero_mul])
    · intro h3 h4
      rcases Nat.mul_eq_zero.1 h4 with h5 | h5
      · exact h3 h5
      · omega

theorem sW_head (F : Fm) (md : Int) (neg : Bool) {M : Nat} (E : Int) (h : F.fr + 2 ≤ blen M) : sW F md neg (headN M) (behindN M) (E + blen M - 64) = sW F md neg M false E := by
  have hF := fm_facts F
  unfold headN behindN
  by_cases h1 : blen M ≤ 64
  · rw [if_pos h1, if_pos h1]
    have hm : M ≠ 0 := by rintro rfl; rw [blen_zero] at h; omega
    have := sW_shift F md neg (Q := M * 2 ^ (64 - blen M)) (j := 64 - blen M) false (E + blen M - 64) (by rw [blen_mul hm]; omega)
    rw [Nat.mul_div_cancel _ (Nat.two_pow_pos _), Nat.mul_mod_left, show E + (blen M : Int) - 64 + ((64 - blen M : Nat) : Int) = E by omega] at this
    rw [← this]; rfl
  · rw [if_neg h1, if_neg h1]
    have := sW_shift F md neg (Q := M) (j := blen M - 64) false E (by omega)
    rw [← this, Bool.false_or, show E + ((blen M - 64 : Nat) : Int) = E + blen M - 64 by omega]

theorem rndW_mk (F : Fm) (md : Int) (neg : Bool) {M : Nat} (E : Int) (h : F.fr + 2 ≤ blen M) : rndW F md (mkD neg M E) = sW F md neg M false E := by
  have hm : M ≠ 0 := by rintro rfl; rw [blen_zero] at h; omega
  have t1 := (tz_spec hm).1
  have hb := blen_div M (tz M)
  have hz := tz_blen hm
  have hm' : M / 2 ^ tz M ≠ 0 := by intro hc; rw [hc, blen_zero] at hb; omega
  have h1 := partW_eq F md (d := mkD neg M E) (by rw [mkD_pos hm]; exact hm')
  rw [← h1, mkD_pos hm]
  simp only
  obtain ⟨e1, e2⟩ := headN_mul hm' (tz M)
  rw [← t1] at e1 e2
  rw [← e1, ← e2, partW_sW _ _ _ _ _ (headN_blen hm), show E + (tz M : Int) + (blen (M / 2 ^ tz M) : Int) - 64 = E + blen M - 64 by omega, sW_head F md neg E h]

/-- Something behind a number, as one bit more. -/
theorem sW_beyond (F : Fm) (md : Int) (neg : Bool) {M j : Nat} (E : Int) (hj : 0 < j) (h : F.fr + 2 ≤ blen M) : sW F md neg (M * 2 ^ j + 1) false (E - j) = sW F md neg M true E := by
  have hm : M ≠ 0 := by rintro rfl; rw [blen_zero] at h; omega
  have hp : 1 < 2 ^ j := Nat.one_lt_two_pow (by omega)
  have d1 : (M * 2 ^ j + 1) / 2 ^ j = M := by
    rw [Nat.mul_comm, Nat.mul_add_div (by omega), Nat.div_eq_of_lt hp, Nat.add_zero]
  have d2 : (M * 2 ^ j + 1) % 2 ^ j = 1 := by
    rw [Nat.mul_comm, Nat.mul_add_mod, Nat.mod_eq_of_lt hp]
  have hb := blen_div (M * 2 ^ j + 1) j
  rw [d1] at hb
  have := sW_shift F md neg (Q := M * 2 ^ j + 1) (j := j) false (E - j) (by omega)
  rw [d1, d2, show E - (j : Int) + j = E by omega] at this
  rw [← this]; rfl

theorem mul_self_shift (t j : Nat) : t * 2 ^ j * (t * 2 ^ j) = t * t * 2 ^ (2 * j) := by
  rw [Nat.mul_mul_mul_comm, ← Nat.pow_add, show j + j = 2 * j by omega]

/-- The finer of two roots tells the same. -/
theorem root_fine {X r t j : Nat} (h1 : r * r ≤ X) (h2 : X < (r + 1) * (r + 1)) (h3 : t * t ≤ X / 2 ^ (2 * j)) (h4 : X / 2 ^ (2 * j) < (t + 1) * (t + 1)) :
    t = r / 2 ^ j ∧ ((t * t = X / 2 ^ (2 * j) ∧ X % 2 ^ (2 * j) = 0) ↔ (r * r = X ∧ r % 2 ^ j = 0)) := by
  have hp := Nat.two_pow_pos j
  have hq := Nat.two_pow_pos (2 * j)
  have g1 : t * 2 ^ j * (t * 2 ^ j) ≤ X := by
    rw [mul_self_shift]
    exact Nat.le_trans (Nat.mul_le_mul_right _ h3) (Nat.div_mul_le_self ..)
  have g2 : t * 2 ^ j ≤ r := by
    rcases Nat.lt_or_ge r (t * 2 ^ j) with h | h
    · have := Nat.mul_le_mul (show r + 1 ≤ t * 2 ^ j from h) (show r + 1 ≤ t * 2 ^ j from h); omega
    · exact h
  have g3 : r / 2 ^ j * (r / 2 ^ j) ≤ X / 2 ^ (2 * j) := by
    rw [Nat.le_div_iff_mul_le hq, ← mul_self_shift]
    exact Nat.le_trans (Nat.mul_le_mul (Nat.div_mul_le_self ..) (Nat.div_mul_le_self ..)) h1
  have g4 : r / 2 ^ j ≤ t := by
    rcases Nat.lt_or_ge t (r / 2 ^ j) with h | h
    · have := Nat.mul_le_mul (show t + 1 ≤ r / 2 ^ j from h) (show t + 1 ≤ r / 2 ^ j from h); omega
    · exact h
  have g5 : t = r / 2 ^ j := Nat.le_antisymm ((Nat.le_div_iff_mul_le hp).2 g2) g4
  refine ⟨g5, ?_⟩
  have m1 := Nat.div_add_mod X (2 ^ (2 * j))
  have m2 := Nat.div_add_mod r (2 ^ j)
  constructor
  · rintro ⟨a1, a2⟩
    have hX : t * 2 ^ j * (t * 2 ^ j) = X := by
      rw [mul_self_shift, a1, Nat.mul_comm]; omega
    have hr : t * 2 ^ j = r := by
      refine root_uniq (a := X) (Nat.le_of_eq hX) ?_ h1 h2
      rw [← hX]; exact Nat.mul_lt_mul_of_lt_of_le (Nat.lt_succ_self _) (Nat.le_succ _) (by omega)
    refine ⟨by rw [← hr]; exact hX, ?_⟩
    rw [← hr]; exact Nat.mul_mod_left ..
  · rintro ⟨a1, a2⟩
    have hr : r = t * 2 ^ j := by rw [g5, Nat.mul_comm]; omega
    have hX : X = t * t * 2 ^ (2 * j) := by rw [← a1, hr, mul_self_shift]
    refine ⟨?_, by rw [hX]; exact Nat.mul_mod_left ..⟩
    rw [hX, Nat.mul_div_cancel _ hq]

theorem sW_root (F : Fm) (md : Int) (neg : Bool) {X r t j : Nat} (E : Int) (h1 : r * r ≤ X) (h2 : X < (r + 1) * (r + 1)) (h3 : t * t ≤ X / 2 ^ (2 * j)) (h4 : X / 2 ^ (2 * j) < (t + 1) * (t + 1)) (h : F.fr + 2 ≤ blen t) :
    sW F md neg t (!decide (X % 2 ^ (2 * j) = 0) || !decide (t * t = X / 2 ^ (2 * j))) (E + j) = sW F md neg r (!decide (r * r = X)) E := by
  obtain ⟨e1, e2⟩ := root_fine h1 h2 h3 h4
  have hbl := blen_div r j
  rw [← e1] at hbl
  have h5 := sW_shift F md neg (Q := r) (j := j) (!decide (r * r = X)) E (by omega)
  rw [← e1] at h5
  rw [← h5]
  congr 1
  rw [Bool.eq_iff_iff]
  simp only [Bool.or_eq_true, Bool.not_eq_true', decide_eq_true_eq, decide_eq_false_iff_not, ne_eq]
  by_cases h6 : t * t = X / 2 ^ (2 * j) <;> by_cases h7 : X % 2 ^ (2 * j) = 0 <;> by_cases h8 : r * r = X <;> by_cases h9 : r % 2 ^ j = 0 <;> simp_all
end Go.Cv

/-
  Rounding of quotients and roots: the program's and the document's.
-/
namespace Go.Cv
variable {G : Nat → Option (List AV)} {T : Tbl} {g : Nat}

theorem or_ne (o1 o2 : Bool) : (!o1 || !o2) = (!o2 || !o1) := by cases o1 <;> cases o2 <;> rfl

theorem head64 {w : Nat} (h : blen w = 64) : headN w = w ∧ behindN w = false := by
  unfold headN behindN
  rw [if_pos (by omega), if_pos (by omega), h]
  exact ⟨Nat.mul_one w, rfl⟩

theorem mk_head {n : Bool} {w : Nat} {e : Int} (h : blen w = 64) : headN (mkD n w e).m = w ∧ behindN (mkD n w e).m = false ∧ (mkD n w e).e + (blen (mkD n w e).m : Int) = e + 64 ∧ (mkD n w e).m ≠ 0 ∧ (mkD n w e).n = n := by
  have h0 : w ≠ 0 := by rintro rfl; rw [blen_zero] at h; omega
  have t1 := (tz_spec h0).1
  have hb := blen_div w (tz w)
  have hz := tz_blen h0
  have hm' : w / 2 ^ tz w ≠ 0 := by intro hc; rw [hc, blen_zero] at hb; omega
  obtain ⟨e1, e2⟩ := headN_mul hm' (tz w)
  rw [← t1] at e1 e2
  rw [mkD_pos h0]
  simp only
  rw [← e1, ← e2]
  exact ⟨(head64 h).1, (head64 h).2, by omega, hm', by trivial⟩

theorem fm_fr (F : Fm) : F.fr + 2 ≤ 54 := by cases F <;> decide

end Go.Cv

/-
  The document's rounding of quotients.
-/
namespace Go.Cv
variable {G : Nat → Option (List AV)} {T : Tbl} {g : Nat}

/-- A number of 60 bits, and something behind it or not. -/
def beyD (n : Bool) (q : Nat) (e : Int) (lost : Bool) : Dy := if lost then mkD n (q * 2 ^ 2 + 1) (e - 2) else mkD n q e

theorem bey_add {n : Bool} {q : Nat} {e : Int} (hq : blen q = 60) : (mkD n q e).n = n ∧ topD (mkD n q e) = e + 60 ∧ addD (mkD n q e) ⟨n, 1, e - 2⟩ = mkD n (q * 2 ^ 2 + 1) (e - 2) := by
  have h0 : q ≠ 0 := by rintro rfl; rw [blen_zero] at hq; omega
  refine ⟨by rw [mkD_pos h0], by rw [top_mk h0, hq]; rfl, ?_⟩
  have t1 := (tz_spec h0).1
  have hb := blen_div q (tz q)
  have hz := tz_blen h0
  have hm' : q / 2 ^ tz q ≠ 0 := by intro hc; rw [hc, blen_zero] at hb; omega
  rw [mkD_pos h0]
  unfold addD
  simp only
  rw [if_neg hm', if_neg (by decide), if_pos trivial, show min (e + (tz q : Int)) (e - 2) = e - 2 by omega, show (e + (tz q : Int) - (e - 2)).toNat = tz q + 2 by omega, show (e - 2 - (e - 2)).toNat = 0 by omega, Nat.pow_add, ← Nat.mul_assoc, ← t1]

theorem sW_bey (F : Fm) (md : Int) (n : Bool) {q : Nat} {e : Int} {lost : Bool} (hq : blen q = 60) : rndW F md (beyD n q e lost) = sW F md n q lost e := by
  have hF := fm_fr F
  unfold beyD
  cases lost
  · rw [if_neg (by decide), rndW_mk F md n e (by omega)]
  · have h0 : q ≠ 0 := by rintro rfl; rw [blen_zero] at hq; omega
    have hb := blen_mul h0 2
    have hb2 := blen_mono (show q * 2 ^ 2 ≤ q * 2 ^ 2 + 1 by omega)
    rw [if_pos rfl, rndW_mk F md n (e - 2) (by omega)]
    exact sW_beyond F md n (j := 2) e (by decide) (by omega)

theorem Bd_bey {n : Bool} {q : Nat} {e : Int} {lost : Bool} (hq : blen q = 60) (he : -100000000 < e ∧ e < 100000000) : Bd (beyD n q e lost) 134217728 := by
  unfold beyD
  split
  · have h0 : q * 2 ^ 2 + 1 ≠ 0 := by omega
    have hb : blen (q * 2 ^ 2 + 1) ≤ 63 := by
      have := blen_le.1 (Nat.le_of_eq hq)
      refine blen_le.2 ?_
      omega
    exact Bd_mk (by omega) (by omega) (by omega)
  · exact Bd_mk (by omega) (by omega) (by omega)
theorem Nz_bey (n : Bool) (q : Nat) (e : Int) (lost : Bool) : Nz (beyD n q e lost) := by
  unfold beyD; split <;> exact Nz_mk _ _ _

theorem ref04_Beyond (hB : HasB g T) (hC : HasC g T) (hT : HasE g T) {z n lost : Bool} {q : Nat} {e : Int} (hq : blen q = 60) (he : -100000000 < e ∧ e < 100000000) :
    ∃ z', run G T 42 [DyA z (mkD n q e), .bool lost] = some (DyA z' (beyD n q e lost)) := by
  apply exP
  rw [run_k G T hT.ref04_Beyond]
  obtain ⟨e1, e2, e3⟩ := bey_add (n := n) (e := e) hq
  have bd : Bd (mkD n q e) 134217728 := Bd_mk (by omega) (by omega) (by omega)
  have hl := dl_len_blen (mkD n q e).m
  have s1 := ref02_Top (G := G) (T := T) hB hC (z := z) (d := mkD n q e) (by have := bd.bl; omega) (by have := bd.lo; have := bd.hi; omega)
  rw [e2] at s1
  have s2 := ref02_Two (G := G) (T := T) hC (n := e - 2)
  have b2 : Bd (twoD (e - 2)) 134217728 := Bd_two (by omega) (by decide)
  unfold beyD
  rw [← e3]
  have w1 : IntKind.i64.wrap (e + 60 - 60) = e := by rw [wrap_i64 (by omega)]; omega
  have w2 : IntKind.i64.wrap (e - 2) = e - 2 := wrap_i64 (by omega)
  cases n
  · obtain ⟨z1, s3⟩ := ref02_Add (G := G) (T := T) hB hC (z := z) (y := false) (bd.mono (by decide)) (b2.mono (by decide))
    rw [show twoD (e - 2) = ⟨false, 1, e - 2⟩ from rfl] at s3
    rw [show twoD (e - 2) = ⟨false, 1, e - 2⟩ from rfl] at s2
    simp only [DyA, A3, e1] at *
    cases lost
    · repeat' (first | (simp (maxSteps := 1000000) only [evB, if_true, if_false, ne_eq, Nat.reduceEqDiff, Nat.reduceAdd, reduceCtorEq, Int.reduceLE, Int.reduceLT, Int.reduceEq, Int.reduceNeg, Int.reduceToNat, Int.reducePow, Int.reduceMod, Int.reduceDiv, Int.reduceSub, Int.reduceAdd, Int.reduceMul, Nat.reduceMul, Nat.reduceSub, Nat.reducePow, exB, resC_ptr, res_cell, nilb, nilf, faddr_p, c_ref04_Beyond]) | (simp (maxSteps := 1000000) (disch := first | with_reducible assumption | omega) only [dxB]) | (simp only [kI_d, kG_dt, kG_df]; split) | (simp only [kI_v, kG_vt, kG_vf]; split))
      exact ⟨_, rfl, _, (by first | rfl | rw [(bey_add (e := e) hq).1])⟩
    · repeat' (first | (simp (maxSteps := 1000000) only [evB, if_true, if_false, ne_eq, Nat.reduceEqDiff, Nat.reduceAdd, reduceCtorEq, Int.reduceLE, Int.reduceLT, Int.reduceEq, Int.reduceNeg, Int.reduceToNat, Int.reducePow, Int.reduceMod, Int.reduceDiv, Int.reduceSub, Int.reduceAdd, Int.reduceMul, Nat.reduceMul, Nat.reduceSub, Nat.reducePow, exB, resC_ptr, res_cell, nilb, nilf, faddr_p, c_ref04_Beyond, s1, s2, s3, w1, w2]) | (simp (maxSteps := 1000000) (disch := first | with_reducible assumption | omega) only [dxB]) | (simp only [kI_d, kG_dt, kG_df]; split) | (simp only [kI_v, kG_vt, kG_vf]; split))
      exact ⟨_, rfl, _, (by first | rfl | rw [(bey_add (e := e) hq).1])⟩
  · obtain ⟨z1, s3⟩ := ref02_Sub (G := G) (T := T) hB hC (z := z) (y := false) (bd.mono (by decide)) (b2.mono (by decide))
    have hneg : subD (mkD true q e) (twoD (e - 2)) = addD (mkD true q e) ⟨true, 1, e - 2⟩ := rfl
    rw [hneg] at s3
    rw [show twoD (e - 2) = ⟨false, 1, e - 2⟩ from rfl] at s3 s2
    simp only [DyA, A3, e1] at *
    cases lost
    · repeat' (first | (simp (maxSteps := 1000000) only [evB, if_true, if_false, ne_eq, Nat.reduceEqDiff, Nat.reduceAdd, reduceCtorEq, Int.reduceLE, Int.reduceLT, Int.reduceEq, Int.reduceNeg, Int.reduceToNat, Int.reducePow, Int.reduceMod, Int.reduceDiv, Int.reduceSub, Int.reduceAdd, Int.reduceMul, Nat.reduceMul, Nat.reduceSub, Nat.reducePow, exB, resC_ptr, res_cell, nilb, nilf, faddr_p, c_ref04_Beyond]) | (simp (maxSteps := 1000000) (disch := first | with_reducible assumption | omega) only [dxB]) | (simp only [kI_d, kG_dt, kG_df]; split) | (simp only [kI_v, kG_vt, kG_vf]; split))
      exact ⟨_, rfl, _, (by first | rfl | rw [(bey_add (e := e) hq).1])⟩
    · repeat' (first | (simp (maxSteps := 1000000) only [evB, if_true, if_false, ne_eq, Nat.reduceEqDiff, Nat.reduceAdd, reduceCtorEq, Int.reduceLE, Int.reduceLT, Int.reduceEq, Int.reduceNeg, Int.reduceToNat, Int.reducePow, Int.reduceMod, Int.reduceDiv, Int.reduceSub, Int.reduceAdd, Int.reduceMul, Nat.reduceMul, Nat.reduceSub, Nat.reducePow, exB, resC_ptr, res_cell, nilb, nilf, faddr_p, c_ref04_Beyond, s1, s2, s3, w1, w2]) | (simp (maxSteps := 1000000) (disch := first | with_reducible assumption | omega) only [dxB]) | (simp only [kI_d, kG_dt, kG_df]; split) | (simp only [kI_v, kG_vt, kG_vf]; split))
      exact ⟨_, rfl, _, (by first | rfl | rw [(bey_add (e := e) hq).1])⟩

end Go.Cv

/-
  Rounding of roots: the program's and the document's.
-/
namespace Go.Cv
variable {G : Nat → Option (List AV)} {T : Tbl} {g : Nat}

theorem isq_ex : ∀ X : Nat, ∃ r, r * r ≤ X ∧ X < (r + 1) * (r + 1) := by
  intro X
  induction X with
  | zero => exact ⟨0, by decide, by decide⟩
  | succ X ih =>
    obtain ⟨r, h1, h2⟩ := ih
    by_cases h : X + 1 < (r + 1) * (r + 1)
    · exact ⟨r, by omega, h⟩
    · refine ⟨r + 1, by omega, ?_⟩
      have : (r + 1) * (r + 1) < (r + 1 + 1) * (r + 1 + 1) := Nat.mul_lt_mul_of_lt_of_le (Nat.lt_succ_self _) (Nat.le_succ _) (by omega)
      omega
/-- The whole root. -/
noncomputable def isq (X : Nat) : Nat := Classical.choose (isq_ex X)
theorem isq_spec (X : Nat) : isq X * isq X ≤ X ∧ X < (isq X + 1) * (isq X + 1) := Classical.choose_spec (isq_ex X)

def rootP (e : Int) : Nat := 130 + (e % 2).toNat
/-- The word of a root. -/
noncomputable def rootW (F : Fm) (md : Int) (d : Dy) : Nat × Nat :=
  sW F md false (isq (d.m * 2 ^ rootP d.e)) (!decide (isq (d.m * 2 ^ rootP d.e) * isq (d.m * 2 ^ rootP d.e) = d.m * 2 ^ rootP d.e)) ((d.e - (rootP d.e : Nat)) / 2)

theorem sh_fine {m P : Nat} {n : Int} (h : n ≤ P) : shN m n = m * 2 ^ P / 2 ^ ((P : Int) - n).toNat ∧ shB m n = !decide (m * 2 ^ P % 2 ^ ((P : Int) - n).toNat = 0) := by
  unfold shN shB
  by_cases h0 : 0 ≤ n
  · rw [if_pos h0, if_pos h0, div_pow_mul (by omega), mod_pow_mul (by omega), show P - ((P : Int) - n).toNat = n.toNat by omega]
    exact ⟨rfl, rfl⟩
  · rw [if_neg h0, if_neg h0, div_pow_mul2 (by omega), mod_pow_mul2 (by omega), show ((P : Int) - n).toNat - P = (-n).toNat by omega]
    have hp := Nat.two_pow_pos P
    refine ⟨rfl, ?_⟩
    congr 1
    refine decide_eq_decide.2 ?_
    constructor
    · intro h1; rw [h1, Nat.zero_mul]
    · intro h1
      rcases Nat.mul_eq_zero.1 h1 with h2 | h2
      · exact h2
      · omega

/-- A coarser root tells the same. -/
theorem rootW_sh (F : Fm) (md : Int) {m t : Nat} {e n c : Int} (h0 : n ≤ rootP e) (hc : e - n = 2 * c) (h1 : t * t ≤ shN m n) (h2 : shN m n < (t + 1) * (t + 1)) (hb : F.fr + 2 ≤ blen t) (s : Bool) :
    sW F md false t (shB m n || !decide (t * t = shN m n)) c = rootW F md ⟨s, m, e⟩ := by
  have hP : rootP e = 130 + (e % 2).toNat := rfl
  obtain ⟨e1, e2⟩ := sh_fine (m := m) h0
  obtain ⟨r1, r2⟩ := isq_spec (m * 2 ^ rootP e)
  have hj : ((rootP e : Nat) - n).toNat = 2 * (((rootP e : Nat) - n).toNat / 2) := by omega
  rw [hj] at e1 e2
  have h3 := sW_root F md false (X := m * 2 ^ rootP e) (r := isq (m * 2 ^ rootP e)) (t := t) (j := ((rootP e : Nat) - n).toNat / 2) ((e - (rootP e : Nat)) / 2) r1 r2 (by rw [← e1]; exact h1) (by rw [← e1]; exact h2) hb
  unfold rootW
  simp only
  rw [← h3, e2, e1, show (e - (rootP e : Nat)) / 2 + ((((rootP e : Nat) - n).toNat / 2 : Nat) : Int) = c by omega]

theorem round_Root (hA : HasA g T) (hC : HasC g T) (hG : Glob G g) (hD : HasD g T) (hT : HasE g T) (F : Fm) {m : Int} (hm : 1 ≤ m ∧ m ≤ 5) {z : Bool} {d : Dy} (dd : mayD d.n (dl d.m) d.e = true) (h0 : d.m ≠ 0) (hs : d.n = false) :
    run G T 18 [.int .u8 F.u, .int .u8 m, DyA z d] = some (.tup [.int .u64 ((rootW F m d).1 : Int), .int .u8 ((rootW F m d).2 : Int), .int .i64 0]) := by
  rw [run_k G T hT.round_Root]
  obtain ⟨f1, f2, f3, f4, f5⟩ := mayD_facts dd
  have o1 := round_open1 (G := G) (T := T) hA hC hT F hm (n := d.n) (z := z) (Dg_dl d.m) (e := d.e)
  rw [dd, if_pos rfl] at o1
  have s1 := dyad_Sign (G := G) (T := T) hA hC (n := d.n) (z := z) (Dg_dl d.m) (e := d.e)
  rw [sign_may dd, if_neg h0, hs, if_neg (by decide)] at s1
  have hbm := may_blen f1
  have hbp := blen_pos h0
  obtain ⟨n, hn⟩ : ∃ n : Int, n = 2 * ((64 : Nat) : Int) + 2 - blen d.m + (d.e - (2 * ((64 : Nat) : Int) + 2 - blen d.m)) % 2 := ⟨_, rfl⟩
  have hP : rootP d.e = 130 + (d.e % 2).toNat := rfl
  obtain ⟨c, hc⟩ : ∃ c : Int, d.e - n = 2 * c := ⟨(d.e - n) / 2, by omega⟩
  have hnP : n ≤ rootP d.e := by omega
  have hbs := shN_blen h0 (n := n) (by omega)
  obtain ⟨r, r1, r2⟩ := isq_ex (shN d.m n)
  have hrk : 64 < blen r := root_blen (k := 64) (r := r) (M := shN d.m n) (by
    have := pow_blen_le (n := shN d.m n) (by intro hc; rw [hc, blen_zero] at hbs; omega)
    rw [← Nat.pow_add]
    exact Nat.le_trans (Nat.pow_le_pow_right (by decide) (by omega)) this) r2
  obtain ⟨S, hS⟩ : ∃ S, blen r = 64 + S := ⟨blen r - 64, by omega⟩
  obtain ⟨zq, q1⟩ := dyad_Root (G := G) (T := T) hA hG hC (z := z) (d := d) (k := 64) (S := S) (n := n) (c := c) (r := r) dd h0 hs (by omega) hn hc r1 r2 hS
  rw [show ((64 : Nat) : Int) = 64 from rfl] at q1
  have bS := blen_div r S
  have hb64 : blen (r / 2 ^ S) = 64 := by omega
  have hbr : blen r ≤ blen (shN d.m n) := blen_mono (Nat.le_trans (Nat.le_mul_self r) r1)
  have hF := fm_fr F
  have W : rootW F m d = partW F m false (r / 2 ^ S) (!decide (r % 2 ^ S = 0) || (shB d.m n || !decide (r * r = shN d.m n))) (c + S + 64) := by
    rw [partW_sW _ _ _ _ _ hb64]
    have h1 := rootW_sh F m (m := d.m) (t := r) (e := d.e) (n := n) (c := c) hnP hc r1 r2 (by omega) d.n
    have h2 := sW_shift F m false (Q := r) (j := S) (shB d.m n || !decide (r * r = shN d.m n)) c (by omega)
    simp only [ne_eq, decide_not] at h2
    rw [show rootW F m d = rootW F m ⟨d.n, d.m, d.e⟩ from rfl, ← h1, ← h2, Bool.or_comm, show c + (S : Int) + 64 - 64 = c + S by omega]
  rw [W]
  clear W bS hrk
  have hX : -10000000 < c + (S : Int) ∧ c + (S : Int) < 10000000 := by omega
  clear hnP hP hc hn hbs hbr r1 r2 hS hF
  generalize (!decide (r % 2 ^ S = 0) || (shB d.m n || !decide (r * r = shN d.m n))) = lost at *
  generalize c + (S : Int) = X at *
  generalize r / 2 ^ S = Q at *
  have hQ0 : Q ≠ 0 := by rintro rfl; rw [blen_zero] at hb64; omega
  obtain ⟨k1, k2, k3, k4, k5⟩ := mk_head (n := false) (e := X) hb64
  have hd := mkD_pos (n := false) (m := Q) hQ0 X
  have tq := tz_blen hQ0
  have hmm : mayL (dl (mkD false Q X).m) = true := mayL_small (by
    have := blen_div Q (tz Q)
    rw [hd]; simp only; omega)
  have p1 := round_partOf (G := G) (T := T) hA hG hT (z := zq) (d := mkD false Q X) hmm k4 (by rw [hd]; simp only; omega)
  rw [k1, k2, k3] at p1
  have w1 := round_word (G := G) (T := T) hA hC hG hD hT F hm (neg := false) (more := lost) (w := Q) (top := X + 64) hb64 (by omega)
  clear k1 k2 k3 k4 k5 hd tq hmm hb64 f1 f2 f3 f4 f5 dd hX hQ0 hbm hbp
  obtain ⟨ng, mm, e⟩ := d
  simp only at *
  subst hs
  simp only [DyA, A3, fmA, partA] at *
  cases lost <;> (
    repeat' (first | (simp (maxSteps := 1000000) only [evB, if_true, if_false, ne_eq, Nat.reduceEqDiff, Nat.reduceAdd, reduceCtorEq, Int.reduceLE, Int.reduceLT, Int.reduceEq, Int.reduceNeg, Int.reduceToNat, Int.reducePow, Int.reduceMod, Int.reduceDiv, Int.reduceSub, Int.reduceAdd, Int.reduceMul, Nat.reduceMul, Nat.reduceSub, Nat.reducePow, exB, resC_ptr, res_cell, nilb, nilf, faddr_p, c_round_Root, o1, s1, q1, p1, w1]) | (simp (maxSteps := 1000000) (disch := first | with_reducible assumption | omega) only [dxB]) | (simp only [kI_d, kG_dt, kG_df]; split) | (simp only [kI_v, kG_vt, kG_vf]; split))
    all_goals try rfl)

theorem ref04_Root (hB : HasB g T) (hC : HasC g T) (hD : HasD g T) (hT : HasE g T) (F : Fm) {m : Int} (hm : 1 ≤ m ∧ m ≤ 5) {z : Bool} {d : Dy} (h0 : d.m ≠ 0) (bd : Bd d 33554432) (lb : blen d.m < 1048576) :
    run G T 19 [.int .u8 F.u, .int .u8 m, DyA z d] = some (.tup [.int .u64 ((rootW F m d).1 : Int), .int .u8 ((rootW F m d).2 : Int)]) := by
  rw [run_k G T hT.ref04_Root]
  have s1 := ref02_Sign (G := G) (T := T) hC (z := z) (d := d)
  have hs : ¬ sgnD d = 0 := by simp only [sgnD, if_neg h0]; split <;> decide
  obtain ⟨ba1, ba2, ba3⟩ := bd
  have hbp := blen_pos h0
  obtain ⟨N, hN⟩ : ∃ N : Nat, (N : Int) = max 0 (2 * ((60 : Nat) : Int) + 2 - blen d.m) + (d.e - max 0 (2 * ((60 : Nat) : Int) + 2 - blen d.m)) % 2 :=
    ⟨(max 0 (2 * ((60 : Nat) : Int) + 2 - blen d.m) + (d.e - max 0 (2 * ((60 : Nat) : Int) + 2 - blen d.m)) % 2).toNat, by omega⟩
  have hP : rootP d.e = 130 + (d.e % 2).toNat := rfl
  obtain ⟨c, hc⟩ : ∃ c : Int, d.e - N = 2 * c := ⟨(d.e - N) / 2, by omega⟩
  have hnP : (N : Int) ≤ rootP d.e := by omega
  have hsh : shN d.m (N : Int) = d.m * 2 ^ N ∧ shB d.m (N : Int) = false := by
    unfold shN shB
    rw [if_pos (by omega), if_pos (by omega), Int.toNat_natCast]
    exact ⟨rfl, rfl⟩
  obtain ⟨r, r1, r2⟩ := isq_ex (d.m * 2 ^ N)
  have hbN := blen_mul h0 N
  have hrk : 60 < blen r := root_blen (k := 60) (r := r) (M := d.m * 2 ^ N) (by
    have := pow_blen_le (n := d.m * 2 ^ N) (by intro hc; rw [hc, blen_zero] at hbN; omega)
    rw [← Nat.pow_add]
    exact Nat.le_trans (Nat.pow_le_pow_right (by decide) (by omega)) this) r2
  obtain ⟨S, hS⟩ : ∃ S, blen r = 60 + S := ⟨blen r - 60, by omega⟩
  obtain ⟨z1, q1⟩ := ref02_Root (G := G) (T := T) hB hC (z := z) (d := d) (k := 60) (S := S) (N := N) (c := c) (r := r) h0 lb (by omega) (by omega) (by omega) hN hc r1 r2 hS
  rw [show ((60 : Nat) : Int) = 60 from rfl] at q1
  have bS := blen_div r S
  have hb60 : blen (r / 2 ^ S) = 60 := by omega
  have hbr : blen r ≤ blen (d.m * 2 ^ N) := blen_mono (Nat.le_trans (Nat.le_mul_self r) r1)
  have hF := fm_fr F
  have W : rootW F m d = sW F m false (r / 2 ^ S) (!decide (r % 2 ^ S = 0) || !decide (r * r = d.m * 2 ^ N)) (c + S) := by
    have h1 := rootW_sh F m (m := d.m) (t := r) (e := d.e) (n := N) (c := c) hnP hc (by rw [hsh.1]; exact r1) (by rw [hsh.1]; exact r2) (by omega) d.n
    rw [hsh.1, hsh.2, Bool.false_or] at h1
    have h2 := sW_shift F m false (Q := r) (j := S) (!decide (r * r = d.m * 2 ^ N)) c (by omega)
    simp only [ne_eq, decide_not] at h2
    rw [show rootW F m d = rootW F m ⟨d.n, d.m, d.e⟩ from rfl, ← h1, ← h2, or_ne]
  rw [W]
  clear W bS hrk
  have hX : -99000000 < c + (S : Int) ∧ c + (S : Int) < 99000000 := by omega
  clear hnP hP hc hN hbN hbr r1 r2 hS hF hsh
  generalize (!decide (r % 2 ^ S = 0) || !decide (r * r = d.m * 2 ^ N)) = lost at *
  generalize c + (S : Int) = X at *
  generalize r / 2 ^ S = Q at *
  obtain ⟨z2, q2⟩ := ref04_Beyond (G := G) (T := T) hB hC hT (z := z1) (n := false) (lost := lost) (e := X) hb60 (by omega)
  have q3 := ref04_Round (G := G) (T := T) hB hC hD hT F hm (z := z2) (x := beyD false Q X lost) (Nz_bey _ _ _ _) (Bd_bey hb60 (by omega))
  rw [sW_bey F m _ hb60] at q3
  simp only [DyA, A3] at *
  repeat' (first | (simp (maxSteps := 1000000) only [evB, if_true, if_false, ne_eq, Nat.reduceEqDiff, Nat.reduceAdd, reduceCtorEq, Int.reduceLE, Int.reduceLT, Int.reduceEq, Int.reduceNeg, Int.reduceToNat, Int.reducePow, Int.reduceMod, Int.reduceDiv, Int.reduceSub, Int.reduceAdd, Int.reduceMul, Nat.reduceMul, Nat.reduceSub, Nat.reducePow, exB, resC_ptr, res_cell, nilb, nilf, faddr_p, c_ref04_Root, s1, hs, q1, q2, q3]) | (simp (maxSteps := 1000000) (disch := first | with_reducible assumption | omega) only [dxB]) | (simp only [kI_d, kG_dt, kG_df]; split) | (simp only [kI_v, kG_vt, kG_vf]; split))
  all_goals try rfl
end Go.Cv

/-
  Products, column by column (in numbers).
-/
namespace Go.Cv

end Go.Cv

/-
  Products: the document's.
-/
namespace Go.Cv
variable {G : Nat → Option (List AV)} {T : Tbl} {g : Nat}

end Go.Cv

/-
  Sums, products, roots of words, in numbers.
-/
namespace Go.Cv

/-- The canonical NaN. -/
def Fm.nan (F : Fm) : Nat := F.most * 2 ^ F.fr + 2 ^ (F.fr - 1)

theorem w_split {F : Fm} {w : Nat} (h : w < 2 * F.sg) : w = w % F.sg + F.sgn (F.ng w) ∧ w % F.sg = 2 ^ F.fr * F.ex w + F.fc w ∧ F.fc w < 2 ^ F.fr ∧ F.ex w ≤ F.most := by
  have hp := Nat.two_pow_pos F.fr
  have hsg : F.sg = 2 ^ F.fr * (F.most + 1) := by cases F <;> decide
  have h0 : 0 < F.sg := by cases F <;> decide
  refine ⟨?_, (Nat.div_add_mod _ _).symm, Nat.mod_lt _ hp, ?_⟩
  · unfold Fm.ng Fm.sgn
    by_cases h1 : F.sg ≤ w
    · rw [decide_eq_true h1, if_pos rfl, Nat.mod_eq_sub_mod h1, Nat.mod_eq_of_lt (by omega)]; omega
    · rw [decide_eq_false h1, if_neg (by decide), Nat.mod_eq_of_lt (by omega)]; rfl
  · have h1 := Nat.mod_lt w h0
    have : w % F.sg / 2 ^ F.fr < F.most + 1 := Nat.div_lt_of_lt_mul (by rw [← hsg]; exact h1)
    unfold Fm.ex; omega
theorem cls_range (F : Fm) (w : Nat) : F.cls w = 1 ∨ F.cls w = 2 ∨ F.cls w = 3 ∨ F.cls w = 4 ∨ F.cls w = 5 := by
  unfold Fm.cls; repeat' split
  all_goals omega
theorem cls_one {F : Fm} {w : Nat} (h : w < 2 * F.sg) : F.cls w = 1 ↔ w % F.sg = 0 := by
  obtain ⟨h1, h2, h3, h4⟩ := w_split h
  have hp := Nat.two_pow_pos F.fr
  rw [h2]
  unfold Fm.cls
  generalize F.ex w = x at *
  generalize F.fc w = y at *
  constructor
  · intro hc
    have hx : x = 0 ∧ y = 0 := by
      by_cases a : x = 0
      · by_cases b : y = 0
        · exact ⟨a, b⟩
        · rw [if_pos a, if_neg b] at hc; omega
      · rw [if_neg a] at hc
        split at hc
        · omega
        · split at hc <;> omega
    rw [hx.1, hx.2]; rfl
  · intro hc
    have hy : y = 0 := by omega
    have hx : x = 0 := by
      rcases Nat.mul_eq_zero.1 (show 2 ^ F.fr * x = 0 by omega) with q | q
      · omega
      · exact q
    rw [if_pos hx, if_pos hy]
theorem cls_four {F : Fm} {w : Nat} (h : w < 2 * F.sg) : F.cls w = 4 ↔ w % F.sg = F.most * 2 ^ F.fr := by
  obtain ⟨h1, h2, h3, h4⟩ := w_split h
  have hp := Nat.two_pow_pos F.fr
  have hm0 : 0 < F.most := by cases F <;> decide
  rw [h2]
  unfold Fm.cls
  generalize F.ex w = x at *
  generalize F.fc w = y at *
  constructor
  · intro hc
    by_cases a : x = 0
    · rw [if_pos a] at hc; split at hc <;> omega
    · rw [if_neg a] at hc
      by_cases b : x < F.most
      · rw [if_pos b] at hc; omega
      · rw [if_neg b] at hc
        by_cases c : y = 0
        · rw [c, show x = F.most by omega, Nat.mul_comm]; rfl
        · rw [if_neg c] at hc; omega
  · intro hc
    have hx : x = F.most := by
      rcases Nat.lt_or_ge x F.most with q | q
      · have := Nat.mul_le_mul_left (2 ^ F.fr) q
        rw [Nat.mul_succ, Nat.mul_comm (2 ^ F.fr) F.most] at this
        omega
      · omega
    have hy : y = 0 := by rw [hx, Nat.mul_comm] at hc; omega
    rw [if_neg (by omega), if_neg (by omega), if_pos hy]
theorem cls_zero_w {F : Fm} {w : Nat} (h : w < 2 * F.sg) (hc : F.cls w = 1) : w = F.sgn (F.ng w) ∧ F.val w = ⟨false, 0, 0⟩ := by
  have h1 := (w_split h).1
  rw [(cls_one h).1 hc, Nat.zero_add] at h1
  refine ⟨h1, ?_⟩
  rw [h1]
  have := val_zero F (F.ng w)
  rw [Nat.zero_add] at this
  exact this
theorem cls_inf_w {F : Fm} {w : Nat} (h : w < 2 * F.sg) (hc : F.cls w = 4) : w = F.inf (F.ng w) := by
  have h1 := (w_split h).1
  rw [(cls_four h).1 hc] at h1
  exact h1
/-- A finite word that is no nought has a value that is not nought. -/
theorem val_cls {F : Fm} {w : Nat} (h : w < 2 * F.sg) (h1 : F.cls w ≠ 1) (h2 : F.fin w) : (F.val w).m ≠ 0 := by
  obtain ⟨s, n, hw, q1, q2, q3⟩ := word_parts h
  have h0 : s ≠ 0 := by
    rintro rfl
    apply h1
    rw [cls_one h, hw]
    exact (sgn_mod n q1).1
  rw [hw]; exact (round_val F 1 n (q2 h2) h0).2
theorem val_neg_cls {F : Fm} {w : Nat} (h : w < 2 * F.sg) (h1 : F.cls w ≠ 1) (h2 : F.fin w) : (F.val w).n = F.ng w := by
  have h3 := val_cls h h1 h2
  unfold Fm.val at h3 ⊢
  by_cases hx : F.ex w = 0
  · rw [if_pos hx] at h3 ⊢
    by_cases hk : F.fc w = 0
    · rw [hk] at h3; exact absurd rfl h3
    · rw [mkD_pos hk]
  · rw [if_neg hx] at h3 ⊢
    by_cases hk : 2 ^ F.fr + F.fc w = 0
    · rw [hk] at h3; exact absurd rfl h3
    · rw [mkD_pos hk]

/-- An exact sum, rounded. -/
def sumW (F : Fm) (md : Int) (d : Dy) : Nat × Nat := if d.m = 0 then (F.sgn (decide (md = 5)), 0) else rndW F md d
/-- The sum of two parts (class, sign, value). -/
def addP (F : Fm) (md : Int) (c : Int) (n : Bool) (d : Dy) (c' : Int) (n' : Bool) (d' : Dy) : Nat × Nat :=
  if c = 5 ∨ c' = 5 then (F.nan, 0)
  else if c = 4 ∧ c' = 4 ∧ n ≠ n' then (F.nan, 1)
  else if c = 4 then (F.inf n, 0)
  else if c' = 4 then (F.inf n', 0)
  else if c = 1 ∧ c' = 1 ∧ n = n' then (F.sgn n, 0)
  else sumW F md (addD d d')
def mulD (a b : Dy) : Dy := mkD (a.n != b.n) (a.m * b.m) (a.e + b.e)
/-- A word's value; of one that is not finite, nought. -/
def Fm.vl (F : Fm) (w : Nat) : Dy := if F.fin w then F.val w else ⟨false, 0, 0⟩
def addW (F : Fm) (md : Int) (a b : Nat) : Nat × Nat := addP F md (F.cls a) (F.ng a) (F.vl a) (F.cls b) (F.ng b) (F.vl b)
noncomputable def sqrtW (F : Fm) (md : Int) (a : Nat) : Nat × Nat :=
  if F.cls a = 5 then (F.nan, 0) else if F.cls a = 1 then (F.sgn (F.ng a), 0) else if F.ng a then (F.nan, 1) else if F.cls a = 4 then (F.inf false, 0) else rootW F md (F.vl a)
/-- The class of a product. -/
def prC (c c' : Int) : Int := if c = 4 ∨ c' = 4 then 4 else if c = 1 ∨ c' = 1 then 1 else 3
def fmaW (F : Fm) (md : Int) (a b c : Nat) : Nat × Nat :=
  if F.cls a = 5 ∨ F.cls b = 5 ∨ F.cls c = 5 then (F.nan, 0)
  else if (F.cls a = 4 ∨ F.cls b = 4) ∧ (F.cls a = 1 ∨ F.cls b = 1) then (F.nan, 1)
  else addP F md (prC (F.cls a) (F.cls b)) (F.ng a != F.ng b) (if prC (F.cls a) (F.cls b) = 3 then mulD (F.vl a) (F.vl b) else ⟨false, 0, 0⟩) (F.cls c) (F.ng c) (F.vl c)

theorem addD_comm {a b : Dy} (ha : Nz a) (hb : Nz b) : addD a b = addD b a := by
  unfold addD
  by_cases h1 : a.m = 0
  · by_cases h2 : b.m = 0
    · rw [if_pos h1, if_pos h2, ha.1 h1, hb.1 h2]
    · rw [if_pos h1, if_neg h2, if_pos h1]
  · by_cases h2 : b.m = 0
    · rw [if_neg h1, if_pos h2, if_pos h2]
    · rw [if_neg h1, if_neg h2, if_neg h2, if_neg h1, Int.min_comm b.e a.e]
      generalize a.m * 2 ^ (a.e - min a.e b.e).toNat = x
      generalize b.m * 2 ^ (b.e - min a.e b.e).toNat = y
      by_cases h3 : a.n = b.n
      · rw [if_pos h3, if_pos h3.symm, h3, Nat.add_comm]
      · rw [if_neg h3, if_neg (show ¬ b.n = a.n from fun h => h3 h.symm)]
        by_cases h4 : y ≤ x
        · by_cases h5 : x ≤ y
          · rw [if_pos h4, if_pos h5, show x = y by omega, Nat.sub_self]; rfl
          · rw [if_pos h4, if_neg h5]
        · rw [if_neg h4, if_pos (by omega)]
theorem Nz_vl (F : Fm) (w : Nat) : Nz (F.vl w) := by
  unfold Fm.vl; split
  · unfold Fm.val; split <;> exact Nz_mk _ _ _
  · exact ⟨fun _ => rfl, fun h => absurd rfl h⟩
theorem Bd_vl (F : Fm) (w : Nat) : Bd (F.vl w) 4096 := by
  unfold Fm.vl; split
  · rename_i h; exact Bd_val F h
  · exact ⟨by simp only [blen_zero]; omega, by simp, by simp⟩
theorem fin_iff {F : Fm} {w : Nat} : F.fin w ↔ F.cls w = 1 ∨ F.cls w = 2 ∨ F.cls w = 3 := by
  have h1 := fin_cls F w
  have h2 := cls_range F w
  constructor
  · intro h; have := h1.1 h; omega
  · intro h; exact h1.2 (by omega)
end Go.Cv

/-
  The program's sums, differences, comparisons of numbers.
-/
namespace Go.Cv
variable {G : Nat → Option (List AV)} {T : Tbl} {g : Nat}

theorem val_set_take {l : List Nat} {i v : Nat} (h : i < l.length) : val ((l.set i v).take (i + 1)) = val (l.take i) + 4294967296 ^ i * v := by
  rw [val_take_succ', List.take_set_of_le (Nat.le_refl i)]
  congr 2
  rw [dg_lt (by rw [List.length_set]; exact h), List.getElem_set_self]

theorem nAdd_loop (hT : HasA g T) {A B : List Nat} {z y : Bool} {b : Nat} (hA : Dg A) (hB : Dg B) (hs : A.length < 17179869184) (ht : B.length ≤ A.length) : ∀ (m i : Nat) (h : Heap) (l : List Nat) (c : Nat),
    m + i = A.length → Holds h b l → Dg l → l.length = A.length + 1 → c ≤ 1 → val (l.take i) + 4294967296 ^ i * c = val (A.take i) + val (B.take i) →
    Post (evL G T c_nat_Add_l1 [(0, D z A), (1, D y B), (6, .own b 0 (A.length + 1) 1), (7, .int .u32 (c : Int)), (27, .int .i64 ((A.length : Nat) : Int)), (28, .int .i64 (i : Int))] h) fun r =>
      ∃ e h' l' c', r = (.exit 0, (0, D z A) :: (1, D y B) :: (6, .own b 0 (A.length + 1) 1) :: (7, .int .u32 ((c' : Nat) : Int)) :: e, h') ∧ Holds h' b l' ∧ Dg l' ∧ l'.length = A.length + 1 ∧ c' ≤ 1 ∧ val (l'.take A.length) + 4294967296 ^ A.length * c' = val A + val B
  | 0, i, h, l, c, hm, H, hd, hl, hc, he => by
    rw [s_loopc G T (c := c_nat_Add_l1) rfl]
    have h1 : ¬ (i : Int) < (A.length : Int) := by omega
    repeat (first | (simp (maxSteps := 1000000) only [evB, if_true, if_false, ne_eq, Nat.reduceEqDiff, Nat.reduceAdd, reduceCtorEq, Int.reduceLE, Int.reduceLT, Int.reduceEq, Int.reduceNeg, Int.reduceToNat, Int.reducePow, Int.reduceMod, Int.reduceDiv, Int.reduceSub, Int.reduceAdd, Int.reduceMul, Nat.reduceMul, Nat.reduceSub, Nat.reducePow, c_nat_Add_b1, h1]) | (simp (disch := omega) only [dsB]))
    obtain rfl : i = A.length := by omega
    rw [List.take_length, List.take_of_length_le ht] at he
    exact Post.some ⟨_, _, _, _, rfl, H, hd, hl, hc, he⟩
  | m + 1, i, h, l, c, hm, H, hd, hl, hc, he => by
    rw [s_loopc G T (c := c_nat_Add_l1) rfl]
    have h1 : (i : Int) < (A.length : Int) := by omega
    have e7 : (i : Int) + 1 = ((i + 1 : Nat) : Int) := by omega
    have hx := hA.dg i
    have hy := hB.dg i
    have hil : i < l.length := by omega
    have hb := bits_Add32 (G := G) (T := T) hT (x := dg A i) (y := dg B i) (w := c) (d := (dg A i + dg B i + c) % 4294967296) (z := (dg A i + dg B i + c) / 4294967296) hx hy hc (Nat.mod_lt _ (by decide)) (by omega) (by omega)
    have key : val ((l.set i ((dg A i + dg B i + c) % 4294967296)).take (i + 1)) + 4294967296 ^ (i + 1) * ((dg A i + dg B i + c) / 4294967296) = val (A.take (i + 1)) + val (B.take (i + 1)) := by
      rw [val_set_take hil, val_take_succ', val_take_succ', Nat.pow_succ, Nat.mul_assoc, Nat.add_assoc, ← Nat.mul_add, Nat.mod_add_div, Nat.mul_add, Nat.mul_add]
      omega
    have hz : (dg A i + dg B i + c) / 4294967296 ≤ 1 := by omega
    have hm1 : (dg A i + dg B i + c) % 4294967296 < 4294967296 := Nat.mod_lt _ (by decide)
    by_cases h2 : (i : Int) < (B.length : Int)
    · repeat (first | (simp (maxSteps := 1000000) only [evB, if_true, if_false, ne_eq, Nat.reduceEqDiff, Nat.reduceAdd, reduceCtorEq, Int.reduceLE, Int.reduceLT, Int.reduceEq, Int.reduceNeg, Int.reduceToNat, Int.reducePow, Int.reduceMod, Int.reduceDiv, Int.reduceSub, Int.reduceAdd, Int.reduceMul, Nat.reduceMul, Nat.reduceSub, Nat.reducePow, c_nat_Add_b1, h1, h2, hb, e7 ]) | (simp (disch := omega) only [dsB,  store_n H]))
      exact nAdd_loop hT hA hB hs ht m (i + 1) _ _ _ (by omega) (H.put _) (Dg_set hd hm1) (by rw [List.length_set]; exact hl) hz key
    · have hg : dg B i = 0 := dg_ge (by omega)
      rw [hg] at hb key hz hm1
      rw [cast0] at hb
      repeat (first | (simp (maxSteps := 1000000) only [evB, if_true, if_false, ne_eq, Nat.reduceEqDiff, Nat.reduceAdd, reduceCtorEq, Int.reduceLE, Int.reduceLT, Int.reduceEq, Int.reduceNeg, Int.reduceToNat, Int.reducePow, Int.reduceMod, Int.reduceDiv, Int.reduceSub, Int.reduceAdd, Int.reduceMul, Nat.reduceMul, Nat.reduceSub, Nat.reducePow, c_nat_Add_b1, h1, h2, hb, e7 ]) | (simp (disch := omega) only [dsB,  store_n H]))
      exact nAdd_loop hT hA hB hs ht m (i + 1) _ _ _ (by omega) (H.put _) (Dg_set hd hm1) (by rw [List.length_set]; exact hl) hz key

theorem nSub_loop (hT : HasA g T) {A B : List Nat} {z y : Bool} {b : Nat} (hA : Dg A) (hB : Dg B) (hs : A.length < 17179869184) (ht : B.length ≤ A.length) : ∀ (m i : Nat) (h : Heap) (l : List Nat) (c : Nat),
    m + i = A.length → Holds h b l → Dg l → l.length = A.length → c ≤ 1 → val (l.take i) + val (B.take i) = val (A.take i) + 4294967296 ^ i * c →
    Post (evL G T c_nat_sub_l1 [(0, D z A), (1, D y B), (5, .own b 0 A.length 1), (6, .int .u32 (c : Int)), (13, .int .i64 ((A.length : Nat) : Int)), (14, .int .i64 (i : Int))] h) fun r =>
      ∃ e h' l' c', r = (.exit 0, (0, D z A) :: (1, D y B) :: (5, .own b 0 A.length 1) :: (6, .int .u32 ((c' : Nat) : Int)) :: e, h') ∧ Holds h' b l' ∧ Dg l' ∧ l'.length = A.length ∧ c' ≤ 1 ∧ val l' + val B = val A + 4294967296 ^ A.length * c'
  | 0, i, h, l, c, hm, H, hd, hl, hc, he => by
    rw [s_loopc G T (c := c_nat_sub_l1) rfl]
    have h1 : ¬ (i : Int) < (A.length : Int) := by omega
    repeat (first | (simp (maxSteps := 1000000) only [evB, if_true, if_false, ne_eq, Nat.reduceEqDiff, Nat.reduceAdd, reduceCtorEq, Int.reduceLE, Int.reduceLT, Int.reduceEq, Int.reduceNeg, Int.reduceToNat, Int.reducePow, Int.reduceMod, Int.reduceDiv, Int.reduceSub, Int.reduceAdd, Int.reduceMul, Nat.reduceMul, Nat.reduceSub, Nat.reducePow, c_nat_sub_b1, h1]) | (simp (disch := omega) only [dsB]))
    obtain rfl : i = A.length := by omega
    rw [List.take_length, List.take_of_length_le ht, List.take_of_length_le (by omega)] at he
    exact Post.some ⟨_, _, _, _, rfl, H, hd, hl, hc, he⟩
  | m + 1, i, h, l, c, hm, H, hd, hl, hc, he => by
    rw [s_loopc G T (c := c_nat_sub_l1) rfl]
    have h1 : (i : Int) < (A.length : Int) := by omega
    have e7 : (i : Int) + 1 = ((i + 1 : Nat) : Int) := by omega
    have hx := hA.dg i
    have hy := hB.dg i
    have hil : i < l.length := by omega
    obtain ⟨d, q, hdq, hd1, hq⟩ : ∃ d q, d + dg B i + c = dg A i + 4294967296 * q ∧ d < 4294967296 ∧ q ≤ 1 := by
      by_cases hlt : dg A i < dg B i + c
      · exact ⟨dg A i + 4294967296 - (dg B i + c), 1, by omega, by omega, by omega⟩
      · exact ⟨dg A i - (dg B i + c), 0, by omega, by omega, by omega⟩
    have hb := bits_Sub32 (G := G) (T := T) hT (x := dg A i) (y := dg B i) (w := c) (d := d) (z := q) hx hy hc hd1 hq hdq
    have key : val ((l.set i d).take (i + 1)) + val (B.take (i + 1)) = val (A.take (i + 1)) + 4294967296 ^ (i + 1) * q := by
      rw [val_set_take hil, val_take_succ', val_take_succ', Nat.pow_succ, Nat.mul_assoc]
      have h2 : 4294967296 ^ i * d + 4294967296 ^ i * dg B i + 4294967296 ^ i * c = 4294967296 ^ i * dg A i + 4294967296 ^ i * (4294967296 * q) := by
        rw [← Nat.mul_add, ← Nat.mul_add, ← Nat.mul_add, hdq]
      omega
    by_cases h2 : (i : Int) < (B.length : Int)
    · repeat (first | (simp (maxSteps := 1000000) only [evB, if_true, if_false, ne_eq, Nat.reduceEqDiff, Nat.reduceAdd, reduceCtorEq, Int.reduceLE, Int.reduceLT, Int.reduceEq, Int.reduceNeg, Int.reduceToNat, Int.reducePow, Int.reduceMod, Int.reduceDiv, Int.reduceSub, Int.reduceAdd, Int.reduceMul, Nat.reduceMul, Nat.reduceSub, Nat.reducePow, c_nat_sub_b1, h1, h2, hb, e7 ]) | (simp (disch := omega) only [dsB,  store_n H]))
      exact nSub_loop hT hA hB hs ht m (i + 1) _ _ _ (by omega) (H.put _) (Dg_set hd hd1) (by rw [List.length_set]; exact hl) hq key
    · have hg : dg B i = 0 := dg_ge (by omega)
      rw [hg, cast0] at hb
      repeat (first | (simp (maxSteps := 1000000) only [evB, if_true, if_false, ne_eq, Nat.reduceEqDiff, Nat.reduceAdd, reduceCtorEq, Int.reduceLE, Int.reduceLT, Int.reduceEq, Int.reduceNeg, Int.reduceToNat, Int.reducePow, Int.reduceMod, Int.reduceDiv, Int.reduceSub, Int.reduceAdd, Int.reduceMul, Nat.reduceMul, Nat.reduceSub, Nat.reducePow, c_nat_sub_b1, h1, h2, hb, e7 ]) | (simp (disch := omega) only [dsB,  store_n H]))
      exact nSub_loop hT hA hB hs ht m (i + 1) _ _ _ (by omega) (H.put _) (Dg_set hd hd1) (by rw [List.length_set]; exact hl) hq key

theorem nat_bound (hT : HasA g T) {z : Bool} {l : List Nat} (h : l.length ≤ 4096) : run G T 117 [D z l] = some (.tup [D z l, .int .i64 0]) := by
  rw [run_k G T hT.nat_bound]
  have h1 : ¬ (4096 : Int) < (l.length : Int) := by omega
  repeat (first | (simp (maxSteps := 1000000) only [evB, if_true, if_false, ne_eq, Nat.reduceEqDiff, Nat.reduceAdd, reduceCtorEq, Int.reduceLE, Int.reduceLT, Int.reduceEq, Int.reduceNeg, Int.reduceToNat, Int.reducePow, Int.reduceMod, Int.reduceDiv, Int.reduceSub, Int.reduceAdd, Int.reduceMul, Nat.reduceMul, Nat.reduceSub, Nat.reducePow, c_nat_bound, h1]) | (simp (disch := omega) only [dsB]))

theorem nat_sub (hT : HasA g T) {z y : Bool} {a b : Nat} (ha : (dl a).length < 17179869184) (hab : b ≤ a) : ∃ z', run G T 116 [D z (dl a), D y (dl b)] = some (D z' (dl (a - b))) := by
  have hlen : (dl b).length ≤ (dl a).length := by
    rw [dl_len]; exact Nat.lt_of_le_of_lt hab (dl_len.1 (Nat.le_refl _))
  obtain ⟨_, hr, e, h', l', c', rfl, H, hd, hl, hc, hv⟩ := nSub_loop (G := G) (T := T) (z := z) (y := y) (b := Heap.nil.b.length) hT (Dg_dl a) (Dg_dl b) ha hlen (dl a).length 0 (new .nil (List.replicate (dl a).length 0)) _ 0 (by omega) (Holds_new FreH.nil _) (Dg_rep _) (by rw [List.length_replicate]) (by omega) (by simp [val])
  rw [cast0] at hr
  rw [val_dl, val_dl] at hv
  have hlt := val_lt hd
  have hc0 : c' = 0 := by
    rcases Nat.eq_zero_or_pos c' with q | q
    · exact q
    · have : c' = 1 := by omega
      rw [this, Nat.mul_one, ← hl] at hv; omega
  rw [hc0, Nat.mul_zero, Nat.add_zero] at hv
  have hv2 : val l' = a - b := by omega
  have hsn := snap_own H (n := (dl a).length) (by omega)
  rw [← hl, List.take_length] at hsn
  obtain ⟨z', hz⟩ := nat_trim (G := G) (T := T) hT (z := false) hd (by omega)
  rw [hl] at hsn
  refine ⟨z', ?_⟩
  rw [run_k G T hT.nat_sub, ← hv2]
  repeat (first | (simp (maxSteps := 1000000) only [evB, if_true, if_false, ne_eq, Nat.reduceEqDiff, Nat.reduceAdd, reduceCtorEq, Int.reduceLE, Int.reduceLT, Int.reduceEq, Int.reduceNeg, Int.reduceToNat, Int.reducePow, Int.reduceMod, Int.reduceDiv, Int.reduceSub, Int.reduceAdd, Int.reduceMul, Nat.reduceMul, Nat.reduceSub, Nat.reducePow, c_nat_sub, hr, hsn, hz]) | (simp (disch := omega) only [dsB]))

theorem nat_Sub (hT : HasA g T) {z y : Bool} {a b : Nat} (ha : mayL (dl a) = true) (hb : mayL (dl b) = true) (hab : b ≤ a) : ∃ z', run G T 103 [D z (dl a), D y (dl b)] = some (.tup [D z' (dl (a - b)), .int .i64 0]) := by
  have la := (mayL_iff.1 ha).1
  have lb := (mayL_iff.1 hb).1
  have h1 := nat_all (G := G) hT (z := z) (y := y) (a := dl a) (b := dl b)
  rw [ha, hb, Bool.and_self] at h1
  have h2 := nat_cmp (G := G) hT (z := z) (y := y) (a := a) (b := b) (by omega) (by omega)
  have h3 : ¬ cmpN a b < 0 := by rw [cmpN_neg]; omega
  obtain ⟨z', h4⟩ := nat_sub (G := G) (T := T) hT (z := z) (y := y) (a := a) (b := b) (by omega) hab
  refine ⟨z', ?_⟩
  rw [run_k G T hT.nat_Sub]
  repeat' (first | (simp (maxSteps := 1000000) only [evB, if_true, if_false, ne_eq, Nat.reduceEqDiff, Nat.reduceAdd, reduceCtorEq, Int.reduceLE, Int.reduceLT, Int.reduceEq, Int.reduceNeg, Int.reduceToNat, Int.reducePow, Int.reduceMod, Int.reduceDiv, Int.reduceSub, Int.reduceAdd, Int.reduceMul, Nat.reduceMul, Nat.reduceSub, Nat.reducePow, exB, resC_ptr, res_cell, nilb, nilf, faddr_p, c_nat_Sub, h1, h2, h3, h4]) | (simp (maxSteps := 1000000) (disch := first | with_reducible assumption | omega) only [dxB]) | (simp only [kI_d, kG_dt, kG_df]; split) | (simp only [kI_v, kG_vt, kG_vf]; split))

theorem nat_Cmp (hT : HasA g T) {z y : Bool} {a b : Nat} (ha : mayL (dl a) = true) (hb : mayL (dl b) = true) : run G T 104 [D z (dl a), D y (dl b)] = some (.tup [.int .i64 (cmpN a b), .int .i64 0]) := by
  have la := (mayL_iff.1 ha).1
  have lb := (mayL_iff.1 hb).1
  have h1 := nat_all (G := G) hT (z := z) (y := y) (a := dl a) (b := dl b)
  rw [ha, hb, Bool.and_self] at h1
  have h2 := nat_cmp (G := G) hT (z := z) (y := y) (a := a) (b := b) (by omega) (by omega)
  rw [run_k G T hT.nat_Cmp]
  repeat' (first | (simp (maxSteps := 1000000) only [evB, if_true, if_false, ne_eq, Nat.reduceEqDiff, Nat.reduceAdd, reduceCtorEq, Int.reduceLE, Int.reduceLT, Int.reduceEq, Int.reduceNeg, Int.reduceToNat, Int.reducePow, Int.reduceMod, Int.reduceDiv, Int.reduceSub, Int.reduceAdd, Int.reduceMul, Nat.reduceMul, Nat.reduceSub, Nat.reducePow, exB, resC_ptr, res_cell, nilb, nilf, faddr_p, c_nat_Cmp, h1, h2]) | (simp (maxSteps := 1000000) (disch := first | with_reducible assumption | omega) only [dxB]) | (simp only [kI_d, kG_dt, kG_df]; split) | (simp only [kI_v, kG_vt, kG_vf]; split))

/-- What comes after the loop of the sum. -/
theorem nat_Add_ord (hT : HasA g T) {z y : Bool} {a b : Nat} (ha : mayL (dl a) = true) (hb : mayL (dl b) = true) (hab : (dl b).length ≤ (dl a).length) (hs : (dl (a + b)).length ≤ 4096) : ∃ z', run G T 105 [D z (dl a), D y (dl b)] = some (.tup [D z' (dl (a + b)), .int .i64 0]) := by
  have la := (mayL_iff.1 ha).1
  have lb := (mayL_iff.1 hb).1
  have h1 := nat_all (G := G) hT (z := z) (y := y) (a := dl a) (b := dl b)
  rw [ha, hb, Bool.and_self] at h1
  have h2 : ¬ ((dl a).length : Int) < ((dl b).length : Int) := by omega
  obtain ⟨_, hr, e, h', l', c', rfl, H, hd, hl, hc, hv⟩ := nAdd_loop (G := G) (T := T) (z := z) (y := y) (b := 1) hT (Dg_dl a) (Dg_dl b) (by omega) hab (dl a).length 0 (new ⟨[⟨[D z (dl a), D y (dl b)], false⟩], fz1 (AV.bool true) [0]⟩ (List.replicate ((dl a).length + 1) 0)) _ 0 (by omega) (Holds_new (h := ⟨[⟨[D z (dl a), D y (dl b)], false⟩], fz1 (AV.bool true) [0]⟩) (fun _ h => absurd h List.not_mem_nil) _) (Dg_rep _) (by rw [List.length_replicate]) (by omega) (by simp [val])
  rw [cast0] at hr
  rw [val_dl, val_dl] at hv
  have hil : (dl a).length < l'.length := by omega
  have hvs := val_set_take (v := c') hil
  rw [hv, List.take_of_length_le (by rw [List.length_set]; omega)] at hvs
  have H2 := H.put (l'.set (dl a).length c')
  have hd2 : Dg (l'.set (dl a).length c') := Dg_set hd (by omega)
  have hl2 : (l'.set (dl a).length c').length = (dl a).length + 1 := by rw [List.length_set]; exact hl
  have hsn := snap_own H2 (n := (dl a).length + 1) (by omega)
  rw [← hl2, List.take_length] at hsn
  obtain ⟨z', hz⟩ := nat_trim (G := G) (T := T) hT (z := false) hd2 (by omega)
  rw [hl2] at hsn
  rw [hvs] at hz
  have hbd := nat_bound (G := G) (T := T) hT (z := z') hs
  have e8 : ((dl a).length : Int) + 1 = (((dl a).length + 1 : Nat) : Int) := by omega
  refine ⟨z', ?_⟩
  rw [run_k G T hT.nat_Add]
  repeat' (first | (simp (maxSteps := 1000000) only [evB, if_true, if_false, ne_eq, Nat.reduceEqDiff, Nat.reduceAdd, reduceCtorEq, Int.reduceLE, Int.reduceLT, Int.reduceEq, Int.reduceNeg, Int.reduceToNat, Int.reducePow, Int.reduceMod, Int.reduceDiv, Int.reduceSub, Int.reduceAdd, Int.reduceMul, Nat.reduceMul, Nat.reduceSub, Nat.reducePow, exB, resC_ptr, res_cell, nilb, nilf, faddr_p, c_nat_Add, h1, h2, e8, hr, hsn, hz, hbd ]) | (simp (maxSteps := 1000000) (disch := first | with_reducible assumption | omega) only [dxB,  store_n H]) | (simp only [kI_d, kG_dt, kG_df]; split) | (simp only [kI_v, kG_vt, kG_vf]; split))
theorem nat_Add (hT : HasA g T) {z y : Bool} {a b : Nat} (ha : mayL (dl a) = true) (hb : mayL (dl b) = true) (hs : (dl (a + b)).length ≤ 4096) : ∃ z', run G T 105 [D z (dl a), D y (dl b)] = some (.tup [D z' (dl (a + b)), .int .i64 0]) := by
  have la := (mayL_iff.1 ha).1
  have lb := (mayL_iff.1 hb).1
  by_cases hab : (dl b).length ≤ (dl a).length
  · exact nat_Add_ord hT ha hb hab hs
  have h1 := nat_all (G := G) hT (z := z) (y := y) (a := dl a) (b := dl b)
  rw [ha, hb, Bool.and_self] at h1
  have h2 : ((dl a).length : Int) < ((dl b).length : Int) := by omega
  obtain ⟨_, hr, e, h', l', c', rfl, H, hd, hl, hc, hv⟩ := nAdd_loop (G := G) (T := T) (z := y) (y := z) (b := 1) hT (Dg_dl b) (Dg_dl a) (by omega) (by omega) (dl b).length 0 (new ⟨[⟨[D z (dl a), D y (dl b)], false⟩], fz1 (AV.bool true) [0]⟩ (List.replicate ((dl b).length + 1) 0)) _ 0 (by omega) (Holds_new (h := ⟨[⟨[D z (dl a), D y (dl b)], false⟩], fz1 (AV.bool true) [0]⟩) (fun _ h => absurd h List.not_mem_nil) _) (Dg_rep _) (by rw [List.length_replicate]) (by omega) (by simp [val])
  rw [cast0] at hr
  rw [val_dl, val_dl, Nat.add_comm b a] at hv
  have hil : (dl b).length < l'.length := by omega
  have hvs := val_set_take (v := c') hil
  rw [hv, List.take_of_length_le (by rw [List.length_set]; omega)] at hvs
  have H2 := H.put (l'.set (dl b).length c')
  have hd2 : Dg (l'.set (dl b).length c') := Dg_set hd (by omega)
  have hl2 : (l'.set (dl b).length c').length = (dl b).length + 1 := by rw [List.length_set]; exact hl
  have hsn := snap_own H2 (n := (dl b).length + 1) (by omega)
  rw [← hl2, List.take_length] at hsn
  obtain ⟨z', hz⟩ := nat_trim (G := G) (T := T) hT (z := false) hd2 (by omega)
  rw [hl2] at hsn
  rw [hvs] at hz
  have hbd := nat_bound (G := G) (T := T) hT (z := z') hs
  have e8 : ((dl b).length : Int) + 1 = (((dl b).length + 1 : Nat) : Int) := by omega
  refine ⟨z', ?_⟩
  rw [run_k G T hT.nat_Add]
  repeat' (first | (simp (maxSteps := 1000000) only [evB, if_true, if_false, ne_eq, Nat.reduceEqDiff, Nat.reduceAdd, reduceCtorEq, Int.reduceLE, Int.reduceLT, Int.reduceEq, Int.reduceNeg, Int.reduceToNat, Int.reducePow, Int.reduceMod, Int.reduceDiv, Int.reduceSub, Int.reduceAdd, Int.reduceMul, Nat.reduceMul, Nat.reduceSub, Nat.reducePow, exB, resC_ptr, res_cell, nilb, nilf, faddr_p, c_nat_Add, h1, h2, e8, hr, hsn, hz, hbd ]) | (simp (maxSteps := 1000000) (disch := first | with_reducible assumption | omega) only [dxB,  store_n H]) | (simp only [kI_d, kG_dt, kG_df]; split) | (simp only [kI_v, kG_vt, kG_vf]; split))
end Go.Cv

/-
  The program's dyadic numbers: sums, differences, products.
-/
namespace Go.Cv
variable {G : Nat → Option (List AV)} {T : Tbl} {g : Nat}

theorem blen_mulC {x y a b : Nat} (hx : blen x ≤ a) (hy : blen y ≤ b) : blen (x * y) ≤ a + b := by
  refine blen_le.2 ?_
  rw [Nat.pow_add]
  exact Nat.mul_lt_mul_of_lt_of_lt (blen_le.1 hx) (blen_le.1 hy)
theorem nat_Mul (hA : HasA g T) (hU : HasG g T) {z y : Bool} {a b : Nat} (ha : mayL (dl a) = true) (hb : mayL (dl b) = true) (hs : (dl a).length + (dl b).length ≤ 4096) : ∃ z', run G T 197 [D z (dl a), D y (dl b)] = some (.tup [D z' (dl (a * b)), .int .i64 0]) := by
  have h1 := nat_all (G := G) hA (z := z) (y := y) (a := dl a) (b := dl b)
  rw [ha, hb, Bool.and_self] at h1
  obtain ⟨z', h2⟩ := nat_mul (G := G) (T := T) hA (z := z) (y := y) (a := a) (b := b) (by omega)
  have hl : (dl (a * b)).length ≤ 4096 := by
    have e1 := dl_len.1 (Nat.le_refl (dl a).length)
    have e2 := dl_len.1 (Nat.le_refl (dl b).length)
    have : (dl (a * b)).length ≤ (dl a).length + (dl b).length := by
      rw [dl_len, Nat.pow_add]; exact Nat.mul_lt_mul_of_lt_of_lt e1 e2
    omega
  have h3 := nat_bound (G := G) (T := T) hA (z := z') hl
  have c1 : ¬ (4096 : Int) < ((dl a).length : Int) + ((dl b).length : Int) - 1 := by omega
  refine ⟨z', ?_⟩
  rw [run_k G T hU.nat_Mul]
  by_cases k1 : (0 : Int) < ((dl a).length : Int)
  · by_cases k2 : (0 : Int) < ((dl b).length : Int)
    · repeat' (first | (simp (maxSteps := 1000000) only [evB, if_true, if_false, ne_eq, Nat.reduceEqDiff, Nat.reduceAdd, reduceCtorEq, Int.reduceLE, Int.reduceLT, Int.reduceEq, Int.reduceNeg, Int.reduceToNat, Int.reducePow, Int.reduceMod, Int.reduceDiv, Int.reduceSub, Int.reduceAdd, Int.reduceMul, Nat.reduceMul, Nat.reduceSub, Nat.reducePow, exB, resC_ptr, res_cell, nilb, nilf, faddr_p, c_nat_Mul, h1, h2, h3, c1, k1, k2]) | (simp (maxSteps := 1000000) (disch := first | with_reducible assumption | omega) only [dxB]) | (simp only [kI_d, kG_dt, kG_df]; split) | (simp only [kI_v, kG_vt, kG_vf]; split))
    · repeat' (first | (simp (maxSteps := 1000000) only [evB, if_true, if_false, ne_eq, Nat.reduceEqDiff, Nat.reduceAdd, reduceCtorEq, Int.reduceLE, Int.reduceLT, Int.reduceEq, Int.reduceNeg, Int.reduceToNat, Int.reducePow, Int.reduceMod, Int.reduceDiv, Int.reduceSub, Int.reduceAdd, Int.reduceMul, Nat.reduceMul, Nat.reduceSub, Nat.reducePow, exB, resC_ptr, res_cell, nilb, nilf, faddr_p, c_nat_Mul, h1, h2, h3, c1, k1, k2]) | (simp (maxSteps := 1000000) (disch := first | with_reducible assumption | omega) only [dxB]) | (simp only [kI_d, kG_dt, kG_df]; split) | (simp only [kI_v, kG_vt, kG_vf]; split))
  · repeat' (first | (simp (maxSteps := 1000000) only [evB, if_true, if_false, ne_eq, Nat.reduceEqDiff, Nat.reduceAdd, reduceCtorEq, Int.reduceLE, Int.reduceLT, Int.reduceEq, Int.reduceNeg, Int.reduceToNat, Int.reducePow, Int.reduceMod, Int.reduceDiv, Int.reduceSub, Int.reduceAdd, Int.reduceMul, Nat.reduceMul, Nat.reduceSub, Nat.reducePow, exB, resC_ptr, res_cell, nilb, nilf, faddr_p, c_nat_Mul, h1, h2, h3, c1, k1]) | (simp (maxSteps := 1000000) (disch := first | with_reducible assumption | omega) only [dxB]) | (simp only [kI_d, kG_dt, kG_df]; split) | (simp only [kI_v, kG_vt, kG_vf]; split))

theorem dyad_own (hU : HasG g T) {n z : Bool} {l : List Nat} {e : Int} (hl : l.length < 549755813888) : ∃ z', run G T 205 [A3 n (D z l) e] = some (A3 n (D z' l) e) := by
  apply exP
  rw [run_k G T hU.dyad_own]
  cases l with
  | nil =>
    simp only [A3] at *
    repeat' (first | (simp (maxSteps := 1000000) only [evB, if_true, if_false, ne_eq, Nat.reduceEqDiff, Nat.reduceAdd, reduceCtorEq, Int.reduceLE, Int.reduceLT, Int.reduceEq, Int.reduceNeg, Int.reduceToNat, Int.reducePow, Int.reduceMod, Int.reduceDiv, Int.reduceSub, Int.reduceAdd, Int.reduceMul, Nat.reduceMul, Nat.reduceSub, Nat.reducePow, exB, resC_ptr, res_cell, nilb, nilf, faddr_p, c_dyad_own, app_nil0]) | (simp (maxSteps := 1000000) (disch := first | with_reducible assumption | omega) only [dxB]) | (simp only [kI_d, kG_dt, kG_df]; split) | (simp only [kI_v, kG_vt, kG_vf]; split))
    exact ⟨_, rfl, true, rfl⟩
  | cons a l =>
    have ha : appV ⟨[⟨[.bool n, D z (a :: l), .int .i64 e], false⟩, ⟨[.bool false, .nil, .int .i64 0], false⟩], []⟩ 1 4 .nil (D z (a :: l)) =
        some (.own 2 0 (a :: l).length 1, ⟨[⟨[.bool n, D z (a :: l), .int .i64 e], false⟩, ⟨[.bool false, .nil, .int .i64 0], false⟩, ⟨cells (a :: l), false⟩], []⟩) :=
      app_nil (h := ⟨[⟨[.bool n, D z (a :: l), .int .i64 e], false⟩, ⟨[.bool false, .nil, .int .i64 0], false⟩], []⟩) (z := z) (l := a :: l) (by simp) hl
    simp only [A3] at *
    have hsub : sub (cells (a :: l)) 0 (l.length + 1) = some (cells (a :: l)) := sub_all (a :: l)
    repeat' (first | (simp (maxSteps := 1000000) only [evB, if_true, if_false, ne_eq, Nat.reduceEqDiff, Nat.reduceAdd, reduceCtorEq, Int.reduceLE, Int.reduceLT, Int.reduceEq, Int.reduceNeg, Int.reduceToNat, Int.reducePow, Int.reduceMod, Int.reduceDiv, Int.reduceSub, Int.reduceAdd, Int.reduceMul, Nat.reduceMul, Nat.reduceSub, Nat.reducePow, exB, resC_ptr, res_cell, nilb, nilf, faddr_p, c_dyad_own, ha, hsub, sl_cells]) | (simp (maxSteps := 1000000) (disch := first | with_reducible assumption | omega) only [dxB]) | (simp only [kI_d, kG_dt, kG_df]; split) | (simp only [kI_v, kG_vt, kG_vf]; split))
    exact ⟨_, rfl, false, rfl⟩

/-- The sum of two sizes with signs. -/
def joinD (p : Bool) (x : Nat) (q : Bool) (y : Nat) (e : Int) : Dy := if p = q then mkD p (x + y) e else if y ≤ x then mkD p (x - y) e else mkD q (y - x) e

theorem mk_rng {m : Nat} {e : Int} (hb : blen m ≤ 131072) (he : -16000000 < e ∧ e < 16000000) : m = 0 ∨ (-16777216 ≤ e + (tz m : Int) ∧ e + (tz m : Int) ≤ 16777216) := by
  by_cases h0 : m = 0
  · exact Or.inl h0
  · right; have := tz_blen h0; omega

theorem blen_add {x y : Nat} {K : Nat} (hx : blen x ≤ K) (hy : blen y ≤ K) : blen (x + y) ≤ K + 1 := by
  refine blen_le.2 ?_
  have h1 := blen_le.1 hx
  have h2 := blen_le.1 hy
  rw [Nat.pow_succ]; omega

theorem dyad_join (hA : HasA g T) (hG : Glob G g) (hC : HasC g T) (hU : HasG g T) {p q z y : Bool} {x w : Nat} {e : Int} (hx : blen x ≤ 131071) (hw : blen w ≤ 131071) (he : -16000000 < e ∧ e < 16000000) :
    ∃ z', run G T 208 [.bool p, D z (dl x), .bool q, D y (dl w), .int .i64 e] = some (.tup [DyA z' (joinD p x q w e), .int .i64 0]) := by
  have mx : mayL (dl x) = true := mayL_small (by omega)
  have mw : mayL (dl w) = true := mayL_small (by omega)
  have hxw := blen_add hx hw
  by_cases h1 : p = q
  · have hl := dl_len_blen (x + w)
    obtain ⟨z1, a1⟩ := nat_Add (G := G) (T := T) hA (z := z) (y := y) (a := x) (b := w) mx mw (by omega)
    obtain ⟨z2, a2⟩ := dyad_Make (G := G) (T := T) hA hG hC (n := p) (z := z1) (a := x + w) (e := e) (mayL_small (by omega)) (mk_rng (by omega) he) (by omega)
    refine ⟨z2, ?_⟩
    unfold joinD
    rw [if_pos h1, run_k G T hU.dyad_join]
    simp only [DyA, A3] at *
    subst h1
    cases p <;> repeat' (first | (simp (maxSteps := 1000000) only [evB, if_true, if_false, ne_eq, Nat.reduceEqDiff, Nat.reduceAdd, reduceCtorEq, Int.reduceLE, Int.reduceLT, Int.reduceEq, Int.reduceNeg, Int.reduceToNat, Int.reducePow, Int.reduceMod, Int.reduceDiv, Int.reduceSub, Int.reduceAdd, Int.reduceMul, Nat.reduceMul, Nat.reduceSub, Nat.reducePow, exB, resC_ptr, res_cell, nilb, nilf, faddr_p, c_dyad_join, a1, a2]) | (simp (maxSteps := 1000000) (disch := first | with_reducible assumption | omega) only [dxB]) | (simp only [kI_d, kG_dt, kG_df]; split) | (simp only [kI_v, kG_vt, kG_vf]; split))
  · have c0 := nat_Cmp (G := G) (T := T) hA (z := z) (y := y) (a := x) (b := w) mx mw
    by_cases h2 : w ≤ x
    · have hb := blen_mono (Nat.sub_le x w)
      have c1 : ¬ cmpN x w < 0 := by rw [cmpN_neg]; omega
      obtain ⟨z1, a1⟩ := nat_Sub (G := G) (T := T) hA (z := z) (y := y) (a := x) (b := w) mx mw h2
      obtain ⟨z2, a2⟩ := dyad_Make (G := G) (T := T) hA hG hC (n := p) (z := z1) (a := x - w) (e := e) (mayL_small (by omega)) (mk_rng (by omega) he) (by omega)
      refine ⟨z2, ?_⟩
      unfold joinD
      rw [if_neg h1, if_pos h2, run_k G T hU.dyad_join]
      simp only [DyA, A3] at *
      cases p <;> cases q <;> first | (exact absurd rfl h1) | (repeat' (first | (simp (maxSteps := 1000000) only [evB, if_true, if_false, ne_eq, Nat.reduceEqDiff, Nat.reduceAdd, reduceCtorEq, Int.reduceLE, Int.reduceLT, Int.reduceEq, Int.reduceNeg, Int.reduceToNat, Int.reducePow, Int.reduceMod, Int.reduceDiv, Int.reduceSub, Int.reduceAdd, Int.reduceMul, Nat.reduceMul, Nat.reduceSub, Nat.reducePow, exB, resC_ptr, res_cell, nilb, nilf, faddr_p, c_dyad_join, c0, c1, a1, a2]) | (simp (maxSteps := 1000000) (disch := first | with_reducible assumption | omega) only [dxB]) | (simp only [kI_d, kG_dt, kG_df]; split) | (simp only [kI_v, kG_vt, kG_vf]; split)))
    · have hb := blen_mono (Nat.sub_le w x)
      have c1 : cmpN x w < 0 := by rw [cmpN_neg]; omega
      obtain ⟨z1, a1⟩ := nat_Sub (G := G) (T := T) hA (z := y) (y := z) (a := w) (b := x) mw mx (by omega)
      obtain ⟨z2, a2⟩ := dyad_Make (G := G) (T := T) hA hG hC (n := q) (z := z1) (a := w - x) (e := e) (mayL_small (by omega)) (mk_rng (by omega) he) (by omega)
      refine ⟨z2, ?_⟩
      unfold joinD
      rw [if_neg h1, if_neg h2, run_k G T hU.dyad_join]
      simp only [DyA, A3] at *
      cases p <;> cases q <;> first | (exact absurd rfl h1) | (repeat' (first | (simp (maxSteps := 1000000) only [evB, if_true, if_false, ne_eq, Nat.reduceEqDiff, Nat.reduceAdd, reduceCtorEq, Int.reduceLE, Int.reduceLT, Int.reduceEq, Int.reduceNeg, Int.reduceToNat, Int.reducePow, Int.reduceMod, Int.reduceDiv, Int.reduceSub, Int.reduceAdd, Int.reduceMul, Nat.reduceMul, Nat.reduceSub, Nat.reducePow, exB, resC_ptr, res_cell, nilb, nilf, faddr_p, c_dyad_join, c0, c1, a1, a2]) | (simp (maxSteps := 1000000) (disch := first | with_reducible assumption | omega) only [dxB]) | (simp only [kI_d, kG_dt, kG_df]; split) | (simp only [kI_v, kG_vt, kG_vf]; split)))

theorem joinD_add {a b : Dy} (ha : a.m ≠ 0) (hb : b.m ≠ 0) (he : b.e ≤ a.e) : joinD a.n (a.m * 2 ^ (a.e - b.e).toNat) b.n b.m b.e = addD a b := by
  unfold joinD addD
  rw [if_neg ha, if_neg hb, Int.min_eq_right he, show (b.e - b.e).toNat = 0 by omega, Nat.pow_zero, Nat.mul_one]

theorem dyad_add_ord (hA : HasA g T) (hG : Glob G g) (hC : HasC g T) (hU : HasG g T) {z y : Bool} {a b : Dy} (ha : Bd a 16384) (hb : Bd b 16384) (na : a.m ≠ 0) (nb : b.m ≠ 0) (he : b.e ≤ a.e) :
    ∃ z', run G T 203 [DyA z a, DyA y b] = some (.tup [DyA z' (addD a b), .int .i64 0]) := by
  obtain ⟨a1, a2, a3⟩ := ha
  obtain ⟨b1, b2, b3⟩ := hb
  have ma : mayL (dl a.m) = true := mayL_small (by omega)
  have l1 := nat_Len (G := G) (T := T) hA (z := z) ma
  obtain ⟨z1, s1⟩ := nat_Shift_up (G := G) (T := T) hA (z := z) (a := a.m) (n := (a.e - b.e).toNat) ma (Or.inr (by omega)) (by omega)
  rw [show (((a.e - b.e).toNat : Nat) : Int) = a.e - b.e by omega] at s1
  have hbl := blen_mul na (a.e - b.e).toNat
  obtain ⟨z2, j1⟩ := dyad_join (G := G) (T := T) hA hG hC hU (p := a.n) (q := b.n) (z := z1) (y := y) (x := a.m * 2 ^ (a.e - b.e).toNat) (w := b.m) (e := b.e) (by omega) (by omega) (by omega)
  rw [joinD_add na nb he] at j1
  have c1 : ¬ ((dl a.m).length : Int) = 0 := fun hc => na (dl_len0.1 (by omega))
  have c2 : ¬ ((dl b.m).length : Int) = 0 := fun hc => nb (dl_len0.1 (by omega))
  have c3 : ¬ a.e < b.e := by omega
  have w1 : IntKind.i64.wrap (a.e - b.e) = a.e - b.e := wrap_i64 (by omega)
  have w2 : IntKind.i64.wrap (a.e - b.e + (blen a.m : Int)) = a.e - b.e + (blen a.m : Int) := wrap_i64 (by omega)
  have c4 : ¬ (131073 : Int) < a.e - b.e + (blen a.m : Int) := by omega
  have c5 : ¬ (131072 : Int) < a.e - b.e + (blen a.m : Int) := by omega
  refine ⟨z2, ?_⟩
  rw [run_k G T hU.dyad_add]
  generalize addD a b = d at *
  obtain ⟨n, m, e⟩ := a
  obtain ⟨n', m', e'⟩ := b
  clear hbl a1 a2 a3 b1 b2 b3
  simp only [DyA, A3] at *
  repeat' (first | (simp (maxSteps := 1000000) only [evB, if_true, if_false, ne_eq, Nat.reduceEqDiff, Nat.reduceAdd, reduceCtorEq, Int.reduceLE, Int.reduceLT, Int.reduceEq, Int.reduceNeg, Int.reduceToNat, Int.reducePow, Int.reduceMod, Int.reduceDiv, Int.reduceSub, Int.reduceAdd, Int.reduceMul, Nat.reduceMul, Nat.reduceSub, Nat.reducePow, exB, resC_ptr, res_cell, nilb, nilf, faddr_p, c_dyad_add, c1, c2, c3, c4, c5, w1, w2, l1, s1, j1]) | (simp (maxSteps := 1000000) (disch := first | with_reducible assumption | omega) only [dxB]) | (simp only [kI_d, kG_dt, kG_df]; split) | (simp only [kI_v, kG_vt, kG_vf]; split))

theorem dyad_add (hA : HasA g T) (hG : Glob G g) (hC : HasC g T) (hU : HasG g T) {z y : Bool} {a b : Dy} (ha : Bd a 16384) (hb : Bd b 16384) (za : Nz a) (zb : Nz b) :
    ∃ z', run G T 203 [DyA z a, DyA y b] = some (.tup [DyA z' (addD a b), .int .i64 0]) := by
  by_cases na : a.m = 0
  · have hl := dl_len_blen b.m
    have hbl := hb.bl
    obtain ⟨z1, h1⟩ := dyad_own (G := G) (T := T) hU (n := b.n) (z := y) (l := dl b.m) (e := b.e) (by omega)
    have c1 : ((dl a.m).length : Int) = 0 := by have := dl_len0.2 na; omega
    refine ⟨z1, ?_⟩
    rw [run_k G T hU.dyad_add]
    unfold addD
    rw [if_pos na]
    obtain ⟨n, m, e⟩ := a
    obtain ⟨n', m', e'⟩ := b
    simp only [DyA, A3] at *
    repeat' (first | (simp (maxSteps := 1000000) only [evB, if_true, if_false, ne_eq, Nat.reduceEqDiff, Nat.reduceAdd, reduceCtorEq, Int.reduceLE, Int.reduceLT, Int.reduceEq, Int.reduceNeg, Int.reduceToNat, Int.reducePow, Int.reduceMod, Int.reduceDiv, Int.reduceSub, Int.reduceAdd, Int.reduceMul, Nat.reduceMul, Nat.reduceSub, Nat.reducePow, exB, resC_ptr, res_cell, nilb, nilf, faddr_p, c_dyad_add, c1, h1]) | (simp (maxSteps := 1000000) (disch := first | with_reducible assumption | omega) only [dxB]) | (simp only [kI_d, kG_dt, kG_df]; split) | (simp only [kI_v, kG_vt, kG_vf]; split))
  · by_cases nb : b.m = 0
    · have hl := dl_len_blen a.m
      have hbl := ha.bl
      obtain ⟨z1, h1⟩ := dyad_own (G := G) (T := T) hU (n := a.n) (z := z) (l := dl a.m) (e := a.e) (by omega)
      have c1 : ¬ ((dl a.m).length : Int) = 0 := fun hc => na (dl_len0.1 (by omega))
      have c2 : ((dl b.m).length : Int) = 0 := by have := dl_len0.2 nb; omega
      refine ⟨z1, ?_⟩
      rw [run_k G T hU.dyad_add]
      unfold addD
      rw [if_neg na, if_pos nb]
      obtain ⟨n, m, e⟩ := a
      obtain ⟨n', m', e'⟩ := b
      simp only [DyA, A3] at *
      repeat' (first | (simp (maxSteps := 1000000) only [evB, if_true, if_false, ne_eq, Nat.reduceEqDiff, Nat.reduceAdd, reduceCtorEq, Int.reduceLE, Int.reduceLT, Int.reduceEq, Int.reduceNeg, Int.reduceToNat, Int.reducePow, Int.reduceMod, Int.reduceDiv, Int.reduceSub, Int.reduceAdd, Int.reduceMul, Nat.reduceMul, Nat.reduceSub, Nat.reducePow, exB, resC_ptr, res_cell, nilb, nilf, faddr_p, c_dyad_add, c1, c2, h1]) | (simp (maxSteps := 1000000) (disch := first | with_reducible assumption | omega) only [dxB]) | (simp only [kI_d, kG_dt, kG_df]; split) | (simp only [kI_v, kG_vt, kG_vf]; split))
    · by_cases he : b.e ≤ a.e
      · exact dyad_add_ord hA hG hC hU ha hb na nb he
      · obtain ⟨a1, a2, a3⟩ := ha
        obtain ⟨b1, b2, b3⟩ := hb
        have mb : mayL (dl b.m) = true := mayL_small (by omega)
        have l1 := nat_Len (G := G) (T := T) hA (z := y) mb
        obtain ⟨z1, s1⟩ := nat_Shift_up (G := G) (T := T) hA (z := y) (a := b.m) (n := (b.e - a.e).toNat) mb (Or.inr (by omega)) (by omega)
        rw [show (((b.e - a.e).toNat : Nat) : Int) = b.e - a.e by omega] at s1
        have hbl := blen_mul nb (b.e - a.e).toNat
        obtain ⟨z2, j1⟩ := dyad_join (G := G) (T := T) hA hG hC hU (p := b.n) (q := a.n) (z := z1) (y := z) (x := b.m * 2 ^ (b.e - a.e).toNat) (w := a.m) (e := a.e) (by omega) (by omega) (by omega)
        rw [joinD_add nb na (by omega), addD_comm zb za] at j1
        have c1 : ¬ ((dl a.m).length : Int) = 0 := fun hc => na (dl_len0.1 (by omega))
        have c2 : ¬ ((dl b.m).length : Int) = 0 := fun hc => nb (dl_len0.1 (by omega))
        have c3 : a.e < b.e := by omega
        have w1 : IntKind.i64.wrap (b.e - a.e) = b.e - a.e := wrap_i64 (by omega)
        have w2 : IntKind.i64.wrap (b.e - a.e + (blen b.m : Int)) = b.e - a.e + (blen b.m : Int) := wrap_i64 (by omega)
        have c4 : ¬ (131073 : Int) < b.e - a.e + (blen b.m : Int) := by omega
        have c5 : ¬ (131072 : Int) < b.e - a.e + (blen b.m : Int) := by omega
        refine ⟨z2, ?_⟩
        rw [run_k G T hU.dyad_add]
        generalize addD a b = d at *
        obtain ⟨n, m, e⟩ := a
        obtain ⟨n', m', e'⟩ := b
        clear hbl a1 a2 a3 b1 b2 b3
        simp only [DyA, A3] at *
        repeat' (first | (simp (maxSteps := 1000000) only [evB, if_true, if_false, ne_eq, Nat.reduceEqDiff, Nat.reduceAdd, reduceCtorEq, Int.reduceLE, Int.reduceLT, Int.reduceEq, Int.reduceNeg, Int.reduceToNat, Int.reducePow, Int.reduceMod, Int.reduceDiv, Int.reduceSub, Int.reduceAdd, Int.reduceMul, Nat.reduceMul, Nat.reduceSub, Nat.reducePow, exB, resC_ptr, res_cell, nilb, nilf, faddr_p, c_dyad_add, c1, c2, c3, c4, c5, w1, w2, l1, s1, j1]) | (simp (maxSteps := 1000000) (disch := first | with_reducible assumption | omega) only [dxB]) | (simp only [kI_d, kG_dt, kG_df]; split) | (simp only [kI_v, kG_vt, kG_vf]; split))

theorem dyad_Add (hA : HasA g T) (hG : Glob G g) (hC : HasC g T) (hU : HasG g T) {z y : Bool} {a b : Dy} (ha : Bd a 16384) (hb : Bd b 16384) (da : mayD a.n (dl a.m) a.e = true) (db : mayD b.n (dl b.m) b.e = true) :
    ∃ z', run G T 195 [DyA z a, DyA y b] = some (.tup [DyA z' (addD a b), .int .i64 0]) := by
  have h1 := dyad_both (G := G) (T := T) hA hC (n := a.n) (z := z) (n' := b.n) (z' := y) (Dg_dl a.m) (Dg_dl b.m) (e := a.e) (e' := b.e)
  rw [da, db, Bool.and_self] at h1
  obtain ⟨z', h2⟩ := dyad_add (G := G) (T := T) hA hG hC hU (z := z) (y := y) ha hb (mayD_nz da) (mayD_nz db)
  refine ⟨z', ?_⟩
  rw [run_k G T hU.dyad_Add]
  generalize addD a b = d at *
  obtain ⟨n, m, e⟩ := a
  obtain ⟨n', m', e'⟩ := b
  simp only [DyA, A3] at *
  repeat' (first | (simp (maxSteps := 1000000) only [evB, if_true, if_false, ne_eq, Nat.reduceEqDiff, Nat.reduceAdd, reduceCtorEq, Int.reduceLE, Int.reduceLT, Int.reduceEq, Int.reduceNeg, Int.reduceToNat, Int.reducePow, Int.reduceMod, Int.reduceDiv, Int.reduceSub, Int.reduceAdd, Int.reduceMul, Nat.reduceMul, Nat.reduceSub, Nat.reducePow, exB, resC_ptr, res_cell, nilb, nilf, faddr_p, c_dyad_Add, h1, h2]) | (simp (maxSteps := 1000000) (disch := first | with_reducible assumption | omega) only [dxB]) | (simp only [kI_d, kG_dt, kG_df]; split) | (simp only [kI_v, kG_vt, kG_vf]; split))

theorem dyad_Mul (hA : HasA g T) (hG : Glob G g) (hC : HasC g T) (hU : HasG g T) {z y : Bool} {a b : Dy} (ha : Bd a 16384) (hb : Bd b 16384) (da : mayD a.n (dl a.m) a.e = true) (db : mayD b.n (dl b.m) b.e = true) :
    ∃ z', run G T 182 [DyA z a, DyA y b] = some (.tup [DyA z' (mulD a b), .int .i64 0]) := by
  have h1 := dyad_both (G := G) (T := T) hA hC (n := a.n) (z := z) (n' := b.n) (z' := y) (Dg_dl a.m) (Dg_dl b.m) (e := a.e) (e' := b.e)
  rw [da, db, Bool.and_self] at h1
  obtain ⟨a1, a2, a3⟩ := ha
  obtain ⟨b1, b2, b3⟩ := hb
  have hl1 := dl_len_blen a.m
  have hl2 := dl_len_blen b.m
  obtain ⟨z1, h2⟩ := nat_Mul (G := G) (T := T) hA hU (z := z) (y := y) (a := a.m) (b := b.m) (mayL_small (by omega)) (mayL_small (by omega)) (by omega)
  have hb : blen (a.m * b.m) ≤ 32768 := by have := blen_mulC a1 b1; omega
  obtain ⟨z2, h3⟩ := dyad_Make (G := G) (T := T) hA hG hC (n := a.n != b.n) (z := z1) (a := a.m * b.m) (e := a.e + b.e) (mayL_small (by omega)) (mk_rng (by omega) (by omega)) (by omega)
  have w1 : IntKind.i64.wrap (a.e + b.e) = a.e + b.e := wrap_i64 (by omega)
  refine ⟨z2, ?_⟩
  rw [run_k G T hU.dyad_Mul]
  unfold mulD
  clear hb
  obtain ⟨n, m, e⟩ := a
  obtain ⟨n', m', e'⟩ := b
  have hne : (n != n') = !decide (n = n') := by cases n <;> cases n' <;> rfl
  simp only at *
  rw [hne] at h3 ⊢
  simp only [DyA, A3] at *
  repeat' (first | (simp (maxSteps := 1000000) only [evB, if_true, if_false, ne_eq, Nat.reduceEqDiff, Nat.reduceAdd, reduceCtorEq, Int.reduceLE, Int.reduceLT, Int.reduceEq, Int.reduceNeg, Int.reduceToNat, Int.reducePow, Int.reduceMod, Int.reduceDiv, Int.reduceSub, Int.reduceAdd, Int.reduceMul, Nat.reduceMul, Nat.reduceSub, Nat.reducePow, exB, resC_ptr, res_cell, nilb, nilf, faddr_p, c_dyad_Mul, h1, h2, w1, h3]) | (simp (maxSteps := 1000000) (disch := first | with_reducible assumption | omega) only [dxB]) | (simp only [kI_d, kG_dt, kG_df]; split) | (simp only [kI_v, kG_vt, kG_vf]; split))
end Go.Cv

/-
  The program's words: fields, classes, values.
-/
namespace Go.Cv
variable {G : Nat → Option (List AV)} {T : Tbl} {g : Nat}

theorem andn_nat {w k : Nat} (hk : k < 64) (hw : w < 2 ^ (k + 1)) : w &&& (2 ^ 64 - (2 ^ k + 1)) = w % 2 ^ k := by
  apply Nat.eq_of_testBit_eq
  intro i
  have hp : (2 : Nat) ^ k < 2 ^ 64 := Nat.pow_lt_pow_right (by decide) hk
  rw [Nat.testBit_and, Nat.testBit_mod_two_pow, Nat.testBit_two_pow_sub_succ hp, Nat.testBit_two_pow]
  by_cases h1 : i < k
  · rw [decide_eq_true h1, decide_eq_true (show i < 64 by omega), decide_eq_false (show ¬ k = i by omega)]; simp
  · rw [decide_eq_false h1]
    by_cases h2 : i = k
    · rw [decide_eq_true h2.symm]; simp
    · have : w.testBit i = false := Nat.testBit_lt_two_pow (Nat.lt_of_lt_of_le hw (Nat.pow_le_pow_right (by decide) (by omega)))
      rw [this]; simp
theorem andn64 {w k : Nat} (hk : k < 64) (hw : w < 2 ^ (k + 1)) : andNotI .u64 (w : Int) ((2 ^ k : Nat) : Int) = ((w % 2 ^ k : Nat) : Int) := by
  have hp : (2 : Nat) ^ k < 2 ^ 64 := Nat.pow_lt_pow_right (by decide) hk
  have hw2 : w < 2 ^ 64 := Nat.lt_of_lt_of_le hw (Nat.pow_le_pow_right (by decide) (by omega))
  have hlt : w % 2 ^ k < 2 ^ k := Nat.mod_lt _ (Nat.two_pow_pos k)
  rw [andNotI_eq]
  show IntKind.u64.wrap ((BitVec.ofInt 64 (w : Int) &&& ~~~BitVec.ofInt 64 ((2 ^ k : Nat) : Int)).toNat : Int) = _
  rw [show BitVec.ofInt 64 (w : Int) = BitVec.ofNat 64 w from rfl, show BitVec.ofInt 64 ((2 ^ k : Nat) : Int) = BitVec.ofNat 64 (2 ^ k) from rfl, BitVec.toNat_and, BitVec.toNat_not, BitVec.toNat_ofNat, BitVec.toNat_ofNat, Nat.mod_eq_of_lt hw2, Nat.mod_eq_of_lt hp,
    show 2 ^ 64 - 1 - 2 ^ k = 2 ^ 64 - (2 ^ k + 1) by omega, andn_nat hk hw, wrap_u64]
  omega
theorem andn_s {w : Nat} (h : w < 4294967296) : andNotI .u64 (w : Int) 2147483648 = ((w % 2147483648 : Nat) : Int) := andn64 (k := 31) (by decide) h
theorem andn_d {w : Nat} (h : w < 18446744073709551616) : andNotI .u64 (w : Int) 9223372036854775808 = ((w % 9223372036854775808 : Nat) : Int) := andn64 (k := 63) (by decide) h
theorem and_pow_lo {w k : Nat} (hw : w < 2 ^ k) : w &&& 2 ^ k = 0 := by
  apply Nat.eq_of_testBit_eq
  intro i
  rw [Nat.testBit_and, Nat.testBit_two_pow, Nat.zero_testBit]
  by_cases h : k = i
  · subst h; rw [Nat.testBit_lt_two_pow hw]; rfl
  · rw [decide_eq_false h, Bool.and_false]
theorem and_pow_hi {w k : Nat} (h1 : 2 ^ k ≤ w) (hw : w < 2 ^ (k + 1)) : w &&& 2 ^ k = 2 ^ k := by
  apply Nat.eq_of_testBit_eq
  intro i
  rw [Nat.testBit_and, Nat.testBit_two_pow]
  rw [Nat.pow_succ] at hw
  by_cases h : k = i
  · subst h
    have : w / 2 ^ k = 1 := Nat.div_eq_of_lt_le (by omega) (by omega)
    rw [Nat.testBit_eq_decide_div_mod_eq, this]; rfl
  · rw [decide_eq_false h, Bool.and_false]
theorem and_bit {w k : Nat} (hk : k < 64) (hw : w < 2 ^ (k + 1)) : andI .u64 (w : Int) ((2 ^ k : Nat) : Int) = if 2 ^ k ≤ w then ((2 ^ k : Nat) : Int) else 0 := by
  have hp : (2 : Nat) ^ k < 2 ^ 64 := Nat.pow_lt_pow_right (by decide) hk
  have hw2 : w < 2 ^ 64 := Nat.lt_of_lt_of_le hw (Nat.pow_le_pow_right (by decide) (by omega))
  rw [and64 (by omega) (by omega)]
  by_cases h : 2 ^ k ≤ w
  · rw [if_pos h, and_pow_hi h hw]
  · rw [if_neg h, and_pow_lo (by omega)]; rfl
theorem and_s {w : Nat} (h : w < 4294967296) : andI .u64 (w : Int) 2147483648 = if 2147483648 ≤ w then 2147483648 else 0 := and_bit (k := 31) (by decide) h
theorem and_d {w : Nat} (h : w < 18446744073709551616) : andI .u64 (w : Int) 9223372036854775808 = if 9223372036854775808 ≤ w then 9223372036854775808 else 0 := and_bit (k := 63) (by decide) h
theorem and_ms {w : Nat} (h : w < 18446744073709551616) : andI .u64 (w : Int) 8388607 = ((w % 8388608 : Nat) : Int) := and_mask (j := 23) h (by decide)
theorem and_md {w : Nat} (h : w < 18446744073709551616) : andI .u64 (w : Int) 4503599627370495 = ((w % 4503599627370496 : Nat) : Int) := and_mask (j := 52) h (by decide)
theorem or_s : orI .u64 2147483648 2147483647 = 4294967295 := by rw [orI_eq]; rfl
theorem or_d : orI .u64 9223372036854775808 9223372036854775807 = 18446744073709551615 := by rw [orI_eq]; rfl
theorem or_ns : orI .u64 2139095040 4194304 = 2143289344 := by rw [orI_eq]; rfl
theorem or_nd : orI .u64 9218868437227405312 2251799813685248 = 9221120237041090560 := by rw [orI_eq]; rfl

theorem wop_loop (e : Env) (h : Heap) : evL G T c_word_open_l1 e h = kS G T (evL G T c_word_open_b1 (keepE [4, 6, 18, 19, 20] e) h) c_word_open_l1 := s_loopc G T rfl e h
theorem ia11 (x : AV) (k : IntKind) : iaddrV 1 (.imm 1 [x]) (.int k 0) = some (.iptr [x] 0) := rfl
theorem rd11 (h : Mem) (x : AV) : rdAt G h 1 (.iptr [x] 0) = some [x] := rfl

theorem word_open1 (hT : HasD g T) (F : Fm) {w : Nat} (hw : w < 18446744073709551616) : run G T 95 [.int .u8 F.u, .imm 1 [.int .u64 (w : Int)]] = some (.tup [shA F, .int .i64 (if w < 2 * F.sg then 0 else 6)]) := by
  rw [run_k G T hT.word_open]
  have h1 := word_shapeOf (G := G) hT F
  have wr : IntKind.i64.wrap 1 = 1 := rfl
  by_cases hk : w < 2 * F.sg
  · rw [if_pos hk]
    cases F
    · simp only [shA, Fm.u, Fm.fr, Fm.sg, Fm.most, Int.cast_ofNat_Int, Nat.reduceMul] at *
      have c1 : ¬ (4294967295 : Int) < (w : Int) := by omega
      repeat' (first | (simp (maxSteps := 1000000) only [evB, if_true, if_false, ne_eq, Nat.reduceEqDiff, Nat.reduceAdd, reduceCtorEq, Int.reduceLE, Int.reduceLT, Int.reduceEq, Int.reduceNeg, Int.reduceToNat, Int.reducePow, Int.reduceMod, Int.reduceDiv, Int.reduceSub, Int.reduceAdd, Int.reduceMul, Nat.reduceMul, Nat.reduceSub, Nat.reducePow, exB, resC_ptr, res_cell, nilb, nilf, faddr_p, c_word_open, h1, wop_loop, c_word_open_b1, ia11, rd11, or_s, or_d, c1, wr]) | (simp (maxSteps := 1000000) (disch := first | with_reducible assumption | omega) only [dxB]) | (simp only [kI_d, kG_dt, kG_df]; split) | (simp only [kI_v, kG_vt, kG_vf]; split))
    · simp only [shA, Fm.u, Fm.fr, Fm.sg, Fm.most, Int.cast_ofNat_Int, Nat.reduceMul] at *
      have c1 : ¬ (18446744073709551615 : Int) < (w : Int) := by omega
      repeat' (first | (simp (maxSteps := 1000000) only [evB, if_true, if_false, ne_eq, Nat.reduceEqDiff, Nat.reduceAdd, reduceCtorEq, Int.reduceLE, Int.reduceLT, Int.reduceEq, Int.reduceNeg, Int.reduceToNat, Int.reducePow, Int.reduceMod, Int.reduceDiv, Int.reduceSub, Int.reduceAdd, Int.reduceMul, Nat.reduceMul, Nat.reduceSub, Nat.reducePow, exB, resC_ptr, res_cell, nilb, nilf, faddr_p, c_word_open, h1, wop_loop, c_word_open_b1, ia11, rd11, or_s, or_d, c1, wr]) | (simp (maxSteps := 1000000) (disch := first | with_reducible assumption | omega) only [dxB]) | (simp only [kI_d, kG_dt, kG_df]; split) | (simp only [kI_v, kG_vt, kG_vf]; split))
  · rw [if_neg hk]
    cases F
    · simp only [shA, Fm.u, Fm.fr, Fm.sg, Fm.most, Int.cast_ofNat_Int, Nat.reduceMul] at *
      have c1 : (4294967295 : Int) < (w : Int) := by omega
      repeat' (first | (simp (maxSteps := 1000000) only [evB, if_true, if_false, ne_eq, Nat.reduceEqDiff, Nat.reduceAdd, reduceCtorEq, Int.reduceLE, Int.reduceLT, Int.reduceEq, Int.reduceNeg, Int.reduceToNat, Int.reducePow, Int.reduceMod, Int.reduceDiv, Int.reduceSub, Int.reduceAdd, Int.reduceMul, Nat.reduceMul, Nat.reduceSub, Nat.reducePow, exB, resC_ptr, res_cell, nilb, nilf, faddr_p, c_word_open, h1, wop_loop, c_word_open_b1, ia11, rd11, or_s, or_d, c1, wr]) | (simp (maxSteps := 1000000) (disch := first | with_reducible assumption | omega) only [dxB]) | (simp only [kI_d, kG_dt, kG_df]; split) | (simp only [kI_v, kG_vt, kG_vf]; split))
    · simp only [Fm.sg] at hk; omega

theorem cls_spec (F : Fm) (w : Nat) : (F.ex w = 0 ∧ F.fc w = 0 ∧ F.cls w = 1) ∨ (F.ex w = 0 ∧ F.fc w ≠ 0 ∧ F.cls w = 2) ∨ (F.ex w ≠ 0 ∧ F.ex w < F.most ∧ F.cls w = 3) ∨ (F.ex w ≠ 0 ∧ ¬ F.ex w < F.most ∧ F.fc w = 0 ∧ F.cls w = 4) ∨ (F.ex w ≠ 0 ∧ ¬ F.ex w < F.most ∧ F.fc w ≠ 0 ∧ F.cls w = 5) := by
  unfold Fm.cls
  generalize F.ex w = x
  generalize F.fc w = y
  repeat' split
  all_goals omega
theorem ng_spec (F : Fm) (w : Nat) : (F.ng w = true ∧ F.sg ≤ w) ∨ (F.ng w = false ∧ w < F.sg) := by
  unfold Fm.ng
  by_cases h : F.sg ≤ w
  · left; exact ⟨decide_eq_true h, h⟩
  · right; exact ⟨decide_eq_false h, by omega⟩

theorem word_class (hD : HasD g T) (hU : HasG g T) (F : Fm) {w : Nat} (hw : w < 2 * F.sg) : run G T 201 [shA F, .int .u64 (w : Int)] = some (.int .u8 (F.cls w)) := by
  rw [run_k G T hU.word_shape_class]
  obtain ⟨q1, q2, q3, q4⟩ := w_split hw
  have hc := cls_spec F w
  have hlt : w % F.sg < F.sg := Nat.mod_lt _ (by cases F <;> decide)
  clear q1
  generalize F.cls w = c at *
  generalize F.ex w = x at *
  generalize F.fc w = y at *
  cases F
  · have h2 := andn_s (w := w) hw
    have hi := word_inf (G := G) (T := T) hD .s
    simp only [shA, Fm.u, Fm.fr, Fm.sg, Fm.most, Int.cast_ofNat_Int, Nat.reducePow, Nat.reduceMul] at *
    generalize w % 2147483648 = s at *
    repeat' (first | (simp (maxSteps := 1000000) only [evB, if_true, if_false, ne_eq, Nat.reduceEqDiff, Nat.reduceAdd, reduceCtorEq, Int.reduceLE, Int.reduceLT, Int.reduceEq, Int.reduceNeg, Int.reduceToNat, Int.reducePow, Int.reduceMod, Int.reduceDiv, Int.reduceSub, Int.reduceAdd, Int.reduceMul, Nat.reduceMul, Nat.reduceSub, Nat.reducePow, exB, resC_ptr, res_cell, nilb, nilf, faddr_p, c_word_shape_class, h2, hi]) | (simp (maxSteps := 1000000) (disch := first | with_reducible assumption | omega) only [dxB]) | (simp only [kI_d, kG_dt, kG_df]; split) | (simp only [kI_v, kG_vt, kG_vf]; split))
    all_goals (refine some_int ?_; omega)
  · have h2 := andn_d (w := w) hw
    have hi := word_inf (G := G) (T := T) hD .d
    simp only [shA, Fm.u, Fm.fr, Fm.sg, Fm.most, Int.cast_ofNat_Int, Nat.reducePow, Nat.reduceMul] at *
    generalize w % 9223372036854775808 = s at *
    repeat' (first | (simp (maxSteps := 1000000) only [evB, if_true, if_false, ne_eq, Nat.reduceEqDiff, Nat.reduceAdd, reduceCtorEq, Int.reduceLE, Int.reduceLT, Int.reduceEq, Int.reduceNeg, Int.reduceToNat, Int.reducePow, Int.reduceMod, Int.reduceDiv, Int.reduceSub, Int.reduceAdd, Int.reduceMul, Nat.reduceMul, Nat.reduceSub, Nat.reducePow, exB, resC_ptr, res_cell, nilb, nilf, faddr_p, c_word_shape_class, h2, hi]) | (simp (maxSteps := 1000000) (disch := first | with_reducible assumption | omega) only [dxB]) | (simp only [kI_d, kG_dt, kG_df]; split) | (simp only [kI_v, kG_vt, kG_vf]; split))
    all_goals (refine some_int ?_; omega)

theorem word_split (hU : HasG g T) (F : Fm) {w : Nat} (hw : w < 2 * F.sg) : run G T 200 [shA F, .int .u64 (w : Int)] = some (fldA (F.ng w) (F.ex w) (F.fc w)) := by
  rw [run_k G T hU.word_shape_split]
  have hlt : w % F.sg < F.sg := Nat.mod_lt _ (by cases F <;> decide)
  have hn := ng_spec F w
  have e2 : w % F.sg / 2 ^ F.fr = F.ex w := rfl
  have e3 : w % F.sg % 2 ^ F.fr = F.fc w := rfl
  have q4 := (w_split hw).2.2.2
  generalize F.ng w = n at *
  generalize F.ex w = x at *
  generalize F.fc w = y at *
  cases F
  · have h2 := andn_s (w := w) hw
    have h4 := and_s (w := w) hw
    simp only [shA, Fm.u, Fm.fr, Fm.sg, Fm.most, fldA, Int.cast_ofNat_Int, Nat.reducePow] at *
    generalize w % 2147483648 = s at *
    have h5 := and_ms (w := s) (by omega)
    rw [e3] at h5
    have w1 : (s : Int) / 8388608 = (x : Int) := by omega
    rcases hn with ⟨rfl, hn⟩ | ⟨rfl, hn⟩
    · rw [if_pos hn] at h4
      repeat' (first | (simp (maxSteps := 1000000) only [evB, if_true, if_false, ne_eq, Nat.reduceEqDiff, Nat.reduceAdd, reduceCtorEq, Int.reduceLE, Int.reduceLT, Int.reduceEq, Int.reduceNeg, Int.reduceToNat, Int.reducePow, Int.reduceMod, Int.reduceDiv, Int.reduceSub, Int.reduceAdd, Int.reduceMul, Nat.reduceMul, Nat.reduceSub, Nat.reducePow, exB, resC_ptr, res_cell, nilb, nilf, faddr_p, c_word_shape_split, h2, h4, h5, w1]) | (simp (maxSteps := 1000000) (disch := first | with_reducible assumption | omega) only [dxB]) | (simp only [kI_d, kG_dt, kG_df]; split) | (simp only [kI_v, kG_vt, kG_vf]; split))
    · rw [if_neg (by omega)] at h4
      repeat' (first | (simp (maxSteps := 1000000) only [evB, if_true, if_false, ne_eq, Nat.reduceEqDiff, Nat.reduceAdd, reduceCtorEq, Int.reduceLE, Int.reduceLT, Int.reduceEq, Int.reduceNeg, Int.reduceToNat, Int.reducePow, Int.reduceMod, Int.reduceDiv, Int.reduceSub, Int.reduceAdd, Int.reduceMul, Nat.reduceMul, Nat.reduceSub, Nat.reducePow, exB, resC_ptr, res_cell, nilb, nilf, faddr_p, c_word_shape_split, h2, h4, h5, w1]) | (simp (maxSteps := 1000000) (disch := first | with_reducible assumption | omega) only [dxB]) | (simp only [kI_d, kG_dt, kG_df]; split) | (simp only [kI_v, kG_vt, kG_vf]; split))
  · have h2 := andn_d (w := w) hw
    have h4 := and_d (w := w) hw
    simp only [shA, Fm.u, Fm.fr, Fm.sg, Fm.most, fldA, Int.cast_ofNat_Int, Nat.reducePow] at *
    generalize w % 9223372036854775808 = s at *
    have h5 := and_md (w := s) (by omega)
    rw [e3] at h5
    have w1 : (s : Int) / 4503599627370496 = (x : Int) := by omega
    rcases hn with ⟨rfl, hn⟩ | ⟨rfl, hn⟩
    · rw [if_pos hn] at h4
      repeat' (first | (simp (maxSteps := 1000000) only [evB, if_true, if_false, ne_eq, Nat.reduceEqDiff, Nat.reduceAdd, reduceCtorEq, Int.reduceLE, Int.reduceLT, Int.reduceEq, Int.reduceNeg, Int.reduceToNat, Int.reducePow, Int.reduceMod, Int.reduceDiv, Int.reduceSub, Int.reduceAdd, Int.reduceMul, Nat.reduceMul, Nat.reduceSub, Nat.reducePow, exB, resC_ptr, res_cell, nilb, nilf, faddr_p, c_word_shape_split, h2, h4, h5, w1]) | (simp (maxSteps := 1000000) (disch := first | with_reducible assumption | omega) only [dxB]) | (simp only [kI_d, kG_dt, kG_df]; split) | (simp only [kI_v, kG_vt, kG_vf]; split))
    · rw [if_neg (by omega)] at h4
      repeat' (first | (simp (maxSteps := 1000000) only [evB, if_true, if_false, ne_eq, Nat.reduceEqDiff, Nat.reduceAdd, reduceCtorEq, Int.reduceLE, Int.reduceLT, Int.reduceEq, Int.reduceNeg, Int.reduceToNat, Int.reducePow, Int.reduceMod, Int.reduceDiv, Int.reduceSub, Int.reduceAdd, Int.reduceMul, Nat.reduceMul, Nat.reduceSub, Nat.reducePow, exB, resC_ptr, res_cell, nilb, nilf, faddr_p, c_word_shape_split, h2, h4, h5, w1]) | (simp (maxSteps := 1000000) (disch := first | with_reducible assumption | omega) only [dxB]) | (simp only [kI_d, kG_dt, kG_df]; split) | (simp only [kI_v, kG_vt, kG_vf]; split))

theorem sg_64 {F : Fm} {w : Nat} (h : w < 2 * F.sg) : w < 18446744073709551616 := by
  have : 2 * F.sg ≤ 18446744073709551616 := by cases F <;> decide
  omega

theorem word_Class (hD : HasD g T) (hU : HasG g T) (F : Fm) {w : Nat} (hw : w < 2 * F.sg) : run G T 193 [.int .u8 F.u, .int .u64 (w : Int)] = some (.tup [.int .u8 (F.cls w), .int .i64 0]) := by
  rw [run_k G T hU.word_Class]
  have h1 := word_open1 (G := G) (T := T) hD F (sg_64 hw)
  rw [if_pos hw] at h1
  have h2 := word_class (G := G) (T := T) hD hU F hw
  generalize F.cls w = c at *
  simp only [shA] at *
  repeat' (first | (simp (maxSteps := 1000000) only [evB, if_true, if_false, ne_eq, Nat.reduceEqDiff, Nat.reduceAdd, reduceCtorEq, Int.reduceLE, Int.reduceLT, Int.reduceEq, Int.reduceNeg, Int.reduceToNat, Int.reducePow, Int.reduceMod, Int.reduceDiv, Int.reduceSub, Int.reduceAdd, Int.reduceMul, Nat.reduceMul, Nat.reduceSub, Nat.reducePow, exB, resC_ptr, res_cell, nilb, nilf, faddr_p, c_word_Class, h1, h2]) | (simp (maxSteps := 1000000) (disch := first | with_reducible assumption | omega) only [dxB]) | (simp only [kI_d, kG_dt, kG_df]; split) | (simp only [kI_v, kG_vt, kG_vf]; split))

theorem word_Split (hD : HasD g T) (hU : HasG g T) (F : Fm) {w : Nat} (hw : w < 2 * F.sg) : run G T 192 [.int .u8 F.u, .int .u64 (w : Int)] = some (.tup [fldA (F.ng w) (F.ex w) (F.fc w), .int .i64 0]) := by
  rw [run_k G T hU.word_Split]
  have h1 := word_open1 (G := G) (T := T) hD F (sg_64 hw)
  rw [if_pos hw] at h1
  have h2 := word_split (G := G) (T := T) hU F hw
  generalize F.ng w = n at *
  generalize F.ex w = x at *
  generalize F.fc w = y at *
  simp only [shA, fldA] at *
  repeat' (first | (simp (maxSteps := 1000000) only [evB, if_true, if_false, ne_eq, Nat.reduceEqDiff, Nat.reduceAdd, reduceCtorEq, Int.reduceLE, Int.reduceLT, Int.reduceEq, Int.reduceNeg, Int.reduceToNat, Int.reducePow, Int.reduceMod, Int.reduceDiv, Int.reduceSub, Int.reduceAdd, Int.reduceMul, Nat.reduceMul, Nat.reduceSub, Nat.reducePow, exB, resC_ptr, res_cell, nilb, nilf, faddr_p, c_word_Split, h1, h2]) | (simp (maxSteps := 1000000) (disch := first | with_reducible assumption | omega) only [dxB]) | (simp only [kI_d, kG_dt, kG_df]; split) | (simp only [kI_v, kG_vt, kG_vf]; split))
theorem word_Split_bad (hD : HasD g T) (hU : HasG g T) (F : Fm) {w : Nat} (hw : w < 18446744073709551616) (hb : ¬ w < 2 * F.sg) : run G T 192 [.int .u8 F.u, .int .u64 (w : Int)] = some (.tup [fldA false 0 0, .int .i64 6]) := by
  rw [run_k G T hU.word_Split]
  have h1 := word_open1 (G := G) (T := T) hD F hw
  rw [if_neg hb] at h1
  simp only [shA, fldA] at *
  repeat' (first | (simp (maxSteps := 1000000) only [evB, if_true, if_false, ne_eq, Nat.reduceEqDiff, Nat.reduceAdd, reduceCtorEq, Int.reduceLE, Int.reduceLT, Int.reduceEq, Int.reduceNeg, Int.reduceToNat, Int.reducePow, Int.reduceMod, Int.reduceDiv, Int.reduceSub, Int.reduceAdd, Int.reduceMul, Nat.reduceMul, Nat.reduceSub, Nat.reducePow, exB, resC_ptr, res_cell, nilb, nilf, faddr_p, c_word_Split, h1]) | (simp (maxSteps := 1000000) (disch := first | with_reducible assumption | omega) only [dxB]) | (simp only [kI_d, kG_dt, kG_df]; split) | (simp only [kI_v, kG_vt, kG_vf]; split))

theorem word_finite (hD : HasD g T) (hU : HasG g T) (F : Fm) {w : Nat} (hw : w < 2 * F.sg) : run G T 202 [.int .u8 F.u, .int .u64 (w : Int)] = some (.tup [shA F, .int .i64 (if F.fin w then 0 else 7)]) := by
  rw [run_k G T hU.word_finite]
  have h1 := word_open1 (G := G) (T := T) hD F (sg_64 hw)
  rw [if_pos hw] at h1
  have h2 := word_class (G := G) (T := T) hD hU F hw
  have h3 := fin_iff (F := F) (w := w)
  have h4 := cls_range F w
  by_cases hf : F.fin w
  · rw [if_pos hf]
    have h5 := h3.1 hf
    clear h3
    generalize F.cls w = c at *
    have c1 : ¬ (4 : Int) ≤ c := by omega
    simp only [shA] at *
    repeat' (first | (simp (maxSteps := 1000000) only [evB, if_true, if_false, ne_eq, Nat.reduceEqDiff, Nat.reduceAdd, reduceCtorEq, Int.reduceLE, Int.reduceLT, Int.reduceEq, Int.reduceNeg, Int.reduceToNat, Int.reducePow, Int.reduceMod, Int.reduceDiv, Int.reduceSub, Int.reduceAdd, Int.reduceMul, Nat.reduceMul, Nat.reduceSub, Nat.reducePow, exB, resC_ptr, res_cell, nilb, nilf, faddr_p, c_word_finite, h1, h2, c1]) | (simp (maxSteps := 1000000) (disch := first | with_reducible assumption | omega) only [dxB]) | (simp only [kI_d, kG_dt, kG_df]; split) | (simp only [kI_v, kG_vt, kG_vf]; split))
  · rw [if_neg hf]
    have h5 : ¬ (F.cls w = 1 ∨ F.cls w = 2 ∨ F.cls w = 3) := fun h => hf (h3.2 h)
    clear h3
    generalize F.cls w = c at *
    have c1 : (4 : Int) ≤ c := by omega
    simp only [shA] at *
    repeat' (first | (simp (maxSteps := 1000000) only [evB, if_true, if_false, ne_eq, Nat.reduceEqDiff, Nat.reduceAdd, reduceCtorEq, Int.reduceLE, Int.reduceLT, Int.reduceEq, Int.reduceNeg, Int.reduceToNat, Int.reducePow, Int.reduceMod, Int.reduceDiv, Int.reduceSub, Int.reduceAdd, Int.reduceMul, Nat.reduceMul, Nat.reduceSub, Nat.reducePow, exB, resC_ptr, res_cell, nilb, nilf, faddr_p, c_word_finite, h1, h2, c1]) | (simp (maxSteps := 1000000) (disch := first | with_reducible assumption | omega) only [dxB]) | (simp only [kI_d, kG_dt, kG_df]; split) | (simp only [kI_v, kG_vt, kG_vf]; split))

theorem or_fr {y k : Nat} (h : y < 2 ^ k) (hk : k < 63) : orI .u64 (y : Int) ((2 ^ k : Nat) : Int) = ((2 ^ k + y : Nat) : Int) := by
  have hp : (2 : Nat) ^ k < 2 ^ 64 := Nat.pow_lt_pow_right (by decide) (by omega)
  have e := or_add (c := y) (x := 1) (s := k) h
  rw [Nat.one_mul] at e
  rw [or64 (by omega) (by omega), e, Nat.add_comm]

theorem word_Value (hA : HasA g T) (hG : Glob G g) (hC : HasC g T) (hD : HasD g T) (hU : HasG g T) (F : Fm) {w : Nat} (hw : w < 2 * F.sg) :
    ∃ z k, run G T 194 [.int .u8 F.u, .int .u64 (w : Int)] = some (.tup [DyA z (F.vl w), .int .i64 k]) := by
  have h1 := word_finite (G := G) (T := T) hD hU F hw
  by_cases hf : F.fin w
  · rw [if_pos hf] at h1
    have h2 := word_split (G := G) (T := T) hU F hw
    have h3 := word_low (G := G) (T := T) hD F
    have hy : F.fc w < 2 ^ F.fr := Nat.mod_lt _ (Nat.two_pow_pos _)
    have hp : 2 ^ F.fr ≤ 4503599627370496 := by cases F <;> decide
    have hF := fm_facts F
    have hm : F.most ≤ 2047 := by cases F <;> decide
    have hvl : F.vl w = F.val w := if_pos hf
    rw [hvl]
    unfold Fm.fin at hf
    unfold Fm.val
    have hor := or_fr hy (by omega)
    generalize F.ex w = x at *
    generalize F.fc w = y at *
    generalize F.ng w = n at *
    have hb1 : blen y ≤ 53 := blen_le.2 (by omega)
    have hb2 : blen (2 ^ F.fr + y) ≤ 53 := blen_le.2 (by omega)
    have hmin : min F.fr 64 = F.fr := by omega
    have hp0 := Nat.two_pow_pos F.fr
    by_cases h0 : x = 0
    · subst h0
      obtain ⟨z1, o1⟩ := nat_Of (G := G) (T := T) hA (n := y) (by omega)
      obtain ⟨z2, o2⟩ := dyad_Make (G := G) (T := T) hA hG hC (n := n) (z := z1) (a := y) (e := F.low) (mayL_small (by omega)) (mk_rng (by omega) (by omega)) (by omega)
      have w1 : max (0 : Int) 1 = 1 := by decide
      have w2 : IntKind.i64.wrap (1 - 1) = 0 := rfl
      have w3 : IntKind.i64.wrap (0 + F.low) = F.low := by rw [Int.zero_add]; exact wrap_i64 (by omega)
      have w4 : IntKind.i64.wrap F.low = F.low := wrap_i64 (by omega)
      refine ⟨z2, 0, ?_⟩
      rw [if_pos rfl, run_k G T hU.word_Value]
      simp only [shA, fldA, cast0, DyA, A3] at *
      repeat' (first | (simp (maxSteps := 1000000) only [evB, if_true, if_false, ne_eq, Nat.reduceEqDiff, Nat.reduceAdd, reduceCtorEq, Int.reduceLE, Int.reduceLT, Int.reduceEq, Int.reduceNeg, Int.reduceToNat, Int.reducePow, Int.reduceMod, Int.reduceDiv, Int.reduceSub, Int.reduceAdd, Int.reduceMul, Nat.reduceMul, Nat.reduceSub, Nat.reducePow, exB, resC_ptr, res_cell, nilb, nilf, faddr_p, c_word_Value, h1, h2, h3, o1, w1, w2, w3, w4, mm_max2, o2, Int.zero_add]) | (simp (maxSteps := 1000000) (disch := first | with_reducible assumption | omega) only [dxB]) | (simp only [kI_d, kG_dt, kG_df]; split) | (simp only [kI_v, kG_vt, kG_vf]; split))
    · obtain ⟨z1, o1⟩ := nat_Of (G := G) (T := T) hA (n := 2 ^ F.fr + y) (by omega)
      obtain ⟨z2, o2⟩ := dyad_Make (G := G) (T := T) hA hG hC (n := n) (z := z1) (a := 2 ^ F.fr + y) (e := x - 1 + F.low) (mayL_small (by omega)) (mk_rng (by omega) (by omega)) (by omega)
      have c0 : (0 : Int) < (x : Int) := by omega
      have w1 : max (x : Int) 1 = x := by omega
      have w2 : IntKind.i64.wrap ((x : Int) - 1) = x - 1 := wrap_i64 (by omega)
      have w3 : IntKind.i64.wrap ((x : Int) - 1 + F.low) = x - 1 + F.low := wrap_i64 (by omega)
      have w5 : (1 * (2 : Int) ^ F.fr) % 18446744073709551616 = ((2 ^ F.fr : Nat) : Int) := by rw [pow_cast]; omega
      have w6 : ((2 : Int) ^ F.fr) % 18446744073709551616 = ((2 ^ F.fr : Nat) : Int) := by rw [pow_cast]; omega
      refine ⟨z2, 0, ?_⟩
      rw [if_neg h0, run_k G T hU.word_Value]
      simp only [shA, fldA, DyA, A3] at *
      repeat' (first | (simp (maxSteps := 1000000) only [evB, if_true, if_false, ne_eq, Nat.reduceEqDiff, Nat.reduceAdd, reduceCtorEq, Int.reduceLE, Int.reduceLT, Int.reduceEq, Int.reduceNeg, Int.reduceToNat, Int.reducePow, Int.reduceMod, Int.reduceDiv, Int.reduceSub, Int.reduceAdd, Int.reduceMul, Nat.reduceMul, Nat.reduceSub, Nat.reducePow, exB, resC_ptr, res_cell, nilb, nilf, faddr_p, c_word_Value, h1, h2, h3, c0, hmin, w5, w6, hor, o1, w1, w2, w3, mm_max2, o2]) | (simp (maxSteps := 1000000) (disch := first | with_reducible assumption | omega) only [dxB]) | (simp only [kI_d, kG_dt, kG_df]; split) | (simp only [kI_v, kG_vt, kG_vf]; split))
  · rw [if_neg hf] at h1
    refine ⟨true, 7, ?_⟩
    have hvl : F.vl w = ⟨false, 0, 0⟩ := if_neg hf
    rw [hvl, run_k G T hU.word_Value]
    simp only [shA, DyA, A3, dl_zero] at *
    repeat' (first | (simp (maxSteps := 1000000) only [evB, if_true, if_false, ne_eq, Nat.reduceEqDiff, Nat.reduceAdd, reduceCtorEq, Int.reduceLE, Int.reduceLT, Int.reduceEq, Int.reduceNeg, Int.reduceToNat, Int.reducePow, Int.reduceMod, Int.reduceDiv, Int.reduceSub, Int.reduceAdd, Int.reduceMul, Nat.reduceMul, Nat.reduceSub, Nat.reducePow, exB, resC_ptr, res_cell, nilb, nilf, faddr_p, c_word_Value, h1]) | (simp (maxSteps := 1000000) (disch := first | with_reducible assumption | omega) only [dxB]) | (simp only [kI_d, kG_dt, kG_df]; split) | (simp only [kI_v, kG_vt, kG_vf]; split))
    all_goals try rfl

theorem word_none (hU : HasG g T) (hD : HasD g T) (F : Fm) : run G T 204 [shA F] = some (.int .u64 (F.nan : Int)) := by
  rw [run_k G T hU.word_shape_none]
  have h := word_inf (G := G) hD F
  cases F <;> (
    simp only [shA, Fm.u, Fm.fr, Fm.sg, Fm.most, Fm.nan, Int.cast_ofNat_Int, Nat.reducePow, Nat.reduceMul, Nat.reduceSub, Nat.reduceAdd] at *
    repeat' (first | (simp (maxSteps := 1000000) only [evB, if_true, if_false, ne_eq, Nat.reduceEqDiff, Nat.reduceAdd, reduceCtorEq, Int.reduceLE, Int.reduceLT, Int.reduceEq, Int.reduceNeg, Int.reduceToNat, Int.reducePow, Int.reduceMod, Int.reduceDiv, Int.reduceSub, Int.reduceAdd, Int.reduceMul, Nat.reduceMul, Nat.reduceSub, Nat.reducePow, exB, resC_ptr, res_cell, nilb, nilf, faddr_p, c_word_shape_none, h, or_ns, or_nd]) | (simp (maxSteps := 1000000) (disch := first | with_reducible assumption | omega) only [dxB]) | (simp only [kI_d, kG_dt, kG_df]; split) | (simp only [kI_v, kG_vt, kG_vf]; split)))
theorem word_None (hU : HasG g T) (hD : HasD g T) (F : Fm) : run G T 196 [.int .u8 F.u] = some (.tup [.int .u64 (F.nan : Int), .int .i64 0]) := by
  rw [run_k G T hU.word_None]
  have h := word_named (G := G) hD F (n := false) (k := 204) (word_none hU hD F) (by cases F <;> decide)
  rw [show F.nan + F.sgn false = F.nan from rfl] at h
  repeat' (first | (simp (maxSteps := 1000000) only [evB, if_true, if_false, ne_eq, Nat.reduceEqDiff, Nat.reduceAdd, reduceCtorEq, Int.reduceLE, Int.reduceLT, Int.reduceEq, Int.reduceNeg, Int.reduceToNat, Int.reducePow, Int.reduceMod, Int.reduceDiv, Int.reduceSub, Int.reduceAdd, Int.reduceMul, Nat.reduceMul, Nat.reduceSub, Nat.reducePow, exB, resC_ptr, res_cell, nilb, nilf, faddr_p, c_word_None, h]) | (simp (maxSteps := 1000000) (disch := first | with_reducible assumption | omega) only [dxB]) | (simp only [kI_d, kG_dt, kG_df]; split) | (simp only [kI_v, kG_vt, kG_vf]; split))
end Go.Cv

/-
  The document's sums, products, quotients, roots of words.
-/
namespace Go.Cv
variable {G : Nat → Option (List AV)} {T : Tbl} {g : Nat}

theorem Nz_mul (a b : Dy) : Nz (mulD a b) := Nz_mk _ _ _
theorem Bd_mul {a b : Dy} {K : Nat} (ha : Bd a K) (hb : Bd b K) : Bd (mulD a b) (4 * K) := by
  obtain ⟨a1, a2, a3⟩ := ha
  obtain ⟨b1, b2, b3⟩ := hb
  have hb : blen (a.m * b.m) ≤ 2 * K := by
    refine blen_le.2 ?_
    rw [show 2 * K = K + K by omega, Nat.pow_add]
    exact Nat.mul_lt_mul_of_lt_of_lt (blen_le.1 a1) (blen_le.1 b1)
  exact Bd_mk (by omega) (by omega) (by omega)
theorem mayD_nzb {d : Dy} (h : Nz d) (b : Bd d 131072) : mayD d.n (dl d.m) d.e = true := by
  obtain ⟨b1, b2, b3⟩ := b
  have hm : mayL (dl d.m) = true := mayL_small b1
  simp only [mayD, hm, Bool.true_and]
  by_cases h0 : d.m = 0
  · rw [h.1 h0, dl_zero]; rfl
  · have h1 : ¬ (dl d.m).length = 0 := fun hc => h0 (dl_len0.1 hc)
    rw [if_neg h1, dg0]
    have h2 := h.2 h0
    simp only [Bool.and_eq_true, decide_eq_true_eq]
    exact ⟨h2, by omega, by omega⟩
theorem ref03_None (hD : HasD g T) (hT : HasF g T) (F : Fm) : run G T 157 [.int .u8 F.u] = some (.int .u64 (F.nan : Int)) := by
  rw [run_k G T hT.ref03_None]
  have h1 := ref03_Most (G := G) (T := T) hD F
  have h2 := ref03_Frac (G := G) (T := T) hD F
  cases F
  · have h4 := ref03_Join (G := G) (T := T) hD .s (n := false) (x := 255) (w := 4194304) (by decide) (Or.inl (by decide))
    simp only [fldA, Fm.u, Fm.fr, Fm.most, Fm.nan, Fm.inf, Fm.sgn, Fm.sg, Int.cast_ofNat_Int, Nat.reducePow, Nat.reduceMul, Nat.reduceSub, Nat.reduceAdd, Bool.false_eq_true, if_false] at *
    repeat' (first | (simp (maxSteps := 1000000) only [evB, if_true, if_false, ne_eq, Nat.reduceEqDiff, Nat.reduceAdd, reduceCtorEq, Int.reduceLE, Int.reduceLT, Int.reduceEq, Int.reduceNeg, Int.reduceToNat, Int.reducePow, Int.reduceMod, Int.reduceDiv, Int.reduceSub, Int.reduceAdd, Int.reduceMul, Nat.reduceMul, Nat.reduceSub, Nat.reducePow, exB, resC_ptr, res_cell, nilb, nilf, faddr_p, c_ref03_None, h1, h2, h4]) | (simp (maxSteps := 1000000) (disch := first | with_reducible assumption | omega) only [dxB]) | (simp only [kI_d, kG_dt, kG_df]; split) | (simp only [kI_v, kG_vt, kG_vf]; split))
  · have h4 := ref03_Join (G := G) (T := T) hD .d (n := false) (x := 2047) (w := 2251799813685248) (by decide) (Or.inl (by decide))
    simp only [fldA, Fm.u, Fm.fr, Fm.most, Fm.nan, Fm.inf, Fm.sgn, Fm.sg, Int.cast_ofNat_Int, Nat.reducePow, Nat.reduceMul, Nat.reduceSub, Nat.reduceAdd, Bool.false_eq_true, if_false] at *
    repeat' (first | (simp (maxSteps := 1000000) only [evB, if_true, if_false, ne_eq, Nat.reduceEqDiff, Nat.reduceAdd, reduceCtorEq, Int.reduceLE, Int.reduceLT, Int.reduceEq, Int.reduceNeg, Int.reduceToNat, Int.reducePow, Int.reduceMod, Int.reduceDiv, Int.reduceSub, Int.reduceAdd, Int.reduceMul, Nat.reduceMul, Nat.reduceSub, Nat.reducePow, exB, resC_ptr, res_cell, nilb, nilf, faddr_p, c_ref03_None, h1, h2, h4]) | (simp (maxSteps := 1000000) (disch := first | with_reducible assumption | omega) only [dxB]) | (simp only [kI_d, kG_dt, kG_df]; split) | (simp only [kI_v, kG_vt, kG_vf]; split))

theorem ref05_neg (hD : HasD g T) (hU : HasH g T) (F : Fm) {w : Nat} : run G T 233 [.int .u8 F.u, .int .u64 (w : Int)] = some (.bool (F.ng w)) := by
  rw [run_k G T hU.ref05_neg]
  have h1 := ref03_Sign (G := G) (T := T) hD F
  have h2 : decide ((F.sg : Int) ≤ (w : Int)) = F.ng w := by unfold Fm.ng; congr 1; apply propext; omega
  repeat' (first | (simp (maxSteps := 1000000) only [evB, if_true, if_false, ne_eq, Nat.reduceEqDiff, Nat.reduceAdd, reduceCtorEq, Int.reduceLE, Int.reduceLT, Int.reduceEq, Int.reduceNeg, Int.reduceToNat, Int.reducePow, Int.reduceMod, Int.reduceDiv, Int.reduceSub, Int.reduceAdd, Int.reduceMul, Nat.reduceMul, Nat.reduceSub, Nat.reducePow, exB, resC_ptr, res_cell, nilb, nilf, faddr_p, c_ref05_neg, h1, h2]) | (simp (maxSteps := 1000000) (disch := first | with_reducible assumption | omega) only [dxB]) | (simp only [kI_d, kG_dt, kG_df]; split) | (simp only [kI_v, kG_vt, kG_vf]; split))
theorem ref05_nan (hD : HasD g T) (hF : HasF g T) (hU : HasH g T) (F : Fm) {w : Nat} (hw : w < 2 * F.sg) : run G T 230 [.int .u8 F.u, .int .u64 (w : Int)] = some (.bool (decide (F.cls w = 5))) := by
  rw [run_k G T hU.ref05_nan]
  have h1 := ref03_Class (G := G) (T := T) hD hF F (sg_64 hw)
  repeat' (first | (simp (maxSteps := 1000000) only [evB, if_true, if_false, ne_eq, Nat.reduceEqDiff, Nat.reduceAdd, reduceCtorEq, Int.reduceLE, Int.reduceLT, Int.reduceEq, Int.reduceNeg, Int.reduceToNat, Int.reducePow, Int.reduceMod, Int.reduceDiv, Int.reduceSub, Int.reduceAdd, Int.reduceMul, Nat.reduceMul, Nat.reduceSub, Nat.reducePow, exB, resC_ptr, res_cell, nilb, nilf, faddr_p, c_ref05_nan, h1]) | (simp (maxSteps := 1000000) (disch := first | with_reducible assumption | omega) only [dxB]) | (simp only [kI_d, kG_dt, kG_df]; split) | (simp only [kI_v, kG_vt, kG_vf]; split))
theorem ref05_zero (hD : HasD g T) (hF : HasF g T) (hU : HasH g T) (F : Fm) {w : Nat} (hw : w < 2 * F.sg) : run G T 232 [.int .u8 F.u, .int .u64 (w : Int)] = some (.bool (decide (F.cls w = 1))) := by
  rw [run_k G T hU.ref05_zero]
  have h1 := ref03_Class (G := G) (T := T) hD hF F (sg_64 hw)
  repeat' (first | (simp (maxSteps := 1000000) only [evB, if_true, if_false, ne_eq, Nat.reduceEqDiff, Nat.reduceAdd, reduceCtorEq, Int.reduceLE, Int.reduceLT, Int.reduceEq, Int.reduceNeg, Int.reduceToNat, Int.reducePow, Int.reduceMod, Int.reduceDiv, Int.reduceSub, Int.reduceAdd, Int.reduceMul, Nat.reduceMul, Nat.reduceSub, Nat.reducePow, exB, resC_ptr, res_cell, nilb, nilf, faddr_p, c_ref05_zero, h1]) | (simp (maxSteps := 1000000) (disch := first | with_reducible assumption | omega) only [dxB]) | (simp only [kI_d, kG_dt, kG_df]; split) | (simp only [kI_v, kG_vt, kG_vf]; split))
theorem vl_val {F : Fm} {w : Nat} (h : F.fin w) : F.vl w = F.val w := if_pos h

end Go.Cv

/-
  The document's products, quotients, roots of words.
-/
namespace Go.Cv
variable {G : Nat → Option (List AV)} {T : Tbl} {g : Nat}

/-- The same, of two of the questions. -/
theorem ref05_kind2 (hD : HasD g T) (hF : HasF g T) (hU : HasH g T) (F : Fm) {w : Nat} (hw : w < 2 * F.sg) :
    (F.cls w = 5 ∧ run G T 230 [.int .u8 F.u, .int .u64 (w : Int)] = some (.bool true) ∧ run G T 232 [.int .u8 F.u, .int .u64 (w : Int)] = some (.bool false)) ∨
    (F.cls w = 4 ∧ run G T 230 [.int .u8 F.u, .int .u64 (w : Int)] = some (.bool false) ∧ run G T 232 [.int .u8 F.u, .int .u64 (w : Int)] = some (.bool false)) ∨
    (F.cls w = 1 ∧ run G T 230 [.int .u8 F.u, .int .u64 (w : Int)] = some (.bool false) ∧ run G T 232 [.int .u8 F.u, .int .u64 (w : Int)] = some (.bool true)) ∨
    ((F.fin w ∧ F.cls w ≠ 1 ∧ F.cls w ≠ 4 ∧ F.cls w ≠ 5) ∧ run G T 230 [.int .u8 F.u, .int .u64 (w : Int)] = some (.bool false) ∧ run G T 232 [.int .u8 F.u, .int .u64 (w : Int)] = some (.bool false)) := by
  have h1 := ref05_nan (G := G) (T := T) hD hF hU F hw
  have h3 := ref05_zero (G := G) (T := T) hD hF hU F hw
  have r := cls_range F w
  by_cases a : F.cls w = 5
  · left; rw [decide_eq_true a] at h1; rw [decide_eq_false (by omega)] at h3; exact ⟨a, h1, h3⟩
  · right
    by_cases b : F.cls w = 4
    · left; rw [decide_eq_false (by omega)] at h1 h3; exact ⟨b, h1, h3⟩
    · right
      by_cases c : F.cls w = 1
      · left; rw [decide_eq_true c] at h3; rw [decide_eq_false (by omega)] at h1; exact ⟨c, h1, h3⟩
      · right; rw [decide_eq_false (by omega)] at h1 h3; exact ⟨⟨fin_iff.2 (by omega), c, b, a⟩, h1, h3⟩

theorem ref05_Sqrt (hA : HasA g T) (hB : HasB g T) (hC : HasC g T) (hD : HasD g T) (hE : HasE g T) (hF : HasF g T) (hU : HasH g T) (F : Fm) {md : Int} (hm : 1 ≤ md ∧ md ≤ 5) {a : Nat} (ha : a < 2 * F.sg) :
    run G T 225 [.int .u8 F.u, .int .u8 md, .int .u64 (a : Int)] = some (.tup [.int .u64 ((sqrtW F md a).1 : Int), .int .u8 ((sqrtW F md a).2 : Int)]) := by
  rw [run_k G T hU.ref05_Sqrt]
  have nn := ref03_None (G := G) (T := T) hD hF F
  have ga := ref05_neg (G := G) (T := T) hD hU F (w := a)
  have inf := ref03_Inf (G := G) (T := T) hD F (n := false)
  unfold sqrtW
  rcases ref05_kind2 (G := G) (T := T) hD hF hU F ha with ⟨ka, na, za⟩ | ⟨ka, na, za⟩ | ⟨ka, na, za⟩ | ⟨⟨fa, ka, ka2, ka3⟩, na, za⟩
  · rw [if_pos ka]
    repeat' (first | (simp (maxSteps := 1000000) only [evB, if_true, if_false, ne_eq, Nat.reduceEqDiff, Nat.reduceAdd, reduceCtorEq, Int.reduceLE, Int.reduceLT, Int.reduceEq, Int.reduceNeg, Int.reduceToNat, Int.reducePow, Int.reduceMod, Int.reduceDiv, Int.reduceSub, Int.reduceAdd, Int.reduceMul, Nat.reduceMul, Nat.reduceSub, Nat.reducePow, exB, resC_ptr, res_cell, nilb, nilf, faddr_p, c_ref05_Sqrt, na, nn]) | (simp (maxSteps := 1000000) (disch := first | with_reducible assumption | omega) only [dxB]) | (simp only [kI_d, kG_dt, kG_df]; split) | (simp only [kI_v, kG_vt, kG_vf]; split))
    all_goals rfl
  · rw [if_neg (by omega), if_neg (by omega)]
    have ea := cls_inf_w ha ka
    cases hn : F.ng a
    · rw [hn] at ea ga
      rw [if_neg (by decide), if_pos ka, ← ea]
      rw [← ea] at inf
      repeat' (first | (simp (maxSteps := 1000000) only [evB, if_true, if_false, ne_eq, Nat.reduceEqDiff, Nat.reduceAdd, reduceCtorEq, Int.reduceLE, Int.reduceLT, Int.reduceEq, Int.reduceNeg, Int.reduceToNat, Int.reducePow, Int.reduceMod, Int.reduceDiv, Int.reduceSub, Int.reduceAdd, Int.reduceMul, Nat.reduceMul, Nat.reduceSub, Nat.reducePow, exB, resC_ptr, res_cell, nilb, nilf, faddr_p, c_ref05_Sqrt, na, za, inf]) | (simp (maxSteps := 1000000) (disch := first | with_reducible assumption | omega) only [dxB]) | (simp only [kI_d, kG_dt, kG_df]; split) | (simp only [kI_v, kG_vt, kG_vf]; split))
      all_goals rfl
    · rw [hn] at ea ga
      rw [if_pos rfl]
      have hni : ¬ (a : Int) = ((F.inf false : Nat) : Int) := by
        have : F.inf true ≠ F.inf false := by cases F <;> decide
        omega
      repeat' (first | (simp (maxSteps := 1000000) only [evB, if_true, if_false, ne_eq, Nat.reduceEqDiff, Nat.reduceAdd, reduceCtorEq, Int.reduceLE, Int.reduceLT, Int.reduceEq, Int.reduceNeg, Int.reduceToNat, Int.reducePow, Int.reduceMod, Int.reduceDiv, Int.reduceSub, Int.reduceAdd, Int.reduceMul, Nat.reduceMul, Nat.reduceSub, Nat.reducePow, exB, resC_ptr, res_cell, nilb, nilf, faddr_p, c_ref05_Sqrt, na, za, inf, hni, ga, nn]) | (simp (maxSteps := 1000000) (disch := first | with_reducible assumption | omega) only [dxB]) | (simp only [kI_d, kG_dt, kG_df]; split) | (simp only [kI_v, kG_vt, kG_vf]; split))
      all_goals rfl
  · rw [if_neg (by omega), if_pos ka, ← (cls_zero_w ha ka).1]
    repeat' (first | (simp (maxSteps := 1000000) only [evB, if_true, if_false, ne_eq, Nat.reduceEqDiff, Nat.reduceAdd, reduceCtorEq, Int.reduceLE, Int.reduceLT, Int.reduceEq, Int.reduceNeg, Int.reduceToNat, Int.reducePow, Int.reduceMod, Int.reduceDiv, Int.reduceSub, Int.reduceAdd, Int.reduceMul, Nat.reduceMul, Nat.reduceSub, Nat.reducePow, exB, resC_ptr, res_cell, nilb, nilf, faddr_p, c_ref05_Sqrt, na, za]) | (simp (maxSteps := 1000000) (disch := first | with_reducible assumption | omega) only [dxB]) | (simp only [kI_d, kG_dt, kG_df]; split) | (simp only [kI_v, kG_vt, kG_vf]; split))
    all_goals rfl
  · rw [if_neg (by omega), if_neg (by omega)]
    have hni : ¬ (a : Int) = ((F.inf false : Nat) : Int) := by
      intro hc
      have : a = F.inf false := by omega
      rw [this, cls_inf] at ka2; exact ka2 rfl
    cases hn : F.ng a
    · rw [hn] at ga
      rw [if_neg (by decide), if_neg (by omega)]
      obtain ⟨z1, v1⟩ := ref03_Value (G := G) (T := T) hA hB hC hD hF F (sg_64 ha) fa
      have m1 := val_cls ha ka fa
      rw [← vl_val fa] at v1 m1
      have p1 := (Bd_vl F a).bl
      have r1 := ref04_Root (G := G) (T := T) hB hC hD hE F hm (z := z1) m1 ((Bd_vl F a).mono (by decide)) (by omega)
      generalize rootW F md (F.vl a) = S at *
      clear p1 m1
      generalize F.vl a = va at *
      simp only [DyA, A3] at *
      repeat' (first | (simp (maxSteps := 1000000) only [evB, if_true, if_false, ne_eq, Nat.reduceEqDiff, Nat.reduceAdd, reduceCtorEq, Int.reduceLE, Int.reduceLT, Int.reduceEq, Int.reduceNeg, Int.reduceToNat, Int.reducePow, Int.reduceMod, Int.reduceDiv, Int.reduceSub, Int.reduceAdd, Int.reduceMul, Nat.reduceMul, Nat.reduceSub, Nat.reducePow, exB, resC_ptr, res_cell, nilb, nilf, faddr_p, c_ref05_Sqrt, na, za, inf, hni, ga, v1, r1]) | (simp (maxSteps := 1000000) (disch := first | with_reducible assumption | omega) only [dxB]) | (simp only [kI_d, kG_dt, kG_df]; split) | (simp only [kI_v, kG_vt, kG_vf]; split))
      all_goals try rfl
    · rw [hn] at ga
      rw [if_pos rfl]
      repeat' (first | (simp (maxSteps := 1000000) only [evB, if_true, if_false, ne_eq, Nat.reduceEqDiff, Nat.reduceAdd, reduceCtorEq, Int.reduceLE, Int.reduceLT, Int.reduceEq, Int.reduceNeg, Int.reduceToNat, Int.reducePow, Int.reduceMod, Int.reduceDiv, Int.reduceSub, Int.reduceAdd, Int.reduceMul, Nat.reduceMul, Nat.reduceSub, Nat.reducePow, exB, resC_ptr, res_cell, nilb, nilf, faddr_p, c_ref05_Sqrt, na, za, inf, hni, ga, nn]) | (simp (maxSteps := 1000000) (disch := first | with_reducible assumption | omega) only [dxB]) | (simp only [kI_d, kG_dt, kG_df]; split) | (simp only [kI_v, kG_vt, kG_vf]; split))
      all_goals rfl
end Go.Cv

/-
  The program's words, taken apart for a sum, a product, a quotient.
-/
namespace Go.Cv
variable {G : Nat → Option (List AV)} {T : Tbl} {g : Nat}

def apB (bs : List Blk) (f : List Nat) (b n : Nat) (o : Option Blk) (w : Option (List AV)) : Option (AV × Heap) :=
  match w with
  | some nw => match o with
    | some k => if k.dead = false ∧ f.contains b = false ∧ n * 5 ≤ k.cs.length ∧ (n + 1) * 49 ≤ boundBytes then some (.own bs.length 0 (n + 1) 5, ⟨bs.set b ⟨k.cs, true⟩ ++ [⟨k.cs.take (n * 5) ++ nw, false⟩], f⟩) else none
    | none => none
  | none => none
theorem ap_x (bs : List Blk) (f : List Nat) (b n c : Nat) : appV ⟨bs, f⟩ 5 48 (.own b 0 n 5) (.own c 0 1 5) = apB bs f b n (bs[b]?) (subB (bs[c]?) 0 5) := by
  have h1 := rdBlk_x bs f c 0 5
  simp only [appV, sliceCells, if_true, Nat.one_mul, h1]
  cases subB (bs[c]?) 0 5 with
  | none => rfl
  | some nw =>
    simp only [Option.map_some, apB]
    cases bs[b]? with
    | none => rfl
    | some k => simp
theorem ap_0 (bs : List Blk) (b : Nat) (cs nw : List AV) : apB bs [] b 0 (some ⟨cs, false⟩) (some nw) = some (.own bs.length 0 1 5, ⟨bs.set b ⟨cs, true⟩ ++ [⟨nw, false⟩], []⟩) := by
  simp [apB, boundBytes]
theorem ap_1 (bs : List Blk) (b : Nat) (x1 x2 x3 x4 x5 : AV) (nw : List AV) : apB bs [] b 1 (some ⟨[x1, x2, x3, x4, x5], false⟩) (some nw) = some (.own bs.length 0 2 5, ⟨bs.set b ⟨[x1, x2, x3, x4, x5], true⟩ ++ [⟨x1 :: x2 :: x3 :: x4 :: x5 :: nw, false⟩], []⟩) := by
  simp [apB, boundBytes]
theorem ap_2 (bs : List Blk) (b : Nat) (x1 x2 x3 x4 x5 y1 y2 y3 y4 y5 : AV) (nw : List AV) : apB bs [] b 2 (some ⟨[x1, x2, x3, x4, x5, y1, y2, y3, y4, y5], false⟩) (some nw) = some (.own bs.length 0 3 5, ⟨bs.set b ⟨[x1, x2, x3, x4, x5, y1, y2, y3, y4, y5], true⟩ ++ [⟨x1 :: x2 :: x3 :: x4 :: x5 :: y1 :: y2 :: y3 :: y4 :: y5 :: nw, false⟩], []⟩) := by
  simp [apB, boundBytes]
theorem st_bs5 (F : CallF) (d : Option Nat) (os : List IOper) (e : Env) (h : Heap) (n : Nat) (zero : List AV) (ps : List (Nat × Nat × IOpd)) : evOps G F (⟨d, .bslice n 5 zero ps, none⟩ :: os) e h =
    kBs G F (fillA (repA n zero) (ps.map fun (o, n, x) => (o, n, opd e x))) (.own h.b.length 0 n 5) d os e h := st_bslice G F d os e h n 5 zero ps
theorem so_loop (e : Env) (h : Heap) : evL G T c_soft_open_l1 e h = kS G T (evL G T c_soft_open_b1 (keepE [0, 10, 31, 32, 33] e) h) c_soft_open_l1 := s_loopc G T rfl e h
theorem iw10 (x : AV) (k : IntKind) : iaddrV 1 (.imm 1 [x]) (.int k 0) = some (.iptr [x] 0) := rfl
theorem iw20 (x y : AV) (k : IntKind) : iaddrV 1 (.imm 2 [x, y]) (.int k 0) = some (.iptr [x, y] 0) := rfl
theorem iw21 (x y : AV) (k : IntKind) : iaddrV 1 (.imm 2 [x, y]) (.int k 1) = some (.iptr [x, y] 1) := rfl
theorem iw30 (x y z : AV) (k : IntKind) : iaddrV 1 (.imm 3 [x, y, z]) (.int k 0) = some (.iptr [x, y, z] 0) := rfl
theorem iw31 (x y z : AV) (k : IntKind) : iaddrV 1 (.imm 3 [x, y, z]) (.int k 1) = some (.iptr [x, y, z] 1) := rfl
theorem iw32 (x y z : AV) (k : IntKind) : iaddrV 1 (.imm 3 [x, y, z]) (.int k 2) = some (.iptr [x, y, z] 2) := rfl
theorem rp_0 (h : Mem) (x : AV) (l : List AV) : rdAt G h 1 (.iptr (x :: l) 0) = some [x] := by simp [rdAt]
theorem rp_1 (h : Mem) (x y : AV) (l : List AV) : rdAt G h 1 (.iptr (x :: y :: l) 1) = some [y] := by simp [rdAt]
theorem rp_2 (h : Mem) (x y z : AV) (l : List AV) : rdAt G h 1 (.iptr (x :: y :: z :: l) 2) = some [z] := by simp [rdAt]
theorem repA_3 (z : List AV) : repA 3 z = z ++ (z ++ z) := by simp [repA]
theorem wr_1 : IntKind.i64.wrap (0 + 1) = 1 := rfl
theorem wr_2 : IntKind.i64.wrap (1 + 1) = 2 := rfl
theorem wr_3 : IntKind.i64.wrap (2 + 1) = 3 := rfl
theorem wr1 : IntKind.i64.wrap 1 = 1 := rfl
theorem wr2 : IntKind.i64.wrap 2 = 2 := rfl
theorem wr3 : IntKind.i64.wrap 3 = 3 := rfl

/-- A part: class, sign, value. -/
def ptC (F : Fm) (w : Nat) (z : Bool) : List AV := [.int .u8 (F.cls w), .bool (F.ng w), .bool (F.vl w).n, D z (dl (F.vl w).m), .int .i64 (F.vl w).e]

set_option maxHeartbeats 8000000 in
theorem soft_open1 (hA : HasA g T) (hG : Glob G g) (hC : HasC g T) (hD : HasD g T) (hE : HasE g T) (hU : HasG g T) (F : Fm) {md : Int} (hm : 1 ≤ md ∧ md ≤ 5) {a : Nat} (ha : a < 2 * F.sg) :
    ∃ z1, run G T 176 [.int .u8 F.u, .int .u8 md, .imm 1 [.int .u64 (a : Int)]] = some (.tup [.imm 1 (ptC F a z1), .int .i64 0]) := by
  have o1 := round_Over (G := G) (T := T) hD hE F hm (neg := false)
  have s1 := word_Split (G := G) (T := T) hD hU F ha
  have c1 := word_Class (G := G) (T := T) hD hU F ha
  obtain ⟨z1, k1, v1⟩ := word_Value (G := G) (T := T) hA hG hC hD hU F ha
  refine ⟨z1, ?_⟩
  rw [run_k G T hU.soft_open]
  unfold ptC
  generalize F.cls a = ca' at *
  generalize F.ng a = na' at *
  generalize F.ex a = xa' at *
  generalize F.fc a = ya' at *
  generalize F.vl a = va' at *
  simp only [fldA, DyA, A3, List.cons_append, List.nil_append] at *
  repeat' (first | (simp (maxSteps := 1000000) only [evB, if_true, if_false, ne_eq, Nat.reduceEqDiff, Nat.reduceAdd, reduceCtorEq, Int.reduceLE, Int.reduceLT, Int.reduceEq, Int.reduceNeg, Int.reduceToNat, Int.reducePow, Int.reduceMod, Int.reduceDiv, Int.reduceSub, Int.reduceAdd, Int.reduceMul, Nat.reduceMul, Nat.reduceSub, Nat.reducePow, exB, resC_ptr, res_cell, nilb, nilf, faddr_p, c_soft_open, st_bs5, o1, s1, c1, v1, so_loop, c_soft_open_b1, iw10, rp_0, ap_0, wr_1, wr1, ap_x, List.set_cons_zero, List.set_cons_succ, List.cons_append, List.nil_append ]) | (simp (maxSteps := 1000000) (disch := first | with_reducible assumption | omega) only [dxB,  kM_int]) | (simp only [kI_d, kG_dt, kG_df]; split) | (simp only [kI_v, kG_vt, kG_vf]; split))
set_option maxHeartbeats 8000000 in
theorem soft_open2 (hA : HasA g T) (hG : Glob G g) (hC : HasC g T) (hD : HasD g T) (hE : HasE g T) (hU : HasG g T) (F : Fm) {md : Int} (hm : 1 ≤ md ∧ md ≤ 5) {a : Nat} {b : Nat} (ha : a < 2 * F.sg) (hb : b < 2 * F.sg) :
    ∃ z1 z2, run G T 176 [.int .u8 F.u, .int .u8 md, .imm 2 [.int .u64 (a : Int), .int .u64 (b : Int)]] = some (.tup [.imm 2 (ptC F a z1 ++ ptC F b z2), .int .i64 0]) := by
  have o1 := round_Over (G := G) (T := T) hD hE F hm (neg := false)
  have s1 := word_Split (G := G) (T := T) hD hU F ha
  have c1 := word_Class (G := G) (T := T) hD hU F ha
  obtain ⟨z1, k1, v1⟩ := word_Value (G := G) (T := T) hA hG hC hD hU F ha
  have s2 := word_Split (G := G) (T := T) hD hU F hb
  have c2 := word_Class (G := G) (T := T) hD hU F hb
  obtain ⟨z2, k2, v2⟩ := word_Value (G := G) (T := T) hA hG hC hD hU F hb
  refine ⟨z1, z2, ?_⟩
  rw [run_k G T hU.soft_open]
  unfold ptC
  generalize F.cls a = ca' at *
  generalize F.ng a = na' at *
  generalize F.ex a = xa' at *
  generalize F.fc a = ya' at *
  generalize F.vl a = va' at *
  generalize F.cls b = cb' at *
  generalize F.ng b = nb' at *
  generalize F.ex b = xb' at *
  generalize F.fc b = yb' at *
  generalize F.vl b = vb' at *
  simp only [fldA, DyA, A3, List.cons_append, List.nil_append] at *
  repeat' (first | (simp (maxSteps := 1000000) only [evB, if_true, if_false, ne_eq, Nat.reduceEqDiff, Nat.reduceAdd, reduceCtorEq, Int.reduceLE, Int.reduceLT, Int.reduceEq, Int.reduceNeg, Int.reduceToNat, Int.reducePow, Int.reduceMod, Int.reduceDiv, Int.reduceSub, Int.reduceAdd, Int.reduceMul, Nat.reduceMul, Nat.reduceSub, Nat.reducePow, exB, resC_ptr, res_cell, nilb, nilf, faddr_p, c_soft_open, st_bs5, o1, s1, c1, v1, s2, c2, v2, so_loop, c_soft_open_b1, iw20, iw21, rp_0, rp_1, ap_0, ap_1, wr_1, wr1, wr_2, wr2, repA_2, ap_x, List.set_cons_zero, List.set_cons_succ, List.cons_append, List.nil_append ]) | (simp (maxSteps := 1000000) (disch := first | with_reducible assumption | omega) only [dxB,  kM_int]) | (simp only [kI_d, kG_dt, kG_df]; split) | (simp only [kI_v, kG_vt, kG_vf]; split))
set_option maxHeartbeats 8000000 in
theorem soft_open3 (hA : HasA g T) (hG : Glob G g) (hC : HasC g T) (hD : HasD g T) (hE : HasE g T) (hU : HasG g T) (F : Fm) {md : Int} (hm : 1 ≤ md ∧ md ≤ 5) {a : Nat} {b : Nat} {c : Nat} (ha : a < 2 * F.sg) (hb : b < 2 * F.sg) (hc : c < 2 * F.sg) :
    ∃ z1 z2 z3, run G T 176 [.int .u8 F.u, .int .u8 md, .imm 3 [.int .u64 (a : Int), .int .u64 (b : Int), .int .u64 (c : Int)]] = some (.tup [.imm 3 (ptC F a z1 ++ ptC F b z2 ++ ptC F c z3), .int .i64 0]) := by
  have o1 := round_Over (G := G) (T := T) hD hE F hm (neg := false)
  have s1 := word_Split (G := G) (T := T) hD hU F ha
  have c1 := word_Class (G := G) (T := T) hD hU F ha
  obtain ⟨z1, k1, v1⟩ := word_Value (G := G) (T := T) hA hG hC hD hU F ha
  have s2 := word_Split (G := G) (T := T) hD hU F hb
  have c2 := word_Class (G := G) (T := T) hD hU F hb
  obtain ⟨z2, k2, v2⟩ := word_Value (G := G) (T := T) hA hG hC hD hU F hb
  have s3 := word_Split (G := G) (T := T) hD hU F hc
  have c3 := word_Class (G := G) (T := T) hD hU F hc
  obtain ⟨z3, k3, v3⟩ := word_Value (G := G) (T := T) hA hG hC hD hU F hc
  refine ⟨z1, z2, z3, ?_⟩
  rw [run_k G T hU.soft_open]
  unfold ptC
  generalize F.cls a = ca' at *
  generalize F.ng a = na' at *
  generalize F.ex a = xa' at *
  generalize F.fc a = ya' at *
  generalize F.vl a = va' at *
  generalize F.cls b = cb' at *
  generalize F.ng b = nb' at *
  generalize F.ex b = xb' at *
  generalize F.fc b = yb' at *
  generalize F.vl b = vb' at *
  generalize F.cls c = cc' at *
  generalize F.ng c = nc' at *
  generalize F.ex c = xc' at *
  generalize F.fc c = yc' at *
  generalize F.vl c = vc' at *
  simp only [fldA, DyA, A3, List.cons_append, List.nil_append] at *
  repeat' (first | (simp (maxSteps := 1000000) only [evB, if_true, if_false, ne_eq, Nat.reduceEqDiff, Nat.reduceAdd, reduceCtorEq, Int.reduceLE, Int.reduceLT, Int.reduceEq, Int.reduceNeg, Int.reduceToNat, Int.reducePow, Int.reduceMod, Int.reduceDiv, Int.reduceSub, Int.reduceAdd, Int.reduceMul, Nat.reduceMul, Nat.reduceSub, Nat.reducePow, exB, resC_ptr, res_cell, nilb, nilf, faddr_p, c_soft_open, st_bs5, o1, s1, c1, v1, s2, c2, v2, s3, c3, v3, so_loop, c_soft_open_b1, iw30, iw31, iw32, rp_0, rp_1, rp_2, ap_0, ap_1, ap_2, wr_1, wr1, wr_2, wr2, wr_3, wr3, repA_3, ap_x, List.set_cons_zero, List.set_cons_succ, List.cons_append, List.nil_append ]) | (simp (maxSteps := 1000000) (disch := first | with_reducible assumption | omega) only [dxB,  kM_int]) | (simp only [kI_d, kG_dt, kG_df]; split) | (simp only [kI_v, kG_vt, kG_vf]; split))
set_option maxHeartbeats 8000000 in
theorem soft_open1_bad1 (hA : HasA g T) (hG : Glob G g) (hC : HasC g T) (hD : HasD g T) (hE : HasE g T) (hU : HasG g T) (F : Fm) {md : Int} (hm : 1 ≤ md ∧ md ≤ 5) {a : Nat}  (hw : a < 18446744073709551616) (hbad : ¬ a < 2 * F.sg) :
    run G T 176 [.int .u8 F.u, .int .u8 md, .imm 1 [.int .u64 (a : Int)]] = some (.tup [.nil, .int .i64 6]) := by
  have o1 := round_Over (G := G) (T := T) hD hE F hm (neg := false)
  have sb := word_Split_bad (G := G) (T := T) hD hU F hw hbad
  rw [run_k G T hU.soft_open]
  simp only [fldA, DyA, A3] at *
  repeat' (first | (simp (maxSteps := 1000000) only [evB, if_true, if_false, ne_eq, Nat.reduceEqDiff, Nat.reduceAdd, reduceCtorEq, Int.reduceLE, Int.reduceLT, Int.reduceEq, Int.reduceNeg, Int.reduceToNat, Int.reducePow, Int.reduceMod, Int.reduceDiv, Int.reduceSub, Int.reduceAdd, Int.reduceMul, Nat.reduceMul, Nat.reduceSub, Nat.reducePow, exB, resC_ptr, res_cell, nilb, nilf, faddr_p, c_soft_open, st_bs5, o1, sb, so_loop, c_soft_open_b1, iw10, rp_0, ap_0, wr_1, wr1, ap_x, List.set_cons_zero, List.set_cons_succ, List.cons_append, List.nil_append ]) | (simp (maxSteps := 1000000) (disch := first | with_reducible assumption | omega) only [dxB,  kM_int]) | (simp only [kI_d, kG_dt, kG_df]; split) | (simp only [kI_v, kG_vt, kG_vf]; split))
theorem soft_open_no (hE : HasE g T) (hU : HasG g T) {f md : Int} (hf : ¬ (f = 1 ∨ f = 2)) {v : AV} :
    run G T 176 [.int .u8 f, .int .u8 md, v] = some (.tup [.nil, .int .i64 4]) := by
  rw [run_k G T hU.soft_open]
  have o1 := round_Over_no (G := G) (T := T) hE hf (m := md) (neg := false)
  repeat' (first | (simp (maxSteps := 1000000) only [evB, if_true, if_false, ne_eq, Nat.reduceEqDiff, Nat.reduceAdd, reduceCtorEq, Int.reduceLE, Int.reduceLT, Int.reduceEq, Int.reduceNeg, Int.reduceToNat, Int.reducePow, Int.reduceMod, Int.reduceDiv, Int.reduceSub, Int.reduceAdd, Int.reduceMul, Nat.reduceMul, Nat.reduceSub, Nat.reducePow, exB, resC_ptr, res_cell, nilb, nilf, faddr_p, c_soft_open, o1]) | (simp (maxSteps := 1000000) (disch := first | with_reducible assumption | omega) only [dxB]) | (simp only [kI_d, kG_dt, kG_df]; split) | (simp only [kI_v, kG_vt, kG_vf]; split))
theorem soft_open_mode (hE : HasE g T) (hU : HasG g T) (F : Fm) {md : Int} (hm : md < 1 ∨ 5 < md) {v : AV} :
    run G T 176 [.int .u8 F.u, .int .u8 md, v] = some (.tup [.nil, .int .i64 5]) := by
  rw [run_k G T hU.soft_open]
  have o1 := round_Over_mode (G := G) (T := T) hE F hm (neg := false)
  repeat' (first | (simp (maxSteps := 1000000) only [evB, if_true, if_false, ne_eq, Nat.reduceEqDiff, Nat.reduceAdd, reduceCtorEq, Int.reduceLE, Int.reduceLT, Int.reduceEq, Int.reduceNeg, Int.reduceToNat, Int.reducePow, Int.reduceMod, Int.reduceDiv, Int.reduceSub, Int.reduceAdd, Int.reduceMul, Nat.reduceMul, Nat.reduceSub, Nat.reducePow, exB, resC_ptr, res_cell, nilb, nilf, faddr_p, c_soft_open, o1]) | (simp (maxSteps := 1000000) (disch := first | with_reducible assumption | omega) only [dxB]) | (simp only [kI_d, kG_dt, kG_df]; split) | (simp only [kI_v, kG_vt, kG_vf]; split))
end Go.Cv

/-
  The program's sums of parts.
-/
namespace Go.Cv
variable {G : Nat → Option (List AV)} {T : Tbl} {g : Nat}

theorem hs_loop (e : Env) (h : Heap) : evL G T c_soft_has_l1 e h = kS G T (evL G T c_soft_has_b1 (keepE [0, 7, 8, 9] e) h) c_soft_has_l1 := s_loopc G T rfl e h
section
variable (a1 a2 a3 a4 a5 b1 b2 b3 b4 b5 c1 c2 c3 c4 c5 : AV) (k : IntKind)
theorem i5_10 : iaddrV 5 (.imm 1 [a1, a2, a3, a4, a5]) (.int k 0) = some (.iptr [a1, a2, a3, a4, a5] 0) := rfl
theorem i5_20 : iaddrV 5 (.imm 2 [a1, a2, a3, a4, a5, b1, b2, b3, b4, b5]) (.int k 0) = some (.iptr [a1, a2, a3, a4, a5, b1, b2, b3, b4, b5] 0) := rfl
theorem i5_21 : iaddrV 5 (.imm 2 [a1, a2, a3, a4, a5, b1, b2, b3, b4, b5]) (.int k 1) = some (.iptr [a1, a2, a3, a4, a5, b1, b2, b3, b4, b5] 5) := rfl
theorem i5_30 : iaddrV 5 (.imm 3 [a1, a2, a3, a4, a5, b1, b2, b3, b4, b5, c1, c2, c3, c4, c5]) (.int k 0) = some (.iptr [a1, a2, a3, a4, a5, b1, b2, b3, b4, b5, c1, c2, c3, c4, c5] 0) := rfl
theorem i5_31 : iaddrV 5 (.imm 3 [a1, a2, a3, a4, a5, b1, b2, b3, b4, b5, c1, c2, c3, c4, c5]) (.int k 1) = some (.iptr [a1, a2, a3, a4, a5, b1, b2, b3, b4, b5, c1, c2, c3, c4, c5] 5) := rfl
theorem i5_32 : iaddrV 5 (.imm 3 [a1, a2, a3, a4, a5, b1, b2, b3, b4, b5, c1, c2, c3, c4, c5]) (.int k 2) = some (.iptr [a1, a2, a3, a4, a5, b1, b2, b3, b4, b5, c1, c2, c3, c4, c5] 10) := rfl
theorem r5_0 (h : Mem) (l : List AV) : rdAt G h 5 (.iptr (a1 :: a2 :: a3 :: a4 :: a5 :: l) 0) = some [a1, a2, a3, a4, a5] := by simp [rdAt]
theorem r5_5 (h : Mem) (l : List AV) : rdAt G h 5 (.iptr (a1 :: a2 :: a3 :: a4 :: a5 :: b1 :: b2 :: b3 :: b4 :: b5 :: l) 5) = some [b1, b2, b3, b4, b5] := by simp [rdAt]
theorem r5_10 (h : Mem) (l : List AV) : rdAt G h 5 (.iptr (a1 :: a2 :: a3 :: a4 :: a5 :: b1 :: b2 :: b3 :: b4 :: b5 :: c1 :: c2 :: c3 :: c4 :: c5 :: l) 10) = some [c1, c2, c3, c4, c5] := by simp [rdAt]
end

theorem soft_has2 (hU : HasG g T) {k c c' : Int} {n s n' s' z z' : Bool} {l l' : List Nat} {e e' : Int} :
    run G T 178 [.int .u8 k, .imm 2 [.int .u8 c, .bool n, .bool s, D z l, .int .i64 e, .int .u8 c', .bool n', .bool s', D z' l', .int .i64 e']] = some (.bool (decide (c = k ∨ c' = k))) := by
  rw [run_k G T hU.soft_has]
  by_cases h1 : c = k
  · rw [decide_eq_true (Or.inl h1)]
    repeat' (first | (simp (maxSteps := 1000000) only [evB, if_true, if_false, ne_eq, Nat.reduceEqDiff, Nat.reduceAdd, reduceCtorEq, Int.reduceLE, Int.reduceLT, Int.reduceEq, Int.reduceNeg, Int.reduceToNat, Int.reducePow, Int.reduceMod, Int.reduceDiv, Int.reduceSub, Int.reduceAdd, Int.reduceMul, Nat.reduceMul, Nat.reduceSub, Nat.reducePow, exB, resC_ptr, res_cell, nilb, nilf, faddr_p, c_soft_has, hs_loop, c_soft_has_b1, i5_20, i5_21, r5_0, r5_5, wr_1, wr1, wr_2, wr2, h1]) | (simp (maxSteps := 1000000) (disch := first | with_reducible assumption | omega) only [dxB]) | (simp only [kI_d, kG_dt, kG_df]; split) | (simp only [kI_v, kG_vt, kG_vf]; split))
  · by_cases h2 : c' = k
    · rw [decide_eq_true (Or.inr h2)]
      repeat' (first | (simp (maxSteps := 1000000) only [evB, if_true, if_false, ne_eq, Nat.reduceEqDiff, Nat.reduceAdd, reduceCtorEq, Int.reduceLE, Int.reduceLT, Int.reduceEq, Int.reduceNeg, Int.reduceToNat, Int.reducePow, Int.reduceMod, Int.reduceDiv, Int.reduceSub, Int.reduceAdd, Int.reduceMul, Nat.reduceMul, Nat.reduceSub, Nat.reducePow, exB, resC_ptr, res_cell, nilb, nilf, faddr_p, c_soft_has, hs_loop, c_soft_has_b1, i5_20, i5_21, r5_0, r5_5, wr_1, wr1, wr_2, wr2, h1, h2]) | (simp (maxSteps := 1000000) (disch := first | with_reducible assumption | omega) only [dxB]) | (simp only [kI_d, kG_dt, kG_df]; split) | (simp only [kI_v, kG_vt, kG_vf]; split))
    · rw [decide_eq_false (by omega)]
      repeat' (first | (simp (maxSteps := 1000000) only [evB, if_true, if_false, ne_eq, Nat.reduceEqDiff, Nat.reduceAdd, reduceCtorEq, Int.reduceLE, Int.reduceLT, Int.reduceEq, Int.reduceNeg, Int.reduceToNat, Int.reducePow, Int.reduceMod, Int.reduceDiv, Int.reduceSub, Int.reduceAdd, Int.reduceMul, Nat.reduceMul, Nat.reduceSub, Nat.reducePow, exB, resC_ptr, res_cell, nilb, nilf, faddr_p, c_soft_has, hs_loop, c_soft_has_b1, i5_20, i5_21, r5_0, r5_5, wr_1, wr1, wr_2, wr2, h1, h2]) | (simp (maxSteps := 1000000) (disch := first | with_reducible assumption | omega) only [dxB]) | (simp only [kI_d, kG_dt, kG_df]; split) | (simp only [kI_v, kG_vt, kG_vf]; split))
set_option maxHeartbeats 2000000 in
theorem soft_has3 (hU : HasG g T) {k c c' c'' : Int} {n s n' s' n'' s'' z z' z'' : Bool} {l l' l'' : List Nat} {e e' e'' : Int} :
    run G T 178 [.int .u8 k, .imm 3 [.int .u8 c, .bool n, .bool s, D z l, .int .i64 e, .int .u8 c', .bool n', .bool s', D z' l', .int .i64 e', .int .u8 c'', .bool n'', .bool s'', D z'' l'', .int .i64 e'']] = some (.bool (decide (c = k ∨ c' = k ∨ c'' = k))) := by
  rw [run_k G T hU.soft_has]
  by_cases h1 : c = k
  · rw [decide_eq_true (Or.inl h1)]
    repeat' (first | (simp (maxSteps := 1000000) only [evB, if_true, if_false, ne_eq, Nat.reduceEqDiff, Nat.reduceAdd, reduceCtorEq, Int.reduceLE, Int.reduceLT, Int.reduceEq, Int.reduceNeg, Int.reduceToNat, Int.reducePow, Int.reduceMod, Int.reduceDiv, Int.reduceSub, Int.reduceAdd, Int.reduceMul, Nat.reduceMul, Nat.reduceSub, Nat.reducePow, exB, resC_ptr, res_cell, nilb, nilf, faddr_p, c_soft_has, hs_loop, c_soft_has_b1, i5_30, i5_31, i5_32, r5_0, r5_5, r5_10, wr_1, wr1, wr_2, wr2, wr_3, wr3, h1]) | (simp (maxSteps := 1000000) (disch := first | with_reducible assumption | omega) only [dxB]) | (simp only [kI_d, kG_dt, kG_df]; split) | (simp only [kI_v, kG_vt, kG_vf]; split))
  · by_cases h2 : c' = k
    · rw [decide_eq_true (Or.inr (Or.inl h2))]
      repeat' (first | (simp (maxSteps := 1000000) only [evB, if_true, if_false, ne_eq, Nat.reduceEqDiff, Nat.reduceAdd, reduceCtorEq, Int.reduceLE, Int.reduceLT, Int.reduceEq, Int.reduceNeg, Int.reduceToNat, Int.reducePow, Int.reduceMod, Int.reduceDiv, Int.reduceSub, Int.reduceAdd, Int.reduceMul, Nat.reduceMul, Nat.reduceSub, Nat.reducePow, exB, resC_ptr, res_cell, nilb, nilf, faddr_p, c_soft_has, hs_loop, c_soft_has_b1, i5_30, i5_31, i5_32, r5_0, r5_5, r5_10, wr_1, wr1, wr_2, wr2, wr_3, wr3, h1, h2]) | (simp (maxSteps := 1000000) (disch := first | with_reducible assumption | omega) only [dxB]) | (simp only [kI_d, kG_dt, kG_df]; split) | (simp only [kI_v, kG_vt, kG_vf]; split))
    · by_cases h3 : c'' = k
      · rw [decide_eq_true (Or.inr (Or.inr h3))]
        repeat' (first | (simp (maxSteps := 1000000) only [evB, if_true, if_false, ne_eq, Nat.reduceEqDiff, Nat.reduceAdd, reduceCtorEq, Int.reduceLE, Int.reduceLT, Int.reduceEq, Int.reduceNeg, Int.reduceToNat, Int.reducePow, Int.reduceMod, Int.reduceDiv, Int.reduceSub, Int.reduceAdd, Int.reduceMul, Nat.reduceMul, Nat.reduceSub, Nat.reducePow, exB, resC_ptr, res_cell, nilb, nilf, faddr_p, c_soft_has, hs_loop, c_soft_has_b1, i5_30, i5_31, i5_32, r5_0, r5_5, r5_10, wr_1, wr1, wr_2, wr2, wr_3, wr3, h1, h2, h3]) | (simp (maxSteps := 1000000) (disch := first | with_reducible assumption | omega) only [dxB]) | (simp only [kI_d, kG_dt, kG_df]; split) | (simp only [kI_v, kG_vt, kG_vf]; split))
      · rw [decide_eq_false (by omega)]
        repeat' (first | (simp (maxSteps := 1000000) only [evB, if_true, if_false, ne_eq, Nat.reduceEqDiff, Nat.reduceAdd, reduceCtorEq, Int.reduceLE, Int.reduceLT, Int.reduceEq, Int.reduceNeg, Int.reduceToNat, Int.reducePow, Int.reduceMod, Int.reduceDiv, Int.reduceSub, Int.reduceAdd, Int.reduceMul, Nat.reduceMul, Nat.reduceSub, Nat.reducePow, exB, resC_ptr, res_cell, nilb, nilf, faddr_p, c_soft_has, hs_loop, c_soft_has_b1, i5_30, i5_31, i5_32, r5_0, r5_5, r5_10, wr_1, wr1, wr_2, wr2, wr_3, wr3, h1, h2, h3]) | (simp (maxSteps := 1000000) (disch := first | with_reducible assumption | omega) only [dxB]) | (simp only [kI_d, kG_dt, kG_df]; split) | (simp only [kI_v, kG_vt, kG_vf]; split))

def deskA (F : Fm) (md : Int) : AV := .agg [.int .u8 F.u, .int .u8 md]
def ptA (c : Int) (n z : Bool) (d : Dy) : AV := .agg [.int .u8 c, .bool n, .bool d.n, D z (dl d.m), .int .i64 d.e]

theorem desk_none (hD : HasD g T) (hU : HasG g T) (F : Fm) {md x : Int} : run G T 179 [deskA F md, .int .u8 x] = some (.tup [.int .u64 (F.nan : Int), .int .u8 x, .int .i64 0]) := by
  rw [run_k G T hU.soft_desk_none]
  have h1 := word_None (G := G) (T := T) hU hD F
  simp only [deskA] at *
  repeat' (first | (simp (maxSteps := 1000000) only [evB, if_true, if_false, ne_eq, Nat.reduceEqDiff, Nat.reduceAdd, reduceCtorEq, Int.reduceLE, Int.reduceLT, Int.reduceEq, Int.reduceNeg, Int.reduceToNat, Int.reducePow, Int.reduceMod, Int.reduceDiv, Int.reduceSub, Int.reduceAdd, Int.reduceMul, Nat.reduceMul, Nat.reduceSub, Nat.reducePow, exB, resC_ptr, res_cell, nilb, nilf, faddr_p, c_soft_desk_none, h1]) | (simp (maxSteps := 1000000) (disch := first | with_reducible assumption | omega) only [dxB]) | (simp only [kI_d, kG_dt, kG_df]; split) | (simp only [kI_v, kG_vt, kG_vf]; split))
theorem desk_inf (hD : HasD g T) (hU : HasG g T) (F : Fm) {md x : Int} {n : Bool} : run G T 180 [deskA F md, .bool n, .int .u8 x] = some (.tup [.int .u64 ((F.inf n : Nat) : Int), .int .u8 x, .int .i64 0]) := by
  rw [run_k G T hU.soft_desk_inf]
  have h1 := word_Inf (G := G) (T := T) hD F (n := n)
  simp only [deskA] at *
  cases n <;> repeat' (first | (simp (maxSteps := 1000000) only [evB, if_true, if_false, ne_eq, Nat.reduceEqDiff, Nat.reduceAdd, reduceCtorEq, Int.reduceLE, Int.reduceLT, Int.reduceEq, Int.reduceNeg, Int.reduceToNat, Int.reducePow, Int.reduceMod, Int.reduceDiv, Int.reduceSub, Int.reduceAdd, Int.reduceMul, Nat.reduceMul, Nat.reduceSub, Nat.reducePow, exB, resC_ptr, res_cell, nilb, nilf, faddr_p, c_soft_desk_inf, h1]) | (simp (maxSteps := 1000000) (disch := first | with_reducible assumption | omega) only [dxB]) | (simp only [kI_d, kG_dt, kG_df]; split) | (simp only [kI_v, kG_vt, kG_vf]; split))
theorem desk_zero (hD : HasD g T) (hU : HasG g T) (F : Fm) {md : Int} {n : Bool} : run G T 181 [deskA F md, .bool n] = some (.tup [.int .u64 ((F.sgn n : Nat) : Int), .int .u8 0, .int .i64 0]) := by
  rw [run_k G T hU.soft_desk_zero]
  have h1 := word_Zero (G := G) (T := T) hD F (n := n)
  simp only [deskA] at *
  cases n <;> repeat' (first | (simp (maxSteps := 1000000) only [evB, if_true, if_false, ne_eq, Nat.reduceEqDiff, Nat.reduceAdd, reduceCtorEq, Int.reduceLE, Int.reduceLT, Int.reduceEq, Int.reduceNeg, Int.reduceToNat, Int.reducePow, Int.reduceMod, Int.reduceDiv, Int.reduceSub, Int.reduceAdd, Int.reduceMul, Nat.reduceMul, Nat.reduceSub, Nat.reducePow, exB, resC_ptr, res_cell, nilb, nilf, faddr_p, c_soft_desk_zero, h1]) | (simp (maxSteps := 1000000) (disch := first | with_reducible assumption | omega) only [dxB]) | (simp only [kI_d, kG_dt, kG_df]; split) | (simp only [kI_v, kG_vt, kG_vf]; split))
theorem desk_sum (hA : HasA g T) (hG : Glob G g) (hC : HasC g T) (hD : HasD g T) (hE : HasE g T) (hU : HasG g T) (F : Fm) {md : Int} (hm : 1 ≤ md ∧ md ≤ 5) {z : Bool} {d : Dy} (hz : Nz d) (hb : Bd d 131072) :
    run G T 183 [deskA F md, DyA z d] = some (.tup [.int .u64 ((sumW F md d).1 : Int), .int .u8 ((sumW F md d).2 : Int), .int .i64 0]) := by
  rw [run_k G T hU.soft_desk_sum]
  have hmd := mayD_nzb hz hb
  have s1 := dyad_Sign (G := G) (T := T) hA hC (n := d.n) (z := z) (Dg_dl d.m) (e := d.e)
  rw [sign_may hmd] at s1
  unfold sumW
  by_cases h0 : d.m = 0
  · rw [if_pos h0] at s1 ⊢
    have h1 := desk_zero (G := G) (T := T) hD hU F (md := md) (n := decide (md = 5))
    simp only [deskA, DyA, A3] at *
    repeat' (first | (simp (maxSteps := 1000000) only [evB, if_true, if_false, ne_eq, Nat.reduceEqDiff, Nat.reduceAdd, reduceCtorEq, Int.reduceLE, Int.reduceLT, Int.reduceEq, Int.reduceNeg, Int.reduceToNat, Int.reducePow, Int.reduceMod, Int.reduceDiv, Int.reduceSub, Int.reduceAdd, Int.reduceMul, Nat.reduceMul, Nat.reduceSub, Nat.reducePow, exB, resC_ptr, res_cell, nilb, nilf, faddr_p, c_soft_desk_sum, s1, h1]) | (simp (maxSteps := 1000000) (disch := first | with_reducible assumption | omega) only [dxB]) | (simp only [kI_d, kG_dt, kG_df]; split) | (simp only [kI_v, kG_vt, kG_vf]; split))
    all_goals try rfl
  · rw [if_neg h0] at s1 ⊢
    have h1 := round_Round (G := G) (T := T) hA hC hG hD hE F hm (z := z) (d := d) hmd
    have c1 : ¬ (if d.n = true then (-1 : Int) else 1) = 0 := by split <;> decide
    generalize (if d.n = true then (-1 : Int) else 1) = sg at *
    generalize rndW F md d = S at *
    simp only [deskA, DyA, A3] at *
    repeat' (first | (simp (maxSteps := 1000000) only [evB, if_true, if_false, ne_eq, Nat.reduceEqDiff, Nat.reduceAdd, reduceCtorEq, Int.reduceLE, Int.reduceLT, Int.reduceEq, Int.reduceNeg, Int.reduceToNat, Int.reducePow, Int.reduceMod, Int.reduceDiv, Int.reduceSub, Int.reduceAdd, Int.reduceMul, Nat.reduceMul, Nat.reduceSub, Nat.reducePow, exB, resC_ptr, res_cell, nilb, nilf, faddr_p, c_soft_desk_sum, s1, c1, h1]) | (simp (maxSteps := 1000000) (disch := first | with_reducible assumption | omega) only [dxB]) | (simp only [kI_d, kG_dt, kG_df]; split) | (simp only [kI_v, kG_vt, kG_vf]; split))
    all_goals try rfl

set_option maxHeartbeats 8000000 in
theorem desk_add (hA : HasA g T) (hG : Glob G g) (hC : HasC g T) (hD : HasD g T) (hE : HasE g T) (hU : HasG g T) (F : Fm) {md : Int} (hm : 1 ≤ md ∧ md ≤ 5) {c c' : Int} {n n' z z' : Bool} {d d' : Dy}
    (hz : Nz d) (hz' : Nz d') (hb : Bd d 16384) (hb' : Bd d' 16384) :
    run G T 177 [deskA F md, ptA c n z d, ptA c' n' z' d'] = some (.tup [.int .u64 ((addP F md c n d c' n' d').1 : Int), .int .u8 ((addP F md c n d c' n' d').2 : Int), .int .i64 0]) := by
  rw [run_k G T hU.soft_desk_add]
  have h5 := soft_has2 (G := G) (T := T) hU (k := 5) (c := c) (c' := c') (n := n) (s := d.n) (n' := n') (s' := d'.n) (z := z) (z' := z') (l := dl d.m) (l' := dl d'.m) (e := d.e) (e' := d'.e)
  have nn := fun x => desk_none (G := G) (T := T) hD hU F (md := md) (x := x)
  have inf := fun m => desk_inf (G := G) (T := T) hD hU F (md := md) (x := 0) (n := m)
  have ze := fun m => desk_zero (G := G) (T := T) hD hU F (md := md) (n := m)
  unfold addP
  by_cases a5 : c = 5 ∨ c' = 5
  · rw [decide_eq_true a5] at h5
    rw [if_pos a5]
    simp only [deskA, ptA] at *
    repeat' (first | (simp (maxSteps := 1000000) only [evB, if_true, if_false, ne_eq, Nat.reduceEqDiff, Nat.reduceAdd, reduceCtorEq, Int.reduceLE, Int.reduceLT, Int.reduceEq, Int.reduceNeg, Int.reduceToNat, Int.reducePow, Int.reduceMod, Int.reduceDiv, Int.reduceSub, Int.reduceAdd, Int.reduceMul, Nat.reduceMul, Nat.reduceSub, Nat.reducePow, exB, resC_ptr, res_cell, nilb, nilf, faddr_p, c_soft_desk_add, st_bs5, h5, nn]) | (simp (maxSteps := 1000000) (disch := first | with_reducible assumption | omega) only [dxB]) | (simp only [kI_d, kG_dt, kG_df]; split) | (simp only [kI_v, kG_vt, kG_vf]; split))
    all_goals try rfl
  · rw [decide_eq_false a5] at h5
    rw [if_neg a5]
    by_cases a4 : c = 4
    · by_cases b4 : c' = 4
      · by_cases hn : n = n'
        · rw [if_neg (show ¬ (c = 4 ∧ c' = 4 ∧ n ≠ n') from fun h => h.2.2 hn), if_pos a4]
          have i1 := inf n'
          subst a4 b4 hn
          simp only [deskA, ptA] at *
          cases n <;> (
            repeat' (first | (simp (maxSteps := 1000000) only [evB, if_true, if_false, ne_eq, Nat.reduceEqDiff, Nat.reduceAdd, reduceCtorEq, Int.reduceLE, Int.reduceLT, Int.reduceEq, Int.reduceNeg, Int.reduceToNat, Int.reducePow, Int.reduceMod, Int.reduceDiv, Int.reduceSub, Int.reduceAdd, Int.reduceMul, Nat.reduceMul, Nat.reduceSub, Nat.reducePow, exB, resC_ptr, res_cell, nilb, nilf, faddr_p, c_soft_desk_add, st_bs5, h5, i1]) | (simp (maxSteps := 1000000) (disch := first | with_reducible assumption | omega) only [dxB]) | (simp only [kI_d, kG_dt, kG_df]; split) | (simp only [kI_v, kG_vt, kG_vf]; split))
            all_goals try rfl)
        · rw [if_pos (show c = 4 ∧ c' = 4 ∧ n ≠ n' from ⟨a4, b4, hn⟩)]
          subst a4 b4
          simp only [deskA, ptA] at *
          cases n <;> cases n' <;> first | exact absurd rfl hn | (
            repeat' (first | (simp (maxSteps := 1000000) only [evB, if_true, if_false, ne_eq, Nat.reduceEqDiff, Nat.reduceAdd, reduceCtorEq, Int.reduceLE, Int.reduceLT, Int.reduceEq, Int.reduceNeg, Int.reduceToNat, Int.reducePow, Int.reduceMod, Int.reduceDiv, Int.reduceSub, Int.reduceAdd, Int.reduceMul, Nat.reduceMul, Nat.reduceSub, Nat.reducePow, exB, resC_ptr, res_cell, nilb, nilf, faddr_p, c_soft_desk_add, st_bs5, h5, nn]) | (simp (maxSteps := 1000000) (disch := first | with_reducible assumption | omega) only [dxB]) | (simp only [kI_d, kG_dt, kG_df]; split) | (simp only [kI_v, kG_vt, kG_vf]; split))
            all_goals try rfl)
      · rw [if_neg (show ¬ (c = 4 ∧ c' = 4 ∧ n ≠ n') by omega), if_pos a4]
        have i1 := inf n
        subst a4
        simp only [deskA, ptA] at *
        cases n <;> (
          repeat' (first | (simp (maxSteps := 1000000) only [evB, if_true, if_false, ne_eq, Nat.reduceEqDiff, Nat.reduceAdd, reduceCtorEq, Int.reduceLE, Int.reduceLT, Int.reduceEq, Int.reduceNeg, Int.reduceToNat, Int.reducePow, Int.reduceMod, Int.reduceDiv, Int.reduceSub, Int.reduceAdd, Int.reduceMul, Nat.reduceMul, Nat.reduceSub, Nat.reducePow, exB, resC_ptr, res_cell, nilb, nilf, faddr_p, c_soft_desk_add, st_bs5, h5, b4, i1]) | (simp (maxSteps := 1000000) (disch := first | with_reducible assumption | omega) only [dxB]) | (simp only [kI_d, kG_dt, kG_df]; split) | (simp only [kI_v, kG_vt, kG_vf]; split))
          all_goals try rfl)
    · rw [if_neg (show ¬ (c = 4 ∧ c' = 4 ∧ n ≠ n') by omega), if_neg a4]
      by_cases b4 : c' = 4
      · rw [if_pos b4]
        have i1 := inf n'
        subst b4
        simp only [deskA, ptA] at *
        cases n' <;> (
          repeat' (first | (simp (maxSteps := 1000000) only [evB, if_true, if_false, ne_eq, Nat.reduceEqDiff, Nat.reduceAdd, reduceCtorEq, Int.reduceLE, Int.reduceLT, Int.reduceEq, Int.reduceNeg, Int.reduceToNat, Int.reducePow, Int.reduceMod, Int.reduceDiv, Int.reduceSub, Int.reduceAdd, Int.reduceMul, Nat.reduceMul, Nat.reduceSub, Nat.reducePow, exB, resC_ptr, res_cell, nilb, nilf, faddr_p, c_soft_desk_add, st_bs5, h5, a4, i1]) | (simp (maxSteps := 1000000) (disch := first | with_reducible assumption | omega) only [dxB]) | (simp only [kI_d, kG_dt, kG_df]; split) | (simp only [kI_v, kG_vt, kG_vf]; split))
          all_goals try rfl)
      · rw [if_neg b4]
        by_cases h1 : c = 1 ∧ c' = 1 ∧ n = n'
        · rw [if_pos h1]
          have i1 := ze n
          obtain ⟨k1, k2, k3⟩ := h1
          subst k1 k2 k3
          simp only [deskA, ptA] at *
          cases n <;> (
            repeat' (first | (simp (maxSteps := 1000000) only [evB, if_true, if_false, ne_eq, Nat.reduceEqDiff, Nat.reduceAdd, reduceCtorEq, Int.reduceLE, Int.reduceLT, Int.reduceEq, Int.reduceNeg, Int.reduceToNat, Int.reducePow, Int.reduceMod, Int.reduceDiv, Int.reduceSub, Int.reduceAdd, Int.reduceMul, Nat.reduceMul, Nat.reduceSub, Nat.reducePow, exB, resC_ptr, res_cell, nilb, nilf, faddr_p, c_soft_desk_add, st_bs5, h5, i1]) | (simp (maxSteps := 1000000) (disch := first | with_reducible assumption | omega) only [dxB]) | (simp only [kI_d, kG_dt, kG_df]; split) | (simp only [kI_v, kG_vt, kG_vf]; split))
            all_goals try rfl)
        · rw [if_neg h1]
          obtain ⟨z3, s1⟩ := dyad_Add (G := G) (T := T) hA hG hC hU (z := z) (y := z') hb hb' (mayD_nzb hz (hb.mono (by decide))) (mayD_nzb hz' (hb'.mono (by decide)))
          have s2 := desk_sum (G := G) (T := T) hA hG hC hD hE hU F hm (z := z3) (Nz_add hz hz') ((Bd_add hb hb').mono (by decide))
          generalize sumW F md (addD d d') = S at *
          generalize addD d d' = s at *
          have hk : ¬ c = 1 ∨ (c = 1 ∧ ¬ c' = 1) ∨ (c = 1 ∧ c' = 1 ∧ n ≠ n') := by
            by_cases q1 : c = 1
            · by_cases q2 : c' = 1
              · right; right; exact ⟨q1, q2, fun h => h1 ⟨q1, q2, h⟩⟩
              · right; left; exact ⟨q1, q2⟩
            · left; exact q1
          clear h1 hb hb' hz hz' inf ze nn
          simp only [deskA, ptA, DyA, A3] at *
          rcases hk with k1 | ⟨k1, k2⟩ | ⟨k1, k2, k3⟩
          · repeat' (first | (simp (maxSteps := 1000000) only [evB, if_true, if_false, ne_eq, Nat.reduceEqDiff, Nat.reduceAdd, reduceCtorEq, Int.reduceLE, Int.reduceLT, Int.reduceEq, Int.reduceNeg, Int.reduceToNat, Int.reducePow, Int.reduceMod, Int.reduceDiv, Int.reduceSub, Int.reduceAdd, Int.reduceMul, Nat.reduceMul, Nat.reduceSub, Nat.reducePow, exB, resC_ptr, res_cell, nilb, nilf, faddr_p, c_soft_desk_add, st_bs5, h5, a4, b4, k1, s1, s2]) | (simp (maxSteps := 1000000) (disch := first | with_reducible assumption | omega) only [dxB]) | (simp only [kI_d, kG_dt, kG_df]; split) | (simp only [kI_v, kG_vt, kG_vf]; split))
            all_goals try rfl
          · subst k1
            repeat' (first | (simp (maxSteps := 1000000) only [evB, if_true, if_false, ne_eq, Nat.reduceEqDiff, Nat.reduceAdd, reduceCtorEq, Int.reduceLE, Int.reduceLT, Int.reduceEq, Int.reduceNeg, Int.reduceToNat, Int.reducePow, Int.reduceMod, Int.reduceDiv, Int.reduceSub, Int.reduceAdd, Int.reduceMul, Nat.reduceMul, Nat.reduceSub, Nat.reducePow, exB, resC_ptr, res_cell, nilb, nilf, faddr_p, c_soft_desk_add, st_bs5, h5, a4, b4, k2, s1, s2]) | (simp (maxSteps := 1000000) (disch := first | with_reducible assumption | omega) only [dxB]) | (simp only [kI_d, kG_dt, kG_df]; split) | (simp only [kI_v, kG_vt, kG_vf]; split))
            all_goals try rfl
          · subst k1 k2
            cases n <;> cases n' <;> first | exact absurd rfl k3 | (
              repeat' (first | (simp (maxSteps := 1000000) only [evB, if_true, if_false, ne_eq, Nat.reduceEqDiff, Nat.reduceAdd, reduceCtorEq, Int.reduceLE, Int.reduceLT, Int.reduceEq, Int.reduceNeg, Int.reduceToNat, Int.reducePow, Int.reduceMod, Int.reduceDiv, Int.reduceSub, Int.reduceAdd, Int.reduceMul, Nat.reduceMul, Nat.reduceSub, Nat.reducePow, exB, resC_ptr, res_cell, nilb, nilf, faddr_p, c_soft_desk_add, st_bs5, h5, s1, s2]) | (simp (maxSteps := 1000000) (disch := first | with_reducible assumption | omega) only [dxB]) | (simp only [kI_d, kG_dt, kG_df]; split) | (simp only [kI_v, kG_vt, kG_vf]; split))
              all_goals try rfl)
end Go.Cv

/-
  The program's sums, differences, products, quotients, roots of words.
-/
namespace Go.Cv
variable {G : Nat → Option (List AV)} {T : Tbl} {g : Nat}

theorem apart_ip (cs : List AV) (o b o' : Nat) : apart (.iptr cs o) (.ptr b o') = true := rfl
theorem soft_Add (hA : HasA g T) (hG : Glob G g) (hC : HasC g T) (hD : HasD g T) (hE : HasE g T) (hU : HasG g T) (F : Fm) {md : Int} (hm : 1 ≤ md ∧ md ≤ 5) {a b : Nat} (ha : a < 2 * F.sg) (hb : b < 2 * F.sg) :
    run G T 164 [.int .u8 F.u, .int .u8 md, .int .u64 (a : Int), .int .u64 (b : Int)] = some (.tup [.int .u64 ((addW F md a b).1 : Int), .int .u8 ((addW F md a b).2 : Int), .int .i64 0]) := by
  rw [run_k G T hU.soft_Add]
  obtain ⟨z1, z2, o1⟩ := soft_open2 (G := G) (T := T) hA hG hC hD hE hU F hm ha hb
  have s1 := desk_add (G := G) (T := T) hA hG hC hD hE hU F hm (c := F.cls a) (n := F.ng a) (z := z1) (d := F.vl a) (c' := F.cls b) (n' := F.ng b) (z' := z2) (d' := F.vl b) (Nz_vl F a) (Nz_vl F b) ((Bd_vl F a).mono (by decide)) ((Bd_vl F b).mono (by decide))
  unfold addW
  generalize addP F md (F.cls a) (F.ng a) (F.vl a) (F.cls b) (F.ng b) (F.vl b) = S at *
  unfold ptC at o1
  generalize F.cls a = ca at *
  generalize F.ng a = na at *
  generalize F.vl a = va at *
  generalize F.cls b = cb at *
  generalize F.ng b = nb at *
  generalize F.vl b = vb at *
  simp only [deskA, ptA, List.cons_append, List.nil_append] at *
  repeat' (first | (simp (maxSteps := 1000000) only [evB, if_true, if_false, ne_eq, Nat.reduceEqDiff, Nat.reduceAdd, reduceCtorEq, Int.reduceLE, Int.reduceLT, Int.reduceEq, Int.reduceNeg, Int.reduceToNat, Int.reducePow, Int.reduceMod, Int.reduceDiv, Int.reduceSub, Int.reduceAdd, Int.reduceMul, Nat.reduceMul, Nat.reduceSub, Nat.reducePow, exB, resC_ptr, res_cell, nilb, nilf, faddr_p, c_soft_Add, o1, i5_20, i5_21, r5_0, r5_5, s1]) | (simp (maxSteps := 1000000) (disch := first | with_reducible assumption | omega) only [dxB]) | (simp only [kI_d, kG_dt, kG_df]; split) | (simp only [kI_v, kG_vt, kG_vf]; split))
  all_goals try rfl

end Go.Cv

/-
  The program's quotients, roots, fused products of words.
-/
namespace Go.Cv
variable {G : Nat → Option (List AV)} {T : Tbl} {g : Nat}

theorem vl_ne {F : Fm} {w : Nat} (h : w < 2 * F.sg) (h1 : F.cls w ≠ 1) (h4 : F.cls w ≠ 4) (h5 : F.cls w ≠ 5) : (F.vl w).m ≠ 0 := by
  have r := cls_range F w
  have hf : F.fin w := fin_iff.2 (by omega)
  have := val_cls h h1 hf
  rw [← vl_val hf] at this
  exact this

theorem soft_Sqrt (hA : HasA g T) (hG : Glob G g) (hC : HasC g T) (hD : HasD g T) (hE : HasE g T) (hU : HasG g T) (hV : HasH g T) (F : Fm) {md : Int} (hm : 1 ≤ md ∧ md ≤ 5) {a : Nat} (ha : a < 2 * F.sg) :
    run G T 224 [.int .u8 F.u, .int .u8 md, .int .u64 (a : Int)] = some (.tup [.int .u64 ((sqrtW F md a).1 : Int), .int .u8 ((sqrtW F md a).2 : Int), .int .i64 0]) := by
  rw [run_k G T hV.soft_Sqrt]
  obtain ⟨z1, o1⟩ := soft_open1 (G := G) (T := T) hA hG hC hD hE hU F hm ha
  have nn := fun x => desk_none (G := G) (T := T) hD hU F (md := md) (x := x)
  have inf := desk_inf (G := G) (T := T) hD hU F (md := md) (x := 0) (n := false)
  have ze := desk_zero (G := G) (T := T) hD hU F (md := md) (n := F.ng a)
  have hr : F.cls a ≠ 1 → F.cls a ≠ 4 → F.cls a ≠ 5 → F.ng a = false → run G T 18 [.int .u8 F.u, .int .u8 md, DyA z1 (F.vl a)] = some (.tup [.int .u64 ((rootW F md (F.vl a)).1 : Int), .int .u8 ((rootW F md (F.vl a)).2 : Int), .int .i64 0]) := fun k1 k2 k3 k4 => by
    have r := cls_range F a
    have hf : F.fin a := fin_iff.2 (by omega)
    have hn : (F.vl a).n = false := by rw [vl_val hf, val_neg_cls ha k1 hf, k4]
    exact round_Root (G := G) (T := T) hA hC hG hD hE F hm (mayD_nzb (Nz_vl F a) ((Bd_vl F a).mono (by decide))) (vl_ne ha k1 k2 k3) hn
  unfold sqrtW
  unfold ptC at o1
  generalize rootW F md (F.vl a) = S at *
  generalize F.cls a = ca at *
  generalize F.ng a = na at *
  generalize F.vl a = va at *
  simp only [deskA, DyA, A3] at *
  by_cases q5 : ca = 5
  · rw [if_pos q5]
    clear hr
    subst q5
    repeat' (first | (simp (maxSteps := 1000000) only [evB, if_true, if_false, ne_eq, Nat.reduceEqDiff, Nat.reduceAdd, reduceCtorEq, Int.reduceLE, Int.reduceLT, Int.reduceEq, Int.reduceNeg, Int.reduceToNat, Int.reducePow, Int.reduceMod, Int.reduceDiv, Int.reduceSub, Int.reduceAdd, Int.reduceMul, Nat.reduceMul, Nat.reduceSub, Nat.reducePow, exB, resC_ptr, res_cell, nilb, nilf, faddr_p, c_soft_Sqrt, apart_ip, o1, i5_10, r5_0, nn]) | (simp (maxSteps := 1000000) (disch := first | with_reducible assumption | omega) only [dxB]) | (simp only [kI_d, kG_dt, kG_df]; split) | (simp only [kI_v, kG_vt, kG_vf]; split))
    all_goals try rfl
  · rw [if_neg q5]
    by_cases q1 : ca = 1
    · rw [if_pos q1]
      clear hr
      subst q1
      repeat' (first | (simp (maxSteps := 1000000) only [evB, if_true, if_false, ne_eq, Nat.reduceEqDiff, Nat.reduceAdd, reduceCtorEq, Int.reduceLE, Int.reduceLT, Int.reduceEq, Int.reduceNeg, Int.reduceToNat, Int.reducePow, Int.reduceMod, Int.reduceDiv, Int.reduceSub, Int.reduceAdd, Int.reduceMul, Nat.reduceMul, Nat.reduceSub, Nat.reducePow, exB, resC_ptr, res_cell, nilb, nilf, faddr_p, c_soft_Sqrt, apart_ip, o1, i5_10, r5_0, ze]) | (simp (maxSteps := 1000000) (disch := first | with_reducible assumption | omega) only [dxB]) | (simp only [kI_d, kG_dt, kG_df]; split) | (simp only [kI_v, kG_vt, kG_vf]; split))
      all_goals try rfl
    · rw [if_neg q1]
      cases na
      · rw [if_neg (by decide)]
        by_cases q4 : ca = 4
        · rw [if_pos q4]
          clear hr
          subst q4
          repeat' (first | (simp (maxSteps := 1000000) only [evB, if_true, if_false, ne_eq, Nat.reduceEqDiff, Nat.reduceAdd, reduceCtorEq, Int.reduceLE, Int.reduceLT, Int.reduceEq, Int.reduceNeg, Int.reduceToNat, Int.reducePow, Int.reduceMod, Int.reduceDiv, Int.reduceSub, Int.reduceAdd, Int.reduceMul, Nat.reduceMul, Nat.reduceSub, Nat.reducePow, exB, resC_ptr, res_cell, nilb, nilf, faddr_p, c_soft_Sqrt, apart_ip, o1, i5_10, r5_0, inf]) | (simp (maxSteps := 1000000) (disch := first | with_reducible assumption | omega) only [dxB]) | (simp only [kI_d, kG_dt, kG_df]; split) | (simp only [kI_v, kG_vt, kG_vf]; split))
          all_goals try rfl
        · rw [if_neg q4]
          have hr := hr q1 q4 q5 rfl
          repeat' (first | (simp (maxSteps := 1000000) only [evB, if_true, if_false, ne_eq, Nat.reduceEqDiff, Nat.reduceAdd, reduceCtorEq, Int.reduceLE, Int.reduceLT, Int.reduceEq, Int.reduceNeg, Int.reduceToNat, Int.reducePow, Int.reduceMod, Int.reduceDiv, Int.reduceSub, Int.reduceAdd, Int.reduceMul, Nat.reduceMul, Nat.reduceSub, Nat.reducePow, exB, resC_ptr, res_cell, nilb, nilf, faddr_p, c_soft_Sqrt, apart_ip, o1, i5_10, r5_0, q1, q4, q5, hr]) | (simp (maxSteps := 1000000) (disch := first | with_reducible assumption | omega) only [dxB]) | (simp only [kI_d, kG_dt, kG_df]; split) | (simp only [kI_v, kG_vt, kG_vf]; split))
          all_goals try rfl
      · rw [if_pos rfl]
        clear hr
        repeat' (first | (simp (maxSteps := 1000000) only [evB, if_true, if_false, ne_eq, Nat.reduceEqDiff, Nat.reduceAdd, reduceCtorEq, Int.reduceLE, Int.reduceLT, Int.reduceEq, Int.reduceNeg, Int.reduceToNat, Int.reducePow, Int.reduceMod, Int.reduceDiv, Int.reduceSub, Int.reduceAdd, Int.reduceMul, Nat.reduceMul, Nat.reduceSub, Nat.reducePow, exB, resC_ptr, res_cell, nilb, nilf, faddr_p, c_soft_Sqrt, apart_ip, o1, i5_10, r5_0, q1, q5, nn]) | (simp (maxSteps := 1000000) (disch := first | with_reducible assumption | omega) only [dxB]) | (simp only [kI_d, kG_dt, kG_df]; split) | (simp only [kI_v, kG_vt, kG_vf]; split))
        all_goals try rfl
end Go.Cv

/-
  The program's fused product and sum of words.
-/
namespace Go.Cv
variable {G : Nat → Option (List AV)} {T : Tbl} {g : Nat}

set_option maxHeartbeats 16000000 in
theorem soft_MulAdd (hA : HasA g T) (hG : Glob G g) (hC : HasC g T) (hD : HasD g T) (hE : HasE g T) (hU : HasG g T) (F : Fm) {md : Int} (hm : 1 ≤ md ∧ md ≤ 5) {a b c : Nat} (ha : a < 2 * F.sg) (hb : b < 2 * F.sg) (hc : c < 2 * F.sg) :
    run G T 175 [.int .u8 F.u, .int .u8 md, .int .u64 (a : Int), .int .u64 (b : Int), .int .u64 (c : Int)] = some (.tup [.int .u64 ((fmaW F md a b c).1 : Int), .int .u8 ((fmaW F md a b c).2 : Int), .int .i64 0]) := by
  rw [run_k G T hU.soft_MulAdd]
  obtain ⟨z1, z2, z3, o1⟩ := soft_open3 (G := G) (T := T) hA hG hC hD hE hU F hm ha hb hc
  have h5 := soft_has3 (G := G) (T := T) hU (k := 5) (c := F.cls a) (c' := F.cls b) (c'' := F.cls c) (n := F.ng a) (s := (F.vl a).n) (n' := F.ng b) (s' := (F.vl b).n) (n'' := F.ng c) (s'' := (F.vl c).n) (z := z1) (z' := z2) (z'' := z3) (l := dl (F.vl a).m) (l' := dl (F.vl b).m) (l'' := dl (F.vl c).m) (e := (F.vl a).e) (e' := (F.vl b).e) (e'' := (F.vl c).e)
  have hk := fun k => soft_has2 (G := G) (T := T) hU (k := k) (c := F.cls a) (c' := F.cls b) (n := F.ng a) (s := (F.vl a).n) (n' := F.ng b) (s' := (F.vl b).n) (z := z1) (z' := z2) (l := dl (F.vl a).m) (l' := dl (F.vl b).m) (e := (F.vl a).e) (e' := (F.vl b).e)
  have h4 := hk 4
  have h1 := hk 1
  have nn := fun x => desk_none (G := G) (T := T) hD hU F (md := md) (x := x)
  have b1 := Bd_vl F a
  have b2 := Bd_vl F b
  obtain ⟨z4, m1⟩ := dyad_Mul (G := G) (T := T) hA hG hC hU (z := z1) (y := z2) (b1.mono (by decide)) (b2.mono (by decide)) (mayD_nzb (Nz_vl F a) (b1.mono (by decide))) (mayD_nzb (Nz_vl F b) (b2.mono (by decide)))
  have ad := fun (k : Int) (z : Bool) (d : Dy) (hz : Nz d) (hb : Bd d 16384) => desk_add (G := G) (T := T) hA hG hC hD hE hU F hm (c := k) (n := F.ng a != F.ng b) (z := z) (d := d) (c' := F.cls c) (n' := F.ng c) (z' := z3) (d' := F.vl c) hz (Nz_vl F c) hb ((Bd_vl F c).mono (by decide))
  have ad4 := ad 4 true ⟨false, 0, 0⟩ ⟨fun _ => rfl, fun h => absurd rfl h⟩ ⟨by simp only [blen_zero]; omega, by simp, by simp⟩
  have ad1 := ad 1 true ⟨false, 0, 0⟩ ⟨fun _ => rfl, fun h => absurd rfl h⟩ ⟨by simp only [blen_zero]; omega, by simp, by simp⟩
  have ad3 := ad 3 z4 (mulD (F.vl a) (F.vl b)) (Nz_mul _ _) ((Bd_mul b1 b2).mono (by decide))
  clear ad b1 b2 hk
  unfold fmaW prC
  unfold ptC at o1
  generalize mulD (F.vl a) (F.vl b) = s at *
  have hne : (F.ng a != F.ng b) = !decide (F.ng a = F.ng b) := by cases F.ng a <;> cases F.ng b <;> rfl
  rw [hne] at ad4 ad1 ad3 ⊢
  generalize F.cls a = ca at *
  generalize F.ng a = na at *
  generalize F.vl a = va at *
  generalize F.cls b = cb at *
  generalize F.ng b = nb at *
  generalize F.vl b = vb at *
  generalize F.cls c = cc at *
  generalize F.ng c = nc at *
  generalize F.vl c = vc at *
  by_cases q5 : ca = 5 ∨ cb = 5 ∨ cc = 5
  · rw [decide_eq_true q5] at h5
    rw [if_pos q5]
    simp only [deskA, ptA, DyA, A3, dl_zero, List.cons_append, List.nil_append] at *
    repeat' (first | (simp (maxSteps := 1000000) only [evB, if_true, if_false, ne_eq, Nat.reduceEqDiff, Nat.reduceAdd, reduceCtorEq, Int.reduceLE, Int.reduceLT, Int.reduceEq, Int.reduceNeg, Int.reduceToNat, Int.reducePow, Int.reduceMod, Int.reduceDiv, Int.reduceSub, Int.reduceAdd, Int.reduceMul, Nat.reduceMul, Nat.reduceSub, Nat.reducePow, exB, resC_ptr, res_cell, nilb, nilf, faddr_p, c_soft_MulAdd, apart_ip, repA_3, st_bs5, o1, i5_30, i5_31, i5_32, r5_0, r5_5, r5_10, h5, nn]) | (simp (maxSteps := 1000000) (disch := first | with_reducible assumption | omega) only [dxB]) | (simp only [kI_d, kG_dt, kG_df]; split) | (simp only [kI_v, kG_vt, kG_vf]; split))
    all_goals try rfl
  · rw [decide_eq_false q5] at h5
    rw [if_neg q5]
    by_cases q4 : ca = 4 ∨ cb = 4
    · rw [decide_eq_true q4] at h4
      by_cases q1 : ca = 1 ∨ cb = 1
      · rw [decide_eq_true q1] at h1
        rw [if_pos (show (ca = 4 ∨ cb = 4) ∧ (ca = 1 ∨ cb = 1) from ⟨q4, q1⟩)]
        simp only [deskA, ptA, DyA, A3, dl_zero, List.cons_append, List.nil_append] at *
        repeat' (first | (simp (maxSteps := 1000000) only [evB, if_true, if_false, ne_eq, Nat.reduceEqDiff, Nat.reduceAdd, reduceCtorEq, Int.reduceLE, Int.reduceLT, Int.reduceEq, Int.reduceNeg, Int.reduceToNat, Int.reducePow, Int.reduceMod, Int.reduceDiv, Int.reduceSub, Int.reduceAdd, Int.reduceMul, Nat.reduceMul, Nat.reduceSub, Nat.reducePow, exB, resC_ptr, res_cell, nilb, nilf, faddr_p, c_soft_MulAdd, apart_ip, repA_3, st_bs5, o1, i5_30, i5_31, i5_32, r5_0, r5_5, r5_10, h5, h4, h1, nn]) | (simp (maxSteps := 1000000) (disch := first | with_reducible assumption | omega) only [dxB]) | (simp only [kI_d, kG_dt, kG_df]; split) | (simp only [kI_v, kG_vt, kG_vf]; split))
        all_goals try rfl
      · rw [decide_eq_false q1] at h1
        rw [if_neg (show ¬ ((ca = 4 ∨ cb = 4) ∧ (ca = 1 ∨ cb = 1)) from fun h => q1 h.2), if_pos q4, if_neg (by decide)]
        generalize addP F md 4 (!decide (na = nb)) ⟨false, 0, 0⟩ cc nc vc = S at *
        clear ad1 ad3
        simp only [deskA, ptA, DyA, A3, dl_zero, D_nil.symm, List.cons_append, List.nil_append] at *
        repeat' (first | (simp (maxSteps := 1000000) only [evB, if_true, if_false, ne_eq, Nat.reduceEqDiff, Nat.reduceAdd, reduceCtorEq, Int.reduceLE, Int.reduceLT, Int.reduceEq, Int.reduceNeg, Int.reduceToNat, Int.reducePow, Int.reduceMod, Int.reduceDiv, Int.reduceSub, Int.reduceAdd, Int.reduceMul, Nat.reduceMul, Nat.reduceSub, Nat.reducePow, exB, resC_ptr, res_cell, nilb, nilf, faddr_p, c_soft_MulAdd, apart_ip, repA_3, st_bs5, o1, i5_30, i5_31, i5_32, r5_0, r5_5, r5_10, h5, h4, h1, ad4]) | (simp (maxSteps := 1000000) (disch := first | with_reducible assumption | omega) only [dxB]) | (simp only [kI_d, kG_dt, kG_df]; split) | (simp only [kI_v, kG_vt, kG_vf]; split))
        all_goals try rfl
    · rw [decide_eq_false q4] at h4
      rw [if_neg (show ¬ ((ca = 4 ∨ cb = 4) ∧ (ca = 1 ∨ cb = 1)) from fun h => q4 h.1), if_neg q4]
      by_cases q1 : ca = 1 ∨ cb = 1
      · rw [decide_eq_true q1] at h1
        rw [if_pos q1, if_neg (by decide)]
        generalize addP F md 1 (!decide (na = nb)) ⟨false, 0, 0⟩ cc nc vc = S at *
        clear ad4 ad3
        simp only [deskA, ptA, DyA, A3, dl_zero, D_nil.symm, List.cons_append, List.nil_append] at *
        repeat' (first | (simp (maxSteps := 1000000) only [evB, if_true, if_false, ne_eq, Nat.reduceEqDiff, Nat.reduceAdd, reduceCtorEq, Int.reduceLE, Int.reduceLT, Int.reduceEq, Int.reduceNeg, Int.reduceToNat, Int.reducePow, Int.reduceMod, Int.reduceDiv, Int.reduceSub, Int.reduceAdd, Int.reduceMul, Nat.reduceMul, Nat.reduceSub, Nat.reducePow, exB, resC_ptr, res_cell, nilb, nilf, faddr_p, c_soft_MulAdd, apart_ip, repA_3, st_bs5, o1, i5_30, i5_31, i5_32, r5_0, r5_5, r5_10, h5, h4, h1, ad1]) | (simp (maxSteps := 1000000) (disch := first | with_reducible assumption | omega) only [dxB]) | (simp only [kI_d, kG_dt, kG_df]; split) | (simp only [kI_v, kG_vt, kG_vf]; split))
        all_goals try rfl
      · rw [decide_eq_false q1] at h1
        rw [if_neg q1, if_pos rfl]
        generalize addP F md 3 (!decide (na = nb)) s cc nc vc = S at *
        clear ad4 ad1
        simp only [deskA, ptA, DyA, A3, dl_zero, List.cons_append, List.nil_append] at *
        repeat' (first | (simp (maxSteps := 1000000) only [evB, if_true, if_false, ne_eq, Nat.reduceEqDiff, Nat.reduceAdd, reduceCtorEq, Int.reduceLE, Int.reduceLT, Int.reduceEq, Int.reduceNeg, Int.reduceToNat, Int.reducePow, Int.reduceMod, Int.reduceDiv, Int.reduceSub, Int.reduceAdd, Int.reduceMul, Nat.reduceMul, Nat.reduceSub, Nat.reducePow, exB, resC_ptr, res_cell, nilb, nilf, faddr_p, c_soft_MulAdd, apart_ip, repA_3, st_bs5, o1, i5_30, i5_31, i5_32, r5_0, r5_5, r5_10, h5, h4, h1, m1, ad3]) | (simp (maxSteps := 1000000) (disch := first | with_reducible assumption | omega) only [dxB]) | (simp only [kI_d, kG_dt, kG_df]; split) | (simp only [kI_v, kG_vt, kG_vf]; split))
        all_goals try rfl
end Go.Cv

/-
  The document's fused product and sum; what is refused ahead of all else.
-/
namespace Go.Cv
variable {G : Nat → Option (List AV)} {T : Tbl} {g : Nat}

theorem op5_loop (e : Env) (h : Heap) : evL G T c_ref05_Opens_l1 e h = kS G T (evL G T c_ref05_Opens_b1 (keepE [0, 2, 7] e) h) c_ref05_Opens_l1 := s_loopc G T rfl e h
theorem ref05_Opens_no (hD : HasD g T) (hU : HasG g T) {f md : Int} (h : ¬ (f = 1 ∨ f = 2)) {v : AV} : run G T 162 [.int .u8 f, .int .u8 md, v] = some (.int .i64 4) := by
  rw [run_k G T hU.ref05_Opens]
  have h1 := ref03_Is (G := G) (T := T) hD (f := f)
  rw [decide_eq_false h] at h1
  repeat' (first | (simp (maxSteps := 1000000) only [evB, if_true, if_false, ne_eq, Nat.reduceEqDiff, Nat.reduceAdd, reduceCtorEq, Int.reduceLE, Int.reduceLT, Int.reduceEq, Int.reduceNeg, Int.reduceToNat, Int.reducePow, Int.reduceMod, Int.reduceDiv, Int.reduceSub, Int.reduceAdd, Int.reduceMul, Nat.reduceMul, Nat.reduceSub, Nat.reducePow, exB, resC_ptr, res_cell, nilb, nilf, faddr_p, c_ref05_Opens, h1]) | (simp (maxSteps := 1000000) (disch := first | with_reducible assumption | omega) only [dxB]) | (simp only [kI_d, kG_dt, kG_df]; split) | (simp only [kI_v, kG_vt, kG_vf]; split))
theorem ref05_Opens_mode (hD : HasD g T) (hE : HasE g T) (hU : HasG g T) (F : Fm) {md : Int} (h : ¬ (1 ≤ md ∧ md ≤ 5)) {v : AV} : run G T 162 [.int .u8 F.u, .int .u8 md, v] = some (.int .i64 5) := by
  rw [run_k G T hU.ref05_Opens]
  have h1 := ref03_IsF (G := G) (T := T) hD F
  have h2 := ref04_Is (G := G) (T := T) hE (m := md)
  rw [decide_eq_false h] at h2
  repeat' (first | (simp (maxSteps := 1000000) only [evB, if_true, if_false, ne_eq, Nat.reduceEqDiff, Nat.reduceAdd, reduceCtorEq, Int.reduceLE, Int.reduceLT, Int.reduceEq, Int.reduceNeg, Int.reduceToNat, Int.reducePow, Int.reduceMod, Int.reduceDiv, Int.reduceSub, Int.reduceAdd, Int.reduceMul, Nat.reduceMul, Nat.reduceSub, Nat.reducePow, exB, resC_ptr, res_cell, nilb, nilf, faddr_p, c_ref05_Opens, h1, h2]) | (simp (maxSteps := 1000000) (disch := first | with_reducible assumption | omega) only [dxB]) | (simp only [kI_d, kG_dt, kG_df]; split) | (simp only [kI_v, kG_vt, kG_vf]; split))
theorem ref05_Opens1 (hD : HasD g T) (hE : HasE g T) (hF : HasF g T) (hU : HasG g T) (F : Fm) {md : Int} (hm : 1 ≤ md ∧ md ≤ 5) {a : Nat} (ha : a < 18446744073709551616) :
    run G T 162 [.int .u8 F.u, .int .u8 md, .imm 1 [.int .u64 (a : Int)]] = some (.int .i64 (if a < 2 * F.sg then 0 else 6)) := by
  rw [run_k G T hU.ref05_Opens]
  have h1 := ref03_IsF (G := G) (T := T) hD F
  have h2 := ref04_Is (G := G) (T := T) hE (m := md)
  rw [decide_eq_true hm] at h2
  have h3 := ref03_Good (G := G) (T := T) hD hF F ha
  by_cases k1 : a < 2 * F.sg
  · rw [if_pos k1] at h3 ⊢
    repeat' (first | (simp (maxSteps := 1000000) only [evB, if_true, if_false, ne_eq, Nat.reduceEqDiff, Nat.reduceAdd, reduceCtorEq, Int.reduceLE, Int.reduceLT, Int.reduceEq, Int.reduceNeg, Int.reduceToNat, Int.reducePow, Int.reduceMod, Int.reduceDiv, Int.reduceSub, Int.reduceAdd, Int.reduceMul, Nat.reduceMul, Nat.reduceSub, Nat.reducePow, exB, resC_ptr, res_cell, nilb, nilf, faddr_p, c_ref05_Opens, h1, h2, op5_loop, c_ref05_Opens_b1, iw10, rp_0, wr_1, wr1, h3]) | (simp (maxSteps := 1000000) (disch := first | with_reducible assumption | omega) only [dxB]) | (simp only [kI_d, kG_dt, kG_df]; split) | (simp only [kI_v, kG_vt, kG_vf]; split))
  · rw [if_neg k1] at h3 ⊢
    repeat' (first | (simp (maxSteps := 1000000) only [evB, if_true, if_false, ne_eq, Nat.reduceEqDiff, Nat.reduceAdd, reduceCtorEq, Int.reduceLE, Int.reduceLT, Int.reduceEq, Int.reduceNeg, Int.reduceToNat, Int.reducePow, Int.reduceMod, Int.reduceDiv, Int.reduceSub, Int.reduceAdd, Int.reduceMul, Nat.reduceMul, Nat.reduceSub, Nat.reducePow, exB, resC_ptr, res_cell, nilb, nilf, faddr_p, c_ref05_Opens, h1, h2, op5_loop, c_ref05_Opens_b1, iw10, rp_0, wr_1, wr1, h3]) | (simp (maxSteps := 1000000) (disch := first | with_reducible assumption | omega) only [dxB]) | (simp only [kI_d, kG_dt, kG_df]; split) | (simp only [kI_v, kG_vt, kG_vf]; split))
/-- Either it is refused, by both alike, or all is good. -/
theorem opens1 (hA : HasA g T) (hG : Glob G g) (hC : HasC g T) (hD : HasD g T) (hE : HasE g T) (hF : HasF g T) (hU : HasG g T) {f md : Int} {a : Nat} (ha : a < 18446744073709551616) :
    (∃ e, e ≠ 0 ∧ run G T 162 [.int .u8 f, .int .u8 md, .imm 1 [.int .u64 (a : Int)]] = some (.int .i64 e) ∧ run G T 176 [.int .u8 f, .int .u8 md, .imm 1 [.int .u64 (a : Int)]] = some (.tup [.nil, .int .i64 e])) ∨
    (∃ F, f = Fm.u F ∧ (1 ≤ md ∧ md ≤ 5) ∧ a < 2 * F.sg ∧ run G T 162 [.int .u8 f, .int .u8 md, .imm 1 [.int .u64 (a : Int)]] = some (.int .i64 0)) := by
  by_cases hf : f = 1 ∨ f = 2
  · obtain ⟨F, rfl⟩ := fm_of hf
    by_cases hm : 1 ≤ md ∧ md ≤ 5
    · have h1 := ref05_Opens1 (G := G) (T := T) hD hE hF hU F hm ha
      by_cases k1 : a < 2 * F.sg
      · rw [if_pos k1] at h1
        exact Or.inr ⟨F, rfl, hm, k1, h1⟩
      · rw [if_neg k1] at h1
        exact Or.inl ⟨6, by decide, h1, soft_open1_bad1 (G := G) (T := T) hA hG hC hD hE hU F hm ha k1⟩
    · exact Or.inl ⟨5, by decide, ref05_Opens_mode hD hE hU F hm, soft_open_mode hE hU F (by omega)⟩
  · exact Or.inl ⟨4, by decide, ref05_Opens_no hD hU hf, soft_open_no hE hU hf⟩
section
variable {f md a b c e : Int}
theorem soft_Sqrt_err (hV : HasH g T) (he : e ≠ 0) (h : run G T 176 [.int .u8 f, .int .u8 md, .imm 1 [.int .u64 a]] = some (.tup [.nil, .int .i64 e])) :
    run G T 224 [.int .u8 f, .int .u8 md, .int .u64 a] = some (.tup [.int .u64 0, .int .u8 0, .int .i64 e]) := by
  rw [run_k G T hV.soft_Sqrt]
  repeat' (first | (simp (maxSteps := 1000000) only [evB, if_true, if_false, ne_eq, Nat.reduceEqDiff, Nat.reduceAdd, reduceCtorEq, Int.reduceLE, Int.reduceLT, Int.reduceEq, Int.reduceNeg, Int.reduceToNat, Int.reducePow, Int.reduceMod, Int.reduceDiv, Int.reduceSub, Int.reduceAdd, Int.reduceMul, Nat.reduceMul, Nat.reduceSub, Nat.reducePow, exB, resC_ptr, res_cell, nilb, nilf, faddr_p, c_soft_Sqrt, h, he]) | (simp (maxSteps := 1000000) (disch := first | with_reducible assumption | omega) only [dxB]) | (simp only [kI_d, kG_dt, kG_df]; split) | (simp only [kI_v, kG_vt, kG_vf]; split))
theorem law05_is_no (hV : HasH g T) (he : e ≠ 0) : run G T 217 [.int .u64 0, .int .u8 0, .int .i64 e, .int .u64 0, .int .u8 0, .int .i64 e] = some (.bool true) := by
  rw [run_k G T hV.law05_is]
  repeat' (first | (simp (maxSteps := 1000000) only [evB, if_true, if_false, ne_eq, Nat.reduceEqDiff, Nat.reduceAdd, reduceCtorEq, Int.reduceLE, Int.reduceLT, Int.reduceEq, Int.reduceNeg, Int.reduceToNat, Int.reducePow, Int.reduceMod, Int.reduceDiv, Int.reduceSub, Int.reduceAdd, Int.reduceMul, Nat.reduceMul, Nat.reduceSub, Nat.reducePow, exB, resC_ptr, res_cell, nilb, nilf, faddr_p, c_law05_is, he]) | (simp (maxSteps := 1000000) (disch := first | with_reducible assumption | omega) only [dxB]) | (simp only [kI_d, kG_dt, kG_df]; split) | (simp only [kI_v, kG_vt, kG_vf]; split))
theorem law05_is_ok (hV : HasH g T) {w x : Int} : run G T 217 [.int .u64 w, .int .u8 x, .int .i64 0, .int .u64 w, .int .u8 x, .int .i64 0] = some (.bool true) := by
  rw [run_k G T hV.law05_is]
  repeat' (first | (simp (maxSteps := 1000000) only [evB, if_true, if_false, ne_eq, Nat.reduceEqDiff, Nat.reduceAdd, reduceCtorEq, Int.reduceLE, Int.reduceLT, Int.reduceEq, Int.reduceNeg, Int.reduceToNat, Int.reducePow, Int.reduceMod, Int.reduceDiv, Int.reduceSub, Int.reduceAdd, Int.reduceMul, Nat.reduceMul, Nat.reduceSub, Nat.reducePow, exB, resC_ptr, res_cell, nilb, nilf, faddr_p, c_law05_is]) | (simp (maxSteps := 1000000) (disch := first | with_reducible assumption | omega) only [dxB]) | (simp only [kI_d, kG_dt, kG_df]; split) | (simp only [kI_v, kG_vt, kG_vf]; split))
end
end Go.Cv

/-
  The statements on sums, products, roots of words.
-/
namespace Go.Cv
variable {G : Nat → Option (List AV)} {T : Tbl} {g : Nat}

theorem law05_SoftRoots (hA : HasA g T) (hB : HasB g T) (hC : HasC g T) (hG : Glob G g) (hD : HasD g T) (hE : HasE g T) (hF : HasF g T) (hU : HasG g T) (hV : HasH g T) (hK : run G T 163 [] = some (.bool true))
    {f m : Int} {a : Nat} (ha : a < 18446744073709551616) :
    run G T 213 [.int .u8 f, .int .u8 m, .int .u64 (a : Int)] = some (.bool true) := by
  rw [run_k G T hV.law05_SoftRoots]
  rcases opens1 (G := G) (T := T) (f := f) (md := m) hA hG hC hD hE hF hU ha with ⟨e, he, o1, o2⟩ | ⟨F, rfl, hm, k1, o1⟩
  · have r1 := soft_Sqrt_err (G := G) (T := T) hV he o2
    have q := law05_is_no (G := G) (T := T) hV he
    repeat' (first | (simp (maxSteps := 1000000) only [evB, if_true, if_false, ne_eq, Nat.reduceEqDiff, Nat.reduceAdd, reduceCtorEq, Int.reduceLE, Int.reduceLT, Int.reduceEq, Int.reduceNeg, Int.reduceToNat, Int.reducePow, Int.reduceMod, Int.reduceDiv, Int.reduceSub, Int.reduceAdd, Int.reduceMul, Nat.reduceMul, Nat.reduceSub, Nat.reducePow, exB, resC_ptr, res_cell, nilb, nilf, faddr_p, c_law05_SoftRoots, r1, o1, he, q, hK]) | (simp (maxSteps := 1000000) (disch := first | with_reducible assumption | omega) only [dxB]) | (simp only [kI_d, kG_dt, kG_df]; split) | (simp only [kI_v, kG_vt, kG_vf]; split))
  · have r1 := soft_Sqrt (G := G) (T := T) hA hG hC hD hE hU hV F hm k1
    have p1 := ref05_Sqrt (G := G) (T := T) hA hB hC hD hE hF hV F hm k1
    have q := fun w x => law05_is_ok (G := G) (T := T) hV (w := w) (x := x)
    generalize sqrtW F m a = S1 at *
    repeat' (first | (simp (maxSteps := 1000000) only [evB, if_true, if_false, ne_eq, Nat.reduceEqDiff, Nat.reduceAdd, reduceCtorEq, Int.reduceLE, Int.reduceLT, Int.reduceEq, Int.reduceNeg, Int.reduceToNat, Int.reducePow, Int.reduceMod, Int.reduceDiv, Int.reduceSub, Int.reduceAdd, Int.reduceMul, Nat.reduceMul, Nat.reduceSub, Nat.reducePow, exB, resC_ptr, res_cell, nilb, nilf, faddr_p, c_law05_SoftRoots, r1, o1, p1, q, hK]) | (simp (maxSteps := 1000000) (disch := first | with_reducible assumption | omega) only [dxB]) | (simp only [kI_d, kG_dt, kG_df]; split) | (simp only [kI_v, kG_vt, kG_vf]; split))

end Go.Cv
