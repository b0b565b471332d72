/-
  A part of the proof of the statements of this seat (texts that the law's own text leans on): no condition.
-/
import Derived.Test.YtabmkppfiklbaaaGreatDoorM4
import Derived.Test.YtabmkppfiklbaaaGreatDoorM3
set_option linter.unusedVariables false
set_option linter.unusedSimpArgs false
namespace Go.Cv
variable {G : Nat → Option (List AV)} {T : Tbl} {g : Nat}
def fmA (F : Fm) : AV := .agg [.int .i64 ((F.fr : Int) + 1), .int .i64 F.low, .int .i64 F.wide]
def fm0 : AV := .agg [.int .i64 0, .int .i64 0, .int .i64 0]
theorem round_formOf (J : Al G T g) (F : Fm) : run G T 47 [.int .u8 F.u] = some (.tup [fmA F, .bool true]) := by
  rw [run_k G T J.E.round_formOf]
  cases F <;> (simp only [fmA, Fm.u, Fm.fr, Fm.low, Fm.wide, Int.cast_ofNat_Int, Int.reduceAdd]; repeat' (first | (simp (maxSteps := 1000000) only [seval, evB, exB, c_round_formOf]) | (simp (maxSteps := 1000000) (disch := first | with_reducible assumption | omega) only [dxB]) | (simp only [kI_d, kG_dt, kG_df]; split) | (simp only [kI_v, kG_vt, kG_vf]; split)))
theorem round_formOf_no (J : Al G T g) {f : Int} (h : ¬ (f = 1 ∨ f = 2)) : run G T 47 [.int .u8 f] = some (.tup [fm0, .bool false]) := by
  rw [run_k G T J.E.round_formOf]
  have h1 : ¬ f = 1 := by omega
  have h2 : ¬ f = 2 := by omega
  simp only [fm0]; repeat' (first | (simp (maxSteps := 1000000) only [seval, evB, exB, c_round_formOf]) | (simp (maxSteps := 1000000) (disch := first | with_reducible assumption | omega) only [dxB]) | (simp only [kI_d, kG_dt, kG_df]; split) | (simp only [kI_v, kG_vt, kG_vf]; split))
theorem iad10 (a b c : AV) (k : IntKind) : iaddrV 3 (.imm 1 [a, b, c]) (.int k 0) = some (.iptr [a, b, c] 0) := rfl
theorem iad20 (a b c a' b' c' : AV) (k : IntKind) : iaddrV 3 (.imm 2 [a, b, c, a', b', c']) (.int k 0) = some (.iptr [a, b, c, a', b', c'] 0) := rfl
theorem iad21 (a b c a' b' c' : AV) (k : IntKind) : iaddrV 3 (.imm 2 [a, b, c, a', b', c']) (.int k 1) = some (.iptr [a, b, c, a', b', c'] 3) := rfl
theorem rOpen_loop : ∀ (e : Env) (h : Heap), evL G T c_round_open_l1 e h = kS G T (evL G T c_round_open_b1 (keepE [6, 8, 27, 28, 29] e) h) c_round_open_l1 := fun e h => s_loopc G T (c := c_round_open_l1) rfl e h
theorem round_open_no (J : Al G T g) {f : Int} (h : ¬ (f = 1 ∨ f = 2)) {m : Int} {v : AV} : run G T 21 [.int .u8 f, .int .u8 m, v] = some (.tup [fm0, .int .i64 4]) := by
  rw [run_k G T J.E.round_open]
  have h1 := round_formOf_no (G := G) J h
  simp only [fm0] at *
  repeat' (first | (simp (maxSteps := 1000000) only [seval, evB, exB, c_round_open, h1]) | (simp (maxSteps := 1000000) (disch := first | with_reducible assumption | omega) only [dxB]) | (simp only [kI_d, kG_dt, kG_df]; split) | (simp only [kI_v, kG_vt, kG_vf]; split))
theorem round_open_mode (J : Al G T g) (F : Fm) {m : Int} (h : m < 1 ∨ 5 < m) {v : AV} : run G T 21 [.int .u8 F.u, .int .u8 m, v] = some (.tup [fmA F, .int .i64 5]) := by
  rw [run_k G T J.E.round_open]
  have h1 := round_formOf (G := G) J F
  simp only [fmA] at *
  repeat' (first | (simp (maxSteps := 1000000) only [seval, evB, exB, c_round_open, h1]) | (simp (maxSteps := 1000000) (disch := first | with_reducible assumption | omega) only [dxB]) | (simp only [kI_d, kG_dt, kG_df]; split) | (simp only [kI_v, kG_vt, kG_vf]; split))
theorem round_open0 (J : Al G T g) (F : Fm) {m : Int} (h : 1 ≤ m ∧ m ≤ 5) : run G T 21 [.int .u8 F.u, .int .u8 m, .nil] = some (.tup [fmA F, .int .i64 0]) := by
  rw [run_k G T J.E.round_open]
  have h1 := round_formOf (G := G) J F
  simp only [fmA] at *
  repeat' (first | (simp (maxSteps := 1000000) only [seval, evB, exB, c_round_open, h1, rOpen_loop, c_round_open_b1]) | (simp (maxSteps := 1000000) (disch := first | with_reducible assumption | omega) only [dxB]) | (simp only [kI_d, kG_dt, kG_df]; split) | (simp only [kI_v, kG_vt, kG_vf]; split))
theorem round_open1 (J : Al G T g) (F : Fm) {m : Int} (h : 1 ≤ m ∧ m ≤ 5) {n z : Bool} {l : List Nat} (hd : Dg l) {e : Int} :
    run G T 21 [.int .u8 F.u, .int .u8 m, .imm 1 [.bool n, D z l, .int .i64 e]] = some (.tup [fmA F, .int .i64 (if mayD n l e then 0 else 2)]) := by
  rw [run_k G T J.E.round_open]
  have h1 := round_formOf (G := G) J F
  have h2 := dyad_May (G := G) J n z hd e
  simp only [fmA, A3] at *
  cases hm : mayD n l e <;> (
    rw [hm] at h2
    repeat' (first | (simp (maxSteps := 1000000) only [seval, evB, exB, c_round_open, h1, h2, rOpen_loop, c_round_open_b1, iad10, iad20, iad21, rd_ip]) | (simp (maxSteps := 1000000) (disch := first | with_reducible assumption | omega) only [dxB]) | (simp only [kI_d, kG_dt, kG_df]; split) | (simp only [kI_v, kG_vt, kG_vf]; split))
    all_goals rfl)
theorem round_open2 (J : Al G T g) (F : Fm) {m : Int} (h : 1 ≤ m ∧ m ≤ 5) {n z n' z' : Bool} {l l' : List Nat} (hd : Dg l) (hd' : Dg l') {e e' : Int} :
    run G T 21 [.int .u8 F.u, .int .u8 m, .imm 2 [.bool n, D z l, .int .i64 e, .bool n', D z' l', .int .i64 e']] = some (.tup [fmA F, .int .i64 (if mayD n l e && mayD n' l' e' then 0 else 2)]) := by
  rw [run_k G T J.E.round_open]
  have h1 := round_formOf (G := G) J F
  have h2 := dyad_May (G := G) J n z hd e
  have h3 := dyad_May (G := G) J n' z' hd' e'
  simp only [fmA, A3] at *
  cases hm : mayD n l e <;> cases hm' : mayD n' l' e' <;> (
    rw [hm] at h2
    rw [hm'] at h3
    repeat' (first | (simp (maxSteps := 1000000) only [seval, evB, exB, c_round_open, h1, h2, h3, rOpen_loop, c_round_open_b1, iad10, iad20, iad21, rd_ip]) | (simp (maxSteps := 1000000) (disch := first | with_reducible assumption | omega) only [dxB]) | (simp only [kI_d, kG_dt, kG_df]; split) | (simp only [kI_v, kG_vt, kG_vf]; split))
    all_goals rfl)
theorem round_up (J : Al G T g) {m : Int} {neg odd half more : Bool} : run G T 93 [.int .u8 m, .bool neg, .bool odd, .bool half, .bool more] = some (.bool (upB m neg odd half more)) := by
  rw [run_k G T J.E.round_up]
  by_cases h1 : m = 1
  · subst h1
    cases odd <;> cases more <;> (repeat' (first | (simp (maxSteps := 1000000) only [seval, evB, exB, c_round_up]) | (simp (maxSteps := 1000000) (disch := first | with_reducible assumption | omega) only [dxB]) | (simp only [kI_d, kG_dt, kG_df]; split) | (simp only [kI_v, kG_vt, kG_vf]; split)); cases half <;> rfl)
  · by_cases h2 : m = 2
    · subst h2; repeat' (first | (simp (maxSteps := 1000000) only [seval, evB, exB, c_round_up]) | (simp (maxSteps := 1000000) (disch := first | with_reducible assumption | omega) only [dxB]) | (simp only [kI_d, kG_dt, kG_df]; split) | (simp only [kI_v, kG_vt, kG_vf]; split)); rfl
    · by_cases h4 : m = 4
      · subst h4
        cases neg <;> cases half <;> (repeat' (first | (simp (maxSteps := 1000000) only [seval, evB, exB, c_round_up]) | (simp (maxSteps := 1000000) (disch := first | with_reducible assumption | omega) only [dxB]) | (simp only [kI_d, kG_dt, kG_df]; split) | (simp only [kI_v, kG_vt, kG_vf]; split)); cases more <;> rfl)
      · by_cases h5 : m = 5
        · subst h5
          cases neg <;> cases half <;> (repeat' (first | (simp (maxSteps := 1000000) only [seval, evB, exB, c_round_up]) | (simp (maxSteps := 1000000) (disch := first | with_reducible assumption | omega) only [dxB]) | (simp only [kI_d, kG_dt, kG_df]; split) | (simp only [kI_v, kG_vt, kG_vf]; split)); cases more <;> rfl)
        · repeat' (first | (simp (maxSteps := 1000000) only [seval, evB, exB, c_round_up]) | (simp (maxSteps := 1000000) (disch := first | with_reducible assumption | omega) only [dxB]) | (simp only [kI_d, kG_dt, kG_df]; split) | (simp only [kI_v, kG_vt, kG_vf]; split))
          simp [upB, h1, h2, h4, h5]
theorem round_btoi (J : Al G T g) {b : Bool} : run G T 92 [.bool b] = some (.int .u64 (b.toNat : Int)) := by
  rw [run_k G T J.E.round_btoi]
  cases b <;> (repeat' (first | (simp (maxSteps := 1000000) only [seval, evB, exB, c_round_btoi]) | (simp (maxSteps := 1000000) (disch := first | with_reducible assumption | omega) only [dxB]) | (simp only [kI_d, kG_dt, kG_df]; split) | (simp only [kI_v, kG_vt, kG_vf]; split)); try rfl)
def headN (m : Nat) : Nat := if blen m ≤ 64 then m * 2 ^ (64 - blen m) else m / 2 ^ (blen m - 64)
def behindN (m : Nat) : Bool := if blen m ≤ 64 then false else decide (m % 2 ^ (blen m - 64) ≠ 0)
theorem headN_blen {m : Nat} (h : m ≠ 0) : blen (headN m) = 64 := by
  unfold headN; split
  · rw [blen_mul h]; omega
  · rw [blen_div]; omega
def partA (w : Nat) (top : Int) (more : Bool) : AV := .agg [.int .u64 (w : Int), .int .i64 top, .bool more]
theorem round_partOf (J : Al G T g) {z : Bool} {d : Dy} (hm : mayL (dl d.m) = true) (h0 : d.m ≠ 0) (he : -1099511627776 < d.e ∧ d.e < 1099511627776) :
    run G T 23 [DyA z d] = some (partA (headN d.m) (d.e + blen d.m) (behindN d.m)) := by
  rw [run_k G T J.E.round_partOf]
  obtain ⟨n, m, e⟩ := d
  simp only at *
  have hb := may_blen hm
  have hh := headN_blen h0
  have h1 := nat_Len J (z := z) hm
  have h64 : headN m < 18446744073709551616 := blen_le.1 (Nat.le_of_eq hh)
  have hs : ∃ z', run G T 50 [D z (dl m), .int .i64 (64 - blen m)] = some (.tup [D z' (dl (headN m)), .bool (behindN m), .int .i64 0]) := by
    unfold headN behindN
    by_cases hc : blen m ≤ 64
    · obtain ⟨z', hz⟩ := nat_Shift_up (G := G) J (z := z) (a := m) (n := 64 - blen m) hm (by omega) (by omega)
      rw [show ((64 - blen m : Nat) : Int) = 64 - blen m by omega] at hz
      exact ⟨z', by rw [if_pos hc, if_pos hc]; exact hz⟩
    · obtain ⟨z', hz⟩ := nat_Shift_down (G := G) J (z := z) (a := m) (n := blen m - 64) hm (by omega) (by omega)
      rw [show -((blen m - 64 : Nat) : Int) = 64 - blen m by omega] at hz
      exact ⟨z', by rw [if_neg hc, if_neg hc, hz]; simp⟩
  obtain ⟨z', h2⟩ := hs
  have h3 := nat_Num J (z := z') h64
  simp only [DyA, A3, partA] at *
  repeat' (first | (simp (maxSteps := 1000000) only [seval, evB, exB, c_round_partOf, h1, h2, h3]) | (simp (maxSteps := 1000000) (disch := first | with_reducible assumption | omega) only [dxB]) | (simp only [kI_d, kG_dt, kG_df]; split) | (simp only [kI_v, kG_vt, kG_vf]; split))
theorem and1_64 {x : Int} (h : 0 ≤ x ∧ x < 18446744073709551616) : andI .u64 x 1 = x % 2 := by
  obtain ⟨n, rfl⟩ := Int.eq_ofNat_of_zero_le h.1
  have := and64 (a := n) (b := 1) (by omega) (by decide)
  rw [show ((1 : Nat) : Int) = 1 from rfl] at this
  rw [this, and_one]; rfl
theorem lt_cast64 {n : Nat} (h : n < 18446744073709551616) : 0 ≤ (n : Int) ∧ (n : Int) < 18446744073709551616 := ⟨Int.natCast_nonneg n, by omega⟩
theorem and_mask {x j : Nat} (hx : x < 18446744073709551616) (hj : j < 64) : andI .u64 (x : Int) (2 ^ j - 1) = ((x % 2 ^ j : Nat) : Int) := by
  have hp := Nat.two_pow_pos j
  have h2 : 2 ^ j < 18446744073709551616 := Nat.lt_of_lt_of_le (Nat.pow_lt_pow_right (by decide) hj) (by decide)
  have e : ((2 : Int) ^ j - 1) = ((2 ^ j - 1 : Nat) : Int) := by rw [pow_cast]; omega
  rw [e, and64 hx (by omega), Nat.and_two_pow_sub_one_eq_mod]
set_option maxHeartbeats 2000000 in
theorem round_units (J : Al G T g) {m : Int} {neg more : Bool} {w k : Nat} {e top : Int} (hw : blen w = 64) (hk : e - top + 64 = k) (h0 : 0 < k) (he : -1099511627776 < e ∧ e < 1099511627776) (ht : -1099511627776 < top ∧ top < 1099511627776) :
    run G T 52 [partA w top more, .int .u8 m, .bool neg, .int .i64 e] = some (.tup [.int .u64 ((rdN m neg w more k).1 : Int), .bool (rdN m neg w more k).2]) := by
  rw [run_k G T J.E.round_part_units]
  have h64 : w < 18446744073709551616 := blen_le.1 (Nat.le_of_eq hw)
  have hw0 : w ≠ 0 := by rintro rfl; rw [blen_zero] at hw; omega
  by_cases hc : 64 < k
  · have h1 := round_up (G := G) J (m := m) (neg := neg) (odd := false) (half := false) (more := true)
    have h2 := round_btoi (G := G) J (b := upB m neg false false true)
    have e0 : ∀ j, 64 ≤ j → w < 2 ^ j := fun j hj => Nat.lt_of_lt_of_le h64 (by rw [show 18446744073709551616 = 2 ^ 64 from rfl]; exact Nat.pow_le_pow_right (by decide) hj)
    have e1 : w / 2 ^ k = 0 := Nat.div_eq_of_lt (e0 _ (by omega))
    have e2 : halfN w k = false := by simp only [halfN]; rw [Nat.div_eq_of_lt (e0 _ (by omega))]; rfl
    have e3 : moreN w more k = true := by simp only [moreN]; rw [Nat.mod_eq_of_lt (e0 _ (by omega)), decide_eq_true hw0, Bool.or_true]
    have e4 : rdN m neg w more k = ((upB m neg false false true).toNat, false) := by simp only [rdN, e1, e2, e3]; simp
    rw [e4]
    simp only [partA] at *
    repeat' (first | (simp (maxSteps := 1000000) only [seval, evB, exB, c_round_part_units, h1, h2, hk]) | (simp (maxSteps := 1000000) (disch := first | with_reducible assumption | omega) only [dxB]) | (simp only [kI_d, kG_dt, kG_df]; split) | (simp only [kI_v, kG_vt, kG_vf]; split))
  · have hkm : min (k - 1) 64 = k - 1 := by omega
    have hkp : min k 64 = k := by omega
    have p1 := Nat.two_pow_pos k
    have hh : (w : Int) / 2 ^ (k - 1) = ((w / 2 ^ (k - 1) : Nat) : Int) := by rw [pow_cast]; rfl
    have hd : (w : Int) / 2 ^ k = ((w / 2 ^ k : Nat) : Int) := by rw [pow_cast]; rfl
    have hq : w / 2 ^ (k - 1) < 18446744073709551616 := Nat.lt_of_le_of_lt (Nat.div_le_self ..) h64
    have hq2 : w / 2 ^ k < 9223372036854775808 := by
      apply Nat.div_lt_of_lt_mul
      have : 2 ^ 1 ≤ 2 ^ k := Nat.pow_le_pow_right (by decide) h0
      omega
    have hmsk := and_mask (x := w) (j := k - 1) h64 (by omega)
    have p2 : 2 ^ (k - 1) < 18446744073709551616 := Nat.lt_of_lt_of_le (Nat.pow_lt_pow_right (by decide) (show k - 1 < 64 by omega)) (by decide)
    have p3 := Nat.two_pow_pos (k - 1)
    have w1 : (1 * (2 : Int) ^ (k - 1)) % 18446744073709551616 = 2 ^ (k - 1) := by rw [pow_cast]; omega
    have w2 : ((2 : Int) ^ (k - 1) - 1) % 18446744073709551616 = 2 ^ (k - 1) - 1 := by rw [pow_cast]; omega
    have hb1 : decide (((w / 2 ^ (k - 1) : Nat) : Int) % 2 = 1) = halfN w k := by
      simp only [halfN]; congr 1; apply propext; omega
    have hb2 : (!decide (((w % 2 ^ (k - 1) : Nat) : Int) = 0)) = moreN w false k := by
      simp only [moreN, Bool.false_or, ne_eq, decide_not]; congr 2; apply propext; omega
    have hb4 : moreN w true k = true := rfl
    have hA1 := and1_64 (x := ((w / 2 ^ (k - 1) : Nat) : Int)) (lt_cast64 hq)
    have hA2 := and1_64 (x := ((w / 2 ^ k : Nat) : Int)) (lt_cast64 (Nat.lt_trans hq2 (by decide)))
    have hA3 := and1_64 (x := 0) (by decide)
    by_cases hk2 : k = 64
    · have e1 : w / 2 ^ k = 0 := Nat.div_eq_of_lt (by rw [hk2]; exact h64)
      have h1 := round_up (G := G) J (m := m) (neg := neg) (odd := false) (half := halfN w k) (more := moreN w more k)
      have h2 := round_btoi (G := G) J (b := upB m neg false (halfN w k) (moreN w more k))
      have e4 : rdN m neg w more k = ((upB m neg false (halfN w k) (moreN w more k)).toNat, !halfN w k && !moreN w more k) := by simp only [rdN, e1]; simp
      have hbt : (upB m neg false (halfN w k) (moreN w more k)).toNat ≤ 1 := by cases upB m neg false (halfN w k) (moreN w more k) <;> decide
      rw [e4]
      generalize (upB m neg false (halfN w k) (moreN w more k)).toNat = bt at *
      simp only [partA] at *
      cases more
      · cases hH : halfN w k <;> cases hM : moreN w false k <;> (
          rw [hH] at h1 h2 hb1
          rw [hM] at h1 h2 hb2
          repeat' (first | (simp (maxSteps := 1000000) only [seval, evB, exB, c_round_part_units, h1, h2, hk, hkm, hA1, hA2, hA3, hh, hb1, hb2, hmsk, w1, w2]) | (simp (maxSteps := 1000000) (disch := first | with_reducible assumption | omega) only [dxB]) | (simp only [kI_d, kG_dt, kG_df]; split) | (simp only [kI_v, kG_vt, kG_vf]; split))
          all_goals (refine tup_int ?_; clear hA1 hA2; generalize w / 2 ^ k = Q at hq2 ⊢; omega))
      · rw [hb4] at *
        cases hH : halfN w k <;> (
          rw [hH] at h1 h2 hb1
          repeat' (first | (simp (maxSteps := 1000000) only [seval, evB, exB, c_round_part_units, h1, h2, hk, hkm, hA1, hA2, hA3, hh, hb1, hmsk, w1, w2]) | (simp (maxSteps := 1000000) (disch := first | with_reducible assumption | omega) only [dxB]) | (simp only [kI_d, kG_dt, kG_df]; split) | (simp only [kI_v, kG_vt, kG_vf]; split))
          all_goals (refine tup_int ?_; clear hA1 hA2; generalize w / 2 ^ k = Q at hq2 ⊢; omega))
    · have h1 := round_up (G := G) J (m := m) (neg := neg) (odd := decide (w / 2 ^ k % 2 = 1)) (half := halfN w k) (more := moreN w more k)
      have h2 := round_btoi (G := G) J (b := upB m neg (decide (w / 2 ^ k % 2 = 1)) (halfN w k) (moreN w more k))
      have hb3 : decide (((w / 2 ^ k : Nat) : Int) % 2 = 1) = decide (w / 2 ^ k % 2 = 1) := by congr 1; apply propext; omega
      have hbt : (upB m neg (decide (w / 2 ^ k % 2 = 1)) (halfN w k) (moreN w more k)).toNat ≤ 1 := by cases upB m neg (decide (w / 2 ^ k % 2 = 1)) (halfN w k) (moreN w more k) <;> decide
      simp only [rdN]
      generalize (upB m neg (decide (w / 2 ^ k % 2 = 1)) (halfN w k) (moreN w more k)).toNat = bt at *
      simp only [partA] at *
      have hlt : k < 64 := by omega
      cases more
      · cases hH : halfN w k <;> cases hM : moreN w false k <;> (
          rw [hH] at h1 h2 hb1
          rw [hM] at h1 h2 hb2
          repeat' (first | (simp (maxSteps := 1000000) only [seval, evB, exB, c_round_part_units, h1, h2, hk, hkm, hA1, hA2, hA3, hkp, hh, hd, hb1, hb2, hb3, hmsk, w1, w2]) | (simp (maxSteps := 1000000) (disch := first | with_reducible assumption | omega) only [dxB]) | (simp only [kI_d, kG_dt, kG_df]; split) | (simp only [kI_v, kG_vt, kG_vf]; split))
          all_goals (refine tup_int ?_; clear hA1 hA2; generalize w / 2 ^ k = Q at hq2 ⊢; omega))
      · rw [hb4] at *
        cases hH : halfN w k <;> (
          rw [hH] at h1 h2 hb1
          repeat' (first | (simp (maxSteps := 1000000) only [seval, evB, exB, c_round_part_units, h1, h2, hk, hkm, hA1, hA2, hA3, hkp, hh, hd, hb1, hb3, hmsk, w1, w2]) | (simp (maxSteps := 1000000) (disch := first | with_reducible assumption | omega) only [dxB]) | (simp only [kI_d, kG_dt, kG_df]; split) | (simp only [kI_v, kG_vt, kG_vf]; split))
          all_goals (refine tup_int ?_; clear hA1 hA2; generalize w / 2 ^ k = Q at hq2 ⊢; omega))
theorem round_Over (J : Al G T g) (F : Fm) {m : Int} (h : 1 ≤ m ∧ m ≤ 5) {neg : Bool} : run G T 8 [.int .u8 F.u, .int .u8 m, .bool neg] = some (.tup [.int .u64 (ovr F m neg : Int), .int .i64 0]) := by
  rw [run_k G T J.E.round_Over]
  have h1 := round_open0 (G := G) J F h
  have h2 := word_Greatest (G := G) J F (n := neg)
  have h3 := word_Inf (G := G) J F (n := neg)
  simp only [fmA] at *
  cases neg
  · repeat' (first | (simp (maxSteps := 1000000) only [seval, evB, exB, c_round_Over, h1, h2, h3]) | (simp (maxSteps := 1000000) (disch := first | with_reducible assumption | omega) only [dxB]) | (simp only [kI_d, kG_dt, kG_df]; split) | (simp only [kI_v, kG_vt, kG_vf]; split))
    all_goals simp_all [ovr]
  · repeat' (first | (simp (maxSteps := 1000000) only [seval, evB, exB, c_round_Over, h1, h2, h3]) | (simp (maxSteps := 1000000) (disch := first | with_reducible assumption | omega) only [dxB]) | (simp only [kI_d, kG_dt, kG_df]; split) | (simp only [kI_v, kG_vt, kG_vf]; split))
    all_goals simp_all [ovr]
theorem round_Over_no (J : Al G T g) {f : Int} (h : ¬ (f = 1 ∨ f = 2)) {m : Int} {neg : Bool} : run G T 8 [.int .u8 f, .int .u8 m, .bool neg] = some (.tup [.int .u64 0, .int .i64 4]) := by
  rw [run_k G T J.E.round_Over]
  have h1 := round_open_no (G := G) J h (m := m) (v := .nil)
  simp only [fm0] at *
  repeat' (first | (simp (maxSteps := 1000000) only [seval, evB, exB, c_round_Over, h1]) | (simp (maxSteps := 1000000) (disch := first | with_reducible assumption | omega) only [dxB]) | (simp only [kI_d, kG_dt, kG_df]; split) | (simp only [kI_v, kG_vt, kG_vf]; split))
theorem round_Over_mode (J : Al G T g) (F : Fm) {m : Int} (h : m < 1 ∨ 5 < m) {neg : Bool} : run G T 8 [.int .u8 F.u, .int .u8 m, .bool neg] = some (.tup [.int .u64 0, .int .i64 5]) := by
  rw [run_k G T J.E.round_Over]
  have h1 := round_open_mode (G := G) J F h (v := .nil)
  simp only [fmA] at *
  repeat' (first | (simp (maxSteps := 1000000) only [seval, evB, exB, c_round_Over, h1]) | (simp (maxSteps := 1000000) (disch := first | with_reducible assumption | omega) only [dxB]) | (simp only [kI_d, kG_dt, kG_df]; split) | (simp only [kI_v, kG_vt, kG_vf]; split))
theorem mkD_zero (n : Bool) (e : Int) : mkD n 0 e = ⟨false, 0, 0⟩ := rfl
theorem mkD_pos {n : Bool} {m : Nat} (h : m ≠ 0) (e : Int) : mkD n m e = ⟨n, m / 2 ^ tz m, e + tz m⟩ := if_neg h
theorem mkD_m0 {n : Bool} {m : Nat} (h : m ≠ 0) (e : Int) : (mkD n m e).m ≠ 0 := by
  rw [mkD_pos h]; have := (tz_spec h).2; intro h0; simp only at h0; rw [h0] at this; exact absurd this (by decide)
theorem mkD_blen {n : Bool} {m : Nat} (h : m ≠ 0) (e : Int) : (mkD n m e).e + blen (mkD n m e).m = e + blen m := by
  rw [mkD_pos h]; simp only [blen_div]
  have := tz_blen h; omega
theorem mayL_small {a : Nat} (h : blen a ≤ 131072) : mayL (dl a) = true := by
  rw [mayL_iff]; refine ⟨?_, Nm_dl a⟩; have := dl_len_blen a; omega
theorem dg0 (a : Nat) : dg (dl a) 0 % 2 = a % 2 := by
  rw [dg_eq (Dg_dl a), val_dl]; simp
theorem mayD_mk {n : Bool} {m : Nat} {e : Int} (hb : blen m ≤ 131072) (he : m = 0 ∨ (-16777216 ≤ e + tz m ∧ e + tz m ≤ 16777216)) : mayD (mkD n m e).n (dl (mkD n m e).m) (mkD n m e).e = true := by
  by_cases h : m = 0
  · subst h; rw [mkD_zero, dl_zero]; rfl
  · rw [mkD_pos h]
    simp only at *
    have h1 : mayL (dl (m / 2 ^ tz m)) = true := mayL_small (by rw [blen_div]; omega)
    have h2 := (tz_spec h).2
    have h3 : ¬ (dl (m / 2 ^ tz m)).length = 0 := by rw [dl_len0]; intro h0; rw [h0] at h2; exact absurd h2 (by decide)
    simp only [mayD, h1, h3, if_false, dg0, h2, Bool.true_and, decide_true]
    rw [decide_eq_true (by omega : -16777216 ≤ e + tz m), decide_eq_true (by omega : e + tz m ≤ 16777216)]; rfl
theorem mkD_fits {F : Fm} {neg : Bool} {n : Nat} {e : Int} (h0 : n ≠ 0) (h1 : n ≤ 2 ^ (F.fr + 1)) (h2 : F.low ≤ e) (h3 : e + blen n ≤ F.wide) : F.fits (mkD neg n e) := by
  have hb := mkD_blen (n := neg) h0 e
  have hm := mkD_m0 (n := neg) h0 e
  refine ⟨hm, ?_, ?_, by omega⟩
  · rw [mkD_pos h0]; simp only
    rcases Nat.lt_or_ge n (2 ^ (F.fr + 1)) with h | h
    · rw [blen_div]; have := blen_le.2 h; omega
    · have h5 : n = 1 * 2 ^ (F.fr + 1) := by omega
      rw [h5, tz_unique (by decide), Nat.mul_div_cancel _ (Nat.two_pow_pos _), show blen 1 = 1 from rfl]; omega
  · rw [mkD_pos h0]; simp only; omega
theorem mkD_enc {F : Fm} {neg : Bool} {n : Nat} {e : Int} (h0 : n ≠ 0) (h1 : n ≤ 2 ^ (F.fr + 1)) (h2 : F.low ≤ e) (h4 : e = F.low ∨ 2 ^ F.fr ≤ n) :
    F.enc ((mkD neg n e).m * 2 ^ ((mkD neg n e).e - F.unit (mkD neg n e)).toNat) (F.unit (mkD neg n e)) = F.enc n e := by
  have hb := mkD_blen (n := neg) h0 e
  have hu : F.unit (mkD neg n e) = max (e + blen n - F.fr - 1) F.low := by unfold Fm.unit; rw [hb]
  rw [hu]
  rcases Nat.lt_or_ge n (2 ^ (F.fr + 1)) with h | h
  · have h5 := blen_le.2 h
    have h6 : max (e + blen n - F.fr - 1) F.low = e := by
      rcases h4 with h4 | h4
      · omega
      · have := lt_blen.2 h4; omega
    rw [h6, mkD_pos h0]
    simp only
    rw [show (e + (tz n : Int) - e).toNat = tz n by omega, ← (tz_spec h0).1]
  · have h5 : n = 1 * 2 ^ (F.fr + 1) := by omega
    have h6 : tz n = F.fr + 1 := by rw [h5]; exact tz_unique (by decide)
    have h7 : blen n = F.fr + 2 := by rw [h5, blen_mul (by decide), show blen 1 = 1 from rfl]; omega
    rw [mkD_pos h0, h6, h7]
    simp only
    have h8 : n / 2 ^ (F.fr + 1) = 1 := by rw [h5, Nat.mul_div_cancel _ (Nat.two_pow_pos _)]
    rw [h8, show max (e + ((F.fr + 2 : Nat) : Int) - F.fr - 1) F.low = e + 1 by omega, show (e + ((F.fr + 1 : Nat) : Int) - (e + 1)).toNat = F.fr by omega]
    unfold Fm.enc
    rw [show (e + 1 - F.low).toNat = (e - F.low).toNat + 1 by omega, Nat.add_mul, h5, Nat.pow_succ]; omega
theorem rdN_bd {md : Int} {neg more : Bool} {w k : Nat} (hw : blen w = 64) {p : Nat} (hk : 64 ≤ k + p) : (rdN md neg w more k).1 ≤ 2 ^ p := by
  have h64 : w < 2 ^ 64 := blen_le.1 (Nat.le_of_eq hw)
  have h1 : w / 2 ^ k < 2 ^ p := by
    apply Nat.div_lt_of_lt_mul
    rw [← Nat.pow_add]
    exact Nat.lt_of_lt_of_le h64 (Nat.pow_le_pow_right (by decide) hk)
  have h2 : ∀ b : Bool, b.toNat ≤ 1 := by intro b; cases b <;> decide
  have := h2 (upB md neg (decide (w / 2 ^ k % 2 = 1)) (halfN w k) (moreN w more k))
  simp only [rdN]; omega
theorem rdN_lo {md : Int} {neg more : Bool} {w k : Nat} (hw : blen w = 64) (hk : k ≤ 63) : 2 ^ (63 - k) ≤ (rdN md neg w more k).1 := by
  have h1 : 2 ^ 63 ≤ w := lt_blen.1 (by omega)
  have h2 : 2 ^ (63 - k) ≤ w / 2 ^ k := by
    rw [Nat.le_div_iff_mul_le (Nat.two_pow_pos _), ← Nat.pow_add, show 63 - k + k = 63 by omega]; exact h1
  simp only [rdN]; omega
theorem fm_facts (F : Fm) : (F.fr = 23 ∧ F.low = -149 ∧ F.wide = 128) ∨ (F.fr = 52 ∧ F.low = -1074 ∧ F.wide = 1024) := by
  cases F
  · exact Or.inl ⟨rfl, rfl, rfl⟩
  · exact Or.inr ⟨rfl, rfl, rfl⟩
def partW (F : Fm) (md : Int) (neg : Bool) (w : Nat) (more : Bool) (top : Int) : Nat × Nat :=
  wordOf F md neg (rdN md neg w more (F.eOf top - top + 64).toNat).1 (rdN md neg w more (F.eOf top - top + 64).toNat).2 (F.eOf top) top (rdN md neg w more (63 - F.fr)).1
set_option maxHeartbeats 4000000 in
theorem round_word (J : Al G T g) (F : Fm) {m : Int} (hm : 1 ≤ m ∧ m ≤ 5) {neg more : Bool} {w : Nat} {top : Int} (hw : blen w = 64) (ht : -549755813888 < top ∧ top < 549755813888) :
    run G T 24 [partA w top more, .int .u8 F.u, fmA F, .int .u8 m, .bool neg] = some (.tup [.int .u64 ((partW F m neg w more top).1 : Int), .int .u8 ((partW F m neg w more top).2 : Int)]) := by
  rw [run_k G T J.E.round_part_word]
  have hF := fm_facts F
  have hE : max (top - ((F.fr : Int) + 1)) F.low = F.eOf top := by unfold Fm.eOf; omega
  have u1 := round_units (G := G) J (m := m) (neg := neg) (more := more) (w := w) (k := (F.eOf top - top + 64).toNat) (e := F.eOf top) (top := top) hw (by omega) (by omega) (by omega) (by omega)
  have u2 := round_units (G := G) J (m := m) (neg := neg) (more := more) (w := w) (k := 63 - F.fr) (e := top - ((F.fr : Int) + 1)) (top := top) hw (by omega) (by omega) (by omega) (by omega)
  have b1 := rdN_bd (md := m) (neg := neg) (more := more) hw (k := (F.eOf top - top + 64).toNat) (p := F.fr + 1) (by omega)
  have b2 := rdN_bd (md := m) (neg := neg) (more := more) hw (k := 63 - F.fr) (p := F.fr + 1) (by omega)
  have l1 : F.eOf top = F.low ∨ 2 ^ F.fr ≤ (rdN m neg w more (F.eOf top - top + 64).toNat).1 := by
    by_cases h : F.eOf top = F.low
    · exact Or.inl h
    · right
      have := rdN_lo (md := m) (neg := neg) (more := more) hw (k := (F.eOf top - top + 64).toNat) (by omega)
      rwa [show 63 - (F.eOf top - top + 64).toNat = F.fr by omega] at this
  have hp : 2 ^ (F.fr + 1) ≤ 9007199254740992 := by cases F <;> decide
  have o1 := round_Over (G := G) J F hm (neg := neg)
  unfold partW
  generalize (F.eOf top - top + 64).toNat = k at *
  obtain ⟨n, ex, hR⟩ : ∃ n ex, rdN m neg w more k = (n, ex) := ⟨_, _, rfl⟩
  obtain ⟨fine, ex2, hR2⟩ : ∃ n ex, rdN m neg w more (63 - F.fr) = (n, ex) := ⟨_, _, rfl⟩
  rw [hR] at u1 b1 l1 ⊢
  rw [hR2] at u2 b2 ⊢
  simp only at *
  have c1 := bits_Len64 J (x := n) (by omega)
  have c2 := bits_Len64 J (x := fine) (by omega)
  have q1 : blen n ≤ 54 := blen_le.2 (by omega)
  have q2 : blen fine ≤ 54 := blen_le.2 (by omega)
  obtain ⟨z1, f1⟩ := nat_Of J (n := n) (by omega)
  by_cases hov : F.wide < blen n + F.eOf top
  · simp only [wordOf, if_pos hov]
    simp only [partA, fmA] at *
    repeat' (first | (simp (maxSteps := 1000000) only [seval, evB, exB, c_round_part_word, hE, u1, c1, o1]) | (simp (maxSteps := 1000000) (disch := first | with_reducible assumption | omega) only [dxB]) | (simp only [kI_d, kG_dt, kG_df]; split) | (simp only [kI_v, kG_vt, kG_vf]; split))
  · by_cases hn : n = 0
    · subst hn
      have hlow : F.eOf top = F.low := by
        rcases l1 with h | h
        · exact h
        · have := Nat.two_pow_pos F.fr; omega
      obtain ⟨z2, f2⟩ := dyad_Make J (n := neg) (z := z1) (a := 0) (e := F.eOf top) (mayL_small (by rw [blen_zero]; omega)) (Or.inl rfl) (by omega)
      rw [mkD_zero] at f2
      have f3 := word_Of_zero J F (z := z2)
      have f4 := word_Zero J F (n := neg)
      have e0 : F.enc 0 (F.eOf top) = 0 := by rw [hlow]; simp [Fm.enc]
      simp only [wordOf, if_neg hov, e0, Nat.zero_add]
      simp only [partA, fmA, DyA, A3, cast0] at *
      cases ex
      · repeat' (first | (simp (maxSteps := 1000000) only [seval, evB, exB, c_round_part_word, hE, u1, c1, c2, u2, f1, f2, f3, f4]) | (simp (maxSteps := 1000000) (disch := first | with_reducible assumption | omega) only [dxB]) | (simp only [kI_d, kG_dt, kG_df]; split) | (simp only [kI_v, kG_vt, kG_vf]; split))
        all_goals simp_all
        all_goals (split <;> omega)
      · repeat' (first | (simp (maxSteps := 1000000) only [seval, evB, exB, c_round_part_word, hE, u1, c1, c2, u2, f1, f2, f3, f4]) | (simp (maxSteps := 1000000) (disch := first | with_reducible assumption | omega) only [dxB]) | (simp only [kI_d, kG_dt, kG_df]; split) | (simp only [kI_v, kG_vt, kG_vf]; split))
        all_goals simp_all
    · have htz := tz_blen hn
      obtain ⟨z2, f2⟩ := dyad_Make J (n := neg) (z := z1) (a := n) (e := F.eOf top) (mayL_small (by omega)) (Or.inr (by omega)) (by omega)
      have hft := mkD_fits (F := F) (neg := neg) hn b1 (by omega : F.low ≤ F.eOf top) (by omega)
      have f3 := word_Of J F (z := z2) (mayD_mk (n := neg) (m := n) (e := F.eOf top) (by omega) (Or.inr (by omega))) hft
      rw [mkD_enc hn b1 (by omega) l1] at f3
      have hsn : (mkD neg n (F.eOf top)).n = neg := by rw [mkD_pos hn]
      rw [hsn] at f3
      simp only [wordOf, if_neg hov]
      have hn' : ¬ (n : Int) = 0 := by omega
      simp only [partA, fmA, DyA, A3] at *
      cases ex
      · repeat' (first | (simp (maxSteps := 1000000) only [seval, evB, exB, c_round_part_word, hE, u1, c1, c2, u2, f1, f2, f3, hn']) | (simp (maxSteps := 1000000) (disch := first | with_reducible assumption | omega) only [dxB]) | (simp only [kI_d, kG_dt, kG_df]; split) | (simp only [kI_v, kG_vt, kG_vf]; split))
        all_goals simp_all
        all_goals (split <;> omega)
      · repeat' (first | (simp (maxSteps := 1000000) only [seval, evB, exB, c_round_part_word, hE, u1, c1, c2, u2, f1, f2, f3, hn']) | (simp (maxSteps := 1000000) (disch := first | with_reducible assumption | omega) only [dxB]) | (simp only [kI_d, kG_dt, kG_df]; split) | (simp only [kI_v, kG_vt, kG_vf]; split))
        all_goals simp_all
theorem partW_eq (F : Fm) (md : Int) {d : Dy} (h : d.m ≠ 0) : partW F md d.n (headN d.m) (behindN d.m) (d.e + blen d.m) = rndW F md d := by
  have hF := fm_facts F
  have e1 := rdN_part md d.n h d.e (F.eOf (d.e + blen d.m)) (by unfold Fm.eOf; omega)
  have e2 := rdN_part md d.n h d.e (d.e + blen d.m - F.fr - 1) (by omega)
  rw [show (d.e + (blen d.m : Int) - F.fr - 1 - (d.e + blen d.m) + 64).toNat = 63 - F.fr by omega] at e2
  simp only [partW, rndW, if_neg h, headN, behindN, e1, e2]
theorem sign_may {n : Bool} {m : Nat} {e : Int} (h : mayD n (dl m) e = true) : (if mayD n (dl m) e = false ∨ (dl m).length = 0 then (0 : Int) else if n then -1 else 1) = if m = 0 then 0 else if n then -1 else 1 := by
  simp [h, dl_eq_nil]
theorem mayD_facts {n : Bool} {l : List Nat} {e : Int} (h : mayD n l e = true) : mayL l = true ∧ (l.length = 0 → n = false ∧ e = 0) ∧ (l.length ≠ 0 → dg l 0 % 2 = 1) ∧ -16777216 ≤ e ∧ e ≤ 16777216 := by
  simp only [mayD, Bool.and_eq_true] at h
  obtain ⟨h1, h2⟩ := h
  refine ⟨h1, ?_⟩
  by_cases h0 : l.length = 0
  · rw [if_pos h0] at h2
    simp only [Bool.and_eq_true, Bool.not_eq_true', decide_eq_true_eq] at h2
    exact ⟨fun _ => h2, fun h => absurd h0 h, by omega, by omega⟩
  · rw [if_neg h0] at h2
    simp only [Bool.and_eq_true, decide_eq_true_eq] at h2
    exact ⟨fun h => absurd h h0, fun _ => h2.1, h2.2.1, h2.2.2⟩
theorem round_Round (J : Al G T g) (F : Fm) {m : Int} (hm : 1 ≤ m ∧ m ≤ 5) {z : Bool} {d : Dy} (hd : mayD d.n (dl d.m) d.e = true) :
    run G T 7 [.int .u8 F.u, .int .u8 m, DyA z d] = some (.tup [.int .u64 ((rndW F m d).1 : Int), .int .u8 ((rndW F m d).2 : Int), .int .i64 0]) := by
  rw [run_k G T J.E.round_Round]
  obtain ⟨f1, f2, f3, f4, f5⟩ := mayD_facts hd
  have o1 := round_open1 (G := G) J F hm (n := d.n) (z := z) (Dg_dl d.m) (e := d.e)
  rw [hd, if_pos rfl] at o1
  have s1 := dyad_Sign (G := G) J (n := d.n) (z := z) (Dg_dl d.m) (e := d.e)
  rw [sign_may hd] at s1
  by_cases h0 : d.m = 0
  · rw [if_pos h0] at s1
    simp only [rndW, if_pos h0]
    simp only [DyA, A3, fmA] at *
    repeat' (first | (simp (maxSteps := 1000000) only [seval, evB, exB, c_round_Round, o1, s1]) | (simp (maxSteps := 1000000) (disch := first | with_reducible assumption | omega) only [dxB]) | (simp only [kI_d, kG_dt, kG_df]; split) | (simp only [kI_v, kG_vt, kG_vf]; split))
    all_goals rfl
  · have hb := may_blen f1
    have p1 := round_partOf (G := G) J (z := z) f1 h0 (by omega)
    have w1 := round_word (G := G) J F hm (neg := d.n) (more := behindN d.m) (w := headN d.m) (top := d.e + blen d.m) (headN_blen h0) (by omega)
    rw [partW_eq F m h0] at w1
    rw [if_neg h0] at s1
    cases hn : d.n <;> (
      simp only [DyA, A3, fmA, partA, hn, Bool.false_eq_true, if_true, if_false] at *
      repeat' (first | (simp (maxSteps := 1000000) only [seval, evB, exB, c_round_Round, o1, s1, p1, w1]) | (simp (maxSteps := 1000000) (disch := first | with_reducible assumption | omega) only [dxB]) | (simp only [kI_d, kG_dt, kG_df]; split) | (simp only [kI_v, kG_vt, kG_vf]; split)))
def iv (d : Dy) (L : Int) : Int := (if d.n then -1 else 1) * ((d.m * 2 ^ (d.e - L).toNat : Nat) : Int)
def LoE (d : Dy) (L : Int) : Prop := d.m = 0 ∨ L ≤ d.e
def sgI (x : Int) : Int := if x < 0 then -1 else if 0 < x then 1 else 0
theorem iv_zero {d : Dy} (h : d.m = 0) (L : Int) : iv d L = 0 := by simp [iv, h]
theorem two_split {a b c : Int} (h1 : a ≤ b) (h2 : b ≤ c) : 2 ^ (c - a).toNat = 2 ^ (c - b).toNat * 2 ^ (b - a).toNat := by
  rw [← Nat.pow_add]; congr 1; omega
theorem mkD_val {n : Bool} {m : Nat} (h : m ≠ 0) {e L : Int} (hL : L ≤ e) : (mkD n m e).m * 2 ^ ((mkD n m e).e - L).toNat = m * 2 ^ (e - L).toNat := by
  rw [mkD_pos h]
  simp only
  rw [two_split (b := e) hL (by omega), show (e + (tz m : Int) - e).toNat = tz m by omega, ← Nat.mul_assoc, ← (tz_spec h).1]
theorem mkD_n {n : Bool} {m : Nat} (h : m ≠ 0) (e : Int) : (mkD n m e).n = n := by rw [mkD_pos h]
theorem iv_mk {n : Bool} {m : Nat} {e L : Int} (hL : L ≤ e) : iv (mkD n m e) L = (if n then -1 else 1) * ((m * 2 ^ (e - L).toNat : Nat) : Int) := by
  by_cases h : m = 0
  · subst h; rw [mkD_zero]; simp [iv]
  · unfold iv; rw [mkD_val h hL, mkD_n h]
theorem LoE_mk {n : Bool} {m : Nat} {e L : Int} (hL : L ≤ e) : LoE (mkD n m e) L := by
  by_cases h : m = 0
  · subst h; exact Or.inl rfl
  · right; rw [mkD_pos h]; simp only; omega
theorem LoE.mono {d : Dy} {L L' : Int} (h : LoE d L) (hl : L' ≤ L) : LoE d L' := h.imp id (by omega)
theorem iv_scale {d : Dy} {L L' : Int} (h : LoE d L) (hl : L' ≤ L) : iv d L' = iv d L * ((2 ^ (L - L').toNat : Nat) : Int) := by
  rcases h with h | h
  · rw [iv_zero h, iv_zero h]; simp
  · unfold iv
    rw [two_split hl h, ← Nat.mul_assoc, Int.natCast_mul, Int.mul_assoc]
theorem iv_neg (d : Dy) (L : Int) : iv (negD d) L = -iv d L := by
  unfold negD; split
  · next h => rw [iv_zero h]; rfl
  · unfold iv; cases d.n <;> simp
theorem LoE_neg {d : Dy} {L : Int} (h : LoE d L) : LoE (negD d) L := by
  unfold negD; split
  · exact h
  · exact h
theorem iv_abs (d : Dy) (L : Int) : iv (absD d) L = ((d.m * 2 ^ (d.e - L).toNat : Nat) : Int) := by simp [iv, absD]
theorem sgn_mul (n : Bool) (a b : Int) : (if n then -1 else 1) * a + (if n then -1 else 1) * b = (if n then -1 else 1) * (a + b) := by cases n <;> simp <;> omega
theorem iv_add {a b : Dy} {L : Int} (ha : LoE a L) (hb : LoE b L) : iv (addD a b) L = iv a L + iv b L ∧ LoE (addD a b) L := by
  unfold addD
  by_cases h0 : a.m = 0
  · rw [if_pos h0, iv_zero h0, Int.zero_add]; exact ⟨rfl, hb⟩
  · rw [if_neg h0]
    by_cases h1 : b.m = 0
    · rw [if_pos h1, iv_zero h1, Int.add_zero]; exact ⟨rfl, ha⟩
    · rw [if_neg h1]
      have la : L ≤ a.e := ha.resolve_left h0
      have lb : L ≤ b.e := hb.resolve_left h1
      have hL : L ≤ min a.e b.e := by omega
      have va : iv a L = (if a.n then -1 else 1) * (((a.m * 2 ^ (a.e - min a.e b.e).toNat) * 2 ^ (min a.e b.e - L).toNat : Nat) : Int) := by
        unfold iv; rw [two_split hL (show min a.e b.e ≤ a.e by omega), Nat.mul_assoc]
      have vb : iv b L = (if b.n then -1 else 1) * (((b.m * 2 ^ (b.e - min a.e b.e).toNat) * 2 ^ (min a.e b.e - L).toNat : Nat) : Int) := by
        unfold iv; rw [two_split hL (show min a.e b.e ≤ b.e by omega), Nat.mul_assoc]
      rw [va, vb]
      generalize a.m * 2 ^ (a.e - min a.e b.e).toNat = A
      generalize b.m * 2 ^ (b.e - min a.e b.e).toNat = B
      generalize hM : min a.e b.e = M at *
      by_cases hn : a.n = b.n
      · rw [if_pos hn]
        refine ⟨?_, LoE_mk hL⟩
        rw [iv_mk hL, ← hn, sgn_mul, Nat.add_mul, Int.natCast_add]
      · rw [if_neg hn]
        have hbn : b.n = !a.n := by cases h : a.n <;> cases h' : b.n <;> simp_all
        by_cases hc : B ≤ A
        · rw [if_pos hc]
          refine ⟨?_, LoE_mk hL⟩
          rw [iv_mk hL, hbn]
          have := Nat.mul_le_mul_right (2 ^ (M - L).toNat) hc
          rw [Nat.sub_mul, Int.natCast_sub this]
          cases a.n <;> simp <;> omega
        · rw [if_neg hc]
          refine ⟨?_, LoE_mk hL⟩
          rw [iv_mk hL, hbn]
          have := Nat.mul_le_mul_right (2 ^ (M - L).toNat) (by omega : A ≤ B)
          rw [Nat.sub_mul, Int.natCast_sub this]
          cases a.n <;> simp <;> omega
theorem iv_sub {a b : Dy} {L : Int} (ha : LoE a L) (hb : LoE b L) : iv (subD a b) L = iv a L - iv b L ∧ LoE (subD a b) L := by
  have h := iv_add ha (LoE_neg hb)
  rw [iv_neg] at h
  exact ⟨by unfold subD; rw [h.1]; omega, h.2⟩
theorem iv_two {n L : Int} : iv (twoD n) L = ((2 ^ (n - L).toNat : Nat) : Int) := by simp [iv, twoD]
theorem sgn_iv (d : Dy) (L : Int) : sgnD d = sgI (iv d L) := by
  unfold sgnD sgI iv
  have hp := Nat.two_pow_pos (d.e - L).toNat
  by_cases h : d.m = 0
  · simp [h]
  · rw [if_neg h]
    have : 0 < d.m * 2 ^ (d.e - L).toNat := Nat.mul_pos (by omega) hp
    generalize d.m * 2 ^ (d.e - L).toNat = X at *
    cases d.n <;> simp <;> omega
theorem top_lt {a b : Dy} {L : Int} (h0 : a.m ≠ 0) (h1 : b.m ≠ 0) (la : L ≤ a.e) (lb : L ≤ b.e) (h : a.e + blen a.m < b.e + blen b.m) : a.m * 2 ^ (a.e - L).toNat < b.m * 2 ^ (b.e - L).toNat := by
  have e1 := blen_mul h0 (a.e - L).toNat
  have e2 := blen_mul h1 (b.e - L).toNat
  have h2 : blen (a.m * 2 ^ (a.e - L).toNat) ≤ blen (b.m * 2 ^ (b.e - L).toNat) - 1 := by omega
  have h3 := blen_le.1 h2
  have h4 := pow_blen_le (n := b.m * 2 ^ (b.e - L).toNat) (by
    have := Nat.mul_pos (Nat.pos_of_ne_zero h1) (Nat.two_pow_pos (b.e - L).toNat); omega)
  omega
theorem cmp_iv {a b : Dy} {L : Int} (ha : LoE a L) (hb : LoE b L) : cmpD a b = sgI (iv a L - iv b L) := by
  unfold cmpD
  have sa := sgn_iv a L
  have sb := sgn_iv b L
  by_cases h1 : sgnD a = sgnD b
  · rw [if_neg (by simpa using h1)]
    by_cases h2 : sgnD a = 0
    · rw [if_pos h2]
      have z1 : a.m = 0 := by unfold sgnD at h2; split at h2; assumption; split at h2 <;> cases h2
      have z2 : b.m = 0 := by rw [h1] at h2; unfold sgnD at h2; split at h2; assumption; split at h2 <;> cases h2
      rw [iv_zero z1, iv_zero z2]; rfl
    · rw [if_neg h2]
      have n1 : a.m ≠ 0 := by intro h; apply h2; simp [sgnD, h]
      have n2 : b.m ≠ 0 := by intro h; apply h2; rw [h1]; simp [sgnD, h]
      have la := ha.resolve_left n1
      have lb := hb.resolve_left n2
      have hs : a.n = b.n := by
        unfold sgnD at h1; rw [if_neg n1, if_neg n2] at h1
        cases h : a.n <;> cases h' : b.n <;> simp_all
      have t1 : topD a = a.e + blen a.m := by unfold topD; rw [if_neg n1]
      have t2 : topD b = b.e + blen b.m := by unfold topD; rw [if_neg n2]
      have sg : sgnD a = if a.n then -1 else 1 := by unfold sgnD; rw [if_neg n1]
      by_cases h3 : topD a = topD b
      · rw [if_neg (by simpa using h3)]
        rw [sgn_iv _ L, (iv_sub ha hb).1]
      · rw [if_pos h3]
        rw [t1, t2] at *
        rcases Int.lt_or_gt_of_ne h3 with h4 | h4
        · have := top_lt n1 n2 la lb h4
          unfold iv sgI
          rw [← hs, sg, decide_eq_true h4]
          generalize a.m * 2 ^ (a.e - L).toNat = X at *
          generalize b.m * 2 ^ (b.e - L).toNat = Y at *
          cases a.n <;> simp <;> omega
        · have := top_lt n2 n1 lb la h4
          have h5 : ¬ (a.e + (blen a.m : Int) < b.e + blen b.m) := by omega
          unfold iv sgI
          rw [← hs, sg, decide_eq_false h5]
          generalize a.m * 2 ^ (a.e - L).toNat = X at *
          generalize b.m * 2 ^ (b.e - L).toNat = Y at *
          cases a.n <;> simp <;> omega
  · rw [if_pos (by simpa using h1)]
    rw [sa, sb] at *
    unfold sgI at *
    generalize iv a L = x at *
    generalize iv b L = y at *
    by_cases x1 : x < 0 <;> by_cases x2 : 0 < x <;> by_cases y1 : y < 0 <;> by_cases y2 : 0 < y <;> simp_all <;> omega
theorem ref04_Is (J : Al G T g) {m : Int} : run G T 28 [.int .u8 m] = some (.bool (decide (1 ≤ m ∧ m ≤ 5))) := by
  rw [run_k G T J.E.ref04_Is]
  repeat' (first | (simp (maxSteps := 1000000) only [seval, evB, exB, c_ref04_Is]) | (simp (maxSteps := 1000000) (disch := first | with_reducible assumption | omega) only [dxB]) | (simp only [kI_d, kG_dt, kG_df]; split) | (simp only [kI_v, kG_vt, kG_vf]; split))
  all_goals simp_all
theorem ref04_half (J : Al G T g) {z : Bool} {d : Dy} (he : -4398046511104 < d.e ∧ d.e < 4398046511104) : run G T 71 [DyA z d] = some (DyA z (shD d (-1))) := by
  rw [run_k G T J.E.ref04_half]
  have h1 := ref02_Shift (G := G) J (z := z) (d := d) (k := -1) (by omega) he
  simp only [DyA, A3] at *
  repeat' (first | (simp (maxSteps := 1000000) only [seval, evB, exB, c_ref04_half, h1]) | (simp (maxSteps := 1000000) (disch := first | with_reducible assumption | omega) only [dxB]) | (simp only [kI_d, kG_dt, kG_df]; split) | (simp only [kI_v, kG_vt, kG_vf]; split))
theorem ref04_Over (J : Al G T g) (F : Fm) {m : Int} (hm : 1 ≤ m ∧ m ≤ 5) {neg : Bool} : run G T 10 [.int .u8 F.u, .int .u8 m, .bool neg] = some (.int .u64 (ovr F m neg : Int)) := by
  rw [run_k G T J.E.ref04_Over]
  have h1 := ref03_Inf (G := G) J F (n := neg)
  have hb : 1 ≤ F.inf neg ∧ F.inf neg < 18446744073709551616 := by cases F <;> cases neg <;> decide
  have h2 : ((F.inf neg : Int) - 1) % 18446744073709551616 = ((F.inf neg - 1 : Nat) : Int) := by omega
  cases neg
  · repeat' (first | (simp (maxSteps := 1000000) only [seval, evB, exB, c_ref04_Over, h1, h2]) | (simp (maxSteps := 1000000) (disch := first | with_reducible assumption | omega) only [dxB]) | (simp only [kI_d, kG_dt, kG_df]; split) | (simp only [kI_v, kG_vt, kG_vf]; split))
    all_goals simp_all [ovr]
  · repeat' (first | (simp (maxSteps := 1000000) only [seval, evB, exB, c_ref04_Over, h1, h2]) | (simp (maxSteps := 1000000) (disch := first | with_reducible assumption | omega) only [dxB]) | (simp only [kI_d, kG_dt, kG_df]; split) | (simp only [kI_v, kG_vt, kG_vf]; split))
    all_goals simp_all [ovr]
theorem dl_inj {a b : Nat} : dl a = dl b ↔ a = b := ⟨fun h => by rw [← val_dl a, h, val_dl], fun h => by rw [h]⟩
def sameD (a b : Dy) : Prop := a.n = b.n ∧ a.e = b.e ∧ a.m = b.m
instance (a b : Dy) : Decidable (sameD a b) := inferInstanceAs (Decidable (_ ∧ _ ∧ _))
theorem same_dy (J : Al G T g) {z y : Bool} {a b : Dy} (hs : (dl a.m).length < 1099511627776) : run G T 14 [DyA z a, DyA y b] = some (.bool (decide (sameD a b))) := by
  have h := ref02_Same J (n := a.n) (n' := b.n) (z := z) (z' := y) (l := dl a.m) (l' := dl b.m) (e := a.e) (e' := b.e) hs
  simp only [dl_inj] at h
  exact h
theorem Bd.mono {d : Dy} {K L : Nat} (h : Bd d K) (hl : K ≤ L) : Bd d L := ⟨by have := h.bl; omega, by have := h.lo; omega, by have := h.hi; omega⟩
theorem Bd_mk {n : Bool} {m : Nat} {e : Int} {K : Nat} (h1 : blen m ≤ K) (h2 : -(K : Int) ≤ e) (h3 : e + blen m ≤ K) : Bd (mkD n m e) K := by
  by_cases h : m = 0
  · subst h; rw [mkD_zero]; exact ⟨by simp only [blen_zero]; omega, by simp only; omega, by simp only; omega⟩
  · rw [mkD_pos h]
    have := tz_blen h
    exact ⟨by simp only [blen_div]; omega, by simp only; omega, by simp only; omega⟩
theorem Bd_two {n : Int} {K : Nat} (h : -(K : Int) ≤ n ∧ n ≤ K) (h1 : 1 ≤ K) : Bd (twoD n) K := ⟨by show blen 1 ≤ K; rw [show blen 1 = 1 from rfl]; exact h1, h.1, h.2⟩
theorem Bd_sh {d : Dy} {K : Nat} {k : Int} (h : Bd d K) {L : Nat} (h1 : -(L : Int) ≤ k ∧ k ≤ L) : Bd (shD d k) (K + L) := by
  obtain ⟨a, b, c⟩ := h
  unfold shD; split
  · exact ⟨by omega, by omega, by omega⟩
  · exact ⟨by simp only; omega, by simp only; omega, by simp only; omega⟩
theorem Bd_floor {d : Dy} {K : Nat} (h : Bd d K) : Bd (floorD d) (K + 1) := by
  obtain ⟨a, b, c⟩ := h
  unfold floorD; split
  · exact ⟨by omega, by omega, by omega⟩
  · have h1 := blen_add_le (d.m / 2 ^ (-d.e).toNat) (if (d.n && !decide (d.m % 2 ^ (-d.e).toNat = 0)) = true then 1 else 0)
    have h2 := blen_div d.m (-d.e).toNat
    have h3 : blen (if (d.n && !decide (d.m % 2 ^ (-d.e).toNat = 0)) = true then 1 else 0) ≤ 1 := by split <;> decide
    by_cases hz : blen d.m = 0
    · have := blen_eq_zero.1 hz
      rw [this]; simp only [Nat.zero_div, Nat.zero_mod, decide_true, Bool.not_true, Bool.and_false, Bool.false_eq_true, if_false, Nat.add_zero]
      rw [mkD_zero]; exact ⟨by simp only [blen_zero]; omega, by simp only; omega, by simp only; omega⟩
    · exact Bd_mk (by omega) (by omega) (by omega)
theorem Bd_add {a b : Dy} {K : Nat} (ha : Bd a K) (hb : Bd b K) : Bd (addD a b) (4 * K + 1) := by
  obtain ⟨a1, a2, a3⟩ := ha
  obtain ⟨b1, b2, b3⟩ := hb
  unfold addD
  have x1 := blen_mul_le a.m (a.e - min a.e b.e).toNat
  have x2 := blen_mul_le b.m (b.e - min a.e b.e).toNat
  generalize a.m * 2 ^ (a.e - min a.e b.e).toNat = A at *
  generalize b.m * 2 ^ (b.e - min a.e b.e).toNat = B at *
  have s1 := blen_add_le A B
  have s2 := blen_mono (Nat.sub_le A B)
  have s3 := blen_mono (Nat.sub_le B A)
  split
  · exact ⟨by omega, by omega, by omega⟩
  · split
    · exact ⟨by omega, by omega, by omega⟩
    · split
      · exact Bd_mk (by omega) (by omega) (by omega)
      · split
        · exact Bd_mk (by omega) (by omega) (by omega)
        · exact Bd_mk (by omega) (by omega) (by omega)
theorem Bd_sub {a b : Dy} {K : Nat} (ha : Bd a K) (hb : Bd b K) : Bd (subD a b) (4 * K + 1) := Bd_add ha hb.neg
def lowD (x : Dy) (u : Int) : Dy := shD (floorD (shD x (-u))) u
def highD (x : Dy) (u : Int) : Dy := addD (lowD x u) (twoD u)
def evenD (x : Dy) (u : Int) : Prop := sameD (floorD (shD (shD (lowD x u) (-u)) (-1))) (shD (shD (lowD x u) (-u)) (-1))
instance (x : Dy) (u : Int) : Decidable (evenD x u) := inferInstanceAs (Decidable (sameD _ _))
def takenD (md : Int) (x : Dy) (u : Int) : Dy :=
  if sameD (lowD x u) x then x
  else if md = 5 then lowD x u
  else if md = 4 then highD x u
  else if md = 3 then (if x.n = true then highD x u else lowD x u)
  else if cmpD (subD x (lowD x u)) (subD (highD x u) x) < 0 then lowD x u
  else if 0 < cmpD (subD x (lowD x u)) (subD (highD x u) x) then highD x u
  else if md = 2 then (if x.n = true then lowD x u else highD x u)
  else if evenD x u then lowD x u else highD x u
set_option maxHeartbeats 4000000 in
theorem ref04_Taken (J : Al G T g) {md : Int} {z : Bool} {x : Dy} {u : Int} (hx : Bd x 268435456) (hu : -268435456 ≤ u ∧ u ≤ 268435456) :
    ∃ z', run G T 34 [.int .u8 md, DyA z x, .int .i64 u] = some (DyA z' (takenD md x u)) := by
  apply exP
  rw [run_k G T J.E.ref04_Taken]
  have bA := Bd_sh hx (k := -u) (L := 268435456) (by omega)
  have bB := Bd_floor bA
  have bL : Bd (lowD x u) 1073741824 := (Bd_sh bB (k := u) (L := 268435456) hu).mono (by decide)
  have bT : Bd (twoD u) 1073741824 := Bd_two (by omega) (by decide)
  have bH : Bd (highD x u) 5368709120 := (Bd_add bL bT).mono (by decide)
  have bx : Bd x 5368709120 := hx.mono (by decide)
  have bS1 := (Bd_sub bx (bL.mono (by decide : 1073741824 ≤ 5368709120))).mono (by decide : 4 * 5368709120 + 1 ≤ 34359738368)
  have bS2 := (Bd_sub bH bx).mono (by decide : 4 * 5368709120 + 1 ≤ 34359738368)
  have bK := Bd_sh bL (k := -u) (L := 268435456) (by omega)
  have bK2 := Bd_sh bK (k := -1) (L := 1) (by omega)
  have len : ∀ {d : Dy} {K : Nat}, Bd d K → K < 34359738368 → (dl d.m).length < 17179869183 := fun {d K} h hk => by
    have := dl_len_blen d.m; have := h.bl; omega
  have s1 := ref02_Shift J (z := z) (d := x) (k := -u) (by omega) (by have := hx.lo; have := hx.hi; omega)
  obtain ⟨z1, s2⟩ := ref02_Floor J (z := z) (d := shD x (-u)) (len bA (by decide)) (by have := bA.lo; have := bA.hi; omega)
  have s3 := ref02_Shift J (z := z1) (d := floorD (shD x (-u))) (k := u) (by omega) (by have := bB.lo; have := bB.hi; omega)
  have s4 := same_dy J (z := z1) (y := z) (a := lowD x u) (b := x) (by have := len bL (by decide); omega)
  have s5 := ref02_Two J (n := u)
  obtain ⟨z2, s6⟩ := ref02_Add J (z := z1) (y := false) (bL.mono (by decide)) (bT.mono (by decide))
  obtain ⟨z3, s7⟩ := ref02_Sub J (z := z) (y := z1) (a := x) (b := lowD x u) (bx.mono (by decide)) (bL.mono (by decide))
  obtain ⟨z4, s8⟩ := ref02_Sub J (z := z2) (y := z) (a := highD x u) (b := x) (bH.mono (by decide)) (bx.mono (by decide))
  have s9 := ref02_Cmp J (z := z3) (y := z4) bS1 bS2
  have s10 := ref02_Shift J (z := z1) (d := lowD x u) (k := -u) (by omega) (by have := bL.lo; have := bL.hi; omega)
  have s11 := ref04_half J (z := z1) (d := shD (lowD x u) (-u)) (by have := bK.lo; have := bK.hi; omega)
  obtain ⟨z5, s12⟩ := ref02_Floor J (z := z1) (d := shD (shD (lowD x u) (-u)) (-1)) (len bK2 (by decide)) (by have := bK2.lo; have := bK2.hi; omega)
  have s13 := same_dy J (z := z5) (y := z1) (a := floorD (shD (shD (lowD x u) (-u)) (-1))) (b := shD (shD (lowD x u) (-u)) (-1)) (by have := len (Bd_floor bK2) (by decide); omega)
  clear bA bB bL bT bH bx bS1 bS2 bK bK2 len
  change run G T _ _ = some (DyA z1 (lowD x u)) at s3
  change run G T _ _ = some (DyA z2 (highD x u)) at s6
  change run G T _ _ = some (AV.bool (decide (evenD x u))) at s13
  obtain ⟨n, m, e⟩ := x
  cases n
  all_goals
    simp only [DyA, A3] at *
    repeat' (first | (simp (maxSteps := 1000000) only [seval, evB, exB, c_ref04_Taken, s1, s2, s3, s4, s5, s6, s7, s8, s9, s10, s11, s12, s13, Int.zero_sub]) | (simp (maxSteps := 1000000) (disch := first | with_reducible assumption | omega) only [dxB]) | (simp only [kI_d, kG_dt, kG_df]; split) | (simp only [kI_v, kG_vt, kG_vf]; split))
    all_goals clear s1 s2 s3 s4 s5 s6 s7 s8 s9 s10 s11 s12 s13
    all_goals unfold takenD
    all_goals repeat (first | rw [if_pos (by first | assumption | decide)] | rw [if_neg (by first | assumption | decide)])
    all_goals first
      | exact Post.some ⟨z, rfl⟩
      | exact Post.some ⟨z1, rfl⟩
      | exact Post.some ⟨z2, rfl⟩
def Nz (d : Dy) : Prop := (d.m = 0 → d = ⟨false, 0, 0⟩) ∧ (d.m ≠ 0 → d.m % 2 = 1)
theorem Nz_mk (n : Bool) (m : Nat) (e : Int) : Nz (mkD n m e) := by
  by_cases h : m = 0
  · subst h; rw [mkD_zero]; exact ⟨fun _ => rfl, fun h => absurd rfl h⟩
  · have h0 := mkD_m0 (n := n) h e
    refine ⟨fun h1 => absurd h1 h0, fun _ => ?_⟩
    rw [mkD_pos h]; exact (tz_spec h).2
theorem Nz_neg {d : Dy} (h : Nz d) : Nz (negD d) := by
  unfold negD; split
  · exact h
  · next h0 => exact ⟨fun h1 => absurd h1 h0, h.2⟩
theorem Nz_add {a b : Dy} (ha : Nz a) (hb : Nz b) : Nz (addD a b) := by
  unfold addD; split
  · exact hb
  · split
    · exact ha
    · split
      · exact Nz_mk ..
      · split <;> exact Nz_mk ..
theorem Nz_two (n : Int) : Nz (twoD n) := ⟨fun h => Nat.noConfusion h, fun _ => rfl⟩
theorem nz_eq {a b : Dy} {L : Int} (ha : Nz a) (hb : Nz b) (la : LoE a L) (lb : LoE b L) (h : iv a L = iv b L) : a = b := by
  have hp := fun d : Dy => Nat.two_pow_pos (d.e - L).toNat
  by_cases h0 : a.m = 0
  · have h1 : b.m = 0 := by
      rw [iv_zero h0] at h
      unfold iv at h
      have h2 := hp b
      rcases Nat.eq_zero_or_pos (b.m * 2 ^ (b.e - L).toNat) with h3 | h3
      · rcases Nat.mul_eq_zero.1 h3 with h4 | h4
        · exact h4
        · omega
      · exfalso
        generalize b.m * 2 ^ (b.e - L).toNat = X at *
        cases hb : b.n <;> simp [hb] at h <;> omega
    rw [ha.1 h0, hb.1 h1]
  · have h1 : b.m ≠ 0 := by
      intro h1
      rw [iv_zero h1] at h
      unfold iv at h
      have h3 := Nat.mul_pos (Nat.pos_of_ne_zero h0) (hp a)
      generalize a.m * 2 ^ (a.e - L).toNat = X at *
      cases hb : a.n <;> simp [hb] at h <;> omega
    have p1 := Nat.mul_pos (Nat.pos_of_ne_zero h0) (hp a)
    have p2 := Nat.mul_pos (Nat.pos_of_ne_zero h1) (hp b)
    unfold iv at h
    have hX : a.m * 2 ^ (a.e - L).toNat = b.m * 2 ^ (b.e - L).toNat ∧ a.n = b.n := by
      generalize a.m * 2 ^ (a.e - L).toNat = X at *
      generalize b.m * 2 ^ (b.e - L).toNat = Y at *
      cases ha : a.n <;> cases hb : b.n <;> simp [ha, hb] at h ⊢ <;> omega
    obtain ⟨hX, hn⟩ := hX
    have t1 := tz_unique (k := (a.e - L).toNat) (ha.2 h0)
    have t2 := tz_unique (k := (b.e - L).toNat) (hb.2 h1)
    rw [hX, t2] at t1
    have l1 := la.resolve_left h0
    have l2 := lb.resolve_left h1
    have he : a.e = b.e := by omega
    rw [he] at hX
    have hm := Nat.eq_of_mul_eq_mul_right (hp b) hX
    obtain ⟨n, m, e⟩ := a
    obtain ⟨n', m', e'⟩ := b
    simp only at *
    subst he hm hn; rfl
theorem sgI_neg {x : Int} : sgI x < 0 ↔ x < 0 := by unfold sgI; split <;> (try split) <;> omega
theorem sgI_pos {x : Int} : 0 < sgI x ↔ 0 < x := by unfold sgI; split <;> (try split) <;> omega
theorem sh_mk (n : Bool) (f : Nat) (e u : Int) : shD (mkD n f e) u = mkD n f (e + u) ∨ f = 0 := by
  by_cases h : f = 0
  · exact Or.inr h
  · left
    have := mkD_m0 (n := n) h e
    unfold shD; rw [if_neg this, mkD_pos h, mkD_pos h]; simp only [Dy.mk.injEq, true_and]; omega
theorem sh_mk0 (n : Bool) (f : Nat) (u : Int) : shD (mkD n f 0) u = mkD n f u := by
  rcases sh_mk n f 0 u with h | h
  · rw [h, Int.zero_add]
  · subst h; rfl
theorem half_spec (m : Nat) {k : Nat} (hk : 0 < k) : m % 2 ^ k = (if halfN m k then 2 ^ (k - 1) else 0) + m % 2 ^ (k - 1) ∧ m % 2 ^ (k - 1) < 2 ^ (k - 1) ∧ 2 ^ k = 2 * 2 ^ (k - 1) := by
  obtain ⟨i, rfl⟩ : ∃ i, k = i + 1 := ⟨k - 1, by omega⟩
  refine ⟨?_, Nat.mod_lt _ (Nat.two_pow_pos _), by rw [Nat.add_sub_cancel, Nat.pow_succ]; omega⟩
  rw [Nat.pow_succ, Nat.mod_mul, Nat.add_sub_cancel]
  simp only [halfN, Nat.add_sub_cancel]
  have : m / 2 ^ i % 2 = 0 ∨ m / 2 ^ i % 2 = 1 := by omega
  rcases this with h | h <;> simp [h] <;> omega
theorem odd_mod {m k : Nat} (ho : m % 2 = 1) (hk : 0 < k) : m % 2 ^ k ≠ 0 := by
  obtain ⟨i, rfl⟩ : ∃ i, k = i + 1 := ⟨k - 1, by omega⟩
  intro h
  have : m % 2 ^ (i + 1) % 2 = m % 2 := Nat.mod_mod_of_dvd _ ⟨2 ^ i, by rw [Nat.pow_succ]; omega⟩
  omega
theorem even_mk (n : Bool) (f : Nat) : sameD (floorD (shD (mkD n f 0) (-1))) (shD (mkD n f 0) (-1)) ↔ f % 2 = 0 := by
  by_cases h : f = 0
  · subst h; rw [mkD_zero]; exact ⟨fun _ => rfl, fun _ => ⟨rfl, rfl, rfl⟩⟩
  · have h0 := mkD_m0 (n := n) h 0
    have e1 : shD (mkD n f 0) (-1) = ⟨n, f / 2 ^ tz f, tz f - 1⟩ := by
      unfold shD; rw [if_neg h0, mkD_pos h]; simp only [Dy.mk.injEq, true_and]; omega
    rw [e1]
    rcases Nat.mod_two_eq_zero_or_one f with h2 | h2
    · have ht := tz_even h h2
      have : floorD ⟨n, f / 2 ^ tz f, tz f - 1⟩ = ⟨n, f / 2 ^ tz f, tz f - 1⟩ := by unfold floorD; rw [if_pos (by simp only; omega)]
      rw [this]; exact ⟨fun _ => h2, fun _ => ⟨rfl, rfl, rfl⟩⟩
    · have ht := tz_odd h2
      constructor
      · intro hs
        exfalso
        unfold floorD at hs
        rw [if_neg (by simp only; omega)] at hs
        obtain ⟨_, h3, h4⟩ := hs
        simp only [ht] at h3 h4
        generalize hF : f / 2 ^ 0 / 2 ^ (-((0 : Nat) - 1 : Int)).toNat + (if (n && !decide (f / 2 ^ 0 % 2 ^ (-((0 : Nat) - 1 : Int)).toNat = 0)) = true then 1 else 0) = Q at *
        by_cases hq : Q = 0
        · rw [hq, mkD_zero] at h3; simp at h3
        · rw [mkD_pos hq] at h3; simp only at h3; omega
      · intro h3; omega
theorem low_mk {x : Dy} {u : Int} (ho : x.m % 2 = 1) (hu : x.e < u) : lowD x u = mkD x.n (x.m / 2 ^ (u - x.e).toNat + x.n.toNat) u := by
  have h0 : x.m ≠ 0 := by intro h; rw [h] at ho; cases ho
  have e1 : shD x (-u) = ⟨x.n, x.m, x.e - u⟩ := by unfold shD; rw [if_neg h0]; rfl
  unfold lowD
  rw [e1]
  unfold floorD
  rw [if_neg (by simp only; omega), sh_mk0]
  simp only
  rw [show (-(x.e - u)).toNat = (u - x.e).toNat by omega, decide_eq_false (odd_mod ho (by omega))]
  cases x.n <;> rfl
theorem low_exact {x : Dy} {u : Int} (ho : x.m % 2 = 1) (hu : u ≤ x.e) : lowD x u = x := by
  have h0 : x.m ≠ 0 := by intro h; rw [h] at ho; cases ho
  have e1 : shD x (-u) = ⟨x.n, x.m, x.e - u⟩ := by unfold shD; rw [if_neg h0]; rfl
  unfold lowD
  rw [e1]
  unfold floorD
  rw [if_pos (by simp only; omega)]
  unfold shD
  rw [if_neg h0]
  obtain ⟨n, m, e⟩ := x
  simp only [Dy.mk.injEq, true_and]; omega
theorem high_mk {x : Dy} {u : Int} (ho : x.m % 2 = 1) (hu : x.e < u) : highD x u = mkD x.n (if x.n then x.m / 2 ^ (u - x.e).toNat else x.m / 2 ^ (u - x.e).toNat + 1) u := by
  unfold highD
  rw [low_mk ho hu]
  have l1 : LoE (mkD x.n (x.m / 2 ^ (u - x.e).toNat + x.n.toNat) u) u := LoE_mk (Int.le_refl _)
  have l2 : LoE (twoD u) u := Or.inr (Int.le_refl _)
  have ha := iv_add l1 l2
  refine nz_eq (L := u) (Nz_add (Nz_mk ..) (Nz_two u)) (Nz_mk ..) ha.2 (LoE_mk (Int.le_refl _)) ?_
  rw [ha.1, iv_mk (Int.le_refl _), iv_mk (Int.le_refl _), iv_two]
  cases x.n <;> simp [Int.sub_self] <;> omega
theorem cmp_mk {x : Dy} {u : Int} (ho : x.m % 2 = 1) (hu : x.e < u) : cmpD (subD x (lowD x u)) (subD (highD x u) x) =
    sgI ((if x.n then -1 else 1) * (2 * ((x.m % 2 ^ (u - x.e).toNat : Nat) : Int) - ((2 ^ (u - x.e).toNat : Nat) : Int))) := by
  have lx : LoE x x.e := Or.inr (Int.le_refl _)
  have ll : LoE (lowD x u) x.e := by rw [low_mk ho hu]; exact LoE_mk (by omega)
  have lh : LoE (highD x u) x.e := by rw [high_mk ho hu]; exact LoE_mk (by omega)
  have s1 := iv_sub lx ll
  have s2 := iv_sub lh lx
  rw [cmp_iv s1.2 s2.2, s1.1, s2.1, low_mk ho hu, high_mk ho hu, iv_mk (by omega), iv_mk (by omega)]
  have hx : iv x x.e = (if x.n then -1 else 1) * (x.m : Int) := by unfold iv; rw [Int.sub_self]; simp
  rw [hx]
  have hd := Nat.div_add_mod x.m (2 ^ (u - x.e).toNat)
  congr 1
  generalize 2 ^ (u - x.e).toNat = P at *
  have e1 : (x.m : Int) = (P : Int) * ((x.m / P : Nat) : Int) + ((x.m % P : Nat) : Int) := by rw [← Int.natCast_mul, ← Int.natCast_add, hd]
  generalize x.m % P = R at *
  generalize x.m / P = W at *
  rw [e1]
  have e2 : ((W * P : Nat) : Int) = (P : Int) * (W : Int) := by rw [Int.natCast_mul, Int.mul_comm]
  have e3 : (((W + 1) * P : Nat) : Int) = (P : Int) * (W : Int) + P := by rw [Nat.add_mul, Nat.one_mul, Int.natCast_add, e2]
  cases x.n
  · simp only [Bool.false_eq_true, if_false, Bool.toNat_false, Nat.add_zero, Int.one_mul, e2, e3]; generalize (P : Int) * (W : Int) = Q; omega
  · simp only [if_true, Bool.toNat_true, e2, e3]; generalize (P : Int) * (W : Int) = Q; omega
theorem taken_rnd {md : Int} {x : Dy} {u : Int} (hm : 1 ≤ md ∧ md ≤ 5) (ho : x.m % 2 = 1) :
    takenD md x u = mkD x.n (rnd md x.n x.m x.e u).1 u ∧ (sameD x (takenD md x u) ↔ (rnd md x.n x.m x.e u).2 = true) := by
  have h0 : x.m ≠ 0 := by intro h; rw [h] at ho; cases ho
  by_cases hu : u ≤ x.e
  · have hl := low_exact ho hu
    have ht : takenD md x u = x := by unfold takenD; rw [if_pos (by rw [hl]; exact ⟨rfl, rfl, rfl⟩)]
    have hr : rnd md x.n x.m x.e u = (x.m * 2 ^ (x.e - u).toNat, true) := by unfold rnd; rw [if_pos hu]
    rw [ht, hr]
    refine ⟨?_, ⟨fun _ => rfl, fun _ => ⟨rfl, rfl, rfl⟩⟩⟩
    have hne : x.m * 2 ^ (x.e - u).toNat ≠ 0 := by have := Nat.mul_pos (Nat.pos_of_ne_zero h0) (Nat.two_pow_pos (x.e - u).toNat); omega
    rw [mkD_pos hne, tz_unique ho, Nat.mul_div_cancel _ (Nat.two_pow_pos _)]
    obtain ⟨n, m, e⟩ := x
    simp only [Dy.mk.injEq, true_and]
    simp only at hu; omega
  · have hu : x.e < u := by omega
    have hl := low_mk ho hu
    have hh := high_mk ho hu
    have hc := cmp_mk ho hu
    have hns : ∀ f, ¬ sameD (mkD x.n f u) x := by
      rintro f ⟨_, h1, h2⟩
      by_cases hf : f = 0
      · subst hf; rw [mkD_zero] at h2; exact h0 h2.symm
      · rw [mkD_pos hf] at h1; simp only at h1; omega
    have hsy : ∀ a b, sameD a b → sameD b a := fun a b ⟨p, q, r⟩ => ⟨p.symm, q.symm, r.symm⟩
    have hev : evenD x u ↔ (x.m / 2 ^ (u - x.e).toNat + x.n.toNat) % 2 = 0 := by
      have e1 : shD (lowD x u) (-u) = mkD x.n (x.m / 2 ^ (u - x.e).toNat + x.n.toNat) 0 := by
        rw [hl]
        rcases sh_mk x.n (x.m / 2 ^ (u - x.e).toNat + x.n.toNat) u (-u) with h | h
        · rw [h]; congr 1; omega
        · rw [h]; rfl
      unfold evenD
      rw [e1]; exact even_mk ..
    have hk : 0 < (u - x.e).toNat := by omega
    obtain ⟨q1, q2, q3⟩ := half_spec x.m hk
    have q4 := odd_mod ho hk
    have hr : rnd md x.n x.m x.e u = rdN md x.n x.m false (u - x.e).toNat := by unfold rnd; rw [if_neg (by omega)]
    rw [hr]
    have main : takenD md x u = mkD x.n (rdN md x.n x.m false (u - x.e).toNat).1 u := by
      unfold takenD
      rw [if_neg (by rw [hl]; exact hns _)]
      simp only [hc, hev]
      rw [hl, hh]
      simp only [rdN]
      have hmo : moreN x.m false (u - x.e).toNat = decide (x.m % 2 ^ ((u - x.e).toNat - 1) ≠ 0) := by simp [moreN]
      rw [hmo]
      generalize halfN x.m (u - x.e).toNat = hf at *
      generalize x.m % 2 ^ ((u - x.e).toNat - 1) = S at *
      generalize x.m % 2 ^ (u - x.e).toNat = R at *
      generalize x.m / 2 ^ (u - x.e).toNat = W at *
      rw [q3]
      generalize 2 ^ ((u - x.e).toNat - 1) = P at *
      have hmd : md = 1 ∨ md = 2 ∨ md = 3 ∨ md = 4 ∨ md = 5 := by omega
      simp only [sgI_neg, sgI_pos]
      rcases Nat.mod_two_eq_zero_or_one W with hW | hW <;> cases hn : x.n <;> cases hf <;> by_cases hS : S = 0 <;> rcases hmd with rfl | rfl | rfl | rfl | rfl <;>
        simp [upB, hS, hW] at q1 q4 ⊢ <;> (try omega) <;> (repeat (first | rw [if_pos (by omega)] | rw [if_neg (by omega)])) <;> (try (intro _; rfl))
    refine ⟨main, ?_⟩
    constructor
    · intro hs; rw [main] at hs; exact absurd (hsy _ _ hs) (hns _)
    · intro hs
      exfalso
      simp only [rdN, moreN, Bool.false_or, Bool.and_eq_true, Bool.not_eq_true', decide_eq_false_iff_not, ne_eq, Decidable.not_not] at hs
      rw [hs.1, hs.2] at q1
      simp at q1; exact q4 q1
theorem rnd_bd (F : Fm) {md : Int} {d : Dy} (h : d.m ≠ 0) : (rnd md d.n d.m d.e (F.eOf (d.e + blen d.m))).1 ≤ 2 ^ (F.fr + 1) ∧
    (F.eOf (d.e + blen d.m) = F.low ∨ 2 ^ F.fr ≤ (rnd md d.n d.m d.e (F.eOf (d.e + blen d.m))).1) ∧
    (rnd md d.n d.m d.e (d.e + blen d.m - F.fr - 1)).1 ≤ 2 ^ (F.fr + 1) ∧ 2 ^ F.fr ≤ (rnd md d.n d.m d.e (d.e + blen d.m - F.fr - 1)).1 := by
  have hF := fm_facts F
  have hw := headN_blen h
  have e1 := rdN_part md d.n h d.e (F.eOf (d.e + blen d.m)) (by unfold Fm.eOf; omega)
  have e2 := rdN_part md d.n h d.e (d.e + blen d.m - F.fr - 1) (by omega)
  have hE : F.eOf (d.e + blen d.m) = max (d.e + blen d.m - F.fr - 1) F.low := rfl
  change rdN md d.n (headN d.m) (behindN d.m) _ = _ at e1 e2
  rw [← e1, ← e2]
  rw [show (d.e + (blen d.m : Int) - F.fr - 1 - (d.e + blen d.m) + 64).toNat = 63 - F.fr by omega]
  refine ⟨rdN_bd hw (by omega), ?_, rdN_bd hw (by omega), ?_⟩
  · by_cases hl : F.eOf (d.e + blen d.m) = F.low
    · exact Or.inl hl
    · right
      rw [show (F.eOf (d.e + (blen d.m : Int)) - (d.e + blen d.m) + 64).toNat = 63 - F.fr by omega]
      have := rdN_lo (md := md) (neg := d.n) (more := behindN d.m) hw (k := 63 - F.fr) (by omega)
      rwa [show 63 - (63 - F.fr) = F.fr by omega] at this
  · have := rdN_lo (md := md) (neg := d.n) (more := behindN d.m) hw (k := 63 - F.fr) (by omega)
    rwa [show 63 - (63 - F.fr) = F.fr by omega] at this
theorem abs_mk (n : Bool) (m : Nat) (e : Int) : absD (mkD n m e) = mkD false m e := by
  by_cases h : m = 0
  · subst h; rfl
  · rw [mkD_pos h, mkD_pos h]; rfl
theorem top_mk {n : Bool} {m : Nat} (h : m ≠ 0) (e : Int) : topD (mkD n m e) = e + blen m := by
  unfold topD; rw [if_neg (mkD_m0 h e), mkD_blen h]
theorem ref03_Of_zero (J : Al G T g) (F : Fm) {z : Bool} : run G T 36 [.int .u8 F.u, DyA z ⟨false, 0, 0⟩] = some (.tup [.int .u64 0, .bool true]) := by
  rw [run_k G T J.D.ref03_Of]
  have h1 := ref02_Sign J (z := z) (d := ⟨false, 0, 0⟩)
  rw [show sgnD ⟨false, 0, 0⟩ = 0 from rfl] at h1
  simp only [DyA, A3] at *
  repeat' (first | (simp (maxSteps := 1000000) only [seval, evB, exB, c_ref03_Of, h1]) | (simp (maxSteps := 1000000) (disch := first | with_reducible assumption | omega) only [dxB]) | (simp only [kI_d, kG_dt, kG_df]; split) | (simp only [kI_v, kG_vt, kG_vf]; split))
theorem ref03_Of_mk (J : Al G T g) (F : Fm) {z : Bool} {n : Nat} {e : Int} (h1 : n ≤ 2 ^ (F.fr + 1)) (h2 : F.low ≤ e) (h3 : blen n + e ≤ F.wide) (h4 : e = F.low ∨ 2 ^ F.fr ≤ n) :
    run G T 36 [.int .u8 F.u, DyA z (mkD false n e)] = some (.tup [.int .u64 ((F.enc n e : Nat) : Int), .bool true]) := by
  by_cases h0 : n = 0
  · subst h0
    have : e = F.low := by
      rcases h4 with h | h
      · exact h
      · have := Nat.two_pow_pos F.fr; omega
    rw [mkD_zero, this, ref03_Of_zero J F]
    simp [Fm.enc]
  · have hf := mkD_fits (F := F) (neg := false) h0 h1 h2 (by omega)
    rw [ref03_Of J F (z := z) hf, mkD_enc h0 h1 h2 h4, mkD_n h0]
    simp [Fm.sgn]
theorem enc_sg {F : Fm} {n : Nat} {e : Int} (h1 : n ≤ 2 ^ (F.fr + 1)) (h2 : F.low ≤ e) (h3 : blen n + e ≤ F.wide) (h4 : e = F.low ∨ 2 ^ F.fr ≤ n) : F.enc n e < F.sg := by
  by_cases h0 : n = 0
  · subst h0
    have : e = F.low := by
      rcases h4 with h | h
      · exact h
      · have := Nat.two_pow_pos F.fr; omega
    rw [this]; simp only [Fm.enc, Int.sub_self]; cases F <;> decide
  · have h := enc_lt (mkD_fits (F := F) (neg := false) h0 h1 h2 (by omega))
    rw [mkD_enc h0 h1 h2 h4] at h
    have hb64 : F.most * 2 ^ F.fr ≤ F.sg := by cases F <;> decide
    omega
set_option maxRecDepth 4000 in
set_option maxHeartbeats 4000000 in
theorem ref04_Round (J : Al G T g) (F : Fm) {m : Int} (hm : 1 ≤ m ∧ m ≤ 5) {z : Bool} {x : Dy} (hx : Nz x) (hb : Bd x 134217728) :
    run G T 12 [.int .u8 F.u, .int .u8 m, DyA z x] = some (.tup [.int .u64 ((rndW F m x).1 : Int), .int .u8 ((rndW F m x).2 : Int)]) := by
  rw [run_k G T J.E.ref04_Round]
  have s1 := ref02_Sign J (z := z) (d := x)
  by_cases h0 : x.m = 0
  · rw [show sgnD x = 0 by simp [sgnD, h0]] at s1
    simp only [rndW, if_pos h0]
    simp only [DyA, A3] at *
    repeat' (first | (simp (maxSteps := 1000000) only [seval, evB, exB, c_ref04_Round, s1]) | (simp (maxSteps := 1000000) (disch := first | with_reducible assumption | omega) only [dxB]) | (simp only [kI_d, kG_dt, kG_df]; split) | (simp only [kI_v, kG_vt, kG_vf]; split))
    all_goals rfl
  · have hs : ¬ sgnD x = 0 := by simp only [sgnD, if_neg h0]; split <;> decide
    have ho := hx.2 h0
    have hF := fm_facts F
    obtain ⟨hb1, hb2, hb3⟩ := hb
    have hl := dl_len_blen x.m
    have s2 := ref02_Top J (z := z) (d := x) (by omega) (by omega)
    rw [show topD x = x.e + blen x.m by simp [topD, h0]] at s2
    have hU : x.e + (blen x.m : Int) - (F.fr + 1) = x.e + blen x.m - F.fr - 1 := by omega
    have hE : F.eOf (x.e + blen x.m) = max (x.e + blen x.m - F.fr - 1) F.low := rfl
    obtain ⟨r1, r2, r3, r4⟩ := rnd_bd F (md := m) h0
    have hp : 2 ^ (F.fr + 1) ≤ 9007199254740992 := by cases F <;> decide
    have f1 := ref03_Frac J F
    have f2 := ref03_Low J F
    have f3 := ref03_Wide J F
    obtain ⟨z1, t1⟩ := ref04_Taken J (md := m) (z := z) (x := x) (u := F.eOf (x.e + blen x.m)) ⟨by omega, by omega, by omega⟩ (by omega)
    obtain ⟨z2, t2⟩ := ref04_Taken J (md := m) (z := z) (x := x) (u := x.e + blen x.m - F.fr - 1) ⟨by omega, by omega, by omega⟩ (by omega)
    obtain ⟨e1, e2⟩ := taken_rnd (u := F.eOf (x.e + blen x.m)) hm ho
    have e3 := (taken_rnd (u := x.e + blen x.m - F.fr - 1) hm ho).1
    have c1 := same_dy J (z := z) (y := z1) (a := x) (b := takenD m x (F.eOf (x.e + blen x.m))) (by omega)
    have e2' : decide (sameD x (takenD m x (F.eOf (x.e + blen x.m)))) = (rnd m x.n x.m x.e (F.eOf (x.e + blen x.m))).2 := by
      rw [Bool.eq_iff_iff, decide_eq_true_eq]; exact e2
    rw [e2'] at c1
    rw [e1] at t1 c1
    rw [e3] at t2
    have o1 := ref04_Over J F hm (neg := x.n)
    have hrw : rndW F m x = wordOf F m x.n (rnd m x.n x.m x.e (F.eOf (x.e + blen x.m))).1 (rnd m x.n x.m x.e (F.eOf (x.e + blen x.m))).2 (F.eOf (x.e + blen x.m)) (x.e + blen x.m) (rnd m x.n x.m x.e (x.e + blen x.m - F.fr - 1)).1 := by
      simp only [rndW, if_neg h0]
    rw [hrw]
    have hnf : F.eOf (x.e + blen x.m) = x.e + blen x.m - F.fr - 1 → (rnd m x.n x.m x.e (F.eOf (x.e + blen x.m))).1 = (rnd m x.n x.m x.e (x.e + blen x.m - F.fr - 1)).1 := fun h => by rw [h]
    clear e1 e2 e3 e2' hrw
    generalize rnd m x.n x.m x.e (F.eOf (x.e + blen x.m)) = R at *
    generalize rnd m x.n x.m x.e (x.e + blen x.m - F.fr - 1) = R2 at *
    obtain ⟨n, ex⟩ := R
    obtain ⟨fine, ex2⟩ := R2
    simp only at *
    have q1 : blen n ≤ 54 := blen_le.2 (by omega)
    have q2 : blen fine ≤ 54 := blen_le.2 (by omega)
    have hfn : fine ≠ 0 := by have := Nat.two_pow_pos F.fr; omega
    have lf := dl_len_blen (mkD x.n fine (x.e + blen x.m - F.fr - 1)).m
    have bf : Bd (mkD x.n fine (x.e + blen x.m - F.fr - 1)) 536870912 := Bd_mk (by omega) (by omega) (by omega)
    have bn : Bd (mkD x.n n (F.eOf (x.e + blen x.m))) 536870912 := Bd_mk (by omega) (by omega) (by omega)
    have ln := dl_len_blen (mkD x.n n (F.eOf (x.e + blen x.m))).m
    have p1 := ref02_Top J (z := z1) (d := mkD x.n n (F.eOf (x.e + blen x.m))) (by have := bn.bl; omega) (by have := bn.lo; have := bn.hi; omega)
    have p2 := ref02_Top J (z := z2) (d := mkD x.n fine (x.e + blen x.m - F.fr - 1)) (by have := bf.bl; omega) (by have := bf.lo; have := bf.hi; omega)
    rw [top_mk hfn] at p2
    have a1 := ref02_Abs J (z := z1) (d := mkD x.n n (F.eOf (x.e + blen x.m)))
    rw [abs_mk] at a1
    have sd := ref03_Signed J F (n := x.n) (w := F.enc n (F.eOf (x.e + blen x.m)))
    have of := fun h => ref03_Of_mk J F (z := z1) (n := n) (e := F.eOf (x.e + blen x.m)) r1 (by omega) h r2
    have es := fun h => enc_sg (F := F) (n := n) (e := F.eOf (x.e + blen x.m)) r1 (by omega) h r2
    have hT0 : topD (mkD x.n n (F.eOf (x.e + blen x.m))) = if n = 0 then 0 else F.eOf (x.e + blen x.m) + blen n := by
      by_cases hn : n = 0
      · subst hn; rw [mkD_zero]; rfl
      · rw [top_mk hn, if_neg hn]
    rw [hT0] at p1
    have hov : (F.wide < if n = 0 then 0 else F.eOf (x.e + blen x.m) + blen n) ↔ F.wide < blen n + F.eOf (x.e + blen x.m) := by
      by_cases hn : n = 0
      · subst hn; rw [if_pos rfl, blen_zero]
        have : F.eOf (x.e + blen x.m) = F.low := by
          rcases r2 with h | h
          · exact h
          · have := Nat.two_pow_pos F.fr; omega
        omega
      · rw [if_neg hn]; omega
    have htp : n ≠ 0 → (if n = 0 then 0 else F.eOf (x.e + blen x.m) + (blen n : Int)) = F.eOf (x.e + blen x.m) + (blen n : Int) := fun h => if_neg h
    simp only [wordOf]
    generalize (if n = 0 then 0 else F.eOf (x.e + blen x.m) + (blen n : Int)) = tp at *
    generalize F.eOf (x.e + blen x.m) = E at *
    generalize hUU : x.e + (blen x.m : Int) - F.fr - 1 = U at *
    have g1 : 23 ≤ F.fr ∧ F.fr ≤ 52 := by omega
    have g2 : -1074 ≤ F.low ∧ F.low ≤ -149 := by omega
    have g3 : 128 ≤ F.wide ∧ F.wide ≤ 1024 := by omega
    have g4 : -1074 ≤ E ∧ E ≤ 268435456 := by omega
    have g5 : -268435456 ≤ U ∧ U ≤ 268435456 := by omega
    have g6 : U < F.low ∧ E = F.low ∨ ¬ U < F.low ∧ E = U := by omega
    clear hF hE r1 r2 r3 r4 hp bf bn ln lf hl hT0 ho hx hUU
    by_cases hv : F.wide < blen n + E
    · rw [if_pos hv]
      have hv2 := hov.2 hv
      clear hov of es
      rcases g6 with ⟨hA, rfl⟩ | ⟨hA, rfl⟩
      · exfalso; omega
      · clear htp hnf
        simp only [DyA, A3] at *
        repeat' (first | (simp (maxSteps := 1000000) only [seval, evB, exB, c_ref04_Round, s1, s2, f1, f2, f3, hU, t1, p1, o1]) | (simp (maxSteps := 1000000) (disch := first | with_reducible assumption | omega) only [dxB]) | (simp only [kI_d, kG_dt, kG_df]; split) | (simp only [kI_v, kG_vt, kG_vf]; split))
    · rw [if_neg hv]
      have hv2 := fun h => hv (hov.1 h)
      have hlt := es (by omega)
      rw [Nat.mod_eq_of_lt hlt] at sd
      have of := of (by omega)
      have hF2 : U + (blen fine : Int) < F.low + (F.fr + 1) ↔ (blen fine : Int) + U < F.low + F.fr + 1 := by omega
      cases ex
      · clear hov es
        rcases g6 with ⟨hA, rfl⟩ | ⟨hA, rfl⟩
        · clear htp hnf
          simp only [DyA, A3] at *
          repeat' (first | (simp (maxSteps := 1000000) only [seval, evB, exB, c_ref04_Round, s1, s2, f1, f2, f3, hU, t1, t2, p1, p2, a1, of, sd, c1, hF2]) | (simp (maxSteps := 1000000) (disch := first | with_reducible assumption | omega) only [dxB]) | (simp only [kI_d, kG_dt, kG_df]; split) | (simp only [kI_v, kG_vt, kG_vf]; split))
          all_goals (try simp only [Bool.false_eq_true, if_false, if_true])
          all_goals first | rfl | (rw [if_pos (by omega)]; rfl) | (rw [if_neg (by omega)]; rfl)
        · have hn1 := hnf rfl
          subst hn1
          have htp1 := htp hfn
          subst htp1
          clear htp hnf
          simp only [DyA, A3] at *
          repeat' (first | (simp (maxSteps := 1000000) only [seval, evB, exB, c_ref04_Round, s1, s2, f1, f2, f3, hU, t1, p1, a1, of, sd, c1, hF2]) | (simp (maxSteps := 1000000) (disch := first | with_reducible assumption | omega) only [dxB]) | (simp only [kI_d, kG_dt, kG_df]; split) | (simp only [kI_v, kG_vt, kG_vf]; split))
          all_goals (try simp only [Bool.false_eq_true, if_false, if_true])
          all_goals first | rfl | (rw [if_pos (by omega)]; rfl) | (rw [if_neg (by omega)]; rfl)
      · clear hov es
        rcases g6 with ⟨hA, rfl⟩ | ⟨hA, rfl⟩
        · clear htp hnf
          simp only [DyA, A3] at *
          repeat' (first | (simp (maxSteps := 1000000) only [seval, evB, exB, c_ref04_Round, s1, s2, f1, f2, f3, hU, t1, t2, p1, p2, a1, of, sd, c1, hF2]) | (simp (maxSteps := 1000000) (disch := first | with_reducible assumption | omega) only [dxB]) | (simp only [kI_d, kG_dt, kG_df]; split) | (simp only [kI_v, kG_vt, kG_vf]; split))
          all_goals (try simp only [Bool.false_eq_true, if_false, if_true])
          all_goals first | rfl | (rw [if_pos (by omega)]; rfl) | (rw [if_neg (by omega)]; rfl)
        · have hn1 := hnf rfl
          subst hn1
          have htp1 := htp hfn
          subst htp1
          clear htp hnf
          simp only [DyA, A3] at *
          repeat' (first | (simp (maxSteps := 1000000) only [seval, evB, exB, c_ref04_Round, s1, s2, f1, f2, f3, hU, t1, p1, a1, of, sd, c1, hF2]) | (simp (maxSteps := 1000000) (disch := first | with_reducible assumption | omega) only [dxB]) | (simp only [kI_d, kG_dt, kG_df]; split) | (simp only [kI_v, kG_vt, kG_vf]; split))
          all_goals (try simp only [Bool.false_eq_true, if_false, if_true])
          all_goals first | rfl | (rw [if_pos (by omega)]; rfl) | (rw [if_neg (by omega)]; rfl)
theorem mayD_nz {n : Bool} {m : Nat} {e : Int} (h : mayD n (dl m) e = true) : Nz ⟨n, m, e⟩ := by
  obtain ⟨f1, f2, f3, f4, f5⟩ := mayD_facts h
  refine ⟨fun h0 => ?_, fun h0 => ?_⟩
  · simp only at h0; subst h0
    obtain ⟨a, b⟩ := f2 (by rw [dl_zero]; rfl)
    rw [a, b]
  · have := f3 (by rw [ne_eq, dl_len0]; exact h0)
    rwa [dg0] at this
def Fm.ng (F : Fm) (w : Nat) : Bool := decide (F.sg ≤ w)
def Fm.ex (F : Fm) (w : Nat) : Nat := w % F.sg / 2 ^ F.fr
def Fm.fc (F : Fm) (w : Nat) : Nat := w % F.sg % 2 ^ F.fr
def Fm.cls (F : Fm) (w : Nat) : Int := if F.ex w = 0 then (if F.fc w = 0 then 1 else 2) else if F.ex w < F.most then 3 else if F.fc w = 0 then 4 else 5
def Fm.val (F : Fm) (w : Nat) : Dy := if F.ex w = 0 then mkD (F.ng w) (F.fc w) F.low else mkD (F.ng w) (2 ^ F.fr + F.fc w) (F.ex w - 1 + F.low)
def Fm.ok (F : Fm) (w : Nat) : Prop := w < 2 * F.sg
def Fm.fin (F : Fm) (w : Nat) : Prop := F.ex w < F.most
instance (F : Fm) (w : Nat) : Decidable (F.fin w) := inferInstanceAs (Decidable (_ < _))
instance (F : Fm) (w : Nat) : Decidable (F.ok w) := inferInstanceAs (Decidable (_ < _))
theorem ref03_IsF (J : Al G T g) (F : Fm) : run G T 27 [.int .u8 F.u] = some (.bool true) := by
  rw [ref03_Is J]; cases F <;> rfl
theorem ref03_Good (J : Al G T g) (F : Fm) {w : Nat} (hw : w < 18446744073709551616) : run G T 149 [.int .u8 F.u, .int .u64 (w : Int)] = some (.int .i64 (if w < 2 * F.sg then 0 else 6)) := by
  rw [run_k G T J.F.ref03_Good]
  have h1 := ref03_IsF J F
  by_cases hk : w < 2 * F.sg
  · rw [if_pos hk]
    cases F <;> (
      simp only [Fm.u, Fm.sg] at *
      repeat' (first | (simp (maxSteps := 1000000) only [seval, evB, exB, c_ref03_Good, h1]) | (simp (maxSteps := 1000000) (disch := first | with_reducible assumption | omega) only [dxB]) | (simp only [kI_d, kG_dt, kG_df]; split) | (simp only [kI_v, kG_vt, kG_vf]; split)))
  · rw [if_neg hk]
    cases F <;> (
      simp only [Fm.u, Fm.sg] at *
      repeat' (first | (simp (maxSteps := 1000000) only [seval, evB, exB, c_ref03_Good, h1]) | (simp (maxSteps := 1000000) (disch := first | with_reducible assumption | omega) only [dxB]) | (simp only [kI_d, kG_dt, kG_df]; split) | (simp only [kI_v, kG_vt, kG_vf]; split)))
    all_goals omega
theorem fld_eq {n n' : Bool} {x x' w w' : Int} (h1 : n = n') (h2 : x = x') (h3 : w = w') : some (AV.agg [.bool n, .int .i64 x, .int .u64 w]) = some (.agg [.bool n', .int .i64 x', .int .u64 w']) := by rw [h1, h2, h3]
theorem ref03_Split (J : Al G T g) (F : Fm) {w : Nat} (hw : w < 18446744073709551616) : run G T 156 [.int .u8 F.u, .int .u64 (w : Int)] = some (fldA (F.ng w) (F.ex w) (F.fc w)) := by
  rw [run_k G T J.F.ref03_Split]
  have h1 := ref03_Sign J F
  have h2 := ref03_Frac J F
  cases F <;> (
    simp only [Fm.u, Fm.ng, Fm.ex, Fm.fc, Fm.sg, Fm.fr, fldA, Int.cast_ofNat_Int, Nat.reducePow] at *
    repeat' (first | (simp (maxSteps := 1000000) only [seval, evB, exB, c_ref03_Split, h1, h2]) | (simp (maxSteps := 1000000) (disch := first | with_reducible assumption | omega) only [dxB]) | (simp only [kI_d, kG_dt, kG_df]; split) | (simp only [kI_v, kG_vt, kG_vf]; split)))
  · exact fld_eq (by congr 1; apply propext; omega) rfl rfl
  · exact fld_eq (by congr 1; apply propext; omega) rfl rfl
theorem ref03_Class (J : Al G T g) (F : Fm) {w : Nat} (hw : w < 18446744073709551616) : run G T 155 [.int .u8 F.u, .int .u64 (w : Int)] = some (.int .u8 (F.cls w)) := by
  rw [run_k G T J.F.ref03_Class]
  have h1 := ref03_Split J F hw
  have h2 := ref03_Most J F
  unfold Fm.cls
  simp only [fldA] at *
  generalize F.ex w = x at *
  generalize F.fc w = y at *
  repeat' (first | (simp (maxSteps := 1000000) only [seval, evB, exB, c_ref03_Class, h1, h2]) | (simp (maxSteps := 1000000) (disch := first | with_reducible assumption | omega) only [dxB]) | (simp only [kI_d, kG_dt, kG_df]; split) | (simp only [kI_v, kG_vt, kG_vf]; split))
  all_goals (refine some_int ?_; repeat (first | rw [if_pos (by omega)] | rw [if_neg (by omega)]))
theorem fin_cls (F : Fm) (w : Nat) : F.fin w ↔ F.cls w ≠ 4 ∧ F.cls w ≠ 5 := by
  have hm : 0 < F.most := by cases F <;> decide
  unfold Fm.fin Fm.cls
  generalize F.ex w = x
  generalize F.fc w = y
  repeat' split
  all_goals omega
theorem ref03_Finite (J : Al G T g) (F : Fm) {w : Nat} (hw : w < 18446744073709551616) : run G T 150 [.int .u8 F.u, .int .u64 (w : Int)] = some (.bool (decide (F.fin w))) := by
  rw [run_k G T J.F.ref03_Finite]
  have h1 := ref03_Class J F hw
  have h2 := fin_cls F w
  by_cases h3 : F.fin w
  · have h4 := h2.1 h3
    rw [decide_eq_true h3]
    clear h2 h3
    generalize F.cls w = c at *
    repeat' (first | (simp (maxSteps := 1000000) only [seval, evB, exB, c_ref03_Finite, h1]) | (simp (maxSteps := 1000000) (disch := first | with_reducible assumption | omega) only [dxB]) | (simp only [kI_d, kG_dt, kG_df]; split) | (simp only [kI_v, kG_vt, kG_vf]; split))
  · have h4 : F.cls w = 4 ∨ F.cls w = 5 := by
      by_cases a : F.cls w = 4
      · exact Or.inl a
      · by_cases b : F.cls w = 5
        · exact Or.inr b
        · exact absurd (h2.2 ⟨a, b⟩) h3
    rw [decide_eq_false h3]
    clear h2 h3
    generalize F.cls w = c at *
    repeat' (first | (simp (maxSteps := 1000000) only [seval, evB, exB, c_ref03_Finite, h1]) | (simp (maxSteps := 1000000) (disch := first | with_reducible assumption | omega) only [dxB]) | (simp only [kI_d, kG_dt, kG_df]; split) | (simp only [kI_v, kG_vt, kG_vf]; split))
    all_goals (rcases h4 with rfl | rfl <;> simp_all)
theorem ref01_Of (J : Al G T g) {n : Nat} (hn : n < 18446744073709551616) : ∃ z', run G T 46 [.int .u64 (n : Int)] = some (D z' (dl n)) := by
  apply exP
  rw [run_k G T J.B.ref01_Of]
  have w1 : (n : Int) % 4294967296 = ((n % 4294967296 : Nat) : Int) := by omega
  have w2 : (n : Int) / 4294967296 % 4294967296 = ((n / 4294967296 : Nat) : Int) := by omega
  have hd : Dg [n % 4294967296, n / 4294967296] := Dg_cons.2 ⟨by omega, Dg_cons.2 ⟨by omega, Dg.nil⟩⟩
  have hv : val [n % 4294967296, n / 4294967296] = n := by simp only [val]; omega
  obtain ⟨z', hz⟩ := ref01_Trim J (z := false) hd (by simp)
  rw [hv] at hz
  have hf : fillA (repA 2 [AV.int .u32 0]) [(0, 1, .int .u32 ((n % 4294967296 : Nat) : Int)), (1, 1, .int .u32 ((n / 4294967296 : Nat) : Int))] = some (cells [n % 4294967296, n / 4294967296]) := rfl
  have hok : (cells [n % 4294967296, n / 4294967296]).all okCell = true := cells_ok _
  have hsn : snapG (Heap.mem ⟨Heap.nil.b ++ [⟨cells [n % 4294967296, n / 4294967296], false⟩], Heap.nil.f⟩) 3 Heap.nil.b.length 0 2 1 = some (D false [n % 4294967296, n / 4294967296]) :=
    snap_own (Holds_new FreH.nil [n % 4294967296, n / 4294967296]) (Nat.le_refl 2)
  repeat (first | (simp (maxSteps := 1000000) only [seval, evB, c_ref01_Of, w1, w2, hf, hok, hsn, hz]) | (simp (disch := omega) only [dsB]))
  exact Post.some ⟨z', rfl⟩
theorem ref03_Value (J : Al G T g) (F : Fm) {w : Nat} (hw : w < 18446744073709551616) (hf : F.fin w) :
    ∃ z, run G T 151 [.int .u8 F.u, .int .u64 (w : Int)] = some (DyA z (F.val w)) := by
  apply exP
  rw [run_k G T J.F.ref03_Value]
  have h1 := ref03_Split J F hw
  have h2 := ref03_Low J F
  have h3 := ref03_Frac J F
  have hy : F.fc w < 2 ^ F.fr := Nat.mod_lt _ (Nat.two_pow_pos _)
  have hp : 2 ^ F.fr ≤ 4503599627370496 := by cases F <;> decide
  have hF := fm_facts F
  have hm : F.most ≤ 2047 := by cases F <;> decide
  unfold Fm.fin at hf
  unfold Fm.val
  generalize F.ex w = x at *
  generalize F.fc w = y at *
  generalize F.ng w = n at *
  have hb1 : blen y ≤ 53 := blen_le.2 (by omega)
  have hb2 : blen (2 ^ F.fr + y) ≤ 53 := blen_le.2 (by omega)
  have hl1 := dl_len_blen y
  have hl2 := dl_len_blen (2 ^ F.fr + y)
  have hmin : min F.fr 64 = F.fr := by omega
  have hp0 := Nat.two_pow_pos F.fr
  have hs1 : (1 * (2 : Int) ^ F.fr % 18446744073709551616 + (y : Int)) % 18446744073709551616 = ((2 ^ F.fr + y : Nat) : Int) := by rw [pow_cast]; omega
  by_cases h0 : x = 0
  · obtain ⟨z1, o1⟩ := ref01_Of J (n := y) (by omega)
    obtain ⟨z2, o2⟩ := ref02_Form J (n := n) (z := z1) (a := y) (e := F.low) (by omega) (by omega)
    subst h0
    rw [if_pos rfl]
    simp only [fldA, DyA, A3, cast0] at *
    repeat' (first | (simp (maxSteps := 1000000) only [seval, evB, exB, c_ref03_Value, h1, h2, h3, o1, o2]) | (simp (maxSteps := 1000000) (disch := first | with_reducible assumption | omega) only [dxB]) | (simp only [kI_d, kG_dt, kG_df]; split) | (simp only [kI_v, kG_vt, kG_vf]; split))
    all_goals exact Post.some ⟨z2, rfl⟩
  · obtain ⟨z1, o1⟩ := ref01_Of J (n := 2 ^ F.fr + y) (by omega)
    obtain ⟨z2, o2⟩ := ref02_Form J (n := n) (z := z1) (a := 2 ^ F.fr + y) (e := x - 1 + F.low) (by omega) (by omega)
    rw [if_neg h0]
    simp only [fldA, DyA, A3] at *
    repeat' (first | (simp (maxSteps := 1000000) only [seval, evB, exB, c_ref03_Value, h1, h2, h3, hmin, hs1, o1, o2]) | (simp (maxSteps := 1000000) (disch := first | with_reducible assumption | omega) only [dxB]) | (simp only [kI_d, kG_dt, kG_df]; split) | (simp only [kI_v, kG_vt, kG_vf]; split))
    all_goals exact Post.some ⟨z2, rfl⟩
def Fm.up (F : Fm) (w : Nat) : Nat × Bool := if F.cls w = 4 ∧ F.ng w = false then (0, false) else if F.cls w = 1 then (1, true) else if F.ng w then (w - 1, true) else (w + 1, true)
theorem Bd_val (F : Fm) {w : Nat} (hf : F.fin w) : Bd (F.val w) 4096 := by
  have hm : F.most ≤ 2047 := by cases F <;> decide
  have hy : F.fc w < 2 ^ F.fr := Nat.mod_lt _ (Nat.two_pow_pos _)
  have hp : 2 ^ F.fr ≤ 4503599627370496 := by cases F <;> decide
  have hF := fm_facts F
  unfold Fm.fin at hf
  unfold Fm.val
  generalize F.ex w = x at *
  generalize F.fc w = y at *
  have hb1 : blen y ≤ 53 := blen_le.2 (by omega)
  have hb2 : blen (2 ^ F.fr + y) ≤ 53 := blen_le.2 (by omega)
  split
  · exact Bd_mk (by omega) (by omega) (by omega)
  · exact Bd_mk (by omega) (by omega) (by omega)
section
end
def aboveW (F : Fm) (a b : Nat) : Bool := if a = F.inf false ∨ b = F.inf true then true else if a = F.inf true ∨ b = F.inf false then decide (a = b) else decide (0 ≤ cmpD (F.val a) (F.val b))
theorem upB_ex (md : Int) (neg odd : Bool) : upB md neg odd false false = false := by simp [upB]
theorem rnd_L (md : Int) (neg : Bool) (M : Nat) {E u L : Int} (h1 : L ≤ E) (h2 : L < u) : rnd md neg M E u = rdN md neg (M * 2 ^ (E - L).toNat) false (u - L).toNat := by
  rw [rdN_up _ _ _ _ _ (by omega)]
  unfold rnd
  by_cases h : u ≤ E
  · rw [if_pos h, if_pos (by omega), show (E - L).toNat - (u - L).toNat = (E - u).toNat by omega]
  · rw [if_neg h, if_neg (by omega), show (u - L).toNat - (E - L).toNat = (u - E).toNat by omega]
structure Rd (md : Int) (neg : Bool) (A U W : Nat) (ex b : Bool) : Prop where
  lo : W * U ≤ A
  hi : A < (W + 1) * U
  exi : ex = true ↔ A = W * U
  xb : ex = true → b = false
  b3 : md = 3 → b = false
  b4 : md = 4 → b = (!neg && !ex)
  b5 : md = 5 → b = (neg && !ex)
  near : md = 1 ∨ md = 2 → (b = true → (2 * W + 1) * U ≤ 2 * A) ∧ (b = false → 2 * A ≤ (2 * W + 1) * U)
theorem rdN_Rd (md : Int) (neg : Bool) (A : Nat) {k : Nat} (hk : 0 < k) : ∃ b, rdN md neg A false k = (A / 2 ^ k + b.toNat, decide (A % 2 ^ k = 0)) ∧ Rd md neg A (2 ^ k) (A / 2 ^ k) (decide (A % 2 ^ k = 0)) b := by
  obtain ⟨q1, q2, q3⟩ := half_spec A hk
  have hd := Nat.div_add_mod A (2 ^ k)
  have hml := Nat.mod_lt A (Nat.two_pow_pos k)
  refine ⟨upB md neg (decide (A / 2 ^ k % 2 = 1)) (halfN A k) (moreN A false k), ?_, ?_⟩
  · simp only [rdN]
    congr 1
    simp only [moreN, Bool.false_or]
    cases hh : halfN A k
    · rw [hh] at q1; simp only [Bool.false_eq_true, if_false, Nat.zero_add] at q1
      rw [q1]; simp
    · rw [hh] at q1; simp only [if_true] at q1
      have : A % 2 ^ k ≠ 0 := by omega
      simp [this]
  · have hmo : moreN A false k = decide (A % 2 ^ (k - 1) ≠ 0) := by simp [moreN]
    rw [hmo]
    generalize halfN A k = hf at *
    generalize A % 2 ^ (k - 1) = S at *
    generalize A % 2 ^ k = R at *
    generalize A / 2 ^ k = W at *
    rw [q3] at *
    generalize 2 ^ (k - 1) = P at *
    have e1 : W * (2 * P) = 2 * P * W := Nat.mul_comm ..
    have e2 : (W + 1) * (2 * P) = 2 * P * W + 2 * P := by rw [Nat.add_mul, Nat.one_mul, e1]
    have e3 : (2 * W + 1) * (2 * P) = 2 * (2 * P * W) + 2 * P := by rw [Nat.add_mul, Nat.one_mul, Nat.mul_assoc, e1]
    refine ⟨by rw [e1]; omega, by rw [e2]; omega, ?_, ?_, ?_, ?_, ?_, ?_⟩
    · rw [decide_eq_true_eq, e1]; omega
    · intro h; simp only [decide_eq_true_eq] at h
      have : hf = false ∧ S = 0 := by cases hf <;> simp at q1 <;> (try constructor) <;> (try rfl) <;> omega
      rw [this.1, this.2]; exact upB_ex ..
    · rintro rfl; simp [upB]
    · rintro rfl
      cases hf <;> cases neg <;> by_cases hS : S = 0 <;> simp [upB, hS] at q1 ⊢ <;> omega
    · rintro rfl
      cases hf <;> cases neg <;> by_cases hS : S = 0 <;> simp [upB, hS] at q1 ⊢ <;> omega
    · rw [e3]
      generalize 2 * P * W = Q at *
      rintro (rfl | rfl)
      · cases hf <;> by_cases hS : S = 0 <;> simp [upB, hS] at q1 ⊢ <;> (try constructor) <;> (try intro _) <;> omega
      · cases hf <;> by_cases hS : S = 0 <;> simp [upB, hS] at q1 ⊢ <;> omega
theorem rnd_Rd (md : Int) (neg : Bool) (M : Nat) {E u L : Int} (h1 : L ≤ E) (h2 : L < u) :
    ∃ b, rnd md neg M E u = (M * 2 ^ (E - L).toNat / 2 ^ (u - L).toNat + b.toNat, decide (M * 2 ^ (E - L).toNat % 2 ^ (u - L).toNat = 0)) ∧
      Rd md neg (M * 2 ^ (E - L).toNat) (2 ^ (u - L).toNat) (M * 2 ^ (E - L).toNat / 2 ^ (u - L).toNat) (decide (M * 2 ^ (E - L).toNat % 2 ^ (u - L).toNat = 0)) b := by
  rw [rnd_L md neg M h1 h2]
  exact rdN_Rd md neg _ (by omega)
theorem rdN_mono (md : Int) (neg : Bool) {A B : Nat} (h : A ≤ B) {k : Nat} (hk : 0 < k) : (rdN md neg A false k).1 ≤ (rdN md neg B false k).1 := by
  have hdiv : A / 2 ^ k ≤ B / 2 ^ k := Nat.div_le_div_right h
  have hb : ∀ b : Bool, b.toNat ≤ 1 := fun b => by cases b <;> decide
  simp only [rdN]
  by_cases he : A / 2 ^ k = B / 2 ^ k
  · rw [he]
    obtain ⟨q1, q2, q3⟩ := half_spec A hk
    obtain ⟨r1, r2, _⟩ := half_spec B hk
    have hd := Nat.div_add_mod A (2 ^ k)
    have hd' := Nat.div_add_mod B (2 ^ k)
    rw [he] at hd
    have hR : A % 2 ^ k ≤ B % 2 ^ k := by omega
    have m1 : moreN A false k = decide (A % 2 ^ (k - 1) ≠ 0) := by simp [moreN]
    have m2 : moreN B false k = decide (B % 2 ^ (k - 1) ≠ 0) := by simp [moreN]
    rw [m1, m2]
    generalize halfN A k = f1 at *
    generalize halfN B k = f2 at *
    generalize A % 2 ^ (k - 1) = S1 at *
    generalize B % 2 ^ (k - 1) = S2 at *
    generalize A % 2 ^ k = R1 at *
    generalize B % 2 ^ k = R2 at *
    generalize decide (B / 2 ^ k % 2 = 1) = od
    generalize 2 ^ (k - 1) = P at *
    have hle : (upB md neg od f1 (decide (S1 ≠ 0))) = true → (upB md neg od f2 (decide (S2 ≠ 0))) = true := by
      unfold upB
      clear hb m1 m2 hd hd' he hdiv h q3
      cases f1 <;> cases f2 <;> simp only [if_true, if_false, Bool.false_eq_true, Nat.zero_add] at q1 r1 <;> by_cases a : S1 = 0 <;> by_cases b : S2 = 0 <;>
        first
        | (exfalso; omega)
        | (cases neg <;> cases od <;> simp [a, b] <;> (try omega))
    generalize upB md neg od f1 (decide (S1 ≠ 0)) = b1 at *
    generalize upB md neg od f2 (decide (S2 ≠ 0)) = b2 at *
    cases b1 <;> cases b2 <;> simp at *
  · have := hb (upB md neg (decide (A / 2 ^ k % 2 = 1)) (halfN A k) (moreN A false k))
    omega
def Fm.i0 (F : Fm) : Nat := F.most * 2 ^ F.fr
theorem inf_eq (F : Fm) (n : Bool) : F.inf n = F.i0 + F.sgn n := rfl
theorem fm_i0 (F : Fm) : F.i0 + 2 ^ F.fr = F.sg ∧ 0 < F.i0 ∧ 0 < F.sg ∧ F.sg ≤ 9223372036854775808 ∧ F.i0 < F.sg := by cases F <;> decide
def magN (F : Fm) (s : Nat) : Nat := if s / 2 ^ F.fr = 0 then s % 2 ^ F.fr else (2 ^ F.fr + s % 2 ^ F.fr) * 2 ^ (s / 2 ^ F.fr - 1)
theorem magN_step (F : Fm) (s : Nat) : magN F s < magN F (s + 1) := by
  unfold magN
  have hp := Nat.two_pow_pos F.fr
  generalize 2 ^ F.fr = P at *
  have hd := Nat.div_add_mod s P
  have hm := Nat.mod_lt s hp
  have hd' := Nat.div_add_mod (s + 1) P
  have hm' := Nat.mod_lt (s + 1) hp
  by_cases h : s % P + 1 < P
  · have e1 : (s + 1) / P = s / P := by
      rw [Nat.div_eq_of_lt_le] <;> (rw [Nat.mul_comm]; try rw [Nat.mul_add]) <;> omega
    have e2 : (s + 1) % P = s % P + 1 := by rw [e1] at hd'; omega
    rw [e1, e2]
    by_cases h0 : s / P = 0
    · rw [if_pos h0, if_pos h0]; omega
    · rw [if_neg h0, if_neg h0]
      exact Nat.mul_lt_mul_of_pos_right (by omega) (Nat.two_pow_pos _)
  · have e1 : (s + 1) / P = s / P + 1 := by
      rw [Nat.div_eq_of_lt_le] <;> (rw [Nat.mul_comm]; rw [Nat.mul_add]; try rw [Nat.mul_add]) <;> omega
    have e2 : (s + 1) % P = 0 := by rw [e1, Nat.mul_add] at hd'; generalize P * (s / P) = Q at *; omega
    have e3 : ¬ (s / P + 1 = 0) := by generalize s / P = Q; omega
    rw [e1, e2]
    by_cases h0 : s / P = 0
    · rw [if_pos h0, h0]; simp; omega
    · rw [if_neg h0, if_neg e3]
      obtain ⟨k, hk⟩ := Nat.exists_eq_succ_of_ne_zero h0
      rw [hk]
      simp only [Nat.add_sub_cancel, Nat.add_zero]
      rw [Nat.pow_succ, ← Nat.mul_assoc, Nat.mul_comm (P * 2 ^ k) 2, ← Nat.mul_assoc]
      exact Nat.mul_lt_mul_of_pos_right (by omega) (Nat.two_pow_pos _)
theorem magN_lt (F : Fm) {a b : Nat} (h : a < b) : magN F a < magN F b := by
  obtain ⟨k, rfl⟩ : ∃ k, b = a + 1 + k := ⟨b - a - 1, by omega⟩
  clear h
  induction k with
  | zero => exact magN_step F a
  | succ k ih => exact Nat.lt_trans ih (magN_step F _)
theorem magN_le (F : Fm) {a b : Nat} (h : a ≤ b) : magN F a ≤ magN F b := by
  rcases Nat.lt_or_ge a b with h1 | h1
  · exact Nat.le_of_lt (magN_lt F h1)
  · rw [Nat.le_antisymm h h1]; exact Nat.le_refl _
theorem magN_zero (F : Fm) : magN F 0 = 0 := by simp [magN]
theorem magN_enc (F : Fm) {n : Nat} {u : Int} (h1 : n ≤ 2 ^ (F.fr + 1)) (h2 : F.low ≤ u) (h3 : u = F.low ∨ 2 ^ F.fr ≤ n) : magN F (F.enc n u) = n * 2 ^ (u - F.low).toNat := by
  unfold magN Fm.enc
  have hp := Nat.two_pow_pos F.fr
  rw [Nat.pow_succ] at h1
  generalize 2 ^ F.fr = P at *
  generalize hk : (u - F.low).toNat = k at *
  have h3' : k = 0 ∨ P ≤ n := by omega
  clear h3 h2 hk
  have q : ∀ j r, r < P → (j * P + r) / P = j ∧ (j * P + r) % P = r := fun j r hr => by
    constructor
    · rw [Nat.mul_comm, Nat.mul_add_div hp, Nat.div_eq_of_lt hr]; rfl
    · rw [Nat.mul_comm, Nat.mul_add_mod, Nat.mod_eq_of_lt hr]
  rcases Nat.lt_or_ge n P with h | h
  · obtain rfl : k = 0 := by omega
    obtain ⟨e1, e2⟩ := q 0 n h
    rw [e1, e2]; simp
  · rcases Nat.lt_or_ge n (2 * P) with h4 | h4
    · obtain ⟨e1, e2⟩ := q (k + 1) (n - P) (by omega)
      have e3 : (k + 1) * P + (n - P) = k * P + n := by rw [Nat.add_mul]; omega
      rw [e3] at e1 e2
      rw [e1, e2, if_neg (by omega), Nat.add_sub_cancel, show P + (n - P) = n by omega]
    · obtain rfl : n = 2 * P := by omega
      obtain ⟨e1, e2⟩ := q (k + 2) 0 hp
      have e3 : (k + 2) * P + 0 = k * P + 2 * P := by rw [Nat.add_mul]; rfl
      rw [e3] at e1 e2
      rw [e1, e2, if_neg (by omega), show k + 2 - 1 = k + 1 by omega, Nat.pow_succ, Nat.add_zero, Nat.mul_comm (2 ^ k) 2, ← Nat.mul_assoc, Nat.mul_comm P 2]
theorem sgn_mod {F : Fm} {s : Nat} (n : Bool) (h : s < F.sg) : (s + F.sgn n) % F.sg = s ∧ F.ng (s + F.sgn n) = n := by
  unfold Fm.sgn Fm.ng
  cases n
  · simp only [Bool.false_eq_true, if_false, Nat.add_zero]
    exact ⟨Nat.mod_eq_of_lt h, decide_eq_false (by omega)⟩
  · simp only [if_true]
    exact ⟨by rw [Nat.add_mod_right]; exact Nat.mod_eq_of_lt h, decide_eq_true (by omega)⟩
theorem fin_size {F : Fm} {s : Nat} (n : Bool) (h : s < F.i0) : F.fin (s + F.sgn n) := by
  have hi := fm_i0 F
  unfold Fm.fin Fm.ex
  rw [(sgn_mod n (by omega : s < F.sg)).1]
  exact Nat.div_lt_of_lt_mul (by rw [Nat.mul_comm]; exact h)
theorem cls_inf (F : Fm) (n : Bool) : F.cls (F.inf n) = 4 := by cases F <;> cases n <;> decide
theorem iv_val {F : Fm} {s : Nat} (n : Bool) (h : s < F.i0) : iv (F.val (s + F.sgn n)) F.low = (if n then -1 else 1) * (magN F s : Int) ∧ LoE (F.val (s + F.sgn n)) F.low ∧ Nz (F.val (s + F.sgn n)) := by
  have hi := fm_i0 F
  obtain ⟨e1, e2⟩ := sgn_mod n (by omega : s < F.sg)
  unfold Fm.val Fm.ex Fm.fc magN
  rw [e1, e2]
  split
  · next h0 =>
    refine ⟨?_, LoE_mk (Int.le_refl _), Nz_mk ..⟩
    rw [iv_mk (Int.le_refl _), Int.sub_self]; simp
  · next h0 =>
    have hx : F.low ≤ (s / 2 ^ F.fr : Nat) - 1 + F.low := by generalize s / 2 ^ F.fr = Q at *; omega
    refine ⟨?_, LoE_mk hx, Nz_mk ..⟩
    rw [iv_mk hx, show ((s / 2 ^ F.fr : Nat) - 1 + F.low - F.low : Int).toNat = s / 2 ^ F.fr - 1 by generalize s / 2 ^ F.fr = Q at *; omega]
theorem enc_succ (F : Fm) (n : Nat) (u : Int) : F.enc (n + 1) u = F.enc n u + 1 := rfl
theorem enc_big (F : Fm) {n : Nat} {u : Int} (h1 : n ≤ 2 ^ (F.fr + 1)) (h2 : F.low ≤ u) (h3 : u = F.low ∨ 2 ^ F.fr ≤ n) : (F.wide < blen n + u) ↔ F.i0 ≤ F.enc n u := by
  constructor
  · intro h
    have hF := fm_facts F
    have h3' : 2 ^ F.fr ≤ n := by
      rcases h3 with h3 | h3
      · exfalso
        have : blen n ≤ F.fr + 2 := blen_le.2 (Nat.lt_of_le_of_lt h1 (Nat.pow_lt_pow_right (by decide) (by omega)))
        omega
      · exact h3
    have hb := lt_blen.2 h3'
    have hm : (F.most : Int) = F.wide - F.low - F.fr + 1 := by cases F <;> decide
    unfold Fm.i0 Fm.enc
    rcases Nat.lt_or_ge n (2 ^ (F.fr + 1)) with h4 | h4
    · have := blen_le.2 h4
      obtain ⟨k, hk⟩ : ∃ k, (u - F.low).toNat = k := ⟨_, rfl⟩
      have h5 : F.most ≤ k + 1 := by omega
      have h6 := Nat.mul_le_mul_right (2 ^ F.fr) h5
      rw [Nat.add_mul, Nat.one_mul] at h6
      rw [hk]; omega
    · have h7 : n = 2 ^ F.fr * 2 := by rw [Nat.pow_succ] at h1 h4; omega
      have h8 : blen n = F.fr + 2 := by
        have := blen_mul (n := 1) (by decide) (F.fr + 1)
        rw [Nat.one_mul, Nat.pow_succ, ← h7, show blen 1 = 1 from rfl] at this; omega
      obtain ⟨k, hk⟩ : ∃ k, (u - F.low).toNat = k := ⟨_, rfl⟩
      have h5 : F.most ≤ k + 2 := by omega
      have h6 := Nat.mul_le_mul_right (2 ^ F.fr) h5
      rw [Nat.add_mul] at h6
      rw [hk]; omega
  · intro h
    by_cases hw : F.wide < blen n + u
    · exact hw
    · exfalso
      by_cases h0 : n = 0
      · subst h0
        have hu : u = F.low := by
          rcases h3 with h3 | h3
          · exact h3
          · have := Nat.two_pow_pos F.fr; omega
        rw [hu] at h
        have := (fm_i0 F).2.1
        simp [Fm.enc] at h; omega
      · have := enc_lt (mkD_fits (F := F) (neg := false) h0 h1 h2 (by omega))
        rw [mkD_enc h0 h1 h2 h3] at this
        unfold Fm.i0 at h; omega
end Go.Cv
namespace Go.Cv
def ovs (F : Fm) (md : Int) (neg : Bool) : Nat := if md = 3 ∨ (md = 4 ∧ neg = true) ∨ (md = 5 ∧ neg = false) then F.i0 - 1 else F.i0
theorem ovr_eq (F : Fm) (md : Int) (neg : Bool) : ovr F md neg = ovs F md neg + F.sgn neg := by
  have := fm_i0 F
  unfold ovr ovs
  rw [inf_eq]
  split <;> omega
structure Shp (F : Fm) (d : Dy) (L : Int) (A U W e0 : Nat) (u : Int) (ex : Bool) : Prop where
  hL : L < F.low ∧ L < d.e ∧ L < u
  hA : A = d.m * 2 ^ (d.e - L).toNat
  hU : U = 2 ^ (u - L).toNat
  lou : F.low ≤ u
  he0 : e0 = F.enc W u
  wb : W ≤ 2 ^ (F.fr + 1) ∧ (ex = false → W + 1 ≤ 2 ^ (F.fr + 1))
  wc : u = F.low ∨ 2 ^ F.fr ≤ W
  all : ∀ md : Int, 1 ≤ md → md ≤ 5 → ∃ b fl, rndW F md d = ((if F.i0 ≤ e0 + b.toNat then ovs F md d.n else e0 + b.toNat) + F.sgn d.n, if F.i0 ≤ e0 + b.toNat then 20 else if ex then 0 else fl) ∧
    (fl = 16 ∨ fl = 24) ∧ Rd md d.n A U W ex b
theorem shp_of (F : Fm) {d : Dy} (h0 : d.m ≠ 0) {L : Int} (l1 : L < F.low) (l2 : L < d.e) : ∃ A U W e0 u ex, Shp F d L A U W e0 u ex ∧ u = F.eOf (d.e + blen d.m) := by
  have hu : F.low ≤ F.eOf (d.e + blen d.m) := by unfold Fm.eOf; omega
  refine ⟨_, _, d.m * 2 ^ (d.e - L).toNat / 2 ^ (F.eOf (d.e + blen d.m) - L).toNat, _, F.eOf (d.e + blen d.m), decide (d.m * 2 ^ (d.e - L).toNat % 2 ^ (F.eOf (d.e + blen d.m) - L).toNat = 0), ⟨⟨l1, l2, by omega⟩, rfl, rfl, hu, rfl, ?_, ?_, ?_⟩, rfl⟩
  · obtain ⟨b, e1, R⟩ := rnd_Rd 3 d.n d.m (E := d.e) (u := F.eOf (d.e + blen d.m)) (L := L) (by omega) (by omega)
    have q := (rnd_bd F (md := 3) h0).1
    rw [e1, R.b3 rfl] at q
    refine ⟨by simpa using q, fun hx => ?_⟩
    cases hn : d.n
    · obtain ⟨b, e1, R⟩ := rnd_Rd 4 d.n d.m (E := d.e) (u := F.eOf (d.e + blen d.m)) (L := L) (by omega) (by omega)
      have q := (rnd_bd F (md := 4) h0).1
      rw [e1, R.b4 rfl, hx, hn] at q
      simpa using q
    · obtain ⟨b, e1, R⟩ := rnd_Rd 5 d.n d.m (E := d.e) (u := F.eOf (d.e + blen d.m)) (L := L) (by omega) (by omega)
      have q := (rnd_bd F (md := 5) h0).1
      rw [e1, R.b5 rfl, hx, hn] at q
      simpa using q
  · obtain ⟨b, e1, R⟩ := rnd_Rd 3 d.n d.m (E := d.e) (u := F.eOf (d.e + blen d.m)) (L := L) (by omega) (by omega)
    have q := (rnd_bd F (md := 3) h0).2.1
    rw [e1, R.b3 rfl] at q
    simpa using q
  · intro md m1 m2
    obtain ⟨b, e1, R⟩ := rnd_Rd md d.n d.m (E := d.e) (u := F.eOf (d.e + blen d.m)) (L := L) (by omega) (by omega)
    obtain ⟨q1, q2, _, _⟩ := rnd_bd F (md := md) h0
    have hb := enc_big F q1 hu q2
    have hs : rndW F md d = wordOf F md d.n (rnd md d.n d.m d.e (F.eOf (d.e + blen d.m))).1 (rnd md d.n d.m d.e (F.eOf (d.e + blen d.m))).2 (F.eOf (d.e + blen d.m)) (d.e + blen d.m) (rnd md d.n d.m d.e (d.e + blen d.m - F.fr - 1)).1 := by
      simp only [rndW, if_neg h0]
    have he : F.enc (rnd md d.n d.m d.e (F.eOf (d.e + blen d.m))).1 (F.eOf (d.e + blen d.m)) = F.enc (d.m * 2 ^ (d.e - L).toNat / 2 ^ (F.eOf (d.e + blen d.m) - L).toNat) (F.eOf (d.e + blen d.m)) + b.toNat := by
      rw [e1]; unfold Fm.enc; simp only; omega
    rw [he] at hb
    refine ⟨b, if blen (rnd md d.n d.m d.e (d.e + blen d.m - F.fr - 1)).1 + (d.e + blen d.m - F.fr - 1) < F.low + F.fr + 1 then 24 else 16, ?_, by split <;> simp, R⟩
    rw [hs]
    unfold wordOf
    rw [he]
    by_cases hv : F.wide < blen (rnd md d.n d.m d.e (F.eOf (d.e + blen d.m))).1 + F.eOf (d.e + blen d.m)
    · rw [if_pos hv, if_pos (hb.1 hv), if_pos (hb.1 hv), ovr_eq]
    · have hv' := fun h => hv (hb.2 h)
      rw [if_neg hv, if_neg hv', if_neg hv']
      congr 1
      rw [e1]
theorem iv_val_L {F : Fm} {s : Nat} (n : Bool) (h : s < F.i0) {L : Int} (hL : L ≤ F.low) : iv (F.val (s + F.sgn n)) L = (if n then -1 else 1) * ((magN F s * 2 ^ (F.low - L).toNat : Nat) : Int) ∧ LoE (F.val (s + F.sgn n)) L := by
  obtain ⟨h1, h2, _⟩ := iv_val n h
  refine ⟨?_, h2.mono hL⟩
  rw [iv_scale h2 hL, h1, Int.mul_assoc, ← Int.natCast_mul]
theorem iv_num {d : Dy} {L : Int} : iv d L = (if d.n then -1 else 1) * ((d.m * 2 ^ (d.e - L).toNat : Nat) : Int) := rfl
section
variable {F : Fm} {d : Dy} {L : Int} {A U W e0 : Nat} {u : Int} {ex : Bool}
theorem Shp.worth (S : Shp F d L A U W e0 u ex) : magN F e0 * 2 ^ (F.low - L).toNat = W * U := by
  rw [S.he0, magN_enc F S.wb.1 S.lou S.wc, S.hU, Nat.mul_assoc, ← Nat.pow_add]
  have := S.hL; have := S.lou
  rw [show (u - F.low).toNat + (F.low - L).toNat = (u - L).toNat by omega]
theorem Shp.worth1 (S : Shp F d L A U W e0 u ex) (hx : ex = false) : magN F (e0 + 1) * 2 ^ (F.low - L).toNat = (W + 1) * U := by
  rw [S.he0, ← enc_succ, magN_enc F (S.wb.2 hx) S.lou (S.wc.imp id fun h => by omega), S.hU, Nat.mul_assoc, ← Nat.pow_add]
  have := S.hL; have := S.lou
  rw [show (u - F.low).toNat + (F.low - L).toNat = (u - L).toNat by omega]
theorem cmp_size {s : Nat} (n : Bool) (h : s < F.i0) (hL : L ≤ F.low) (hd : LoE d L) : cmpD (F.val (s + F.sgn n)) d = sgI ((if n then -1 else 1) * ((magN F s * 2 ^ (F.low - L).toNat : Nat) : Int) - iv d L) := by
  obtain ⟨h1, h2⟩ := iv_val_L n h hL
  rw [cmp_iv h2 hd, h1]
end
end Go.Cv
namespace Go.Cv
theorem cls_size {F : Fm} {s : Nat} (n : Bool) (h : s ≤ F.i0) : (F.cls (s + F.sgn n) = 1 ↔ s = 0) ∧ (F.cls (s + F.sgn n) = 4 ↔ s = F.i0) ∧ F.cls (s + F.sgn n) ≠ 5 := by
  have hi := fm_i0 F
  obtain ⟨e1, e2⟩ := sgn_mod n (by omega : s < F.sg)
  unfold Fm.cls Fm.ex Fm.fc
  rw [e1]
  unfold Fm.i0 at *
  have hp := Nat.two_pow_pos F.fr
  have hm : 1 < F.most := by cases F <;> decide
  generalize F.most = K at *
  generalize 2 ^ F.fr = P at *
  have hd := Nat.div_add_mod s P
  have hml := Nat.mod_lt s hp
  have h3 : s / P ≤ K := by
    apply Nat.div_le_of_le_mul; rw [Nat.mul_comm]; exact h
  have h4 : s / P = K → s % P = 0 := by
    intro hk; rw [hk, Nat.mul_comm] at hd; omega
  have h5 : s / P = 0 → s = s % P := by intro hk; rw [hk, Nat.mul_zero] at hd; omega
  have h6 : s / P = K ↔ s = K * P := by
    constructor
    · intro hk; have := h4 hk; rw [hk, this, Nat.mul_comm] at hd; omega
    · intro hk; rw [hk, Nat.mul_div_cancel _ hp]
  have h7 : K * P ≠ 0 := by have := Nat.mul_pos (by omega : 0 < K) hp; omega
  have h8 : s = 0 → s / P = 0 := by rintro rfl; exact Nat.zero_div _
  generalize s / P = x at *
  generalize s % P = y at *
  generalize K * P = KP at *
  clear hd
  refine ⟨?_, ?_, ?_⟩ <;> (repeat' split) <;> omega
structure Betw (F : Fm) (md : Int) (d : Dy) : Prop where
  ws : ∀ m : Int, 1 ≤ m → m ≤ 5 → ∃ s : Nat, s ≤ F.i0 ∧ (rndW F m d).1 = s + F.sgn d.n
  under : (F.cls (rndW F 5 d).1 = 4 ∧ (rndW F 5 d).1 = F.inf true) ∨ (F.fin (rndW F 5 d).1 ∧ cmpD (F.val (rndW F 5 d).1) d ≤ 0)
  over : (F.cls (rndW F 4 d).1 = 4 ∧ (rndW F 4 d).1 = F.inf false) ∨ (F.fin (rndW F 4 d).1 ∧ 0 ≤ cmpD (F.val (rndW F 4 d).1) d)
  same : (rndW F 5 d).1 = (rndW F 4 d).1 → (rndW F 5 d).2 = 0 ∧ (rndW F 4 d).2 = 0 ∧ (rndW F md d).2 = 0 ∧ (rndW F md d).1 = (rndW F 5 d).1 ∧ (rndW F 3 d).1 = (rndW F 5 d).1
  step : (rndW F 5 d).1 ≠ (rndW F 4 d).1 → (if (rndW F 5 d).1 % F.sg = 0 then (1, true) else F.up (rndW F 5 d).1) = ((rndW F 4 d).1, true) ∧ ¬ ((rndW F 4 d).1 = F.sg ∧ (rndW F 4 d).1 = 0)
  flag : ∀ m : Int, 1 ≤ m → m ≤ 5 → (rndW F 5 d).1 ≠ (rndW F 4 d).1 → (rndW F m d).2 = 16 ∨ (rndW F m d).2 = 20 ∨ (rndW F m d).2 = 24
  one : (rndW F 5 d).1 ≠ (rndW F 4 d).1 → ((rndW F md d).1 = (rndW F 5 d).1 ∨ (rndW F md d).1 = (rndW F 4 d).1) ∧ ((rndW F 3 d).1 = (rndW F 5 d).1 ↔ d.n = false) ∧ ((rndW F 3 d).1 = (rndW F 4 d).1 ↔ d.n = true)
theorem up_pos {F : Fm} {x : Nat} (h : x < F.i0) : (if x % F.sg = 0 then (1, true) else F.up x) = (x + 1, true) := by
  have hi := fm_i0 F
  obtain ⟨c1, c2, c3⟩ := cls_size (F := F) false (Nat.le_of_lt h)
  obtain ⟨e1, e2⟩ := sgn_mod (F := F) false (by omega : x < F.sg)
  simp only [Fm.sgn, Bool.false_eq_true, if_false, Nat.add_zero] at c1 c2 c3 e1 e2
  rw [e1]
  by_cases h0 : x = 0
  · rw [if_pos h0, h0]
  · rw [if_neg h0]
    unfold Fm.up
    rw [if_neg (fun q => by have := c2.1 q.1; omega), if_neg (fun q => h0 (c1.1 q)), e2]
    rfl
theorem up_neg {F : Fm} {x : Nat} (h : x < F.i0) : (if (x + 1 + F.sg) % F.sg = 0 then (1, true) else F.up (x + 1 + F.sg)) = (x + F.sg, true) := by
  have hi := fm_i0 F
  obtain ⟨c1, c2, c3⟩ := cls_size (F := F) (s := x + 1) true (by omega)
  obtain ⟨e1, e2⟩ := sgn_mod (F := F) (s := x + 1) true (by omega)
  simp only [Fm.sgn, if_true] at c1 c2 c3 e1 e2
  rw [e1, if_neg (by omega)]
  unfold Fm.up
  rw [if_neg (fun q => by rw [e2] at q; exact absurd q.2 (by decide)), if_neg (fun q => by have := c1.1 q; omega), e2, if_pos rfl]
  congr 1; omega
section
variable {F : Fm} {md : Int} {d : Dy} {L : Int} {A : Nat}
theorem betw_pos (hL : L ≤ F.low) (hle : LoE d L) (hd : iv d L = A) (hn : d.n = false) {x : Nat} (hx : x < F.i0)
    (hws : ∀ m : Int, 1 ≤ m → m ≤ 5 → ∃ s : Nat, s ≤ F.i0 ∧ (rndW F m d).1 = s + F.sgn d.n)
    (E5 : (rndW F 5 d).1 = x) (E4 : (rndW F 4 d).1 = x + 1) (E3 : (rndW F 3 d).1 = x) (E : (rndW F md d).1 = x ∨ (rndW F md d).1 = x + 1)
    (hf : ∀ m : Int, 1 ≤ m → m ≤ 5 → (rndW F m d).2 = 16 ∨ (rndW F m d).2 = 20 ∨ (rndW F m d).2 = 24)
    (h1 : magN F x * 2 ^ (F.low - L).toNat ≤ A) (h2 : x + 1 < F.i0 → A ≤ magN F (x + 1) * 2 ^ (F.low - L).toNat) : Betw F md d := by
  have hi := fm_i0 F
  have s0 : F.sgn false = 0 := rfl
  refine ⟨hws, ?_, ?_, fun h => ?_, fun _ => ?_, fun m a b _ => hf m a b, fun _ => ?_⟩
  · right
    have c := cmp_size (F := F) (s := x) false hx hL hle
    have fz := fin_size (F := F) (s := x) false hx
    rw [s0, Nat.add_zero] at c fz
    rw [E5]
    refine ⟨fz, ?_⟩
    rw [c, hd]
    have : ¬ 0 < sgI ((if false = true then -1 else 1) * ((magN F x * 2 ^ (F.low - L).toNat : Nat) : Int) - (A : Int)) := by
      rw [sgI_pos]; simp only [Bool.false_eq_true, if_false]; omega
    omega
  · rw [E4]
    by_cases h3 : x + 1 < F.i0
    · right
      have c := cmp_size (F := F) (s := x + 1) false h3 hL hle
      have fz := fin_size (F := F) (s := x + 1) false h3
      rw [s0, Nat.add_zero] at c fz
      refine ⟨fz, ?_⟩
      rw [c, hd]
      have := h2 h3
      have : ¬ sgI ((if false = true then -1 else 1) * ((magN F (x + 1) * 2 ^ (F.low - L).toNat : Nat) : Int) - (A : Int)) < 0 := by
        rw [sgI_neg]; simp only [Bool.false_eq_true, if_false]; omega
      omega
    · left
      have e : x + 1 = F.inf false := by rw [inf_eq, s0]; omega
      rw [e]; exact ⟨cls_inf F false, rfl⟩
  · rw [E5, E4] at h; omega
  · rw [E5, E4]; exact ⟨up_pos hx, by omega⟩
  · rw [E5, E4, E3, hn]
    refine ⟨E, ⟨fun _ => rfl, fun _ => rfl⟩, ⟨fun h => by omega, fun h => by cases h⟩⟩
theorem betw_neg (hL : L ≤ F.low) (hle : LoE d L) (hd : iv d L = -(A : Int)) (hn : d.n = true) {x : Nat} (hx : x < F.i0)
    (hws : ∀ m : Int, 1 ≤ m → m ≤ 5 → ∃ s : Nat, s ≤ F.i0 ∧ (rndW F m d).1 = s + F.sgn d.n)
    (E5 : (rndW F 5 d).1 = x + 1 + F.sg) (E4 : (rndW F 4 d).1 = x + F.sg) (E3 : (rndW F 3 d).1 = x + F.sg) (E : (rndW F md d).1 = x + F.sg ∨ (rndW F md d).1 = x + 1 + F.sg)
    (hf : ∀ m : Int, 1 ≤ m → m ≤ 5 → (rndW F m d).2 = 16 ∨ (rndW F m d).2 = 20 ∨ (rndW F m d).2 = 24)
    (h1 : magN F x * 2 ^ (F.low - L).toNat ≤ A) (h2 : x + 1 < F.i0 → A ≤ magN F (x + 1) * 2 ^ (F.low - L).toNat) : Betw F md d := by
  have hi := fm_i0 F
  have s0 : F.sgn true = F.sg := rfl
  refine ⟨hws, ?_, ?_, fun h => ?_, fun _ => ?_, fun m a b _ => hf m a b, fun _ => ?_⟩
  · rw [E5]
    by_cases h3 : x + 1 < F.i0
    · right
      have c := cmp_size (F := F) (s := x + 1) true h3 hL hle
      have fz := fin_size (F := F) (s := x + 1) true h3
      rw [s0] at c fz
      refine ⟨fz, ?_⟩
      rw [c, hd]
      have := h2 h3
      have : ¬ 0 < sgI ((if true = true then -1 else 1) * ((magN F (x + 1) * 2 ^ (F.low - L).toNat : Nat) : Int) - -(A : Int)) := by
        rw [sgI_pos]; simp only [if_true]; omega
      omega
    · left
      have e : x + 1 + F.sg = F.inf true := by rw [inf_eq, s0]; omega
      rw [e]; exact ⟨cls_inf F true, rfl⟩
  · right
    have c := cmp_size (F := F) (s := x) true hx hL hle
    have fz := fin_size (F := F) (s := x) true hx
    rw [s0] at c fz
    rw [E4]
    refine ⟨fz, ?_⟩
    rw [c, hd]
    have : ¬ sgI ((if true = true then -1 else 1) * ((magN F x * 2 ^ (F.low - L).toNat : Nat) : Int) - -(A : Int)) < 0 := by
      rw [sgI_neg]; simp only [if_true]; omega
    omega
  · rw [E5, E4] at h; omega
  · rw [E5, E4]; exact ⟨up_neg hx, by omega⟩
  · rw [E5, E4, E3, hn]
    refine ⟨E.symm, ⟨fun h => by omega, fun h => by cases h⟩, ⟨fun _ => rfl, fun _ => rfl⟩⟩
theorem betw_eq (hL : L ≤ F.low) (hle : LoE d L) (hd : iv d L = (if d.n then -1 else 1) * (A : Int)) {x : Nat} (hx : x < F.i0)
    (hws : ∀ m : Int, 1 ≤ m → m ≤ 5 → ∃ s : Nat, s ≤ F.i0 ∧ (rndW F m d).1 = s + F.sgn d.n)
    (E5 : rndW F 5 d = (x + F.sgn d.n, 0)) (E4 : rndW F 4 d = (x + F.sgn d.n, 0)) (E3 : rndW F 3 d = (x + F.sgn d.n, 0)) (E : rndW F md d = (x + F.sgn d.n, 0))
    (h1 : magN F x * 2 ^ (F.low - L).toNat = A) : Betw F md d := by
  have c := cmp_size (F := F) (s := x) d.n hx hL hle
  have fz := fin_size (F := F) (s := x) d.n hx
  rw [h1, hd, Int.sub_self] at c
  refine ⟨hws, ?_, ?_, fun h => ?_, fun h => ?_, fun m a b h => ?_, fun h => ?_⟩
  · rw [E5]; right; exact ⟨fz, by rw [c]; decide⟩
  · rw [E4]; right; exact ⟨fz, by rw [c]; decide⟩
  · rw [E5, E4, E3, E]; exact ⟨rfl, rfl, rfl, rfl, rfl⟩
  · rw [E5, E4] at h; exact absurd rfl h
  · rw [E5, E4] at h; exact absurd rfl h
  · rw [E5, E4] at h; exact absurd rfl h
end
theorem between (F : Fm) {md : Int} (m1 : 1 ≤ md) (m2 : md ≤ 5) {d : Dy} (h0 : d.m ≠ 0) : Betw F md d := by
  have hi := fm_i0 F
  obtain ⟨L, l1, l2⟩ : ∃ L : Int, L < F.low ∧ L < d.e := ⟨min F.low d.e - 1, by omega, by omega⟩
  obtain ⟨A, U, W, e0, u, ex, S, _⟩ := shp_of F h0 l1 l2
  obtain ⟨b5, f5, r5, g5, R5⟩ := S.all 5 (by decide) (by decide)
  obtain ⟨b4, f4, r4, g4, R4⟩ := S.all 4 (by decide) (by decide)
  obtain ⟨b3, f3, r3, g3, R3⟩ := S.all 3 (by decide) (by decide)
  obtain ⟨b, f, r, g, R⟩ := S.all md m1 m2
  have x5 := R5.b5 rfl
  have x4 := R4.b4 rfl
  have x3 := R3.b3 rfl
  have hw := S.worth
  have hw1 := S.worth1
  have hlo := R.lo
  have hhi := R.hi
  have hex := R.exi
  have hd : iv d L = (if d.n then -1 else 1) * (A : Int) := by rw [iv_num, S.hA]
  have hle : LoE d L := Or.inr (by omega)
  have hbig : F.i0 ≤ e0 → magN F (F.i0 - 1) * 2 ^ (F.low - L).toNat ≤ A := fun h => Nat.le_trans (Nat.mul_le_mul_right _ (magN_le F (by omega : F.i0 - 1 ≤ e0))) (by rw [hw]; exact hlo)
  have hovs : ∀ m n, ovs F m n = F.i0 - 1 ∨ ovs F m n = F.i0 := fun m n => by unfold ovs; split <;> omega
  have hws : ∀ m : Int, 1 ≤ m → m ≤ 5 → ∃ s : Nat, s ≤ F.i0 ∧ (rndW F m d).1 = s + F.sgn d.n := fun m a1 a2 => by
    obtain ⟨b, f, r, _, _⟩ := S.all m a1 a2
    refine ⟨_, ?_, by rw [r]⟩
    split
    · have := hovs m d.n; omega
    · omega
  have hf : (F.i0 ≤ e0 ∨ ex = false) → ∀ m : Int, 1 ≤ m → m ≤ 5 → (rndW F m d).2 = 16 ∨ (rndW F m d).2 = 20 ∨ (rndW F m d).2 = 24 := fun h m a1 a2 => by
    obtain ⟨b, f, r, g, _⟩ := S.all m a1 a2
    rw [r]; simp only
    by_cases q : F.i0 ≤ e0 + b.toNat
    · rw [if_pos q]; exact Or.inr (Or.inl rfl)
    · rw [if_neg q]
      have : ex = false := h.resolve_left (by omega)
      rw [this]; simp only [Bool.false_eq_true, if_false]; omega
  by_cases hb : F.i0 ≤ e0
  · have t : ∀ b : Bool, F.i0 ≤ e0 + b.toNat := fun b => by omega
    rw [if_pos (t b5)] at r5
    rw [if_pos (t b4)] at r4
    rw [if_pos (t b3)] at r3
    rw [if_pos (t b)] at r
    cases hn : d.n
    · rw [hn] at r5 r4 r3 r hd
      have o5 : ovs F 5 false = F.i0 - 1 := by simp [ovs]
      have o4 : ovs F 4 false = F.i0 := by simp [ovs]
      have o3 : ovs F 3 false = F.i0 - 1 := by simp [ovs]
      refine betw_pos (x := F.i0 - 1) (by omega) hle (by rw [hd]; simp) hn (by omega) hws (by rw [r5, o5]; rfl) (by rw [r4, o4]; simp only [Fm.sgn, Bool.false_eq_true, if_false]; omega) (by rw [r3, o3]; rfl) ?_ (hf (Or.inl hb)) (hbig hb) (fun h => by omega)
      rw [r]; simp only [Fm.sgn, Bool.false_eq_true, if_false]
      have := hovs md false; omega
    · rw [hn] at r5 r4 r3 r hd
      have o5 : ovs F 5 true = F.i0 := by simp [ovs]
      have o4 : ovs F 4 true = F.i0 - 1 := by simp [ovs]
      have o3 : ovs F 3 true = F.i0 - 1 := by simp [ovs]
      refine betw_neg (x := F.i0 - 1) (by omega) hle (by rw [hd]; simp) hn (by omega) hws (by rw [r5, o5]; simp only [Fm.sgn, if_true]; omega) (by rw [r4, o4]; rfl) (by rw [r3, o3]; rfl) ?_ (hf (Or.inl hb)) (hbig hb) (fun h => by omega)
      rw [r]; simp only [Fm.sgn, if_true]
      have := hovs md true; omega
  · cases hx : ex
    · subst hx
      have hw1 := hw1 rfl
      have hup : A ≤ magN F (e0 + 1) * 2 ^ (F.low - L).toNat := by rw [hw1]; omega
      have hdn : magN F e0 * 2 ^ (F.low - L).toNat ≤ A := by rw [hw]; exact hlo
      cases hn : d.n
      · rw [hn] at r5 r4 r3 r hd x5 x4
        subst x5 x4 x3
        have o4 : ovs F 4 false = F.i0 := by simp [ovs]
        refine betw_pos (x := e0) (by omega) hle (by rw [hd]; simp) hn (by omega) hws (by rw [r5]; simp [hb, Fm.sgn]) ?_ (by rw [r3]; simp [hb, Fm.sgn]) ?_ (hf (Or.inr rfl)) hdn (fun _ => hup)
        · rw [r4]; simp only [o4, Bool.not_false, Bool.and_self, Bool.toNat_true, Fm.sgn, Bool.false_eq_true, if_false]; split <;> omega
        · rw [r]
          cases b
          · left; simp [hb, Fm.sgn]
          · right
            have m3 : md ≠ 3 := fun h => by have := R.b3 h; cases this
            have m5 : md ≠ 5 := fun h => by have := R.b5 h; rw [hn] at this; cases this
            have o : ovs F md false = F.i0 := by simp [ovs, m3, m5]
            simp only [o, Bool.toNat_true, Fm.sgn, Bool.false_eq_true, if_false]; split <;> omega
      · rw [hn] at r5 r4 r3 r hd x5 x4
        subst x5 x4 x3
        have o5 : ovs F 5 true = F.i0 := by simp [ovs]
        refine betw_neg (x := e0) (by omega) hle (by rw [hd]; simp) hn (by omega) hws ?_ (by rw [r4]; simp [hb, Fm.sgn]) (by rw [r3]; simp [hb, Fm.sgn]) ?_ (hf (Or.inr rfl)) hdn (fun _ => hup)
        · rw [r5]; simp only [o5, Bool.not_false, Bool.and_self, Bool.toNat_true, Fm.sgn, if_true]; split <;> omega
        · rw [r]
          cases b
          · left; simp [hb, Fm.sgn]
          · right
            have m3 : md ≠ 3 := fun h => by have := R.b3 h; cases this
            have m4 : md ≠ 4 := fun h => by have := R.b4 h; rw [hn] at this; cases this
            have o : ovs F md true = F.i0 := by simp [ovs, m3, m4]
            simp only [o, Bool.toNat_true, Fm.sgn, if_true]; split <;> omega
    · subst hx
      have y5 := R5.xb rfl
      have y4 := R4.xb rfl
      have y := R.xb rfl
      subst y5 y4 y x3
      refine betw_eq (x := e0) (by omega) hle hd (by omega) hws (by rw [r5]; simp [hb]) (by rw [r4]; simp [hb]) (by rw [r3]; simp [hb]) (by rw [r]; simp [hb]) ?_
      rw [hw]; exact (hex.1 rfl).symm
end Go.Cv
namespace Go.Cv
variable {G : Nat → Option (List AV)} {T : Tbl} {g : Nat}
def rndS (F : Fm) (m : Int) (d : Dy) : Nat := if d.m = 0 then 0 else
  if F.wide < blen (rnd m d.n d.m d.e (F.eOf (d.e + blen d.m))).1 + F.eOf (d.e + blen d.m) then ovs F m d.n else F.enc (rnd m d.n d.m d.e (F.eOf (d.e + blen d.m))).1 (F.eOf (d.e + blen d.m))
theorem rndW_S (F : Fm) (m : Int) {d : Dy} (h0 : d.m ≠ 0) : (rndW F m d).1 = rndS F m d + F.sgn d.n := by
  unfold rndW rndS wordOf
  rw [if_neg h0, if_neg h0]
  simp only
  split
  · rw [ovr_eq]
  · rfl
theorem rndS_le (F : Fm) {m : Int} (m1 : 1 ≤ m) (m2 : m ≤ 5) {d : Dy} (h0 : d.m ≠ 0) : rndS F m d ≤ F.i0 := by
  obtain ⟨s, h1, h2⟩ := (between F (md := 1) (by decide) (by decide) h0).ws m m1 m2
  rw [rndW_S F m h0] at h2; omega
theorem neg_nm {d : Dy} (h0 : d.m ≠ 0) : negD d = ⟨!d.n, d.m, d.e⟩ := by unfold negD; rw [if_neg h0]
theorem round_val (F : Fm) (m : Int) {s : Nat} (n : Bool) (h : s < F.i0) (h0 : s ≠ 0) : rndW F m (F.val (s + F.sgn n)) = (s + F.sgn n, 0) ∧ (F.val (s + F.sgn n)).m ≠ 0 := by
  have hi := fm_i0 F
  have hF := fm_facts F
  obtain ⟨e1, e2⟩ := sgn_mod n (by omega : s < F.sg)
  have hp := Nat.two_pow_pos F.fr
  have hd := Nat.div_add_mod s (2 ^ F.fr)
  have hm := Nat.mod_lt s hp
  obtain ⟨k, u, hk0, hk1, hu, hku, hv, hs⟩ : ∃ (k : Nat) (u : Int), k ≠ 0 ∧ k < 2 ^ (F.fr + 1) ∧ F.low ≤ u ∧ (u = F.low ∨ 2 ^ F.fr ≤ k) ∧ F.val (s + F.sgn n) = mkD n k u ∧ F.enc k u = s := by
    unfold Fm.val Fm.ex Fm.fc
    rw [e1, e2]
    by_cases hx : s / 2 ^ F.fr = 0
    · rw [if_pos hx]
      rw [hx, Nat.mul_zero, Nat.zero_add] at hd
      refine ⟨s % 2 ^ F.fr, F.low, by omega, by rw [Nat.pow_succ]; omega, Int.le_refl _, Or.inl rfl, rfl, ?_⟩
      unfold Fm.enc; rw [Int.sub_self]; simpa using hd
    · rw [if_neg hx]
      have hx1 : 1 ≤ s / 2 ^ F.fr := Nat.pos_of_ne_zero hx
      refine ⟨2 ^ F.fr + s % 2 ^ F.fr, (s / 2 ^ F.fr : Nat) - 1 + F.low, by omega, by rw [Nat.pow_succ]; omega, by generalize s / 2 ^ F.fr = Q at *; omega, Or.inr (by omega), rfl, ?_⟩
      unfold Fm.enc
      rw [show ((s / 2 ^ F.fr : Nat) - 1 + F.low - F.low : Int).toNat = s / 2 ^ F.fr - 1 by generalize s / 2 ^ F.fr = Q at *; omega, Nat.sub_mul, Nat.one_mul, Nat.mul_comm]
      have : 2 ^ F.fr * 1 ≤ 2 ^ F.fr * (s / 2 ^ F.fr) := Nat.mul_le_mul_left _ hx1
      rw [Nat.mul_one] at this; omega
  rw [hv]
  have hne := mkD_m0 (n := n) hk0 u
  refine ⟨?_, hne⟩
  have hb := mkD_blen (n := n) hk0 u
  have hbk := blen_le.2 hk1
  have hE : F.eOf ((mkD n k u).e + blen (mkD n k u).m) = u := by
    unfold Fm.eOf
    rw [hb]
    rcases hku with h1 | h1
    · omega
    · have := lt_blen.2 h1; omega
  have hr : rnd m (mkD n k u).n (mkD n k u).m (mkD n k u).e u = (k, true) := by
    have hle : u ≤ (mkD n k u).e := by rw [mkD_pos hk0]; simp only; omega
    unfold rnd
    rw [if_pos hle, mkD_val hk0 (Int.le_refl u), Int.sub_self]; simp
  unfold rndW
  rw [if_neg hne]
  simp only
  rw [hE, hr]
  unfold wordOf
  have hbig := enc_big F (n := k) (u := u) (by omega) hu hku
  rw [hs] at hbig
  rw [if_neg (fun q => by have := hbig.1 q; omega), hs, mkD_n hk0]
  simp
theorem val_zero (F : Fm) (n : Bool) : F.val (0 + F.sgn n) = ⟨false, 0, 0⟩ := by
  have hi := fm_i0 F
  obtain ⟨e1, e2⟩ := sgn_mod (F := F) (s := 0) n (by omega)
  unfold Fm.val Fm.ex Fm.fc
  rw [e1]; simp [mkD_zero]
theorem word_parts {F : Fm} {w : Nat} (h : w < 2 * F.sg) : ∃ s n, w = s + F.sgn n ∧ s < F.sg ∧ (F.fin w → s < F.i0) ∧ (w = F.sg ↔ s = 0 ∧ n = true) := by
  have hi := fm_i0 F
  refine ⟨w % F.sg, F.ng w, ?_, Nat.mod_lt _ hi.2.2.1, fun hf => ?_, ?_⟩
  · unfold Fm.ng Fm.sgn
    by_cases h1 : F.sg ≤ w
    · rw [decide_eq_true h1, if_pos rfl, Nat.mod_eq_sub_mod h1, Nat.mod_eq_of_lt (by omega)]; omega
    · rw [decide_eq_false h1, if_neg (by decide), Nat.mod_eq_of_lt (by omega)]; rfl
  · unfold Fm.fin Fm.ex at hf
    unfold Fm.i0
    have := Nat.div_add_mod (w % F.sg) (2 ^ F.fr)
    have h2 := Nat.mod_lt (w % F.sg) (Nat.two_pow_pos F.fr)
    have h3 : (w % F.sg / 2 ^ F.fr + 1) * 2 ^ F.fr ≤ F.most * 2 ^ F.fr := Nat.mul_le_mul_right _ hf
    rw [Nat.add_mul, Nat.one_mul, Nat.mul_comm] at h3
    omega
  · unfold Fm.ng
    constructor
    · intro e; rw [e, Nat.mod_self]; exact ⟨rfl, decide_eq_true (Nat.le_refl _)⟩
    · rintro ⟨h1, h2⟩
      simp only [decide_eq_true_eq] at h2
      rw [Nat.mod_eq_sub_mod h2, Nat.mod_eq_of_lt (by omega)] at h1; omega
theorem enc_mono (F : Fm) (u : Int) {a b : Nat} (h : a ≤ b) : F.enc a u ≤ F.enc b u := by unfold Fm.enc; omega
theorem rndS_enc (F : Fm) {m : Int} {d : Dy} (h0 : d.m ≠ 0) :
    rndS F m d = if F.i0 ≤ F.enc (rnd m d.n d.m d.e (F.eOf (d.e + blen d.m))).1 (F.eOf (d.e + blen d.m)) then ovs F m d.n else F.enc (rnd m d.n d.m d.e (F.eOf (d.e + blen d.m))).1 (F.eOf (d.e + blen d.m)) := by
  obtain ⟨q1, q2, _, _⟩ := rnd_bd F (md := m) h0
  have hu : F.low ≤ F.eOf (d.e + blen d.m) := by unfold Fm.eOf; omega
  have hb := enc_big F q1 hu q2
  unfold rndS
  rw [if_neg h0]
  by_cases h : F.wide < blen (rnd m d.n d.m d.e (F.eOf (d.e + blen d.m))).1 + F.eOf (d.e + blen d.m)
  · rw [if_pos h, if_pos (hb.1 h)]
  · rw [if_neg h, if_neg (fun q => h (hb.2 q))]
theorem rndS_mono (F : Fm) (m : Int) {a b : Dy} (ha : a.m ≠ 0) (hb : b.m ≠ 0) (hn : a.n = b.n) {L : Int} (la : L < a.e) (lb : L < b.e) (ll : L < F.low)
    (h : b.m * 2 ^ (b.e - L).toNat ≤ a.m * 2 ^ (a.e - L).toNat) : rndS F m b ≤ rndS F m a := by
  have hi := fm_i0 F
  have ta := blen_mul ha (a.e - L).toNat
  have tb := blen_mul hb (b.e - L).toNat
  have ht := blen_mono h
  have hu : F.eOf (b.e + blen b.m) ≤ F.eOf (a.e + blen a.m) := by unfold Fm.eOf; omega
  have ha0 : F.low ≤ F.eOf (a.e + blen a.m) := by unfold Fm.eOf; omega
  have hb0 : F.low ≤ F.eOf (b.e + blen b.m) := by unfold Fm.eOf; omega
  obtain ⟨p1, p2, _, _⟩ := rnd_bd F (md := m) ha
  obtain ⟨q1, q2, _, _⟩ := rnd_bd F (md := m) hb
  have he : F.enc (rnd m b.n b.m b.e (F.eOf (b.e + blen b.m))).1 (F.eOf (b.e + blen b.m)) ≤ F.enc (rnd m a.n a.m a.e (F.eOf (a.e + blen a.m))).1 (F.eOf (a.e + blen a.m)) := by
    by_cases hq : F.eOf (b.e + blen b.m) = F.eOf (a.e + blen a.m)
    · rw [hq]
      apply enc_mono
      rw [rnd_L m a.n a.m (L := L) (by omega) (by omega), rnd_L m b.n b.m (L := L) (by omega) (by omega), hn]
      exact rdN_mono m b.n h (by omega)
    · rcases p2 with p2 | p2
      · exfalso; omega
      · unfold Fm.enc
        rw [Nat.pow_succ] at q1
        obtain ⟨j, hj⟩ : ∃ j, (F.eOf (b.e + blen b.m) - F.low).toNat = j := ⟨_, rfl⟩
        obtain ⟨k, hk⟩ : ∃ k, (F.eOf (a.e + blen a.m) - F.low).toNat = k := ⟨_, rfl⟩
        rw [hj, hk]
        have h5 : (j + 1) * 2 ^ F.fr ≤ k * 2 ^ F.fr := Nat.mul_le_mul_right _ (by omega)
        rw [Nat.add_mul, Nat.one_mul] at h5
        omega
  rw [rndS_enc F ha, rndS_enc F hb, hn]
  rw [hn] at he
  have ho : ovs F m b.n = F.i0 - 1 ∨ ovs F m b.n = F.i0 := by unfold ovs; split <;> omega
  split <;> split <;> omega
def keyW (s : Nat) (n : Bool) : Int := if n then -(s : Int) else s
theorem above_key (F : Fm) {s t : Nat} {n k : Bool} (hs : s ≤ F.i0) (ht : t ≤ F.i0) (h : keyW t k ≤ keyW s n) : aboveW F (s + F.sgn n) (t + F.sgn k) = true := by
  have hi := fm_i0 F
  unfold aboveW
  have e1 : ∀ (s : Nat) (n k : Bool), s ≤ F.i0 → (s + F.sgn n = F.i0 + F.sgn k ↔ s = F.i0 ∧ n = k) := fun s n k hs => by
    unfold Fm.sgn
    cases n <;> cases k <;> simp <;> omega
  have d1 : (s + F.sgn n = F.inf false ∨ t + F.sgn k = F.inf true) ↔ ((s = F.i0 ∧ n = false) ∨ (t = F.i0 ∧ k = true)) := by rw [inf_eq, inf_eq, e1 s n false hs, e1 t k true ht]
  have d2 : (s + F.sgn n = F.inf true ∨ t + F.sgn k = F.inf false) ↔ ((s = F.i0 ∧ n = true) ∨ (t = F.i0 ∧ k = false)) := by rw [inf_eq, inf_eq, e1 s n true hs, e1 t k false ht]
  by_cases c1 : (s = F.i0 ∧ n = false) ∨ (t = F.i0 ∧ k = true)
  · rw [if_pos (d1.2 c1)]
  · rw [if_neg (fun q => c1 (d1.1 q))]
    by_cases c2 : (s = F.i0 ∧ n = true) ∨ (t = F.i0 ∧ k = false)
    · exfalso
      unfold keyW at h
      cases n <;> cases k <;> simp at h c1 c2 <;> omega
    · rw [if_neg (fun q => c2 (d2.1 q))]
      have s1 : s < F.i0 := by
        rcases Nat.lt_or_ge s F.i0 with q | q
        · exact q
        · exfalso; cases n
          · exact c1 (Or.inl ⟨by omega, rfl⟩)
          · exact c2 (Or.inl ⟨by omega, rfl⟩)
      have t1 : t < F.i0 := by
        rcases Nat.lt_or_ge t F.i0 with q | q
        · exact q
        · exfalso; cases k
          · exact c2 (Or.inr ⟨by omega, rfl⟩)
          · exact c1 (Or.inr ⟨by omega, rfl⟩)
      obtain ⟨v1, v2, _⟩ := iv_val n s1
      obtain ⟨w1, w2, _⟩ := iv_val k t1
      rw [cmp_iv v2 w2, v1, w1]
      apply decide_eq_true
      have hnot : ¬ ((if n = true then -1 else 1) * (magN F s : Int) - (if k = true then -1 else 1) * (magN F t : Int)) < 0 := by
        unfold keyW at h
        have z := magN_zero F
        cases n <;> cases k <;> simp only [Bool.false_eq_true, if_false, if_true] at h ⊢
        · have := magN_le F (by omega : t ≤ s); omega
        · omega
        · have h1 : s = 0 := by omega
          have h2 : t = 0 := by omega
          subst h1 h2; omega
        · have := magN_le F (by omega : s ≤ t); omega
      have := sgI_neg (x := (if n = true then -1 else 1) * (magN F s : Int) - (if k = true then -1 else 1) * (magN F t : Int))
      omega
theorem rndW_key (F : Fm) {m : Int} (m1 : 1 ≤ m) (m2 : m ≤ 5) (d : Dy) : ∃ s n, (rndW F m d).1 = s + F.sgn n ∧ s ≤ F.i0 ∧ s = rndS F m d ∧ (d.m = 0 → s = 0 ∧ n = false) ∧ (d.m ≠ 0 → n = d.n) := by
  by_cases h0 : d.m = 0
  · refine ⟨0, false, ?_, Nat.zero_le _, ?_, fun _ => ⟨rfl, rfl⟩, fun h => absurd h0 h⟩
    · unfold rndW; rw [if_pos h0]; rfl
    · unfold rndS; rw [if_pos h0]
  · exact ⟨rndS F m d, d.n, rndW_S F m h0, rndS_le F m1 m2 h0, rfl, fun h => absurd h h0, fun _ => rfl⟩
theorem low_of (F : Fm) (a b : Dy) : ∃ L : Int, L < F.low ∧ L < a.e ∧ L < b.e := ⟨min F.low (min a.e b.e) - 1, by omega, by omega, by omega⟩
theorem LoE_lt {d : Dy} {L : Int} (h : L < d.e) : LoE d L := Or.inr (by omega)
theorem order (F : Fm) {m : Int} (m1 : 1 ≤ m) (m2 : m ≤ 5) {a b : Dy} (h : 0 ≤ cmpD a b) : aboveW F (rndW F m a).1 (rndW F m b).1 = true := by
  obtain ⟨L, l1, l2, l3⟩ := low_of F a b
  rw [cmp_iv (LoE_lt l2) (LoE_lt l3)] at h
  have hle : iv b L ≤ iv a L := by
    have := sgI_neg (x := iv a L - iv b L); omega
  obtain ⟨s, n, e1, hs, es, sz, sn⟩ := rndW_key F m1 m2 a
  obtain ⟨t, k, e2, ht, et, tz, tn⟩ := rndW_key F m1 m2 b
  rw [e1, e2]
  refine above_key F hs ht ?_
  have pa : a.m ≠ 0 → 0 < a.m * 2 ^ (a.e - L).toNat := fun h => Nat.mul_pos (Nat.pos_of_ne_zero h) (Nat.two_pow_pos _)
  have pb : b.m ≠ 0 → 0 < b.m * 2 ^ (b.e - L).toNat := fun h => Nat.mul_pos (Nat.pos_of_ne_zero h) (Nat.two_pow_pos _)
  rw [iv_num, iv_num] at hle
  unfold keyW
  by_cases ha : a.m = 0
  · obtain ⟨rfl, rfl⟩ := sz ha
    rw [ha, Nat.zero_mul] at hle
    by_cases hb : b.m = 0
    · obtain ⟨rfl, rfl⟩ := tz hb
      decide
    · have := pb hb
      have hk := tn hb
      cases hbn : b.n
      · rw [hbn] at hle; simp only [Bool.false_eq_true, if_false] at hle; split at hle <;> omega
      · rw [hk, hbn]; simp only [Bool.false_eq_true, if_false, if_true]; omega
  · have hna := sn ha
    have := pa ha
    by_cases hb : b.m = 0
    · obtain ⟨rfl, rfl⟩ := tz hb
      rw [hb, Nat.zero_mul] at hle
      cases han : a.n
      · rw [hna, han]; simp only [Bool.false_eq_true, if_false]; omega
      · rw [han] at hle; simp only [if_true] at hle; split at hle <;> omega
    · have hnb := tn hb
      have := pb hb
      cases han : a.n <;> cases hbn : b.n
      · rw [han, hbn] at hle
        have := rndS_mono F m ha hb (by rw [han, hbn]) l2 l3 l1 (by simp only [Bool.false_eq_true, if_false] at hle; omega)
        rw [hna, hnb, han, hbn]; simp only [Bool.false_eq_true, if_false]; omega
      · rw [hna, hnb, han, hbn]; simp only [Bool.false_eq_true, if_false, if_true]; omega
      · rw [han, hbn] at hle; simp only [Bool.false_eq_true, if_false, if_true] at hle; omega
      · rw [han, hbn] at hle
        have := rndS_mono F m hb ha (by rw [han, hbn]) l3 l2 l1 (by simp only [if_true] at hle; omega)
        rw [hna, hnb, han, hbn]; simp only [if_true]; omega
theorem drop_set {l : List Nat} {i d : Nat} (h : i < l.length) : (l.set i d).drop i = d :: l.drop (i + 1) := by
  rw [drop_cons (by rw [List.length_set]; exact h), dg_set h, List.drop_set_of_lt (Nat.lt_succ_self i)]
theorem small_step {L l : List Nat} {d r j : Nat} (hj : j < L.length) (hl : l.length = L.length) (h : val (L.drop (j + 1)) = val (l.drop (j + 1)) * d + r) :
    val (L.drop j) = val ((l.set j ((r * 4294967296 + dg L j) / d)).drop j) * d + (r * 4294967296 + dg L j) % d := by
  rw [drop_cons hj, drop_set (by omega), val_cons, val_cons, h]
  have := Nat.div_add_mod (r * 4294967296 + dg L j) d
  generalize (r * 4294967296 + dg L j) / d = q at *
  generalize (r * 4294967296 + dg L j) % d = m at *
  rw [Nat.mul_add, Nat.add_mul, Nat.mul_assoc, Nat.mul_comm q d]
  generalize val (l.drop (j + 1)) * d = x at *
  omega
theorem small_lt {d r x : Nat} (hr : r < d) (hx : x < 4294967296) : (r * 4294967296 + x) / d < 4294967296 := by
  rw [Nat.div_lt_iff_lt_mul (by omega)]
  calc r * 4294967296 + x < (r + 1) * 4294967296 := by omega
    _ ≤ d * 4294967296 := Nat.mul_le_mul_right _ hr
    _ = 4294967296 * d := Nat.mul_comm ..
theorem shl32_or {r x : Nat} (hr : r < 4294967296) (hx : x < 4294967296) : orI .u64 ((r : Int) * 4294967296 % 18446744073709551616) (x : Int) = ((r * 4294967296 + x : Nat) : Int) := by
  have e : (r : Int) * 4294967296 % 18446744073709551616 = ((r * 4294967296 : Nat) : Int) := by omega
  rw [e, or64 (by omega) (by omega), Nat.or_comm, show (4294967296 : Nat) = 2 ^ 32 from rfl, or_add hx, Nat.add_comm]
theorem byDigit_loop {L : List Nat} {z : Bool} {d b : Nat} (hL : Dg L) (h0 : 0 < d) (hd : d < 4294967296) (hb : L.length < 17179869184) : ∀ (j r : Nat) (h : Heap) (l : List Nat),
    j ≤ L.length → Holds h b l → Dg l → l.length = L.length → r < d → val (L.drop j) = val (l.drop j) * d + r →
    Post (evL G T c_ref01_byDigit_l1 [(0, D z L), (1, .int .u32 (d : Int)), (6, .own b 0 L.length 1), (7, .int .u64 (r : Int)), (8, .int .i64 ((j : Int) - 1))] h) fun x =>
      ∃ e h' l' r', x = (.exit 0, (0, D z L) :: (1, .int .u32 (d : Int)) :: (6, .own b 0 L.length 1) :: (7, .int .u64 ((r' : Nat) : Int)) :: e, h') ∧ Holds h' b l' ∧ Dg l' ∧ l'.length = L.length ∧ r' < d ∧ val L = val l' * d + r'
  | 0, r, h, l, hj, H, hd1, hl, hr, he => by
    rw [s_loopc G T (c := c_ref01_byDigit_l1) rfl]
    have h1 : ¬ (0 : Int) ≤ ((0 : Nat) : Int) - 1 := by omega
    repeat (first | (simp (maxSteps := 1000000) only [seval, evB, c_ref01_byDigit_b1, h1]) | (simp (disch := omega) only [dsB]))
    exact Post.some ⟨_, _, _, _, rfl, H, hd1, hl, hr, by simpa using he⟩
  | j + 1, r, h, l, hj, H, hd1, hl, hr, he => by
    rw [s_loopc G T (c := c_ref01_byDigit_l1) rfl]
    have e1 : ((j + 1 : Nat) : Int) - 1 = (j : Int) := by omega
    have h1 : (0 : Int) ≤ (j : Int) := by omega
    have hx := hL.dg j
    have w1 : (dg L j : Int) % 18446744073709551616 = dg L j := by omega
    have w2 := shl32_or (r := r) (x := dg L j) (by omega) hx
    have w3 : (d : Int) % 18446744073709551616 = d := by omega
    have hq := small_lt hr hx
    have hm := Nat.mod_lt (r * 4294967296 + dg L j) h0
    generalize hQ : (r * 4294967296 + dg L j) / d = Q at *
    have w4 : ((r * 4294967296 + dg L j : Nat) : Int).tdiv (d : Int) = (Q : Int) := by rw [← hQ]; rfl
    have w5 : ((r * 4294967296 + dg L j : Nat) : Int).tmod (d : Int) = (((r * 4294967296 + dg L j) % d : Nat) : Int) := rfl
    have w6 : (Q : Int) % 18446744073709551616 = Q := by omega
    have w7 : (Q : Int) % 4294967296 = Q := by omega
    have hs := small_step (L := L) (l := l) (d := d) (r := r) (j := j) (by omega) hl he
    rw [hQ] at hs
    have h2 : ¬ (d : Int) = 0 := by omega
    rw [e1]
    repeat (first | (simp (maxSteps := 1000000) only [seval, evB, c_ref01_byDigit_b1, h1, w1, w2, w3, w4, w5, w6, w7, h2 ]) | (simp (disch := omega) only [dsB,  store_n H]))
    exact byDigit_loop hL h0 hd hb j _ _ _ (by omega) (H.put _) (Dg_set hd1 hq) (by rw [List.length_set]; exact hl) hm hs
theorem divmod_of {V A d r : Nat} (hr : r < d) (h : V = A * d + r) : A = V / d ∧ r = V % d := by
  subst h
  constructor
  · rw [Nat.mul_comm, Nat.mul_add_div (by omega), Nat.div_eq_of_lt hr]; rfl
  · rw [Nat.mul_comm, Nat.mul_add_mod, Nat.mod_eq_of_lt hr]
theorem ref01_byDigit (J : Al G T g) {z : Bool} {a d : Nat} (h0 : 0 < d) (hd : d < 4294967296) (hb : (dl a).length < 17179869184) :
    ∃ z1 z2, run G T 110 [D z (dl a), .int .u32 (d : Int)] = some (.tup [D z1 (dl (a / d)), D z2 (dl (a % d))]) := by
  have hL := Dg_dl a
  obtain ⟨x, hr, e, h', l', r', rfl, H, hd1, hl, hr1, hv⟩ := byDigit_loop (G := G) (T := T) (z := z) (d := d) (b := Heap.nil.b.length) hL h0 hd (by omega) (dl a).length 0 (new .nil (List.replicate (dl a).length 0)) _ (Nat.le_refl _) (Holds_new FreH.nil _) (Dg_rep _) (by rw [List.length_replicate]) h0 (by rw [List.drop_length, List.drop_eq_nil_of_le (by rw [List.length_replicate]; exact Nat.le_refl _)]; simp [val])
  rw [cast0] at hr
  rw [val_dl] at hv
  obtain ⟨e1, e2⟩ := divmod_of hr1 hv
  have hsn := snap_own H (n := (dl a).length) (by omega)
  rw [← hl, List.take_length] at hsn
  obtain ⟨z1, hz1⟩ := ref01_Trim J (z := false) hd1 (by omega)
  obtain ⟨z2, hz2⟩ := ref01_Of J (n := r') (by omega)
  rw [hl] at hsn
  refine ⟨z1, z2, ?_⟩
  rw [run_k G T J.B.ref01_byDigit, ← e1, ← e2]
  repeat (first | (simp (maxSteps := 1000000) only [seval, evB, c_ref01_byDigit, hr, hsn, hz1, hz2]) | (simp (disch := omega) only [dsB]))
theorem bits_Div32 (J : Al G T g) {r x d : Nat} (hr : r < d) (hx : x < 4294967296) (hd : d < 4294967296) :
    run G T 118 [.int .u32 (r : Int), .int .u32 (x : Int), .int .u32 (d : Int)] = some (.tup [.int .u32 (((r * 4294967296 + x) / d : Nat) : Int), .int .u32 (((r * 4294967296 + x) % d : Nat) : Int)]) := by
  rw [run_k G T J.A.bits_Div32]
  have w0 : (r : Int) % 18446744073709551616 = r := by omega
  have w1 : (x : Int) % 18446744073709551616 = x := by omega
  have w2 := shl32_or (r := r) (x := x) (by omega) hx
  have w3 : (d : Int) % 18446744073709551616 = d := by omega
  have hq := small_lt hr hx
  have hm := Nat.mod_lt (r * 4294967296 + x) (y := d) (by omega)
  have h2 : ¬ (d : Int) = 0 := by omega
  have h3 : ¬ (d : Int) ≤ r := by omega
  have w4 : ((r * 4294967296 + x : Nat) : Int).tdiv (d : Int) = (((r * 4294967296 + x) / d : Nat) : Int) := rfl
  have w5 : ((r * 4294967296 + x : Nat) : Int).tmod (d : Int) = (((r * 4294967296 + x) % d : Nat) : Int) := rfl
  generalize (r * 4294967296 + x) / d = Q at *
  generalize (r * 4294967296 + x) % d = R at *
  have w6 : (Q : Int) % 18446744073709551616 = Q := by omega
  have w7 : (Q : Int) % 4294967296 = Q := by omega
  have w9 : (R : Int) % 4294967296 = R := by omega
  repeat (first | (simp (maxSteps := 1000000) only [seval, evB, c_bits_Div32, w0, w1, w2, w3, w4, w5, w6, w7, w9, h2, h3]) | (simp (disch := omega) only [dsB]))
theorem small_loop (J : Al G T g) {L : List Nat} {z : Bool} {d b : Nat} (hL : Dg L) (h0 : 0 < d) (hd : d < 4294967296) (hb : L.length < 17179869184) : ∀ (j r : Nat) (h : Heap) (l : List Nat),
    j ≤ L.length → Holds h b l → Dg l → l.length = L.length → r < d → val (L.drop j) = val (l.drop j) * d + r →
    Post (evL G T c_nat_small_l1 [(0, D z L), (1, .int .u32 (d : Int)), (6, .own b 0 L.length 1), (7, .int .u32 (r : Int)), (8, .int .i64 ((j : Int) - 1))] h) fun x =>
      ∃ e h' l' r', x = (.exit 0, (0, D z L) :: (1, .int .u32 (d : Int)) :: (6, .own b 0 L.length 1) :: (7, .int .u32 ((r' : Nat) : Int)) :: e, h') ∧ Holds h' b l' ∧ Dg l' ∧ l'.length = L.length ∧ r' < d ∧ val L = val l' * d + r'
  | 0, r, h, l, hj, H, hd1, hl, hr, he => by
    rw [s_loopc G T (c := c_nat_small_l1) rfl]
    have h1 : ¬ (0 : Int) ≤ ((0 : Nat) : Int) - 1 := by omega
    repeat (first | (simp (maxSteps := 1000000) only [seval, evB, c_nat_small_b1, h1]) | (simp (disch := omega) only [dsB]))
    exact Post.some ⟨_, _, _, _, rfl, H, hd1, hl, hr, by simpa using he⟩
  | j + 1, r, h, l, hj, H, hd1, hl, hr, he => by
    rw [s_loopc G T (c := c_nat_small_l1) rfl]
    have e1 : ((j + 1 : Nat) : Int) - 1 = (j : Int) := by omega
    have h1 : (0 : Int) ≤ (j : Int) := by omega
    have hx := hL.dg j
    have hc := bits_Div32 (G := G) J hr hx hd
    have hs := small_step (L := L) (l := l) (d := d) (r := r) (j := j) (by omega) hl he
    have hq := small_lt hr hx
    have hm := Nat.mod_lt (r * 4294967296 + dg L j) h0
    rw [e1]
    repeat (first | (simp (maxSteps := 1000000) only [seval, evB, c_nat_small_b1, h1, hc ]) | (simp (disch := omega) only [dsB,  store_n H]))
    exact small_loop J hL h0 hd hb j _ _ _ (by omega) (H.put _) (Dg_set hd1 hq) (by rw [List.length_set]; exact hl) hm hs
theorem nat_small (J : Al G T g) {z : Bool} {a d : Nat} (h0 : 0 < d) (hd : d < 4294967296) (hb : (dl a).length < 17179869184) :
    ∃ z1, run G T 108 [D z (dl a), .int .u32 (d : Int)] = some (.tup [D z1 (dl (a / d)), .int .u32 ((a % d : Nat) : Int)]) := by
  have hL := Dg_dl a
  obtain ⟨x, hr, e, h', l', r', rfl, H, hd1, hl, hr1, hv⟩ := small_loop (G := G) J (z := z) (d := d) (b := Heap.nil.b.length) hL h0 hd (by omega) (dl a).length 0 (new .nil (List.replicate (dl a).length 0)) _ (Nat.le_refl _) (Holds_new FreH.nil _) (Dg_rep _) (by rw [List.length_replicate]) h0 (by rw [List.drop_length, List.drop_eq_nil_of_le (by rw [List.length_replicate]; exact Nat.le_refl _)]; simp [val])
  rw [cast0] at hr
  rw [val_dl] at hv
  obtain ⟨e1, e2⟩ := divmod_of hr1 hv
  have hsn := snap_own H (n := (dl a).length) (by omega)
  rw [← hl, List.take_length] at hsn
  obtain ⟨z1, hz1⟩ := nat_trim J (z := false) hd1 (by omega)
  rw [hl] at hsn
  refine ⟨z1, ?_⟩
  rw [run_k G T J.A.nat_small, ← e1, ← e2]
  repeat (first | (simp (maxSteps := 1000000) only [seval, evB, c_nat_small, hr, hsn, hz1]) | (simp (disch := omega) only [dsB]))
theorem val_set {l : List Nat} {j : Nat} (d : Nat) (h : j < l.length) : val (l.set j d) + 4294967296 ^ j * dg l j = val l + 4294967296 ^ j * d := by
  induction l generalizing j with
  | nil => exact absurd h (Nat.not_lt_zero _)
  | cons a l ih =>
    cases j with
    | zero =>
      have e : dg (a :: l) 0 = a := by rw [dg_lt (by simp)]; rfl
      rw [List.set_cons_zero, val_cons, val_cons, e, Nat.pow_zero]; omega
    | succ j =>
      have h2 : j < l.length := by simpa using h
      have e : dg (a :: l) (j + 1) = dg l j := by rw [dg_lt h, dg_lt h2]; rfl
      have := ih h2
      rw [List.set_cons_succ, val_cons, val_cons, e, Nat.pow_succ]
      have e2 : ∀ x, 4294967296 ^ j * 4294967296 * x = 4294967296 * (4294967296 ^ j * x) := fun x => by rw [Nat.mul_comm (4294967296 ^ j), Nat.mul_assoc]
      rw [e2, e2]
      omega
theorem dg_set_ne {l : List Nat} {i j d : Nat} (h : i ≠ j) : dg (l.set i d) j = dg l j := by
  by_cases hj : j < l.length
  · rw [dg_lt (by rw [List.length_set]; exact hj), dg_lt hj, List.getElem_set_ne h]
  · rw [dg_ge (by rw [List.length_set]; omega), dg_ge (by omega)]
theorem mac_lt {x y o c : Nat} (hx : x < 4294967296) (hy : y < 4294967296) (ho : o < 4294967296) (hc : c < 4294967296) : x * y + o + c < 18446744073709551616 := by
  have : x * y ≤ 4294967295 * 4294967295 := Nat.mul_le_mul (by omega) (by omega)
  omega
theorem mul_row {A l0 l : List Nat} {i k x c V : Nat} (hk : i + k < l.length) (he : val l + 4294967296 ^ (i + k) * c = V + 4294967296 ^ i * (x * val (A.take k))) :
    val (l.set (i + k) ((x * dg A k + dg l (i + k) + c) % 4294967296)) + 4294967296 ^ (i + (k + 1)) * ((x * dg A k + dg l (i + k) + c) / 4294967296) = V + 4294967296 ^ i * (x * val (A.take (k + 1))) := by
  have h1 := val_set ((x * dg A k + dg l (i + k) + c) % 4294967296) hk
  have h2 := Nat.mod_add_div (x * dg A k + dg l (i + k) + c) 4294967296
  rw [val_take_succ', Nat.mul_add, Nat.mul_add, ← Nat.add_assoc V, ← he, ← Nat.add_assoc, Nat.pow_succ]
  generalize (x * dg A k + dg l (i + k) + c) % 4294967296 = m at *
  generalize (x * dg A k + dg l (i + k) + c) / 4294967296 = q at *
  have e1 : 4294967296 ^ i * (x * (4294967296 ^ k * dg A k)) = 4294967296 ^ (i + k) * (x * dg A k) := by
    rw [Nat.pow_add, Nat.mul_left_comm x, Nat.mul_assoc]
  rw [e1]
  generalize 4294967296 ^ (i + k) = p at *
  rw [Nat.mul_assoc]
  have h3 : p * m + p * (4294967296 * q) = p * (x * dg A k) + p * dg l (i + k) + p * c := by rw [← Nat.mul_add, h2, Nat.mul_add, Nat.mul_add]
  omega
theorem mul_inner {B : List Nat} {zb : Bool} {i x b n : Nat} {va : AV} {na : Int} (hB : Dg B) (hx : x < 4294967296) (hs : n < 549755813888) (hn : i + B.length < n) (V : Nat) : ∀ (m k : Nat) (h : Heap) (l : List Nat) (c : Nat),
    m + k = B.length → Holds h b l → Dg l → l.length = n → c < 4294967296 → (∀ j, i + B.length ≤ j → dg l j = 0) → val l + 4294967296 ^ (i + k) * c = V + 4294967296 ^ i * (x * val (B.take k)) →
    Post (evL G T c_nat_mul_l1 [(1, D zb B), (5, .own b 0 n 1), (6, .int .i64 (i : Int)), (7, .int .u32 (x : Int)), (8, .int .u64 (c : Int)), (18, va), (19, .int .i64 na), (20, .int .i64 (i : Int)), (25, D zb B), (26, .int .i64 ((B.length : Nat) : Int)), (27, .int .i64 (k : Int))] h) fun r =>
      ∃ e h' l' c', r = (.exit 2, (1, D zb B) :: (5, .own b 0 n 1) :: (6, .int .i64 (i : Int)) :: (7, .int .u32 (x : Int)) :: (8, .int .u64 ((c' : Nat) : Int)) :: (18, va) :: (19, .int .i64 na) :: (20, .int .i64 (i : Int)) :: (25, D zb B) :: (26, .int .i64 ((B.length : Nat) : Int)) :: (27, .int .i64 ((B.length : Nat) : Int)) :: e, h') ∧
        Holds h' b l' ∧ Dg l' ∧ l'.length = n ∧ c' < 4294967296 ∧ (∀ j, i + B.length ≤ j → dg l' j = 0) ∧ val l' + 4294967296 ^ (i + B.length) * c' = V + 4294967296 ^ i * (x * val B)
  | 0, k, h, l, c, hm, H, hd, hl, hc, hz, he => by
    rw [s_loopc G T (c := c_nat_mul_l1) rfl]
    have h1 : ¬ (k : Int) < B.length := by omega
    repeat (first | (simp (maxSteps := 1000000) only [seval, evB, c_nat_mul_b1, h1]) | (simp (disch := omega) only [dsB]))
    obtain rfl : k = B.length := by omega
    rw [List.take_length] at he
    exact Post.some ⟨_, _, _, _, rfl, H, hd, hl, hc, hz, he⟩
  | m + 1, k, h, l, c, hm, H, hd, hl, hc, hz, he => by
    rw [s_loopc G T (c := c_nat_mul_l1) rfl]
    have h1 : (k : Int) < B.length := by omega
    have e7 : (k : Int) + 1 = ((k + 1 : Nat) : Int) := by omega
    have e8 : (i : Int) + (k : Int) = ((i + k : Nat) : Int) := by omega
    have hy := hB.dg k
    have ho := hd.dg (i + k)
    have hik : i + k < l.length := by omega
    have w1 : (x : Int) % 18446744073709551616 = x := by omega
    have w2 : (dg B k : Int) % 18446744073709551616 = dg B k := by omega
    have w3 : (dg l (i + k) : Int) % 18446744073709551616 = dg l (i + k) := by omega
    have hM := mac_lt hx hy ho hc
    have key := mul_row (l0 := l) (A := B) (x := x) hik he
    have w4 : (x : Int) * (dg B k : Int) = ((x * dg B k : Nat) : Int) := by rw [Int.natCast_mul]
    generalize x * dg B k = p at *
    have w5 : (p : Int) % 18446744073709551616 = p := by omega
    have w6 : ((p : Int) + (dg l (i + k) : Int)) % 18446744073709551616 = (p : Int) + dg l (i + k) := by omega
    have w7 : ((p : Int) + (dg l (i + k) : Int) + (c : Int)) % 18446744073709551616 = ((p + dg l (i + k) + c : Nat) : Int) := by omega
    have w8 : ((p + dg l (i + k) + c : Nat) : Int) % 4294967296 = (((p + dg l (i + k) + c) % 4294967296 : Nat) : Int) := by omega
    have w9 : ((p + dg l (i + k) + c : Nat) : Int) / 4294967296 = (((p + dg l (i + k) + c) / 4294967296 : Nat) : Int) := by omega
    repeat (first | (simp (maxSteps := 1000000) only [seval, evB, c_nat_mul_b1, h1, e7, e8, w1, w2, w3, w4, w5, w6, w7, w8, w9 ]) | (simp (disch := omega) only [dsB,  store_n H, load_own G H]))
    exact mul_inner hB hx hs hn V m (k + 1) _ _ _ (by omega) (H.put _) (Dg_set hd (Nat.mod_lt _ (by decide))) (by rw [List.length_set]; exact hl) (by omega) (fun j hj => by rw [dg_set_ne (by omega)]; exact hz j hj) key
theorem mul_outer {A B : List Nat} {za zb : Bool} {b : Nat} (hA : Dg A) (hB : Dg B) (hs : A.length + B.length < 17179869184) : ∀ (m i : Nat) (h : Heap) (l : List Nat),
    m + i = A.length → Holds h b l → Dg l → l.length = A.length + B.length → (∀ j, i + B.length ≤ j → dg l j = 0) → val l = val (A.take i) * val B →
    Post (evL G T c_nat_mul_l2 [(1, D zb B), (5, .own b 0 (A.length + B.length) 1), (18, D za A), (19, .int .i64 ((A.length : Nat) : Int)), (20, .int .i64 (i : Int))] h) fun r =>
      ∃ e h' l', r = (.exit 0, (1, D zb B) :: (5, .own b 0 (A.length + B.length) 1) :: e, h') ∧ Holds h' b l' ∧ Dg l' ∧ l'.length = A.length + B.length ∧ val l' = val A * val B
  | 0, i, h, l, hm, H, hd, hl, hz, he => by
    rw [s_loopc G T (c := c_nat_mul_l2) rfl]
    have h1 : ¬ (i : Int) < A.length := by omega
    repeat (first | (simp (maxSteps := 1000000) only [seval, evB, c_nat_mul_b2, h1]) | (simp (disch := omega) only [dsB]))
    obtain rfl : i = A.length := by omega
    rw [List.take_length] at he
    exact Post.some ⟨_, _, _, rfl, H, hd, hl, he⟩
  | m + 1, i, h, l, hm, H, hd, hl, hz, he => by
    rw [s_loopc G T (c := c_nat_mul_l2) rfl]
    have h1 : (i : Int) < A.length := by omega
    have e7 : (i : Int) + 1 = ((i + 1 : Nat) : Int) := by omega
    have e8 : (i : Int) + (B.length : Int) = ((i + B.length : Nat) : Int) := by omega
    have hx := hA.dg i
    obtain ⟨_, hr, e, h', l', c', rfl, H', hd', hl', hc', hz', hv'⟩ := mul_inner (G := G) (T := T) (zb := zb) (i := i) (x := dg A i) (n := A.length + B.length) (va := D za A) (na := (A.length : Nat)) hB hx (by omega) (by omega) (val l) B.length 0 h l 0 (by omega) H hd hl (by omega) hz (by simp [val])
    rw [cast0] at hr
    have w1 : (c' : Int) % 4294967296 = c' := by omega
    repeat (first | (simp (maxSteps := 1000000) only [seval, evB, c_nat_mul_b2, h1, e7, e8, hr, w1 ]) | (simp (disch := omega) only [dsB,  store_n H']))
    refine mul_outer hA hB hs m (i + 1) _ _ (by omega) (H'.put _) (Dg_set hd' hc') (by rw [List.length_set]; exact hl') (fun j hj => by rw [dg_set_ne (by omega)]; exact hz' j (by omega)) ?_
    have h3 := val_set (l := l') (j := i + B.length) c' (by omega)
    rw [hz' _ (Nat.le_refl _), Nat.mul_zero, Nat.add_zero] at h3
    rw [h3, hv', he, val_take_succ', Nat.add_mul, Nat.mul_assoc]
theorem nat_mul (J : Al G T g) {z y : Bool} {a b : Nat} (hs : (dl a).length + (dl b).length < 17179869184) : ∃ z', run G T 113 [D z (dl a), D y (dl b)] = some (D z' (dl (a * b))) := by
  obtain ⟨_, hr, e, h', l', rfl, H, hd, hl, hv⟩ := mul_outer (G := G) (T := T) (za := z) (zb := y) (b := Heap.nil.b.length) (Dg_dl a) (Dg_dl b) hs (dl a).length 0 (new .nil (List.replicate ((dl a).length + (dl b).length) 0)) _ (by omega) (Holds_new FreH.nil _) (Dg_rep _) (by rw [List.length_replicate]) (fun j _ => by
    by_cases hj : j < ((dl a).length + (dl b).length)
    · rw [dg_lt (by rw [List.length_replicate]; exact hj), List.getElem_replicate]
    · exact dg_ge (by rw [List.length_replicate]; omega)) (by rw [List.take_zero]; simp [val, val_rep])
  rw [cast0] at hr
  rw [val_dl, val_dl] at hv
  have hsn := snap_own H (n := (dl a).length + (dl b).length) (by omega)
  rw [← hl, List.take_length] at hsn
  obtain ⟨z', hz⟩ := nat_trim J (z := false) hd (by omega)
  rw [hl] at hsn
  refine ⟨z', ?_⟩
  have e8 : ((dl a).length : Int) + ((dl b).length : Int) = (((dl a).length + (dl b).length : Nat) : Int) := by omega
  rw [run_k G T J.A.nat_mul, ← hv]
  repeat (first | (simp (maxSteps := 1000000) only [seval, evB, c_nat_mul, e8, hr, hsn, hz]) | (simp (disch := omega) only [dsB]))
theorem q_lt {X V D T P g : Nat} (hV : D * P ≤ V) (hX : X < (T + 1) * P) (hg : T < g * D) : X / V < g := by
  apply Nat.div_lt_of_lt_mul
  calc X < (T + 1) * P := hX
    _ ≤ (g * D) * P := Nat.mul_le_mul_right _ hg
    _ = g * (D * P) := Nat.mul_assoc ..
    _ ≤ g * V := Nat.mul_le_mul_left _ hV
    _ = V * g := Nat.mul_comm ..
theorem q_ge {X V D T P g : Nat} (h0 : 0 < V) (hV : V ≤ (D + 1) * P) (hX : T * P ≤ X) (hg : g * D ≤ T) (hD : g ≤ D + 1) : g ≤ X / V + 1 := by
  rcases Nat.eq_zero_or_pos g with rfl | hp
  · exact Nat.zero_le _
  · obtain ⟨k, rfl⟩ : ∃ k, g = k + 1 := ⟨g - 1, by omega⟩
    have : k ≤ X / V := by
      rw [Nat.le_div_iff_mul_le h0]
      calc k * V ≤ k * ((D + 1) * P) := Nat.mul_le_mul_left _ hV
        _ = (k * D + k) * P := by rw [← Nat.mul_assoc, Nat.mul_add, Nat.mul_one]
        _ ≤ ((k + 1) * D) * P := Nat.mul_le_mul_right _ (by rw [Nat.add_mul]; omega)
        _ ≤ T * P := Nat.mul_le_mul_right _ hg
        _ ≤ X := hX
    omega
theorem guess_end {X V v1 v2 t u P g l : Nat} (h0 : 0 < V) (hV : (v1 * 4294967296 + v2) * P ≤ V) (hV2 : V ≤ (v1 * 4294967296 + v2 + 1) * P) (hX1 : (t * 4294967296 + u) * P ≤ X)
    (hv1 : 1 ≤ v1) (hv2 : v2 < 4294967296) (hgl : g * v1 + l = t) (ht : t < v1 * 4294967296 + 4294967296) (hq : X / V ≤ g)
    (h : (g < 4294967296 ∧ g * v2 ≤ l * 4294967296 + u) ∨ 4294967296 ≤ l) : g < 4294967296 ∧ X / V ≤ g ∧ g ≤ X / V + 1 := by
  have hg : g < 4294967296 := by
    rcases h with h | h
    · exact h.1
    · apply Classical.byContradiction; intro hc
      have : 4294967296 * v1 ≤ g * v1 := Nat.mul_le_mul_right _ (by omega)
      omega
  refine ⟨hg, hq, q_ge h0 hV2 hX1 ?_ ?_⟩
  · have e : g * (v1 * 4294967296 + v2) = g * v1 * 4294967296 + g * v2 := by rw [Nat.mul_add, Nat.mul_assoc]
    rw [e, ← hgl]
    rcases h with h | h
    · have := h.2; omega
    · have : g * v2 ≤ 4294967295 * 4294967295 := Nat.mul_le_mul (by omega) (by omega)
      omega
  · omega
theorem div_lt_le {X V b g : Nat} (h : X < b * V) (hg : b ≤ g) : X / V < g := by
  have h2 : X < V * b := by rw [Nat.mul_comm]; exact h
  exact Nat.lt_of_lt_of_le (Nat.div_lt_of_lt_mul h2) hg
theorem guess_down {X V v1 v2 t u P g l : Nat} (hV : (v1 * 4294967296 + v2) * P ≤ V) (hX2 : X < (t * 4294967296 + u + 1) * P) (hXV : X < 4294967296 * V)
    (hgl : g * v1 + l = t) (h : 4294967296 ≤ g ∨ l * 4294967296 + u < g * v2) : X / V < g := by
  rcases h with h | h
  · exact div_lt_le hXV h
  · refine q_lt hV hX2 ?_
    have e : g * (v1 * 4294967296 + v2) = g * v1 * 4294967296 + g * v2 := by rw [Nat.mul_add, Nat.mul_assoc]
    rw [e, ← hgl, Nat.add_mul, Nat.add_assoc]
    exact Nat.add_lt_add_left h _
theorem guess_first {X V v1 t P Q g l : Nat} (hV : v1 * Q ≤ V) (hX2 : X < (t + 1) * Q) (hv1 : 0 < v1) : X / V ≤ t / v1 := by
  have h1 : X / V < t / v1 + 1 := by
    refine q_lt hV hX2 ?_
    have h2 := Nat.div_add_mod t v1
    have h3 := Nat.mod_lt t hv1
    rw [Nat.add_mul, Nat.one_mul, Nat.mul_comm (t / v1)]; omega
  omega
theorem take_step {A A' g V d c c' w z i x y n b : Nat} (hA : A' + 4294967296 ^ i * x = A + 4294967296 ^ i * n) (he : A + g * V = b + 4294967296 ^ i * (c + w)) (hd : n + y + w = x + 4294967296 * z) (hc : c + g * d = y + 4294967296 * c') :
    A' + g * (V + 4294967296 ^ i * d) = b + 4294967296 ^ (i + 1) * (c' + z) := by
  have e1 : g * (V + 4294967296 ^ i * d) = g * V + 4294967296 ^ i * (g * d) := by rw [Nat.mul_add, Nat.mul_left_comm]
  rw [e1, Nat.pow_succ, Nat.mul_assoc]
  generalize 4294967296 ^ i = p at *
  generalize g * d = m at *
  generalize g * V = gv at *
  have h1 : p * n + p * y + p * w = p * x + p * (4294967296 * z) := by rw [← Nat.mul_add, ← Nat.mul_add, hd, Nat.mul_add]
  have h2 : p * c + p * m = p * y + p * (4294967296 * c') := by rw [← Nat.mul_add, hc, Nat.mul_add]
  rw [Nat.mul_add] at he
  rw [Nat.mul_add, Nat.mul_add]
  omega
theorem back_step {A A' V d w z i x n b : Nat} (hA : A' + 4294967296 ^ i * x = A + 4294967296 ^ i * n) (he : A + 4294967296 ^ i * w = b + V) (hd : n + 4294967296 * z = x + d + w) :
    A' + 4294967296 ^ (i + 1) * z = b + (V + 4294967296 ^ i * d) := by
  rw [Nat.pow_succ, Nat.mul_assoc]
  generalize 4294967296 ^ i = p at *
  have h1 : p * n + p * (4294967296 * z) = p * x + p * d + p * w := by rw [← Nat.mul_add, hd, Nat.mul_add, Nat.mul_add]
  omega
theorem un_xor32 (x : Int) : evUn .xor (.int .u32 x) = some (.int .u32 (xorI .u32 4294967295 x)) := by rw [xorI_eq]; rfl
theorem xor32 {a b : Nat} (ha : a < 4294967296) (hb : b < 4294967296) : xorI .u32 (a : Int) (b : Int) = ((a ^^^ b : Nat) : Int) := by
  have : a ^^^ b < 2 ^ 32 := Nat.xor_lt_two_pow (n := 32) ha hb
  rw [xorI_eq]
  show IntKind.u32.wrap ((BitVec.ofInt 32 a ^^^ BitVec.ofInt 32 b).toNat : Int) = _
  rw [show BitVec.ofInt 32 (a : Int) = BitVec.ofNat 32 a from rfl, show BitVec.ofInt 32 (b : Int) = BitVec.ofNat 32 b from rfl, BitVec.toNat_xor, BitVec.toNat_ofNat, BitVec.toNat_ofNat, Nat.mod_eq_of_lt (by omega), Nat.mod_eq_of_lt (by omega), wrap_u32]
  omega
theorem top_bit {n : Nat} (h : n < 4294967296) : n / 2147483648 = (n.testBit 31).toNat := by
  rw [Nat.testBit_eq_decide_div_mod_eq, show (2 : Nat) ^ 31 = 2147483648 from rfl]
  by_cases h2 : n / 2147483648 % 2 = 1
  · rw [decide_eq_true h2]; simp only [Bool.toNat_true]; omega
  · rw [decide_eq_false h2]; simp only [Bool.toNat_false]; omega
theorem borrow_bit {x y d w z : Nat} (hx : x < 4294967296) (hy : y < 4294967296) (hd : d < 4294967296) (hw : w ≤ 1) (hz : z ≤ 1) (h : d + y + w = x + 4294967296 * z) :
    (((4294967295 ^^^ x) &&& y) ||| ((4294967295 ^^^ (x ^^^ y)) &&& d)) / 2147483648 = z := by
  have l1 : ((4294967295 ^^^ x) &&& y) ||| ((4294967295 ^^^ (x ^^^ y)) &&& d) < 4294967296 :=
    Nat.or_lt_two_pow (n := 32) (Nat.and_lt_two_pow _ hy) (Nat.and_lt_two_pow _ hd)
  rw [top_bit l1]
  have t1 : Nat.testBit 4294967295 31 = true := by decide
  simp only [Nat.testBit_or, Nat.testBit_and, Nat.testBit_xor, t1]
  have e : ∀ n, n < 4294967296 → n.testBit 31 = decide (2147483648 ≤ n) := fun n hn => by
    rw [Nat.testBit_eq_decide_div_mod_eq, show (2 : Nat) ^ 31 = 2147483648 from rfl]
    by_cases h2 : 2147483648 ≤ n
    · rw [decide_eq_true h2]; simp only [decide_eq_true_eq]; omega
    · rw [decide_eq_false h2]; simp only [decide_eq_false_iff_not]; omega
  rw [e x hx, e y hy, e d hd]
  by_cases a : 2147483648 ≤ x <;> by_cases b : 2147483648 ≤ y <;> by_cases c : 2147483648 ≤ d <;> simp [a, b, c] <;> omega
theorem bits_Sub32 (J : Al G T g) {x y w d z : Nat} (hx : x < 4294967296) (hy : y < 4294967296) (hw : w ≤ 1) (hd : d < 4294967296) (hz : z ≤ 1) (h : d + y + w = x + 4294967296 * z) :
    run G T 121 [.int .u32 (x : Int), .int .u32 (y : Int), .int .u32 (w : Int)] = some (.tup [.int .u32 (d : Int), .int .u32 (z : Int)]) := by
  rw [run_k G T J.A.bits_Sub32]
  have w1 : ((x : Int) - y) % 4294967296 = ((x : Int) - y) % 4294967296 := rfl
  have w2 : (((x : Int) - y) % 4294967296 - w) % 4294967296 = (d : Int) := by omega
  have n1 : (4294967295 ^^^ x) < 4294967296 := Nat.xor_lt_two_pow (n := 32) (by decide) hx
  have n2 : (x ^^^ y) < 4294967296 := Nat.xor_lt_two_pow (n := 32) hx hy
  have n3 : (4294967295 ^^^ (x ^^^ y)) < 4294967296 := Nat.xor_lt_two_pow (n := 32) (by decide) n2
  have x1 := xor32 (a := 4294967295) (b := x) (by decide) hx
  have x2 := xor32 hx hy
  have x3 := xor32 (a := 4294967295) (b := x ^^^ y) (by decide) n2
  rw [show ((4294967295 : Nat) : Int) = 4294967295 from rfl] at x1 x3
  have a1 := and32 n1 hy
  have a2 := and32 n3 hd
  have l1 := Nat.and_lt_two_pow (n := 32) (4294967295 ^^^ x) hy
  have l2 := Nat.and_lt_two_pow (n := 32) (4294967295 ^^^ (x ^^^ y)) hd
  have o1 := or32 l1 l2
  have b1 := borrow_bit hx hy hd hw hz h
  have b2 : (((((4294967295 ^^^ x) &&& y) ||| ((4294967295 ^^^ (x ^^^ y)) &&& d)) : Nat) : Int) / 2147483648 = (z : Int) := by
    rw [← b1]; rfl
  repeat (first | (simp (maxSteps := 1000000) only [seval, evB, c_bits_Sub32, un_xor32, w2, x1, x2, x3, a1, a2, o1, b2]) | (simp (disch := omega) only [dsB]))
theorem bits_Add32 (J : Al G T g) {x y w d z : Nat} (hx : x < 4294967296) (hy : y < 4294967296) (hw : w ≤ 1) (hd : d < 4294967296) (hz : z ≤ 1) (h : d + 4294967296 * z = x + y + w) :
    run G T 112 [.int .u32 (x : Int), .int .u32 (y : Int), .int .u32 (w : Int)] = some (.tup [.int .u32 (d : Int), .int .u32 (z : Int)]) := by
  rw [run_k G T J.A.bits_Add32]
  have w1 : (x : Int) % 18446744073709551616 = x := by omega
  have w2 : (y : Int) % 18446744073709551616 = y := by omega
  have w3 : (w : Int) % 18446744073709551616 = w := by omega
  have w4 : ((x : Int) + y) % 18446744073709551616 = (x : Int) + y := by omega
  have w5 : ((x : Int) + y + w) % 18446744073709551616 = (x : Int) + y + w := by omega
  have w6 : ((x : Int) + y + w) % 4294967296 = d := by omega
  have w7 : ((x : Int) + y + w) / 4294967296 = z := by omega
  have w8 : (z : Int) % 4294967296 = z := by omega
  repeat (first | (simp (maxSteps := 1000000) only [seval, evB, c_bits_Add32, w1, w2, w3, w4, w5, w6, w7, w8]) | (simp (disch := omega) only [dsB]))
theorem bits_Lz (J : Al G T g) {x : Nat} (hx : x < 4294967296) : run G T 119 [.int .u32 (x : Int)] = some (.int .i64 ((32 - blen x : Nat) : Int)) := by
  rw [run_k G T J.A.bits_LeadingZeros32]
  have h1 := bits_Len32 (G := G) J hx
  have hb : blen x ≤ 32 := blen_le.2 hx
  have w1 : (32 : Int) - (blen x : Nat) = ((32 - blen x : Nat) : Int) := by omega
  repeat (first | (simp (maxSteps := 1000000) only [seval, evB, c_bits_LeadingZeros32, h1, w1]) | (simp (disch := omega) only [dsB]))
theorem iaddr_off {b off n : Nat} {k : IntKind} {j : Int} (hj : 0 ≤ j ∧ j < n) : iaddrV 1 (.own b off n 1) (.int k j) = some (.ptr b (off + j.toNat)) := by
  rw [iaddrV, if_pos ⟨hj.1, hj.2, rfl⟩, Nat.mul_one]
theorem dg_mid {A W C : List Nat} {i : Nat} (hi : i < W.length) : dg (A ++ W ++ C) (A.length + i) = dg W i := by
  rw [dg_lt (by simp only [List.length_append]; omega), dg_lt hi, List.getElem_append_left (by simp only [List.length_append]; omega), List.getElem_append_right (by omega)]
  congr 1; omega
theorem dg_left {V C : List Nat} {i : Nat} (hi : i < V.length) : dg (V ++ C) i = dg V i := by
  rw [dg_lt (by simp only [List.length_append]; omega), dg_lt hi, List.getElem_append_left hi]
theorem set_mid {A W C : List Nat} {i x : Nat} (hi : i < W.length) : (A ++ W ++ C).set (A.length + i) x = A ++ W.set i x ++ C := by
  rw [List.set_append_left _ _ (by simp only [List.length_append]; omega), List.set_append_right _ _ (by omega), Nat.add_sub_cancel_left]
theorem load_w {h : Heap} {b : Nat} {A W C : List Nat} (H : Holds h b (A ++ W ++ C)) {i : Nat} (hi : i < W.length) : rdAt G h.mem 1 (.ptr b (A.length + i)) = some [.int .u32 (dg W i)] := by
  rw [load_own (G := G) H (by simp only [List.length_append]; omega), dg_mid hi]
theorem load_v {h : Heap} {b : Nat} {V C : List Nat} (H : Holds h b (V ++ C)) {i : Nat} (hi : i < V.length) : rdAt G h.mem 1 (.ptr b i) = some [.int .u32 (dg V i)] := by
  rw [load_own (G := G) H (by simp only [List.length_append]; omega), dg_left hi]
theorem store_w {h : Heap} {b : Nat} {A W C : List Nat} (H : Holds h b (A ++ W ++ C)) {i x : Nat} (hi : i < W.length) :
    storeV h 1 (.ptr b (A.length + i)) (.int .u32 (x : Int)) = some (.tup [], put h b (A ++ W.set i x ++ C)) := by
  rw [store_n H (by simp only [List.length_append]; omega), set_mid hi]
theorem step_guess {h : Heap} {bu bv n : Nat} {A W C V V2 : List Nat} {X Y P v1 v2 t u : Nat} (HU : Holds h bu (A ++ W ++ C)) (HV : Holds h bv (V ++ V2)) (hW : W.length = n + 1) (hV : V.length = n) (hn : 2 ≤ n) (hs : n < 549755813888)
    (dV : Dg V) (dW : Dg W) (e1 : dg V (n - 1) = v1) (e2 : dg V (n - 2) = v2) (e3 : dg W (n - 2) = u) (h0 : 0 < Y) (hV1 : (v1 * 4294967296 + v2) * P ≤ Y) (hV2 : Y ≤ (v1 * 4294967296 + v2 + 1) * P) (hX1 : (t * 4294967296 + u) * P ≤ X)
    (hX2 : X < (t * 4294967296 + u + 1) * P) (hXV : X < 4294967296 * Y) (hv1 : 1 ≤ v1) (ht : t < v1 * 4294967296 + 4294967296) (htb : t < 18446744073709551616) : ∀ (g l : Nat),
    l < 4294967296 → g * v1 + l = t → X / Y ≤ g →
    Post (evL G T c_nat_step_l3 [(0, .own bu A.length (n + 1) 1), (1, .own bv 0 n 1), (5, .int .i64 (n : Int)), (7, .int .u64 (g : Int)), (8, .int .u64 (l : Int))] h) fun r =>
      ∃ e g', r = (.exit 0, (0, .own bu A.length (n + 1) 1) :: (1, .own bv 0 n 1) :: (5, .int .i64 (n : Int)) :: (7, .int .u64 ((g' : Nat) : Int)) :: e, h) ∧ g' < 4294967296 ∧ X / Y ≤ g' ∧ g' ≤ X / Y + 1 := by
  intro g
  induction g using Nat.strongRecOn with
  | ind g ih =>
    intro l hl hgl hq
    have hv2 : v2 < 4294967296 := e2 ▸ dV.dg _
    have hu : u < 4294967296 := e3 ▸ dW.dg _
    have hv1' : v1 < 4294967296 := e1 ▸ dV.dg _
    have hend := fun g l => guess_end (X := X) (V := Y) (t := t) (u := u) (P := P) (g := g) (l := l) h0 hV1 hV2 hX1 hv1 hv2
    have hdn := guess_down (g := g) (l := l) hV1 hX2 hXV hgl
    have hgt : g ≤ t := Nat.le_trans (Nat.le_mul_of_pos_right g hv1) (by omega)
    have hstep : 1 ≤ g → (g - 1) * v1 + (l + v1) = t := fun hg => by
      obtain ⟨k, rfl⟩ : ∃ k, g = k + 1 := ⟨g - 1, by omega⟩
      rw [Nat.add_mul] at hgl; simp only [Nat.add_sub_cancel]; omega
    clear hX1 hX2 hXV hV1 hV2
    generalize X / Y = q at *
    rw [s_loopc G T (c := c_nat_step_l3) rfl]
    have i1 : (n : Int) - 1 = ((n - 1 : Nat) : Int) := by omega
    have i2 : (n : Int) - 2 = ((n - 2 : Nat) : Int) := by omega
    have l1 := load_v (G := G) HV (i := n - 1) (by omega)
    have l2 := load_v (G := G) HV (i := n - 2) (by omega)
    have l3 := load_w (G := G) HU (i := n - 2) (by omega)
    rw [e1] at l1
    rw [e2] at l2
    rw [e3] at l3
    have wv1 : (v1 : Int) % 18446744073709551616 = v1 := by omega
    have wv2 : (v2 : Int) % 18446744073709551616 = v2 := by omega
    have wu : (u : Int) % 18446744073709551616 = u := by omega
    have wl : ((l : Int) + v1) % 18446744073709551616 = ((l + v1 : Nat) : Int) := by omega
    have wo := shl32_or (r := l) (x := u) hl hu
    have wg : 1 ≤ g → ((g : Int) - 1) % 18446744073709551616 = ((g - 1 : Nat) : Int) := fun hg => by omega
    have fin : (hg : q < g) → Post (if (4294967296 : Int) ≤ ((l + v1 : Nat) : Int) then some ((.exit 0, [(0, .own bu A.length (n + 1) 1), (1, .own bv 0 n 1), (5, .int .i64 (n : Int)), (7, .int .u64 ((g - 1 : Nat) : Int)), (8, .int .u64 ((l + v1 : Nat) : Int)), (80, .bool true)], h) : Ex × Env × Heap)
        else evL G T c_nat_step_l3 [(0, .own bu A.length (n + 1) 1), (1, .own bv 0 n 1), (5, .int .i64 (n : Int)), (7, .int .u64 ((g - 1 : Nat) : Int)), (8, .int .u64 ((l + v1 : Nat) : Int)), (80, .bool false)] h) fun r =>
      ∃ e g', r = (.exit 0, (0, .own bu A.length (n + 1) 1) :: (1, .own bv 0 n 1) :: (5, .int .i64 (n : Int)) :: (7, .int .u64 ((g' : Nat) : Int)) :: e, h) ∧ g' < 4294967296 ∧ q ≤ g' ∧ g' ≤ q + 1 := by
      intro hg
      by_cases c2 : 4294967296 ≤ l + v1
      · rw [if_pos (by omega)]
        exact Post.some ⟨_, _, rfl, hend _ _ (hstep (by omega)) ht (by omega) (Or.inr c2)⟩
      · rw [if_neg (by omega), show evL G T c_nat_step_l3 [(0, .own bu A.length (n + 1) 1), (1, .own bv 0 n 1), (5, .int .i64 (n : Int)), (7, .int .u64 ((g - 1 : Nat) : Int)), (8, .int .u64 ((l + v1 : Nat) : Int)), (80, .bool false)] h = evL G T c_nat_step_l3 [(0, .own bu A.length (n + 1) 1), (1, .own bv 0 n 1), (5, .int .i64 (n : Int)), (7, .int .u64 ((g - 1 : Nat) : Int)), (8, .int .u64 ((l + v1 : Nat) : Int))] h by
          rw [s_loopc G T (c := c_nat_step_l3) rfl, s_loopc G T (c := c_nat_step_l3) rfl]; rfl]
        exact ih (g - 1) (by omega) (l + v1) (by omega) (hstep (by omega)) (by omega)
    by_cases c1 : 4294967296 ≤ g
    · have hg := hdn (Or.inl c1)
      have c1' : (4294967296 : Int) ≤ (g : Int) := by omega
      have wg := wg (by omega)
      have fin := fin hg
      clear hend hdn ih hstep
      by_cases c2 : (4294967296 : Int) ≤ ((l + v1 : Nat) : Int)
      · rw [if_pos c2] at fin
        repeat (first | (simp (maxSteps := 1000000) only [seval, evB, c_nat_step_b3, c1', c2, wg, wl, wv1, i1, l1 ]) | (simp (disch := omega) only [dsB,  iaddr_off]))
        exact fin
      · rw [if_neg c2] at fin
        repeat (first | (simp (maxSteps := 1000000) only [seval, evB, c_nat_step_b3, c1', c2, wg, wl, wv1, i1, l1 ]) | (simp (disch := omega) only [dsB,  iaddr_off]))
        exact fin
    · have c1' : ¬ (4294967296 : Int) ≤ (g : Int) := by omega
      have hp : g * v2 ≤ 4294967295 * 4294967295 := Nat.mul_le_mul (by omega) (by omega)
      have wp : (g : Int) * (v2 : Int) = ((g * v2 : Nat) : Int) := by rw [Int.natCast_mul]
      have wp2 : ((g * v2 : Nat) : Int) % 18446744073709551616 = ((g * v2 : Nat) : Int) := by omega
      by_cases c3 : l * 4294967296 + u < g * v2
      · have hg := hdn (Or.inr c3)
        have wg := wg (by omega)
        have fin := fin hg
        have c3' : ((l * 4294967296 + u : Nat) : Int) < ((g * v2 : Nat) : Int) := by omega
        clear hend hdn ih hstep
        by_cases c2 : (4294967296 : Int) ≤ ((l + v1 : Nat) : Int)
        · rw [if_pos c2] at fin
          repeat (first | (simp (maxSteps := 1000000) only [seval, evB, c_nat_step_b3, c1', c2, c3', wp, wp2, wo, wu, wv2, wg, wl, wv1, i1, i2, l1, l2, l3 ]) | (simp (disch := omega) only [dsB,  iaddr_off]))
          exact fin
        · rw [if_neg c2] at fin
          repeat (first | (simp (maxSteps := 1000000) only [seval, evB, c_nat_step_b3, c1', c2, c3', wp, wp2, wo, wu, wv2, wg, wl, wv1, i1, i2, l1, l2, l3 ]) | (simp (disch := omega) only [dsB,  iaddr_off]))
          exact fin
      · have c3' : ¬ ((l * 4294967296 + u : Nat) : Int) < ((g * v2 : Nat) : Int) := by omega
        have fin := hend g l hgl ht hq (Or.inl ⟨by omega, by omega⟩)
        clear hend hdn ih hstep
        repeat (first | (simp (maxSteps := 1000000) only [seval, evB, c_nat_step_b3, c1', c3', wp, wp2, wo, wu, wv2, i1, i2, l2, l3 ]) | (simp (disch := omega) only [dsB,  iaddr_off]))
        exact Post.some ⟨_, _, rfl, fin⟩
theorem sub_dig {x y w : Nat} (hx : x < 4294967296) (hy : y < 4294967296) (hw : w ≤ 1) : ∃ d z, d < 4294967296 ∧ z ≤ 1 ∧ d + y + w = x + 4294967296 * z := by
  by_cases h : y + w ≤ x
  · exact ⟨x - y - w, 0, by omega, by omega, by omega⟩
  · exact ⟨x + 4294967296 - y - w, 1, by omega, by omega, by omega⟩
theorem add_dig {x y w : Nat} (hx : x < 4294967296) (hy : y < 4294967296) (hw : w ≤ 1) : ∃ d z, d < 4294967296 ∧ z ≤ 1 ∧ d + 4294967296 * z = x + y + w :=
  ⟨(x + y + w) % 4294967296, (x + y + w) / 4294967296, by omega, by omega, by omega⟩
theorem step_take (J : Al G T g) {h : Heap} {bu bv n q : Nat} {A C V V2 W0 : List Nat} (HU : Holds h bu (A ++ W0 ++ C)) (HV : Holds h bv (V ++ V2)) (hne : bv ≠ bu) (hV : V.length = n) (hs : n < 549755813888)
    (dV : Dg V) (hq : q < 4294967296) : ∀ (m i : Nat) (W : List Nat) (c w : Nat), m + i = n → W.length = n + 1 → Dg W → c < 4294967296 → w ≤ 1 → val W + q * val (V.take i) = val W0 + 4294967296 ^ i * (c + w) →
    Post (evL G T c_nat_step_l2 [(0, .own bu A.length (n + 1) 1), (1, .own bv 0 n 1), (5, .int .i64 (n : Int)), (7, .int .u64 (q : Int)), (9, .int .u32 (w : Int)), (10, .int .u64 (c : Int)), (81, .own bv 0 n 1), (82, .int .i64 (n : Int)), (83, .int .i64 (i : Int))] (put h bu (A ++ W ++ C))) fun r =>
      ∃ e W' c' w', r = (.exit 2, (0, .own bu A.length (n + 1) 1) :: (1, .own bv 0 n 1) :: (5, .int .i64 (n : Int)) :: (7, .int .u64 (q : Int)) :: (9, .int .u32 ((w' : Nat) : Int)) :: (10, .int .u64 ((c' : Nat) : Int)) :: e, put h bu (A ++ W' ++ C)) ∧
        W'.length = n + 1 ∧ Dg W' ∧ c' < 4294967296 ∧ w' ≤ 1 ∧ val W' + q * val V = val W0 + 4294967296 ^ n * (c' + w')
  | 0, i, W, c, w, hm, hW, dW, hc, hw, he => by
    rw [s_loopc G T (c := c_nat_step_l2) rfl]
    have h1 : ¬ (i : Int) < (n : Int) := by omega
    repeat (first | (simp (maxSteps := 1000000) only [seval, evB, c_nat_step_b2, h1]) | (simp (disch := omega) only [dsB]))
    obtain rfl : i = n := by omega
    rw [List.take_of_length_le (by omega)] at he
    exact Post.some ⟨_, _, _, _, rfl, hW, dW, hc, hw, he⟩
  | m + 1, i, W, c, w, hm, hW, dW, hc, hw, he => by
    rw [s_loopc G T (c := c_nat_step_l2) rfl]
    have h1 : (i : Int) < (n : Int) := by omega
    have e7 : (i : Int) + 1 = ((i + 1 : Nat) : Int) := by omega
    have hd := dV.dg i
    have hx := dW.dg i
    have HU' := HU.put (A ++ W ++ C)
    have HV' := HV.other (l := A ++ W ++ C) hne
    have l1 := load_v (G := G) HV' (i := i) (by omega)
    have l2 := load_w (G := G) HU' (i := i) (by omega)
    have w1 : (dg V i : Int) % 18446744073709551616 = dg V i := by omega
    have hp : q * dg V i ≤ 4294967295 * 4294967295 := Nat.mul_le_mul (by omega) (by omega)
    have w2 : (q : Int) * (dg V i : Int) = ((q * dg V i : Nat) : Int) := by rw [Int.natCast_mul]
    have hv := val_take_succ' (l := V) (i := i)
    generalize hpp : q * dg V i = p at *
    have w3 : (p : Int) % 18446744073709551616 = p := by omega
    have w4 : ((c : Int) + (p : Int)) % 18446744073709551616 = ((c + p : Nat) : Int) := by omega
    have w5 : ((c + p : Nat) : Int) % 4294967296 = (((c + p) % 4294967296 : Nat) : Int) := by omega
    have w6 : ((c + p : Nat) : Int) / 4294967296 = (((c + p) / 4294967296 : Nat) : Int) := by omega
    have hy : (c + p) % 4294967296 < 4294967296 := Nat.mod_lt _ (by decide)
    have hc2 : (c + p) / 4294967296 < 4294967296 := by omega
    have hcp : c + p = (c + p) % 4294967296 + 4294967296 * ((c + p) / 4294967296) := by omega
    generalize (c + p) % 4294967296 = y at *
    generalize (c + p) / 4294967296 = c2 at *
    obtain ⟨d, z, hd1, hz, hdz⟩ := sub_dig hx hy hw
    have call := bits_Sub32 (G := G) J hx hy hw hd1 hz hdz
    have st := store_w HU' (i := i) (x := d) (by omega)
    rw [put_put] at st
    repeat (first | (simp (maxSteps := 1000000) only [seval, evB, c_nat_step_b2, h1, e7, w1, w2, w3, w4, w5, w6, l1, l2, call, st ]) | (simp (disch := omega) only [dsB,  iaddr_off]))
    refine step_take J HU HV hne hV hs dV hq m (i + 1) _ _ _ (by omega) (by rw [List.length_set]; exact hW) (Dg_set dW hd1) hc2 hz ?_
    rw [hv]
    exact take_step (val_set d (by omega)) he hdz (by rw [hpp]; exact hcp)
theorem step_back (J : Al G T g) {h : Heap} {bu bv n q : Nat} {A C V V2 W0 : List Nat} (HU : Holds h bu (A ++ W0 ++ C)) (HV : Holds h bv (V ++ V2)) (hne : bv ≠ bu) (hV : V.length = n) (hs : n < 549755813888)
    (dV : Dg V) : ∀ (m i : Nat) (W : List Nat) (w : Nat), m + i = n → W.length = n + 1 → Dg W → w ≤ 1 → val W + 4294967296 ^ i * w = val W0 + val (V.take i) → dg W n = dg W0 n →
    Post (evL G T c_nat_step_l1 [(0, .own bu A.length (n + 1) 1), (5, .int .i64 (n : Int)), (7, .int .u64 (q : Int)), (13, .int .u32 (w : Int)), (129, .own bv 0 n 1), (130, .int .i64 (n : Int)), (131, .int .i64 (i : Int))] (put h bu (A ++ W ++ C))) fun r =>
      ∃ e W' w', r = (.exit 4, (0, .own bu A.length (n + 1) 1) :: (5, .int .i64 (n : Int)) :: (7, .int .u64 (q : Int)) :: (13, .int .u32 ((w' : Nat) : Int)) :: e, put h bu (A ++ W' ++ C)) ∧
        W'.length = n + 1 ∧ Dg W' ∧ w' ≤ 1 ∧ val W' + 4294967296 ^ n * w' = val W0 + val V ∧ dg W' n = dg W0 n
  | 0, i, W, w, hm, hW, dW, hw, he, hn => by
    rw [s_loopc G T (c := c_nat_step_l1) rfl]
    have h1 : ¬ (i : Int) < (n : Int) := by omega
    repeat (first | (simp (maxSteps := 1000000) only [seval, evB, c_nat_step_b1, h1]) | (simp (disch := omega) only [dsB]))
    obtain rfl : i = n := by omega
    rw [List.take_of_length_le (by omega)] at he
    exact Post.some ⟨_, _, _, rfl, hW, dW, hw, he, hn⟩
  | m + 1, i, W, w, hm, hW, dW, hw, he, hn => by
    rw [s_loopc G T (c := c_nat_step_l1) rfl]
    have h1 : (i : Int) < (n : Int) := by omega
    have e7 : (i : Int) + 1 = ((i + 1 : Nat) : Int) := by omega
    have hd := dV.dg i
    have hx := dW.dg i
    have HU' := HU.put (A ++ W ++ C)
    have HV' := HV.other (l := A ++ W ++ C) hne
    have l1 := load_v (G := G) HV' (i := i) (by omega)
    have l2 := load_w (G := G) HU' (i := i) (by omega)
    obtain ⟨d, z, hd1, hz, hdz⟩ := add_dig hx hd hw
    have call := bits_Add32 (G := G) J hx hd hw hd1 hz hdz
    have st := store_w HU' (i := i) (x := d) (by omega)
    rw [put_put] at st
    repeat (first | (simp (maxSteps := 1000000) only [seval, evB, c_nat_step_b1, h1, e7, l1, l2, call, st ]) | (simp (disch := omega) only [dsB,  iaddr_off]))
    refine step_back J HU HV hne hV hs dV m (i + 1) _ _ (by omega) (by rw [List.length_set]; exact hW) (Dg_set dW hd1) hz ?_ (by rw [dg_set_ne (by omega)]; exact hn)
    rw [val_take_succ']
    exact back_step (val_set d (by omega)) he hdz
theorem step_fin0 {X Y g w : Nat} (h0 : 0 < Y) (he : w + g * Y = X) (hq : X / Y ≤ g) : g = X / Y ∧ w = X % Y := by
  have h1 : g ≤ X / Y := by rw [Nat.le_div_iff_mul_le h0]; omega
  obtain rfl : g = X / Y := by omega
  have := Nat.div_add_mod X Y
  rw [Nat.mul_comm] at this
  exact ⟨rfl, by omega⟩
theorem step_fin1 {X Y g w w4 k B : Nat} (h0 : 0 < Y) (hB : Y ≤ B) (he : w + g * Y = X + B) (hw : w < B) (hq : g ≤ X / Y + 1) (h4 : w4 + B * k = w + Y) (hw4 : w4 < B) : g = X / Y + 1 ∧ w4 = X % Y := by
  have h1 : X / Y < g := Nat.div_lt_of_lt_mul (by rw [Nat.mul_comm]; omega)
  obtain rfl : g = X / Y + 1 := by omega
  have h2 := Nat.div_add_mod X Y
  have h3 := Nat.mod_lt X h0
  rw [Nat.add_mul, Nat.one_mul, Nat.mul_comm] at he
  refine ⟨rfl, ?_⟩
  rcases k with _ | _ | k
  · rw [Nat.mul_zero] at h4; omega
  · omega
  · have : B * (k + 1 + 1) = B * k + B + B := by rw [Nat.mul_add, Nat.mul_add, Nat.mul_one]
    omega
theorem top_two {V : List Nat} {n : Nat} (hV : V.length = n + 2) : val V = val (V.take n) + 4294967296 ^ n * (dg V (n + 1) * 4294967296 + dg V n) := by
  have e1 := val_take_succ' (l := V) (i := n)
  have e2 := val_take_succ' (l := V) (i := n + 1)
  rw [List.take_of_length_le (by omega)] at e2
  rw [e2, e1, Nat.pow_succ, Nat.mul_add, Nat.mul_assoc, Nat.mul_comm 4294967296 (dg V (n + 1))]; omega
theorem top_three {W : List Nat} {n : Nat} (hW : W.length = n + 3) : val W = val (W.take n) + 4294967296 ^ n * ((dg W (n + 2) * 4294967296 + dg W (n + 1)) * 4294967296 + dg W n) := by
  have e1 := val_take_succ' (l := W) (i := n)
  have e2 := val_take_succ' (l := W) (i := n + 1)
  have e3 := val_take_succ' (l := W) (i := n + 2)
  rw [List.take_of_length_le (by omega)] at e3
  rw [e3, e2, e1, Nat.pow_succ (m := n + 1), Nat.pow_succ (m := n)]
  generalize 4294967296 ^ n = p
  generalize dg W n = a
  generalize dg W (n + 1) = b
  generalize dg W (n + 2) = c
  have h1 : p * 4294967296 * b = 4294967296 * (p * b) := by rw [Nat.mul_comm p, Nat.mul_assoc]
  have h2 : p * 4294967296 * 4294967296 * c = 4294967296 * 4294967296 * (p * c) := by rw [Nat.mul_assoc p, Nat.mul_comm p, Nat.mul_assoc]
  have h3 : p * ((c * 4294967296 + b) * 4294967296 + a) = 4294967296 * 4294967296 * (p * c) + 4294967296 * (p * b) + p * a := by
    rw [Nat.mul_add, ← Nat.mul_assoc, Nat.mul_add, ← Nat.mul_assoc]; omega
  rw [h1, h2, h3]; omega
theorem lt_aux {b t v u2 v2 : Nat} (h : t * b + u2 < b * (v + v2 + 1)) (h2 : v2 < b) : t < v + b := by
  have h3 : b * t < b * (v + v2 + 1) := by rw [Nat.mul_comm]; exact Nat.lt_of_le_of_lt (Nat.le_add_right _ _) h
  have := Nat.lt_of_mul_lt_mul_left h3
  omega
structure StepPre (W V : List Nat) (n : Nat) : Prop where
  hn : 2 ≤ n
  hs : n < 17179869184
  hW : W.length = n + 1
  hV : V.length = n
  dW : Dg W
  dV : Dg V
  top : 2147483648 ≤ dg V (n - 1)
  lt : val W < 4294967296 * val V
theorem step_facts {W V : List Nat} {n : Nat} (p : StepPre W V n) : ∃ P, 0 < P ∧ (dg V (n - 1) * 4294967296 + dg V (n - 2)) * P ≤ val V ∧ val V ≤ (dg V (n - 1) * 4294967296 + dg V (n - 2) + 1) * P ∧
    ((dg W n * 4294967296 + dg W (n - 1)) * 4294967296 + dg W (n - 2)) * P ≤ val W ∧ val W < ((dg W n * 4294967296 + dg W (n - 1)) * 4294967296 + dg W (n - 2) + 1) * P ∧
    dg W n * 4294967296 + dg W (n - 1) < dg V (n - 1) * 4294967296 + 4294967296 ∧ val W / val V ≤ (dg W n * 4294967296 + dg W (n - 1)) / dg V (n - 1) ∧ 0 < val V := by
  obtain ⟨hn, hs, hW, hV, dW, dV, top, lt⟩ := p
  obtain ⟨k, rfl⟩ : ∃ k, n = k + 2 := ⟨n - 2, by omega⟩
  have e1 := top_two hV
  have e2 := top_three hW
  have t1 := val_lt (dV.take k)
  have t2 := val_lt (dW.take k)
  rw [List.length_take, Nat.min_eq_left (by omega)] at t1 t2
  simp only [Nat.add_sub_cancel, show k + 2 - 1 = k + 1 from rfl] at *
  have b1 := dV.dg k
  have b2 := dW.dg k
  have b3 := dW.dg (k + 1)
  generalize 4294967296 ^ k = P at *
  generalize val (V.take k) = lo at *
  generalize val (W.take k) = lo2 at *
  generalize dg V (k + 1) = v1 at *
  generalize dg V k = v2 at *
  generalize dg W (k + 2) = u0 at *
  generalize dg W (k + 1) = u1 at *
  generalize dg W k = u2 at *
  rw [Nat.mul_comm] at e1 e2
  have c1 : (v1 * 4294967296 + v2) * P ≤ val V := by rw [e1]; exact Nat.le_add_left _ _
  have c2 : val V < (v1 * 4294967296 + v2 + 1) * P := by rw [e1, Nat.add_mul _ 1, Nat.one_mul]; omega
  have c3 : ((u0 * 4294967296 + u1) * 4294967296 + u2) * P ≤ val W := by rw [e2]; exact Nat.le_add_left _ _
  have c4 : val W < ((u0 * 4294967296 + u1) * 4294967296 + u2 + 1) * P := by rw [e2, Nat.add_mul _ 1, Nat.one_mul]; omega
  have hP : 0 < P := by omega
  have hY : 0 < val V := Nat.lt_of_lt_of_le (Nat.mul_pos (by omega) hP) c1
  refine ⟨P, hP, c1, Nat.le_of_lt c2, c3, c4, ?_, ?_, hY⟩
  · have h1 : ((u0 * 4294967296 + u1) * 4294967296 + u2) * P < (4294967296 * (v1 * 4294967296 + v2 + 1)) * P := by
      calc _ ≤ val W := c3
        _ < 4294967296 * val V := lt
        _ ≤ 4294967296 * ((v1 * 4294967296 + v2 + 1) * P) := Nat.mul_le_mul_left _ (Nat.le_of_lt c2)
        _ = _ := by rw [Nat.mul_assoc]
    exact lt_aux (Nat.lt_of_mul_lt_mul_right h1) b1
  · refine guess_first (P := P) (g := 0) (l := 0) (Q := 4294967296 * P) ?_ ?_ (by omega)
    · refine Nat.le_trans ?_ c1
      rw [← Nat.mul_assoc]; exact Nat.mul_le_mul_right _ (by omega)
    · refine Nat.lt_of_lt_of_le c4 ?_
      rw [← Nat.mul_assoc]; exact Nat.mul_le_mul_right _ (by omega)
theorem put_self {h : Heap} {b : Nat} {l : List Nat} (H : Holds h b l) : put h b l = h := by
  have := H.at_
  cases h with
  | mk bs fs =>
    simp only [put] at *
    congr 1
    apply List.ext_getElem?
    intro i
    by_cases hi : b = i
    · subst hi
      rw [List.getElem?_set_self (by have := (List.getElem?_eq_some_iff.1 this).1; exact this), this]
    · rw [List.getElem?_set_ne hi]
theorem step_facts2 {W V : List Nat} {n : Nat} (p : StepPre W V n) : ∃ P t, t = dg W n * 4294967296 + dg W (n - 1) ∧ 0 < P ∧ (dg V (n - 1) * 4294967296 + dg V (n - 2)) * P ≤ val V ∧ val V ≤ (dg V (n - 1) * 4294967296 + dg V (n - 2) + 1) * P ∧
    (t * 4294967296 + dg W (n - 2)) * P ≤ val W ∧ val W < (t * 4294967296 + dg W (n - 2) + 1) * P ∧
    t < dg V (n - 1) * 4294967296 + 4294967296 ∧ val W / val V ≤ t / dg V (n - 1) ∧ 0 < val V := by
  obtain ⟨P, h⟩ := step_facts p
  exact ⟨P, _, rfl, h⟩
theorem nat_step (J : Al G T g) {h : Heap} {bu bv n : Nat} {A C V V2 W : List Nat} (HU : Holds h bu (A ++ W ++ C)) (HV : Holds h bv (V ++ V2)) (hne : bv ≠ bu) (p : StepPre W V n) :
    ∃ W', kJ G c_nat_step.res (evL G T c_nat_step.body (numE 0 [.own bu A.length (n + 1) 1, .own bv 0 n 1]) h) = some (.int .u32 ((val W / val V : Nat) : Int), put h bu (A ++ W' ++ C)) ∧ W'.length = n + 1 ∧ Dg W' ∧ val W' = val W % val V := by
  obtain ⟨P, t, hte, hP, f1, f2, f3, f4, f5, f6, f7⟩ := step_facts2 p
  obtain ⟨hn, hs, hW, hV, dW, dV, top, lt⟩ := p
  have x0 := dW.dg n
  have x1 := dW.dg (n - 1)
  have y1 := dV.dg (n - 1)
  have ht : t < 18446744073709551616 := by omega
  have hmod := Nat.mod_lt t (y := dg V (n - 1)) (by omega)
  have hdm := Nat.div_add_mod t (dg V (n - 1))
  rw [Nat.mul_comm] at hdm
  obtain ⟨_, hr, e, q', rfl, hq1, hq2, hq3⟩ := step_guess (G := G) (T := T) (t := t) HU HV hW hV hn (by omega) dV dW rfl rfl rfl f7 f1 f2 f3 f4 lt (by omega) f5 ht _ _ (by omega) hdm f6
  obtain ⟨_, hr2, e2, W1, c, w, rfl, hW1, dW1, hc, hw, hv1⟩ := step_take (G := G) J HU HV hne hV (by omega) dV hq1 n 0 W 0 0 (by omega) hW dW (by decide) (by decide) (by simp [val])
  rw [put_self HU, cast0] at hr2
  have HU1 := HU.put (A ++ W1 ++ C)
  have l0 := load_w (G := G) HU (i := n) (by omega)
  have l1 := load_w (G := G) HU (i := n - 1) (by omega)
  have l2 := load_v (G := G) HV (i := n - 1) (by omega)
  have l3 := load_w (G := G) HU1 (i := n) (by omega)
  have i1 : (n : Int) - 1 = ((n - 1 : Nat) : Int) := by omega
  have w0 : (dg W n : Int) % 18446744073709551616 = dg W n := by omega
  have w1 : (dg W (n - 1) : Int) % 18446744073709551616 = dg W (n - 1) := by omega
  have w2 := shl32_or x0 x1
  rw [← hte] at w2
  have w3 : (dg V (n - 1) : Int) % 18446744073709551616 = dg V (n - 1) := by omega
  have h2 : ¬ (dg V (n - 1) : Int) = 0 := by omega
  have hbig : t / dg V (n - 1) < 18446744073709551616 := Nat.lt_of_le_of_lt (Nat.div_le_self _ _) ht
  have w4 : (t : Int).tdiv (dg V (n - 1) : Int) = ((t / dg V (n - 1) : Nat) : Int) := rfl
  have w5 : (t : Int).tmod (dg V (n - 1) : Int) = ((t % dg V (n - 1) : Nat) : Int) := rfl
  generalize t / dg V (n - 1) = tq at *
  generalize t % dg V (n - 1) = tm at *
  have w6 : (tq : Int) % 18446744073709551616 = tq := by omega
  have w7 : (c : Int) % 4294967296 = c := by omega
  obtain ⟨d, z, hd, hz, hdz⟩ := sub_dig (dW1.dg n) hc hw
  have call := bits_Sub32 (G := G) J (dW1.dg n) hc hw hd hz hdz
  have st := store_w HU1 (i := n) (x := d) (by omega)
  rw [put_put] at st
  have hset := val_set (l := W1) (j := n) d (by omega)
  have hlen2 : (W1.set n d).length = n + 1 := by rw [List.length_set]; exact hW1
  have dW2 := Dg_set (i := n) dW1 hd
  have hlt2 := val_lt dW2
  rw [hlen2] at hlt2
  have key : val (W1.set n d) + q' * val V = val W + 4294967296 ^ (n + 1) * z := by
    rw [Nat.pow_succ, Nat.mul_assoc]
    have h1 : 4294967296 ^ n * d + 4294967296 ^ n * c + 4294967296 ^ n * w = 4294967296 ^ n * dg W1 n + 4294967296 ^ n * (4294967296 * z) := by rw [← Nat.mul_add, ← Nat.mul_add, hdz, Nat.mul_add]
    rw [Nat.mul_add] at hv1
    generalize 4294967296 ^ n * (4294967296 * z) = a1 at *
    generalize 4294967296 ^ n * d = a2 at *
    generalize 4294967296 ^ n * c = a3 at *
    generalize 4294967296 ^ n * w = a4 at *
    generalize 4294967296 ^ n * dg W1 n = a5 at *
    generalize q' * val V = a6 at *
    omega
  by_cases hz0 : z = 0
  · subst hz0
    rw [Nat.mul_zero, Nat.add_zero] at key
    obtain ⟨k1, k2⟩ := step_fin0 f7 key hq2
    refine ⟨W1.set n d, ?_, hlen2, dW2, k2⟩
    rw [← k1]
    rw [cast0] at call
    have w8 : (q' : Int) % 4294967296 = q' := by omega
    clear key k1 k2 hset hdm hlt2 f1 f2 f3 f4 f5 f6 hv1 lt hq2 hq3
    repeat (first | (simp (maxSteps := 1000000) only [seval, evB, c_nat_step, l0, l1, l2, l3, i1, w0, w1, w2, w3, w4, w5, w6, w7, w8, h2, hr, hr2, call, st ]) | (simp (disch := omega) only [dsB,  iaddr_off]))
  · obtain rfl : z = 1 := by omega
    rw [Nat.mul_one] at key
    have HU2 := HU.put (A ++ W1.set n d ++ C)
    have HV2 := HV.other (l := A ++ W1.set n d ++ C) hne
    obtain ⟨_, hr3, e3, W3, w', rfl, hW3, dW3, hw3, hv3, hn3⟩ := step_back (G := G) (q := q') J HU2 HV2 hne hV (by omega) dV n 0 (W1.set n d) 0 (by omega) hlen2 dW2 (by decide) (by simp [val]) rfl
    rw [put_put, put_put, cast0] at hr3
    have HU3 := HU.put (A ++ W3 ++ C)
    have l4 := load_w (G := G) HU3 (i := n) (by omega)
    have x3 := dW3.dg n
    have w9 : ((dg W3 n : Int) + w') % 4294967296 = (((dg W3 n + w') % 4294967296 : Nat) : Int) := by omega
    have hdd : dg W3 n + w' = (dg W3 n + w') % 4294967296 + 4294967296 * ((dg W3 n + w') / 4294967296) := by omega
    have hd3 : (dg W3 n + w') % 4294967296 < 4294967296 := Nat.mod_lt _ (by decide)
    generalize (dg W3 n + w') % 4294967296 = d3 at *
    generalize (dg W3 n + w') / 4294967296 = k3 at *
    have st3 := store_w HU3 (i := n) (x := d3) (by omega)
    rw [put_put] at st3
    have hset3 := val_set (l := W3) (j := n) d3 (by omega)
    have hlen4 : (W3.set n d3).length = n + 1 := by rw [List.length_set]; exact hW3
    have dW4 := Dg_set (i := n) dW3 hd3
    have hlt4 := val_lt dW4
    rw [hlen4] at hlt4
    have key4 : val (W3.set n d3) + 4294967296 ^ (n + 1) * k3 = val (W1.set n d) + val V := by
      rw [Nat.pow_succ, Nat.mul_assoc]
      have h1 : 4294967296 ^ n * dg W3 n + 4294967296 ^ n * w' = 4294967296 ^ n * d3 + 4294967296 ^ n * (4294967296 * k3) := by rw [← Nat.mul_add, ← Nat.mul_add, hdd]
      generalize 4294967296 ^ n * (4294967296 * k3) = a1 at *
      generalize 4294967296 ^ n * d3 = a2 at *
      generalize 4294967296 ^ n * w' = a3 at *
      generalize 4294967296 ^ n * dg W3 n = a4 at *
      omega
    have hYB : val V ≤ 4294967296 ^ (n + 1) := by
      have h1 := val_lt dV
      rw [hV] at h1
      exact Nat.le_of_lt (Nat.lt_of_lt_of_le h1 (Nat.pow_le_pow_right (by decide) (Nat.le_succ n)))
    obtain ⟨k1, k2⟩ := step_fin1 f7 hYB key hlt2 hq3 key4 hlt4
    refine ⟨W3.set n d3, ?_, hlen4, dW4, k2⟩
    have hq : val W / val V = q' - 1 := by rw [k1, Nat.add_sub_cancel]
    have hq0 : 1 ≤ q' := by rw [k1]; exact Nat.le_add_left 1 _
    rw [hq]
    rw [show ((1 : Nat) : Int) = 1 from rfl] at call
    have w8 : ((q' : Int) - 1) % 18446744073709551616 = ((q' - 1 : Nat) : Int) := by omega
    have w10 : ((q' - 1 : Nat) : Int) % 4294967296 = ((q' - 1 : Nat) : Int) := by omega
    clear key k1 k2 hset hdm hlt2 f1 f2 f3 f4 f5 f6 hv1 lt hq2 hq3 key4 hset3 hYB hdd hv3 hlt4 hq
    repeat (first | (simp (maxSteps := 1000000) only [seval, evB, c_nat_step, l0, l1, l2, l3, l4, i1, w0, w1, w2, w3, w4, w5, w6, w7, w8, w9, w10, h2, hr, hr2, hr3, call, st, st3 ]) | (simp (disch := omega) only [dsB,  iaddr_off]))
def KeepsAll (h0 h : Heap) (v : AV) : Prop := ∀ bv lv, Holds h0 bv lv → Holds h bv lv ∧ ∀ b o n s, v = .own b o n s → b ≠ bv
theorem app_keeps {h0 h : Heap} {v : AV} {l : List Nat} (B : Bld h v l) (K : KeepsAll h0 h v) {w : Int} (hw : 0 ≤ w) (hl : l.length < 1099511627776) :
    KeepsAll h0 (appH h v w) (.own (h.b.length + 1) 0 (l.length + 1) 1) := by
  intro bv lv H0
  obtain ⟨HH, hne⟩ := K bv lv H0
  obtain ⟨hf, hB⟩ := B
  have e0 : sliceCells (Heap.mem ⟨h.b ++ [⟨[.int .u32 w], false⟩], h.f⟩) 1 (.own h.b.length 0 1 1) = some (1, cells [w.toNat]) := by
    have : (Heap.mem ⟨h.b ++ [⟨[.int .u32 w], false⟩], h.f⟩) h.b.length = some ⟨cells [w.toNat], false⟩ := by
      simp [Heap.mem, cells, Int.toNat_of_nonneg hw]
    simp [sliceCells, rdBlk, this, cells]
  have key : ∃ h', appV ⟨h.b ++ [⟨[.int .u32 w], false⟩], h.f⟩ 1 4 v (.own h.b.length 0 1 1) = some (.own (h.b.length + 1) 0 (l.length + 1) 1, h') ∧
      h'.f = h.f ∧ h'.b[bv]? = h.b[bv]? := by
    rcases hB with ⟨rfl, rfl⟩ | ⟨b, l2, rfl, H⟩
    · refine ⟨⟨(h.b ++ [⟨[.int .u32 w], false⟩]) ++ [⟨cells [w.toNat], false⟩], h.f⟩, ?_, rfl, ?_⟩
      · simp only [appV, e0, Nat.succ_ne_zero, if_false]
        rw [if_pos (by decide)]
        simp
      · show (h.b ++ _ ++ _)[bv]? = _
        rw [List.getElem?_append_left (by simp only [List.length_append]; have := HH.lt; omega), List.getElem?_append_left HH.lt]
    · refine ⟨⟨(h.b ++ [(⟨[.int .u32 w], false⟩ : Blk)]).set b ⟨cells (l ++ l2), true⟩ ++ [⟨cells (l ++ [w.toNat]), false⟩], h.f⟩, ?_, rfl, ?_⟩
      · simp only [appV, e0]
        rw [List.getElem?_append_left H.lt, H.at_]
        simp only
        rw [if_pos ⟨trivial, trivial, H.fre, by rw [cells_len, List.length_append]; omega, by simp only [boundBytes]; omega⟩]
        simp only [List.length_append, List.length_cons, List.length_nil, List.drop_zero, Nat.mul_one]
        rw [cells_take, List.take_left' rfl, cells_app, Nat.zero_add]
      · have hb : b ≠ bv := hne _ _ _ _ rfl
        show ((h.b ++ _).set b _ ++ _)[bv]? = _
        rw [List.getElem?_append_left (by rw [List.length_set, List.length_append]; have := HH.lt; omega), List.getElem?_set_ne hb, List.getElem?_append_left HH.lt]
  obtain ⟨h', k1, k2, k3⟩ := key
  have e : appH h v w = h' := by simp only [appH, k1, Option.getD_some]
  rw [e]
  refine ⟨⟨by rw [k3]; exact HH.at_, by rw [k2]; exact HH.fre⟩, ?_⟩
  intro b o n s hv
  have := HH.lt
  injection hv with hb
  omega
theorem up_loop2 {h0 : Heap} {a : List Nat} {z : Bool} {q s : Nat} (ha : Dg a) (hs : s < 32) (hb : q + a.length < 549755813888) : ∀ (m i : Nat) (h : Heap) (v : AV) (l : List Nat) (c : Nat),
    m + i = a.length → Bld h v l → KeepsAll h0 h v → Dg l → l.length = q + i → c < 2 ^ s → val l + 4294967296 ^ (q + i) * c = 4294967296 ^ q * 2 ^ s * val (a.take i) →
    Post (evL G T c_nat_up_l1 [(5, v), (6, .int .i64 (s : Int)), (7, .int .u32 (c : Int)), (24, D z a), (25, .int .i64 ((a.length : Nat) : Int)), (26, .int .i64 (i : Int))] h) fun r =>
      ∃ e h' v' l', ∃ c' : Nat, r = (.exit 0, (5, v') :: (6, .int .i64 (s : Int)) :: (7, .int .u32 (c' : Int)) :: e, h') ∧ Bld h' v' l' ∧ KeepsAll h0 h' v' ∧ Dg l' ∧ l'.length = q + a.length ∧ c' < 2 ^ s ∧ val (l' ++ [c']) = 4294967296 ^ q * 2 ^ s * val a
  | 0, i, h, v, l, c, hm, B, K, hd, hl, hc, he => by
    rw [s_loopc G T (c := c_nat_up_l1) rfl]
    have h1 : ¬ (i : Int) < a.length := by omega
    repeat (first | (simp (maxSteps := 1000000) only [seval, evB, c_nat_up_b1, h1]) | (simp (disch := omega) only [dsB]))
    refine Post.some ⟨_, _, _, _, _, rfl, B, K, hd, by omega, hc, ?_⟩
    rw [List.take_of_length_le (by omega)] at he
    rw [val_snoc, hl, he]
  | m + 1, i, h, v, l, c, hm, B, K, hd, hl, hc, he => by
    rw [s_loopc G T (c := c_nat_up_l1) rfl]
    have ha' := ha.dg i
    have e7 : (i : Int) + 1 = ((i + 1 : Nat) : Int) := by omega
    have h1 : (i : Int) < a.length := by omega
    have hk := carry_lt hc ha'
    have hp : (2 : Nat) ^ s ≤ 2 ^ 31 := Nat.pow_le_pow_right (by decide) (by omega)
    have w1 : (dg a i : Int) % 18446744073709551616 = dg a i := by omega
    have w2 : min s 32 = s := by omega
    have w3 : (dg a i : Int) * 2 ^ s % 4294967296 = ((dg a i * 2 ^ s % 4294967296 : Nat) : Int) := by
      rw [pow_cast, ← Int.natCast_mul]; omega
    have w4 : orI .u32 ((dg a i * 2 ^ s % 4294967296 : Nat) : Int) (c : Int) = ((c + dg a i * 2 ^ s % 4294967296 : Nat) : Int) := by
      rw [or32 (by omega) (by omega), Nat.or_comm, shl_mod (by omega), or_add hc]
    have w5 : (32 - (s : Int)) = ((32 - s : Nat) : Int) := by omega
    have w6 : min (32 - s) 64 = 32 - s := by omega
    have w7 : (dg a i : Int) / 2 ^ (32 - s) = ((dg a i / 2 ^ (32 - s) : Nat) : Int) := by rw [pow_cast]; rfl
    have hsm : dg a i * 2 ^ s % 4294967296 + c < 4294967296 := by
      have e0 := shl_mod (x := dg a i) (s := s) (by omega)
      have e1 : dg a i % 2 ^ (32 - s) < 2 ^ (32 - s) := Nat.mod_lt _ (Nat.two_pow_pos _)
      have e2 : (dg a i % 2 ^ (32 - s) + 1) * 2 ^ s ≤ 2 ^ (32 - s) * 2 ^ s := Nat.mul_le_mul_right _ e1
      rw [← Nat.pow_add, show 32 - s + s = 32 by omega, Nat.add_mul] at e2
      omega
    have hcd : (dg a i * 2 ^ s % 4294967296 + c) + 4294967296 * (dg a i * 2 ^ s / 4294967296) = c + dg a i * 2 ^ s := by omega
    have hcl : dg a i * 2 ^ s / 4294967296 < 2 ^ s := by
      refine Nat.lt_of_le_of_lt ?_ hk
      exact Nat.div_le_div_right (by omega)
    have w8 : ((dg a i / 2 ^ (32 - s) : Nat) : Int) % 4294967296 = ((dg a i * 2 ^ s / 4294967296 : Nat) : Int) := by
      rw [shr_carry (by omega)]; omega
    repeat (first | (simp (maxSteps := 1000000) only [seval, evB, c_nat_up_b1, h1, w1, w2, w3, w4, w5, w6, w7, w8 ]) | (simp (disch := omega) only [dsB,  app_b B]))
    rw [e7]
    refine up_loop2 ha hs hb m (i + 1) _ _ _ _ (by omega) (Bld_app B (by omega) (by omega)).2 (app_keeps B K (by omega) (by omega)) (Dg_snoc hd (by omega)) (by rw [List.length_append, hl]; rfl) hcl ?_
    rw [val_take_succ']
    refine up_step (j := q + i) (q := q) (i := i) hl rfl he ?_
    rw [Int.toNat_natCast, Nat.add_comm c]; exact hcd
theorem nat_up_h (J : Al G T g) {h : Heap} (hf : FreH h) {z : Bool} {a n : Nat} (ha : a ≠ 0) (hs : (dl a).length < 137438953472) (hn : n < 1099511627776) :
    ∃ b l2 h', kJ G c_nat_up.res (evL G T c_nat_up.body (numE 0 [D z (dl a), .int .i64 (n : Int)]) h) = some (.own b 0 (dl (a * 2 ^ n)).length 1, h') ∧ Holds h' b (dl (a * 2 ^ n) ++ l2) ∧ Dg l2 ∧ FreH h' ∧ KeepsAll h h' (.own b 0 (dl (a * 2 ^ n)).length 1) := by
  have h0 : ¬ ((dl a).length : Int) = 0 := by
    intro hc
    exact ha (dl_eq_nil.1 (List.length_eq_zero_iff.1 (by omega)))
  have hnm : n / 32 ≤ n / 32 + (dl a).length + 1 := by omega
  have K0 : KeepsAll h (new h (List.replicate (n / 32 + (dl a).length + 1) 0)) (.own h.b.length 0 (n / 32) 1) := fun bv lv H => ⟨H.new, fun b o n s hv => by have := H.lt; injection hv with hb; omega⟩
  obtain ⟨r, hr, e, h', v', l', c', rfl, B, K, hd, hl, hc, hv⟩ := up_loop2 (G := G) (T := T) (z := z) (q := n / 32) (s := n % 32) (Dg_dl a) (by omega) (by omega) (dl a).length 0 _ _ _ 0 rfl (Bld_newc hf (n / 32) _ hnm) K0 (Dg_rep _) (by simp) (Nat.two_pow_pos _) (by simp [val_rep, val])
  rw [cast0] at hr
  have hp : c' < 4294967296 := by
    have : (2 : Nat) ^ (n % 32) ≤ 2 ^ 31 := Nat.pow_le_pow_right (by decide) (by omega)
    omega
  have m1 : (((n / 32 : Nat) : Int) + ((dl a).length : Nat) + 1).toNat = n / 32 + (dl a).length + 1 := by omega
  obtain ⟨hap, HB, B2⟩ := Bld_app3 B (w := (c' : Int)) (by omega) (by omega)
  have K2 := app_keeps B K (w := (c' : Int)) (by omega) (by omega)
  rw [Int.toNat_natCast] at HB
  have hd2 := Dg_snoc hd hp
  have hlen : (l' ++ [c']).length = l'.length + 1 := by rw [List.length_append]; rfl
  obtain ⟨n', e', ht, hn', htk⟩ := trim_own (G := G) (T := T) HB hd2 (by omega) (l'.length + 1) (by omega)
  rw [← hlen, List.take_length, hv, val_dl, pow32, ← Nat.pow_add, show 32 * (n / 32) + n % 32 = n by omega, Nat.mul_comm] at htk
  have hn2 : n' = (dl (a * 2 ^ n)).length := by rw [← htk, List.length_take]; omega
  subst hn2
  have hw1 : IntKind.i64.wrap ((n / 32 : Nat) : Int) = ((n / 32 : Nat) : Int) := wrap_i64 (by omega)
  refine ⟨h'.b.length + 1, (l' ++ [c']).drop (dl (a * 2 ^ n)).length, appH h' v' c', ?_, ?_, hd2.drop _, B2.1, ?_⟩
  · repeat (first | (simp (maxSteps := 1000000) only [seval, evB, c_nat_up, h0, hw1, m1, hr, hap, st_callk G T J.A.nat_trim, c_nat_trim, ht]) | (simp (disch := omega) only [dsB]))
  · rw [← htk, List.length_take, Nat.min_eq_left hn', List.take_append_drop]; exact HB
  · intro bv lv H
    obtain ⟨k1, k2⟩ := K2 bv lv H
    exact ⟨k1, fun b o n s hv => by injection hv with hb; subst hb; exact k2 _ _ _ _ rfl⟩
theorem sl_mid {h : Heap} {b n : Nat} {l : List Nat} (H : Holds h b l) (hn : n ≤ l.length) {lo hi : Nat} (h1 : lo ≤ hi ∧ hi ≤ n ∧ lo < n) :
    evSlice h.mem 1 (.own b 0 n 1) (some (.int .i64 (lo : Int))) (some (.int .i64 (hi : Int))) = some (.own b lo (hi - lo) 1) := by
  simp only [evSlice, lenA, capA, bound, H.mem, Bool.false_eq_true, if_false, Nat.succ_ne_zero, cells_len]
  rw [if_pos (by refine ⟨by omega, by omega, ?_⟩; omega), if_pos ⟨trivial, Or.inr (by omega)⟩]
  have e0 : ((hi : Int) - (lo : Int)).toNat = hi - lo := by omega
  rw [e0, Int.toNat_natCast, Nat.mul_one, Nat.zero_add]
theorem long_pre {n j N : Nat} {U0 R V : List Nat} (hn : 2 ≤ n) (hs : N < 17179869184) (hV : V.length = n) (dV : Dg V) (d0 : Dg U0) (dR : Dg R) (top : 2147483648 ≤ dg V (n - 1)) (hU : U0.length = N) (hR : R.length = N - (j + 1)) (hj : j + 1 + n ≤ N) (hlt : val R < val V) :
    StepPre ((dg U0 j :: R).take (n + 1)) V n ∧ val ((dg U0 j :: R).take (n + 1)) = dg U0 j + 4294967296 * val R ∧ val ((dg U0 j :: R).drop (n + 1)) = 0 := by
  have dX : Dg (dg U0 j :: R) := Dg_cons.2 ⟨d0.dg j, dR⟩
  have hX : val (dg U0 j :: R) < 4294967296 * val V := by
    rw [val_cons]; have := d0.dg j; omega
  have hVb := val_lt dV
  rw [hV] at hVb
  have hB : val (dg U0 j :: R) < 4294967296 ^ (n + 1) := by
    rw [Nat.pow_succ, Nat.mul_comm]
    exact Nat.lt_of_lt_of_le hX (Nat.mul_le_mul_left _ (Nat.le_of_lt hVb))
  have e1 := val_take dX (n + 1)
  have e2 := val_drop dX (n + 1)
  rw [Nat.mod_eq_of_lt hB] at e1
  rw [Nat.div_eq_of_lt hB] at e2
  refine ⟨⟨hn, by omega, ?_, hV, dX.take _, dV, top, by rw [e1]; exact hX⟩, by rw [e1, val_cons], e2⟩
  rw [List.length_take, List.length_cons]; omega
theorem long_step {U0 Q V : List Nat} {j q r X R : Nat} (hj : j < U0.length) (hq : j < Q.length) (h : val (U0.drop (j + 1)) = val (Q.drop (j + 1)) * val V + R) (hX : X = dg U0 j + 4294967296 * R) :
    val (U0.drop j) = val ((Q.set j (X / val V)).drop j) * val V + X % val V := by
  rw [drop_cons hj, drop_set hq, val_cons, val_cons, h]
  have h2 := Nat.div_add_mod X (val V)
  generalize X / val V = a at *
  generalize X % val V = b at *
  rw [Nat.mul_add, Nat.add_mul, Nat.mul_assoc, Nat.mul_comm a]
  generalize val (Q.drop (j + 1)) * val V = c at *
  omega
theorem long_loop (J : Al G T g) {bu bv bq n N m : Nat} {U0 C V V2 : List Nat} {s : AV} (h1 : bv ≠ bu) (h2 : bq ≠ bu) (h3 : bv ≠ bq) (hn : 2 ≤ n) (hs : N < 17179869184) (hV : V.length = n) (dV : Dg V) (d0 : Dg U0) (top : 2147483648 ≤ dg V (n - 1)) (hU : U0.length = N) (hm : N = m + n) :
    ∀ (j : Nat) (h : Heap) (R Q : List Nat), j ≤ m → Holds h bu (U0.take j ++ R ++ C) → Holds h bv (V ++ V2) → Holds h bq Q → Dg R → R.length = N - j → Dg Q → Q.length = m → val R < val V → val (U0.drop j) = val (Q.drop j) * val V + val R →
    Post (evL G T c_nat_long_l1 [(6, s), (7, .own bv 0 n 1), (8, .own bu 0 N 1), (9, .int .i64 (n : Int)), (10, .own bq 0 m 1), (11, .int .i64 ((j : Int) - 1))] h) fun r =>
      ∃ e h' R' Q', r = (.exit 2, (6, s) :: (7, .own bv 0 n 1) :: (8, .own bu 0 N 1) :: (9, .int .i64 (n : Int)) :: (10, .own bq 0 m 1) :: e, h') ∧ Holds h' bu (R' ++ C) ∧ Holds h' bq Q' ∧ Dg R' ∧ R'.length = N ∧ Dg Q' ∧ Q'.length = m ∧ val R' < val V ∧ val U0 = val Q' * val V + val R'
  | 0, h, R, Q, hj, HU, HV, HQ, dR, hR, dQ, hQ, hlt, he => by
    rw [s_loopc G T (c := c_nat_long_l1) rfl]
    have c1 : ¬ (0 : Int) ≤ ((0 : Nat) : Int) - 1 := by omega
    repeat (first | (simp (maxSteps := 1000000) only [seval, evB, c_nat_long_b1, c1]) | (simp (disch := omega) only [dsB]))
    rw [List.take_zero, List.nil_append] at HU
    exact Post.some ⟨_, _, _, _, rfl, HU, HQ, dR, hR, dQ, hQ, hlt, he⟩
  | j + 1, h, R, Q, hj, HU, HV, HQ, dR, hR, dQ, hQ, hlt, he => by
    rw [s_loopc G T (c := c_nat_long_l1) rfl]
    have e1 : ((j + 1 : Nat) : Int) - 1 = (j : Int) := by omega
    have c1 : (0 : Int) ≤ (j : Int) := by omega
    obtain ⟨p, v1, v2⟩ := long_pre (j := j) (U0 := U0) (R := R) (N := N) hn hs hV dV d0 dR top hU hR (by omega) hlt
    have hls := long_step (U0 := U0) (Q := Q) (V := V) (j := j) (q := 0) (r := 0) (by omega) (by omega) he v1
    have hlen : (dg U0 j :: R).length = N - j := by rw [List.length_cons]; omega
    have dX : Dg (dg U0 j :: R) := Dg_cons.2 ⟨d0.dg j, dR⟩
    have hsp : U0.take (j + 1) ++ R ++ C = U0.take j ++ (dg U0 j :: R).take (n + 1) ++ ((dg U0 j :: R).drop (n + 1) ++ C) := by
      rw [take_snoc (by omega)]
      simp only [List.append_assoc, List.singleton_append]
      rw [← List.append_assoc (List.take (n + 1) _), List.take_append_drop, List.cons_append]
    have hcl : N ≤ (U0.take (j + 1) ++ R ++ C).length := by
      simp only [List.length_append, List.length_take]; omega
    have sl := sl_mid HU hcl (lo := j) (hi := j + n + 1) ⟨by omega, by omega, by omega⟩
    rw [show j + n + 1 - j = n + 1 by omega] at sl
    have e2 : (j : Int) + (n : Int) + 1 = ((j + n + 1 : Nat) : Int) := by omega
    rw [hsp] at HU
    have htl : (U0.take j).length = j := by rw [List.length_take]; omega
    obtain ⟨W', hst, hW', dW', hv'⟩ := nat_step (G := G) J HU HV h1 p
    rw [htl] at hst
    simp only [numE_cons, numE_nil, Nat.reduceAdd, Nat.zero_add] at hst
    have hlt' : val W' < val V := by rw [hv']; exact Nat.mod_lt _ (by have := val_lt dV; omega)
    have HU' := HU.put (U0.take j ++ W' ++ ((dg U0 j :: R).drop (n + 1) ++ C))
    have HV' := HV.other (l := U0.take j ++ W' ++ ((dg U0 j :: R).drop (n + 1) ++ C)) h1
    have HQ' := HQ.other (l := U0.take j ++ W' ++ ((dg U0 j :: R).drop (n + 1) ++ C)) h2
    have st := store_n HQ' (i := j) (x := val (List.take (n + 1) (dg U0 j :: R)) / val V) (by omega)
    have hqd : val (List.take (n + 1) (dg U0 j :: R)) / val V < 4294967296 := div_lt_le p.lt (Nat.le_refl _)
    have HU2 := HU'.other (l := Q.set j (val (List.take (n + 1) (dg U0 j :: R)) / val V)) h2.symm
    have HV2 := HV'.other (l := Q.set j (val (List.take (n + 1) (dg U0 j :: R)) / val V)) h3
    have HQ2 := HQ'.put (Q.set j (val (List.take (n + 1) (dg U0 j :: R)) / val V))
    rw [e1]
    repeat (first | (simp (maxSteps := 1000000) only [seval, evB, c_nat_long_b1, c1, e2, sl, st_callk G T J.A.nat_step, hst, st]) | (simp (disch := omega) only [dsB]))
    have hR2 : val (W' ++ (dg U0 j :: R).drop (n + 1)) = val W' := by rw [val_app, v2, Nat.mul_zero, Nat.add_zero]
    have hl : U0.take j ++ (W' ++ (dg U0 j :: R).drop (n + 1)) ++ C = U0.take j ++ W' ++ ((dg U0 j :: R).drop (n + 1) ++ C) := by simp only [List.append_assoc]
    refine long_loop J h1 h2 h3 hn hs hV dV d0 top hU hm j _ (W' ++ (dg U0 j :: R).drop (n + 1)) _ (by omega) (by rw [hl]; exact HU2) HV2 HQ2 (Dg_app.2 ⟨dW', dX.drop _⟩) ?_ (Dg_set dQ hqd) (by rw [List.length_set]; exact hQ) (by rw [hR2]; exact hlt') ?_
    · rw [List.length_append, List.length_drop, hW', hlen]; omega
    · rw [hR2, hv']; exact hls
theorem ext_loop {h0 h : Heap} {b La : Nat} {L C A : List Nat} {za : Bool} {s6 s7 : AV} (H : Holds h b (L ++ C)) (hf : FreH h) (dL : Dg L) (hL : L.length = La) (hs : A.length < 17179869184) (hlen : La = A.length ∨ La = A.length + 1) (K : KeepsAll h0 h (.own b 0 La 1)) :
    Post (evL G T c_nat_long_l2 [(0, D za A), (6, s6), (7, s7), (8, .own b 0 La 1)] h) fun r =>
      ∃ e h' b' C' U, r = (.exit 0, (0, D za A) :: (6, s6) :: (7, s7) :: (8, .own b' 0 (A.length + 1) 1) :: e, h') ∧ Holds h' b' (U ++ C') ∧ FreH h' ∧ U.length = A.length + 1 ∧ Dg U ∧ val U = val L ∧ KeepsAll h0 h' (.own b' 0 (A.length + 1) 1) := by
  subst hL
  rw [s_loopc G T (c := c_nat_long_l2) rfl]
  rcases hlen with hl | hl
  · have c1 : ((L.length : Nat) : Int) ≤ ((A.length : Nat) : Int) := by omega
    have B : Bld h (.own b 0 L.length 1) L := ⟨hf, Or.inr ⟨b, C, rfl, H⟩⟩
    obtain ⟨ha1, ha2, ha3⟩ := Bld_app3 B (w := 0) (by decide) (by omega)
    have K2 := app_keeps B K (w := 0) (by decide) (by omega)
    have c2 : ¬ (((L.length + 1 : Nat) : Int) ≤ ((A.length : Nat) : Int)) := by omega
    have e : Post (evL G T c_nat_long_l2 [(0, D za A), (6, s6), (7, s7), (8, .own (h.b.length + 1) 0 (L.length + 1) 1)] (appH h (.own b 0 L.length 1) 0)) fun r =>
      ∃ e h' b' C' U, r = (.exit 0, (0, D za A) :: (6, s6) :: (7, s7) :: (8, .own b' 0 (A.length + 1) 1) :: e, h') ∧ Holds h' b' (U ++ C') ∧ FreH h' ∧ U.length = A.length + 1 ∧ Dg U ∧ val U = val L ∧ KeepsAll h0 h' (.own b' 0 (A.length + 1) 1) := by
      rw [s_loopc G T (c := c_nat_long_l2) rfl]
      repeat (first | (simp (maxSteps := 1000000) only [seval, evB, c_nat_long_b2, c2]) | (simp (disch := omega) only [dsB]))
      refine Post.some ⟨_, _, _, [], L ++ [0], by rw [hl], by rw [List.append_nil]; exact ha2, ha3.1, by rw [List.length_append, hl]; rfl, Dg_snoc dL (by decide), by rw [val_snoc, Nat.mul_zero, Nat.add_zero], by rw [← hl]; exact K2⟩
    repeat (first | (simp (maxSteps := 1000000) only [seval, evB, c_nat_long_b2, c1, ha1]) | (simp (disch := omega) only [dsB]))
    exact e
  · have c1 : ¬ (((L.length : Nat) : Int) ≤ ((A.length : Nat) : Int)) := by omega
    repeat (first | (simp (maxSteps := 1000000) only [seval, evB, c_nat_long_b2, c1]) | (simp (disch := omega) only [dsB]))
    exact Post.some ⟨_, _, _, C, L, by rw [hl], H, hf, hl, dL, rfl, by rw [← hl]; exact K⟩
theorem long_top {b n s : Nat} (hn : (dl b).length = n) (h0 : 0 < n) (hs : s = 32 - blen (dg (dl b) (n - 1))) : s < 32 ∧ (dl (b * 2 ^ s)).length = n ∧ 2147483648 ≤ dg (dl (b * 2 ^ s)) (n - 1) := by
  have hb0 : b ≠ 0 := by rintro rfl; rw [dl_zero] at hn; simp at hn; omega
  have hbl := blen_dl hb0
  rw [hn] at hbl
  have ht : blen (dg (dl b) (n - 1)) ≤ 32 := blen_le.2 ((Dg_dl b).dg _)
  have hb1 := dl_len_blen b
  rw [hn] at hb1
  have hm := blen_mul hb0 s
  have e1 : blen (b * 2 ^ s) = 32 * n := by omega
  have e2 : (dl (b * 2 ^ s)).length = n := by rw [dl_len_blen]; omega
  have hm0 : b * 2 ^ s ≠ 0 := Nat.mul_ne_zero hb0 (Nat.ne_of_gt (Nat.two_pow_pos s))
  have e3 := blen_dl hm0
  rw [e2, e1] at e3
  have e4 : 31 < blen (dg (dl (b * 2 ^ s)) (n - 1)) := by omega
  exact ⟨by omega, e2, lt_blen.1 e4⟩
theorem long_first {a b s m n N : Nat} {U : List Nat} (dU : Dg U) (hN : U.length = N) (hU : val U = a * 2 ^ s) (ha : (dl a).length + 1 = N) (hb : (dl b).length = n) (h0 : 0 < n) (hm : N = m + n) : val (U.drop m) < b * 2 ^ s := by
  rw [val_drop dU, hU]
  apply Nat.div_lt_of_lt_mul
  have h1 : a < 4294967296 ^ (N - 1) := dl_len.1 (by omega)
  have h2 : 4294967296 ^ (n - 1) ≤ b := by
    apply Classical.byContradiction; intro hc
    have := dl_len.2 (Nat.lt_of_not_le hc)
    omega
  have h3 : a < 4294967296 ^ m * b := by
    refine Nat.lt_of_lt_of_le h1 ?_
    rw [show N - 1 = m + (n - 1) by omega, Nat.pow_add]
    exact Nat.mul_le_mul_left _ h2
  rw [← Nat.mul_assoc]
  exact Nat.mul_lt_mul_of_pos_right h3 (Nat.two_pow_pos s)
theorem nat_long (J : Al G T g) {z y : Bool} {a b : Nat} (hb : 2 ≤ (dl b).length) (hab : b ≤ a) (hs : (dl a).length < 8589934592) : ∃ z1 z2, run G T 109 [D z (dl a), D y (dl b)] = some (.tup [D z1 (dl (a / b)), D z2 (dl (a % b))]) := by
  obtain ⟨n, hn⟩ : ∃ n, n = (dl b).length := ⟨_, rfl⟩
  obtain ⟨s, hs1⟩ : ∃ s, s = 32 - blen (dg (dl b) (n - 1)) := ⟨_, rfl⟩
  obtain ⟨t1, t2, t3⟩ := long_top hn.symm (by omega) hs1
  have hb0 : b ≠ 0 := by rintro rfl; rw [dl_zero] at hb; exact absurd hb (by decide)
  have ha0 : a ≠ 0 := by omega
  have hle : (dl b).length ≤ (dl a).length := by
    have h1 := blen_mono hab
    have h2 := dl_len_blen a
    have h3 := dl_len_blen b
    omega
  obtain ⟨bv, V2, h1, r1, H1, dV2, F1, K1⟩ := nat_up_h (G := G) (z := y) J (h := .nil) FreH.nil hb0 (by omega) (n := s) (by omega)
  obtain ⟨bu, l2, h2, r2, H2, d2, F2, K2⟩ := nat_up_h (G := G) (z := z) J (h := h1) F1 ha0 (by omega) (n := s) (by omega)
  simp only [numE_cons, numE_nil, Nat.reduceAdd, Nat.zero_add] at r1 r2
  have hLa : (dl (a * 2 ^ s)).length = (dl a).length ∨ (dl (a * 2 ^ s)).length = (dl a).length + 1 := by
    rw [dl_len_blen, dl_len_blen, blen_mul ha0]; omega
  obtain ⟨_, r3, e3, h3, bu3, C3, U, rfl, H3, F3, hUl, dU, hUv, K3⟩ := ext_loop (G := G) (T := T) (h0 := h1) (za := z) (s6 := .int .i64 (s : Int)) (s7 := .own bv 0 n 1) H2 F2 (Dg_dl _) rfl (A := dl a) (by omega) hLa K2
  rw [val_dl] at hUv
  obtain ⟨HV3, hne3⟩ := K3 _ _ H1
  obtain ⟨m, hm⟩ : ∃ m, (dl a).length + 1 = m + n := ⟨(dl a).length + 1 - n, by omega⟩
  have hfirst := long_first dU hUl hUv rfl hn.symm (by omega) hm
  have HQ := Holds_new F3 (List.replicate m 0)
  have HU4 := H3.new (m := List.replicate m 0)
  have HV4 := HV3.new (m := List.replicate m 0)
  have q1 : bv ≠ bu3 := (hne3 _ _ _ _ rfl).symm
  have q2 : h3.b.length ≠ bu3 := by have := H3.lt; omega
  have q3 : bv ≠ h3.b.length := by have := HV3.lt; omega
  have vV : val (dl (b * 2 ^ s)) = b * 2 ^ s := val_dl _
  obtain ⟨_, r4, e4, h4, R, Q, rfl, HU5, HQ5, dR, hR, dQ, hQ, hlt, hv⟩ := long_loop (G := G) (m := m) (N := (dl a).length + 1) (n := n) (s := .int .i64 (s : Int)) J q1 q2 q3 (by omega) (by omega) t2 (Dg_dl _) dU t3 hUl hm m (new h3 (List.replicate m 0)) (U.drop m) (List.replicate m 0) (Nat.le_refl _) (by rw [List.take_append_drop]; exact HU4) HV4 HQ (dU.drop _) (by rw [List.length_drop, hUl]) (Dg_rep _) (List.length_replicate ..) (by rw [vV]; exact hfirst) (by
    have : (List.replicate m 0).drop m = [] := List.drop_eq_nil_of_le (by rw [List.length_replicate]; exact Nat.le_refl _)
    rw [this]; simp [val])
  rw [vV] at hlt hv
  rw [hUv] at hv
  have hq : val Q = a / b := by
    have h1 := (divmod_of hlt hv).1
    rw [h1, Nat.mul_div_mul_right _ _ (Nat.two_pow_pos s)]
  have hr : val R = a % b * 2 ^ s := by
    have h1 := (divmod_of hlt hv).2
    rw [h1, Nat.mul_mod_mul_right]
  have hRn : val (R.take n) = val R := by
    rw [val_take dR, Nat.mod_eq_of_lt]
    refine Nat.lt_of_lt_of_le hlt ?_
    have := val_lt (Dg_dl (b * 2 ^ s))
    rw [t2, val_dl] at this
    exact Nat.le_of_lt this
  obtain ⟨z1, hz1⟩ := nat_trim J (z := false) dQ (by omega)
  obtain ⟨z2, hz2⟩ := nat_trim J (z := false) (dR.take n) (by rw [List.length_take]; omega)
  rw [hRn, hr] at hz2
  rw [hq] at hz1
  have hsb : (dl (a % b * 2 ^ s)).length ≤ n := by
    have := dl_len.1 (Nat.le_refl (dl (b * 2 ^ s)).length)
    rw [t2] at this
    exact dl_len.2 (Nat.lt_of_le_of_lt (Nat.mul_le_mul_right _ (Nat.le_of_lt (Nat.mod_lt a (by omega)))) this)
  obtain ⟨z3, hz3⟩ := nat_down J (z := z2) (a := a % b * 2 ^ s) (n := s) (by omega) (by omega)
  rw [Nat.mul_div_cancel _ (Nat.two_pow_pos s)] at hz3
  have hsl : (dl (a % b)).length < 1099511627776 := by
    have h1 := blen_mono (Nat.le_of_lt (Nat.mod_lt a (Nat.pos_of_ne_zero hb0)))
    have h2 := dl_len_blen (a % b)
    have h3 := dl_len_blen b
    omega
  obtain ⟨z4, hz4⟩ := nat_trim J (z := z3) (Dg_dl (a % b)) hsl
  rw [val_dl] at hz4
  have sq := snap_own HQ5 (n := m) (by omega)
  rw [← hQ, List.take_length, hQ] at sq
  have su := snap_own HU5 (n := n) (by rw [List.length_append]; omega)
  rw [List.take_append_of_le_length (by omega)] at su
  have slu := sl_own (n := (dl a).length + 1) (off := 0) (k := .i64) (j := (n : Int)) HU5.mem ⟨by omega, by rw [Int.toNat_natCast]; omega⟩
  rw [Int.toNat_natCast] at slu
  have i1 : ((dl b).length : Int) - 1 = (((dl b).length - 1 : Nat) : Int) := by omega
  have lz := bits_Lz (G := G) J ((Dg_dl b).dg (n - 1))
  rw [← hs1] at lz
  have w1 : (((dl a).length + 1 : Nat) : Int) - (n : Int) = (m : Int) := by omega
  have mm : ∀ f : List Nat, (⟨h4.b, f⟩ : Heap).mem = h4.mem := fun _ => rfl
  refine ⟨z1, z4, ?_⟩
  rw [run_k G T J.A.nat_long]
  clear hLa hUv hfirst hlt hv hq hr hRn hsb hsl
  subst hn
  rw [t2] at r1
  repeat (first | (simp (maxSteps := 1000000) only [seval, evB, c_nat_long, i1, lz, st_callk G T J.A.nat_up, r1, r2, r3, r4, w1, sq, hz1, slu, su, hz2, hz3, hz4, mm, frz_own]) | (simp (disch := omega) only [dsB]))
theorem all_loop (e : Env) (h : Heap) : evL G T c_nat_all_l1 e h = kS G T (evL G T c_nat_all_b1 (keepE [5, 6, 7] e) h) c_nat_all_l1 := s_loopc G T rfl e h
theorem ia1_0 (x y : AV) (k : IntKind) : iaddrV 1 (.imm 2 [x, y]) (.int k 0) = some (.iptr [x, y] 0) := rfl
theorem ia1_1 (x y : AV) (k : IntKind) : iaddrV 1 (.imm 2 [x, y]) (.int k 1) = some (.iptr [x, y] 1) := rfl
theorem rd1_0 (h : Mem) (x y : AV) : rdAt G h 1 (.iptr [x, y] 0) = some [x] := rfl
theorem rd1_1 (h : Mem) (x y : AV) : rdAt G h 1 (.iptr [x, y] 1) = some [y] := rfl
theorem nat_all (J : Al G T g) {z y : Bool} {a b : List Nat} : run G T 106 [.imm 2 [D z a, D y b]] = some (.bool (mayL a && mayL b)) := by
  rw [run_k G T J.A.nat_all]
  have h1 := nat_May (G := G) J z a
  have h2 := nat_May (G := G) J y b
  cases ha : mayL a <;> cases hb : mayL b <;> (
    rw [ha] at h1
    rw [hb] at h2
    repeat' (first | (simp (maxSteps := 1000000) only [seval, evB, exB, c_nat_all, h1, h2, all_loop, c_nat_all_b1, ia1_0, ia1_1, rd1_0, rd1_1]) | (simp (maxSteps := 1000000) (disch := first | with_reducible assumption | omega) only [dxB]) | (simp only [kI_d, kG_dt, kG_df]; split) | (simp only [kI_v, kG_vt, kG_vf]; split))
    all_goals rfl)
theorem app_nil {h : Heap} {z : Bool} {l : List Nat} (hl : l ≠ []) (hs : l.length < 549755813888) : appV h 1 4 .nil (D z l) = some (.own h.b.length 0 l.length 1, new h l) := by
  cases l with
  | nil => exact absurd rfl hl
  | cons a l =>
    have e : sliceCells h.mem 1 (D z (a :: l)) = some ((a :: l).length, cells (a :: l)) := by
      simp [D, sliceCells, cells]
    simp only [appV, e]
    rw [if_neg (by simp), if_pos (by simp only [boundBytes]; omega)]
    rfl
theorem app_nil0 {h : Heap} {z : Bool} : appV h 1 4 .nil (D z []) = some (.nil, h) := by
  cases z <;> rfl
theorem cmpN_neg {a b : Nat} : cmpN a b < 0 ↔ a < b := by
  unfold cmpN; split
  · constructor <;> intro <;> omega
  · split <;> constructor <;> intro <;> omega
theorem snap_new {h : Heap} (hf : FreH h) (l : List Nat) : snapG (new h l).mem 3 h.b.length 0 l.length 1 = some (D false l) := by
  have := snap_own (Holds_new hf l) (n := l.length) (Nat.le_refl _)
  rw [List.take_length] at this; exact this
theorem nat_QuoRem (J : Al G T g) {z y : Bool} {a b : Nat} (ha : mayL (dl a) = true) (hb : mayL (dl b) = true) (h0 : b ≠ 0) :
    ∃ z1 z2, run G T 77 [D z (dl a), D y (dl b)] = some (.tup [D z1 (dl (a / b)), D z2 (dl (a % b)), .int .i64 0]) := by
  have la := (mayL_iff.1 ha).1
  have lb := (mayL_iff.1 hb).1
  have h1 := nat_all (G := G) J (z := z) (y := y) (a := dl a) (b := dl b)
  rw [ha, hb, Bool.and_self] at h1
  have h2 := nat_cmp (G := G) J (z := z) (y := y) (a := a) (b := b) (by omega) (by omega)
  have hl0 : ¬ ((dl b).length : Int) = 0 := by
    intro hc; exact h0 (dl_len0.1 (by omega))
  by_cases hab : a < b
  · have c1 : cmpN a b < 0 := cmpN_neg.2 hab
    rw [Nat.div_eq_of_lt hab, Nat.mod_eq_of_lt hab, dl_zero]
    by_cases ha0 : a = 0
    · subst ha0
      rw [dl_zero] at *
      refine ⟨true, true, ?_⟩
      rw [run_k G T J.A.nat_QuoRem]
      clear la lb ha hb hab
      repeat' (first | (simp (maxSteps := 1000000) only [seval, evB, exB, c_nat_QuoRem, h1, h2, hl0, c1, app_nil0]) | (simp (maxSteps := 1000000) (disch := first | with_reducible assumption | omega) only [dxB]) | (simp only [kI_d, kG_dt, kG_df]; split) | (simp only [kI_v, kG_vt, kG_vf]; split))
      rfl
    · have hne : dl a ≠ [] := fun hc => ha0 (dl_eq_nil.1 hc)
      refine ⟨true, false, ?_⟩
      rw [run_k G T J.A.nat_QuoRem]
      clear ha hb hab
      repeat' (first | (simp (maxSteps := 1000000) only [seval, evB, exB, c_nat_QuoRem, h1, h2, hl0, c1 ]) | (simp (maxSteps := 1000000) (disch := first | with_reducible assumption | omega) only [dxB,  app_nil]) | (simp only [kI_d, kG_dt, kG_df]; split) | (simp only [kI_v, kG_vt, kG_vf]; split))
      have hsn := snap_new (h := { b := [{ cs := [D z (dl a), D y (dl b)] }], f := fz1 (AV.bool true) [0] }) (fun c hc => absurd hc List.not_mem_nil) (dl a)
      simp only [List.length_cons, List.length_nil, Nat.zero_add] at hsn
      rw [hsn]
      rfl
  · have c1 : ¬ cmpN a b < 0 := fun hc => hab (cmpN_neg.1 hc)
    by_cases hb1 : (dl b).length = 1
    · have hd0 : dl b = [b] := by
        have e1 : b < 4294967296 := by have := dl_len.1 (Nat.le_of_eq hb1); simpa using this
        rw [dl_pos h0, Nat.mod_eq_of_lt e1, Nat.div_eq_of_lt e1, dl_zero]
      have e1 : b < 4294967296 := by have := dl_len.1 (Nat.le_of_eq hb1); simpa using this
      have hr : a % b < b := Nat.mod_lt _ (by omega)
      obtain ⟨z1, hz1⟩ := nat_small (G := G) J (z := z) (a := a) (d := b) (by omega) e1 (by omega)
      obtain ⟨z2, hz2⟩ := nat_trim (G := G) J (z := false) (l := [a % b]) (Dg_cons.2 ⟨by omega, Dg.nil⟩) (by simp)
      rw [show val [a % b] = a % b by simp [val]] at hz2
      have hz2 : run G T 94 [.imm 1 [.int .u32 ((a % b : Nat) : Int)]] = some (D z2 (dl (a % b))) := hz2
      have hdb : dg (dl b) 0 = b := by rw [hd0]; rfl
      have hb1' : ((dl b).length : Int) = 1 := by omega
      refine ⟨z1, z2, ?_⟩
      rw [run_k G T J.A.nat_QuoRem]
      clear ha hb hab hr
      repeat' (first | (simp (maxSteps := 1000000) only [seval, evB, exB, c_nat_QuoRem, h1, h2, hl0, c1, hb1', hdb, hz1, hz2]) | (simp (maxSteps := 1000000) (disch := first | with_reducible assumption | omega) only [dxB]) | (simp only [kI_d, kG_dt, kG_df]; split) | (simp only [kI_v, kG_vt, kG_vf]; split))
    · have hb2 : ¬ ((dl b).length : Int) = 1 := by omega
      have hb3 : ¬ (dl b).length = 0 := by omega
      obtain ⟨z1, z2, hz⟩ := nat_long (G := G) J (z := z) (y := y) (a := a) (b := b) (by omega) (by omega) (by omega)
      refine ⟨z1, z2, ?_⟩
      rw [run_k G T J.A.nat_QuoRem]
      clear ha hb hab
      repeat' (first | (simp (maxSteps := 1000000) only [seval, evB, exB, c_nat_QuoRem, h1, h2, hl0, c1, hb2, hz]) | (simp (maxSteps := 1000000) (disch := first | with_reducible assumption | omega) only [dxB]) | (simp only [kI_d, kG_dt, kG_df]; split) | (simp only [kI_v, kG_vt, kG_vf]; split))
theorem set_bit {l : List Nat} {k s Q : Nat} (dl' : Dg l) (hk : k < l.length) (hs : s < 32) (hv : val l = Q * 2 ^ (32 * k + s + 1)) :
    dg l k ||| 2 ^ s = dg l k + 2 ^ s ∧ dg l k + 2 ^ s < 4294967296 ∧ val (l.set k (dg l k + 2 ^ s)) = (2 * Q + 1) * 2 ^ (32 * k + s) := by
  have h1 := dg_eq dl' k
  rw [hv, pow32, show 32 * k + s + 1 = s + 1 + 32 * k by omega, Nat.pow_add, ← Nat.mul_assoc, Nat.mul_div_cancel _ (Nat.two_pow_pos _)] at h1
  have e : (4294967296 : Nat) = 2 ^ (31 - s) * 2 ^ (s + 1) := by rw [← Nat.pow_add, show 31 - s + (s + 1) = 32 by omega]
  have h2 : Q * 2 ^ (s + 1) % 4294967296 = Q % 2 ^ (31 - s) * 2 ^ (s + 1) := by rw [e, Nat.mul_mod_mul_right]
  rw [h2] at h1
  have h3 : Q % 2 ^ (31 - s) < 2 ^ (31 - s) := Nat.mod_lt _ (Nat.two_pow_pos _)
  have h4 : (Q % 2 ^ (31 - s) + 1) * 2 ^ (s + 1) ≤ 4294967296 := by rw [e]; exact Nat.mul_le_mul_right _ h3
  have h5 : 2 ^ s < 2 ^ (s + 1) := Nat.pow_lt_pow_right (by decide) (Nat.lt_succ_self s)
  refine ⟨?_, ?_, ?_⟩
  · rw [h1, Nat.or_comm, or_add h5, Nat.add_comm]
  · rw [h1]; rw [Nat.add_mul, Nat.one_mul] at h4; omega
  · have h6 := val_set (l := l) (j := k) (dg l k + 2 ^ s) hk
    rw [Nat.mul_add] at h6
    have h7 : val (l.set k (dg l k + 2 ^ s)) = val l + 4294967296 ^ k * 2 ^ s := by omega
    rw [h7, hv, pow32, ← Nat.pow_add, Nat.pow_succ, Nat.add_mul, Nat.one_mul, ← Nat.mul_assoc, Nat.mul_comm 2 Q, Nat.mul_assoc Q 2, Nat.mul_comm 2, Nat.mul_assoc]
theorem bit_down {a i : Nat} : a / 2 ^ i = 2 * (a / 2 ^ (i + 1)) + a / 2 ^ i % 2 := by
  rw [Nat.pow_succ, ← Nat.div_div_eq_div_mul]; omega
theorem reach_at {h : Heap} {b : Nat} {l : List Nat} {d : Bool} (H : h.b[b]? = some ⟨cells l, d⟩) : reachG h.mem 3 b = [b] := by
  cases h with
  | mk bs fs => rw [rg_x]; simp only at H; rw [H, rgO_some, rl_cells]
def boxed (h : Heap) (r : AV) : Heap := ⟨h.b ++ [⟨[.int .u32 1], false⟩], fz1 r [h.b.length] ++ h.f⟩
theorem Holds.boxed {h : Heap} {b : Nat} {l : List Nat} (H : Holds h b l) (r : AV) : Holds (boxed h r) b l := by
  refine ⟨by simp only [Cv.boxed]; rw [List.getElem?_append_left H.lt]; exact H.at_, ?_⟩
  have h1 := H.lt
  have h2 := H.fre
  rw [Bool.eq_false_iff] at h2 ⊢
  intro hc
  rcases List.mem_append.1 (List.contains_iff_mem.1 hc) with h3 | h3
  · unfold fz1 at h3
    split at h3
    · have := List.mem_singleton.1 h3; omega
    · exact absurd h3 List.not_mem_nil
  · exact h2 (List.contains_iff_mem.2 h3)
theorem boxed_snap (h : Heap) : snapG (Heap.mem ⟨h.b ++ [⟨[.int .u32 1], false⟩], h.f⟩) 3 h.b.length 0 1 1 = some (D false [1]) := by
  have e : (Heap.mem ⟨h.b ++ [⟨[.int .u32 1], false⟩], h.f⟩) h.b.length = some ⟨cells [1], false⟩ := by
    simp [Heap.mem, cells]
  exact sg_digits (d := 2) (l := [1]) (by rw [rdBlk, e]; rfl) rfl
theorem boxed_reach (h : Heap) : reachG (Heap.mem ⟨h.b ++ [⟨[.int .u32 1], false⟩], h.f⟩) 3 h.b.length = [h.b.length] :=
  reach_at (h := ⟨h.b ++ [⟨[.int .u32 1], false⟩], h.f⟩) (l := [1]) (d := false) (by simp [cells])
theorem quo_loop (J : Al G T g) {a b bq N : Nat} {z y : Bool} (ha : (dl a).length < 8589934592) (hb : 0 < b) (hN : N = (dl a).length) (hbl : (dl b).length < 8589934592) : ∀ (j : Nat) (h : Heap) (l : List Nat) (zr : Bool) (Q R : Nat),
    j ≤ 32 * N → Holds h bq l → Dg l → l.length = N → R < b → a / 2 ^ j = Q * b + R → val l = Q * 2 ^ j →
    Post (evL G T c_ref01_QuoRem_l1 [(0, D z (dl a)), (1, D y (dl b)), (6, .own bq 0 N 1), (8, D zr (dl R)), (10, .int .i64 ((j : Int) - 1))] h) fun r =>
      ∃ e h' l' zr' R', r = (.exit 0, (0, D z (dl a)) :: (1, D y (dl b)) :: (6, .own bq 0 N 1) :: (8, D zr' (dl R')) :: e, h') ∧ Holds h' bq l' ∧ Dg l' ∧ l'.length = N ∧ R' < b ∧ a = val l' * b + R'
  | 0, h, l, zr, Q, R, hj, H, dL, hl, hR, he, hv => by
    rw [s_loopc G T (c := c_ref01_QuoRem_l1) rfl]
    have c1 : ¬ (0 : Int) ≤ ((0 : Nat) : Int) - 1 := by omega
    repeat (first | (simp (maxSteps := 1000000) only [seval, evB, c_ref01_QuoRem_b1, c1]) | (simp (disch := omega) only [dsB]))
    rw [Nat.pow_zero, Nat.div_one] at he
    rw [Nat.pow_zero, Nat.mul_one] at hv
    exact Post.some ⟨_, _, _, _, _, rfl, H, dL, hl, hR, by rw [hv]; exact he⟩
  | i + 1, h, l, zr, Q, R, hj, H, dL, hl, hR, he, hv => by
    rw [s_loopc G T (c := c_ref01_QuoRem_l1) rfl]
    have e1 : ((i + 1 : Nat) : Int) - 1 = (i : Int) := by omega
    have c1 : (0 : Int) ≤ (i : Int) := by omega
    have lR : (dl R).length < 8589934592 := by
      have h1 := blen_mono (Nat.le_of_lt hR)
      have h2 := dl_len_blen R
      have h3 := dl_len_blen b
      omega
    obtain ⟨z1, u1⟩ := ref01_Up (G := G) J (z := zr) (a := R) (n := 1) (by omega) (by decide)
    rw [Nat.pow_one, show ((1 : Nat) : Int) = 1 from rfl] at u1
    have u2 := ref01_Bit (G := G) J (z := z) (a := a) (i := i) (by omega) (by omega)
    have hbd := bit_down (a := a) (i := i)
    have hbit : a / 2 ^ i % 2 < 2 := Nat.mod_lt _ (by decide)
    rw [he] at hbd
    generalize a / 2 ^ i % 2 = t at *
    have lR2 : (dl (R * 2)).length < 17179869184 := by
      have h1 := blen_mono (a := R * 2) (b := b * 2 ^ 1) (by omega)
      rw [blen_mul (by omega)] at h1
      have h2 := dl_len_blen (R * 2)
      have h3 := dl_len_blen b
      omega
    have lR3 : (dl (R * 2 + 1)).length < 17179869184 := by
      have h1 := blen_mono (a := R * 2 + 1) (b := b * 2 ^ 1) (by omega)
      rw [blen_mul (by omega)] at h1
      have h2 := dl_len_blen (R * 2 + 1)
      have h3 := dl_len_blen b
      omega
    obtain ⟨z2, u3⟩ := ref01_Add (G := G) J (z := z1) (y := false) (a := R * 2) (b := 1) (by omega) (by rw [dl_one]; decide)
    rw [dl_one] at u3
    have hi32 : i / 32 < l.length := by omega
    have hii : 32 * (i / 32) + i % 32 = i := by omega
    obtain ⟨s1, s2, s3⟩ := set_bit (s := i % 32) (Q := Q) dL hi32 (by omega) (by rw [hii]; exact hv)
    rw [hii] at s3
    have w1 : (i : Int).tdiv 32 = ((i / 32 : Nat) : Int) := rfl
    have w2 : (i : Int).tmod 32 = ((i % 32 : Nat) : Int) := rfl
    have w3 : min (i % 32) 32 = i % 32 := by omega
    have p31 : 2 ^ (i % 32) < 4294967296 := Nat.lt_of_lt_of_le (Nat.pow_lt_pow_right (a := 2) (by decide) (show i % 32 < 32 by omega)) (by decide)
    have w4 : (1 : Int) * 2 ^ (i % 32) % 4294967296 = ((2 ^ (i % 32) : Nat) : Int) := by rw [Int.one_mul, pow_cast]; exact Int.emod_eq_of_lt (Int.natCast_nonneg _) (Int.ofNat_lt.2 p31)
    have w5 := or32 (dL.dg (i / 32)) p31
    rw [s1] at w5
    rw [e1]
    by_cases ht : t = 1
    · subst ht
      have c2 : (((1 : Nat) : Int)) = 1 := rfl
      have HB := H.boxed (D z2 (dl (R * 2 + 1)))
      have cm := ref01_Cmp (G := G) J (z := z2) (y := y) (a := R * 2 + 1) (b := b) (by omega) (by omega)
      have sn := boxed_snap h
      have rc := boxed_reach h
      by_cases c3 : R * 2 + 1 < b
      · have c4 : ¬ 0 ≤ cmpN (R * 2 + 1) b := by have := cmpN_neg.2 c3; omega
        have fin := quo_loop J (z := z) (y := y) ha hb hN hbl i _ l z2 (2 * Q) (R * 2 + 1) (by omega) HB dL hl c3 (by rw [hbd, Nat.mul_add, ← Nat.mul_assoc]; omega) (by rw [hv, Nat.pow_succ, Nat.mul_comm 2 Q, Nat.mul_assoc, Nat.mul_comm 2])
        clear he hv hbd s1 s2 s3
        simp only [boxed] at fin
        repeat (first | (simp (maxSteps := 1000000) only [seval, evB, c_ref01_QuoRem_b1, c1, u1, u2, c2, sn, u3, rc, frz_own, cm, c4]) | (simp (disch := omega) only [dsB]))
        exact fin
      · have c4 : 0 ≤ cmpN (R * 2 + 1) b := by
          have : ¬ cmpN (R * 2 + 1) b < 0 := fun hh => c3 (cmpN_neg.1 hh)
          omega
        obtain ⟨z3, u4⟩ := ref01_Sub (G := G) J (z := z2) (y := y) (a := R * 2 + 1) (b := b) (by omega) (by omega)
        have st := store_n HB (i := i / 32) (x := dg l (i / 32) + 2 ^ (i % 32)) hi32
        have ld := load_own (G := G) HB hi32
        have fin := quo_loop J (z := z) (y := y) ha hb hN hbl i _ _ z3 (2 * Q + 1) (R * 2 + 1 - b) (by omega) (HB.put (l.set (i / 32) (dg l (i / 32) + 2 ^ (i % 32)))) (Dg_set dL s2) (by rw [List.length_set]; exact hl) (by omega) (by
          rw [hbd, Nat.add_mul, Nat.one_mul, Nat.mul_add, ← Nat.mul_assoc]; omega) s3
        clear he hv hbd s1 s2 s3
        simp only [boxed] at fin st ld
        repeat (first | (simp (maxSteps := 1000000) only [seval, evB, c_ref01_QuoRem_b1, c1, u1, u2, c2, sn, u3, rc, frz_own, cm, c4, u4, w1, w2, w3, w4, w5, st, ld]) | (simp (disch := omega) only [dsB]))
        exact fin
    · obtain rfl : t = 0 := by omega
      have c2 : ¬ (((0 : Nat) : Int)) = 1 := by decide
      have cm := ref01_Cmp (G := G) J (z := z1) (y := y) (a := R * 2) (b := b) (by omega) (by omega)
      by_cases c3 : R * 2 < b
      · have c4 : ¬ 0 ≤ cmpN (R * 2) b := by have := cmpN_neg.2 c3; omega
        have fin := quo_loop J (z := z) (y := y) ha hb hN hbl i _ l z1 (2 * Q) (R * 2) (by omega) H dL hl c3 (by rw [hbd, Nat.mul_add, ← Nat.mul_assoc]; omega) (by rw [hv, Nat.pow_succ, Nat.mul_comm 2 Q, Nat.mul_assoc, Nat.mul_comm 2])
        clear he hv hbd s1 s2 s3
        repeat (first | (simp (maxSteps := 1000000) only [seval, evB, c_ref01_QuoRem_b1, c1, u1, u2, c2, cm, c4]) | (simp (disch := omega) only [dsB]))
        exact fin
      · have c4 : 0 ≤ cmpN (R * 2) b := by
          have : ¬ cmpN (R * 2) b < 0 := fun hh => c3 (cmpN_neg.1 hh)
          omega
        obtain ⟨z3, u4⟩ := ref01_Sub (G := G) J (z := z1) (y := y) (a := R * 2) (b := b) (by omega) (by omega)
        have st := store_n H (i := i / 32) (x := dg l (i / 32) + 2 ^ (i % 32)) hi32
        have ld := load_own (G := G) H hi32
        have fin := quo_loop J (z := z) (y := y) ha hb hN hbl i _ _ z3 (2 * Q + 1) (R * 2 - b) (by omega) (H.put (l.set (i / 32) (dg l (i / 32) + 2 ^ (i % 32)))) (Dg_set dL s2) (by rw [List.length_set]; exact hl) (by omega) (by
          rw [hbd, Nat.add_mul, Nat.one_mul, Nat.mul_add, ← Nat.mul_assoc]; omega) s3
        clear he hv hbd s1 s2 s3
        repeat (first | (simp (maxSteps := 1000000) only [seval, evB, c_ref01_QuoRem_b1, c1, u1, u2, c2, cm, c4, u4, w1, w2, w3, w4, w5, st, ld]) | (simp (disch := omega) only [dsB]))
        exact fin
theorem ref01_QuoRem (J : Al G T g) {a b : Nat} {z y : Bool} (ha : (dl a).length < 8589934592) (hb : 0 < b) (hbl : (dl b).length < 8589934592) :
    ∃ z1 z2, run G T 79 [D z (dl a), D y (dl b)] = some (.tup [D z1 (dl (a / b)), D z2 (dl (a % b))]) := by
  by_cases hb1 : (dl b).length = 1
  · have e1 : b < 4294967296 := by have := dl_len.1 (Nat.le_of_eq hb1); simpa using this
    have hd0 : dl b = [b] := by rw [dl_pos (by omega), Nat.mod_eq_of_lt e1, Nat.div_eq_of_lt e1, dl_zero]
    obtain ⟨z1, z2, hz⟩ := ref01_byDigit (G := G) J (z := z) (a := a) (d := b) hb e1 (by omega)
    have hdb : dg (dl b) 0 = b := by rw [hd0]; rfl
    have hb1' : ((dl b).length : Int) = 1 := by omega
    refine ⟨z1, z2, ?_⟩
    rw [run_k G T J.B.ref01_QuoRem]
    clear ha hbl
    repeat' (first | (simp (maxSteps := 1000000) only [seval, evB, exB, c_ref01_QuoRem, hb1', hdb, hz]) | (simp (maxSteps := 1000000) (disch := first | with_reducible assumption | omega) only [dxB]) | (simp only [kI_d, kG_dt, kG_df]; split) | (simp only [kI_v, kG_vt, kG_vf]; split))
  · have hb2 : ¬ ((dl b).length : Int) = 1 := by omega
    have l1 := ref01_Len (G := G) J (z := z) (a := a) (by omega)
    have l2 := ref01_Len (G := G) J (z := y) (a := b) (by omega)
    obtain ⟨L, hL⟩ : ∃ L, L = blen a + 1 - blen b := ⟨_, rfl⟩
    have hla := dl_len_blen a
    have hlb := dl_len_blen b
    have hbp := blen_pos (n := b) (by omega)
    have ww1 : IntKind.i64.wrap ((blen a : Int) - (blen b : Int)) = (blen a : Int) - (blen b : Int) := wrap_i64 (by omega)
    have ww2 : IntKind.i64.wrap ((blen a : Int) - (blen b : Int) + 1) = (blen a : Int) - (blen b : Int) + 1 := wrap_i64 (by omega)
    have ww3 : IntKind.i64.wrap ((L : Int) - 1) = (L : Int) - 1 := wrap_i64 (by omega)
    have e1 : max (0 : Int) ((blen a : Int) - (blen b : Int) + 1) = (L : Int) := by omega
    obtain ⟨z3, hd⟩ := ref01_Down (G := G) J (z := z) (a := a) (n := L) (by omega) (by omega)
    have hR : a / 2 ^ L < b := by
      have h1 := blen_div a L
      have h2 := blen_pos (n := b) (by omega)
      have h3 : a / 2 ^ L < 2 ^ (blen b - 1) := blen_le.1 (by omega)
      exact Nat.lt_of_lt_of_le h3 (pow_blen_le (by omega))
    have H0 := Holds_new FreH.nil (List.replicate (dl a).length 0)
    obtain ⟨_, hr, e, h', l', zr', R', rfl, H, dL, hl, hR', he⟩ := quo_loop (G := G) (z := z) (y := y) (a := a) (b := b) (N := (dl a).length) J (by omega) hb rfl (by omega) L (new .nil (List.replicate (dl a).length 0)) (List.replicate (dl a).length 0) z3 0 (a / 2 ^ L) (by omega) H0 (Dg_rep _) (List.length_replicate ..) hR (by rw [Nat.zero_mul, Nat.zero_add]) (by rw [val_rep, Nat.zero_mul])
    obtain ⟨k1, k2⟩ := divmod_of hR' he
    have hsn := snap_own H (n := (dl a).length) (by omega)
    rw [← hl, List.take_length, hl] at hsn
    obtain ⟨z1, hz1⟩ := ref01_Trim (G := G) J (z := false) dL (by omega)
    refine ⟨z1, zr', ?_⟩
    rw [← k1, ← k2, run_k G T J.B.ref01_QuoRem]
    simp only [nilb, List.length_nil] at hr hsn
    clear hR hR' he k1 k2 hL hla hlb hbp
    repeat' (first | (simp (maxSteps := 1000000) only [seval, evB, exB, c_ref01_QuoRem, hb2, l1, l2, e1, hd, hr, hsn, hz1, mm_max2, ww1, ww2, ww3]) | (simp (maxSteps := 1000000) (disch := first | with_reducible assumption | omega) only [dxB]) | (simp only [kI_d, kG_dt, kG_df]; split) | (simp only [kI_v, kG_vt, kG_vf]; split))
theorem dyad_asked (J : Al G T g) {n : Nat} (h : 1 ≤ n ∧ n ≤ 8192) : run G T 75 [.int .i64 (n : Int)] = some (.int .i64 0) := by
  rw [run_k G T J.C.dyad_asked]
  have c1 : ¬ (n : Int) < 1 := by omega
  have c2 : ¬ (8192 : Int) < (n : Int) := by omega
  repeat' (first | (simp (maxSteps := 1000000) only [seval, evB, exB, c_dyad_asked, c1, c2]) | (simp (maxSteps := 1000000) (disch := first | with_reducible assumption | omega) only [dxB]) | (simp only [kI_d, kG_dt, kG_df]; split) | (simp only [kI_v, kG_vt, kG_vf]; split))
theorem ref02_Cut (J : Al G T g) {z : Bool} {d : Dy} {k s : Nat} (hs : (dl d.m).length < 17179869183) (he : -274877906944 < d.e ∧ d.e < 274877906944) (hk : blen d.m = k + s) (h0 : 0 < s) (hkk : k < 8192) (hb : blen d.m < 274877906944) :
    ∃ z', run G T 80 [DyA z d, .int .i64 (k : Int)] = some (.tup [DyA z' (mkD d.n (d.m / 2 ^ s) (d.e + s)), .bool (!decide (d.m % 2 ^ s = 0))]) := by
  obtain ⟨n, m, e⟩ := d
  simp only at *
  have l1 := ref01_Len (G := G) J (z := z) (a := m) (by omega)
  obtain ⟨z1, h1⟩ := ref01_Down (G := G) J (z := z) (a := m) (n := s) (by omega) (by omega)
  have hlen : (dl (m / 2 ^ s)).length < 17179869184 := by
    have h1 := blen_mono (Nat.div_le_self m (2 ^ s))
    have h2 := dl_len_blen (m / 2 ^ s)
    omega
  obtain ⟨z2, h2⟩ := ref02_Form (G := G) J (n := n) (z := z1) (a := m / 2 ^ s) (e := e + s) hlen (by omega)
  have w1 : ((blen m : Nat) : Int) - (k : Int) = (s : Int) := by omega
  have w2 : ¬ (s : Int) ≤ 0 := by omega
  have w3 : IntKind.i64.wrap (e + (s : Int)) = e + s := wrap_i64 (by omega)
  refine ⟨z2, ?_⟩
  rw [run_k G T J.C.ref02_Cut]
  clear hlen hk
  simp only [DyA, A3] at *
  repeat' (first | (simp (maxSteps := 1000000) only [seval, evB, exB, c_ref02_Cut, l1, w1, w2, w3, h1, h2]) | (simp (maxSteps := 1000000) (disch := first | with_reducible assumption | omega) only [dxB]) | (simp only [kI_d, kG_dt, kG_df]; split) | (simp only [kI_v, kG_vt, kG_vf]; split))
theorem dyad_made (J : Al G T g) {z n more : Bool} {q k s : Nat} {e : Int} (hm : mayL (dl q) = true) (hk : blen q = k + s) (h0 : 0 < s) (he : -16000000 < e ∧ e < 16000000) :
    ∃ z', run G T 78 [.bool n, D z (dl q), .int .i64 e, .bool more, .int .i64 (k : Int)] = some (.tup [DyA z' (mkD n (q / 2 ^ s) (e + s)), .bool (!decide (q % 2 ^ s = 0) || more), .int .i64 0]) := by
  have hb := may_blen hm
  have l1 := nat_Len (G := G) J (z := z) hm
  obtain ⟨z1, h1⟩ := nat_Shift_down (G := G) J (z := z) (a := q) (n := s) hm h0 (by omega)
  have hbd := blen_div q s
  have hm2 : mayL (dl (q / 2 ^ s)) = true := mayL_small (by omega)
  have htz : tz (q / 2 ^ s) ≤ 131072 ∨ q / 2 ^ s = 0 := by
    by_cases hz : q / 2 ^ s = 0
    · exact Or.inr hz
    · left; have := tz_blen hz; omega
  obtain ⟨z2, h2⟩ := dyad_Make (G := G) J (n := n) (z := z1) (a := q / 2 ^ s) (e := e + s) hm2 (by
    rcases htz with h | h
    · right; omega
    · left; exact h) (by omega)
  have w1 : max (0 : Int) ((blen q : Int) - (k : Int)) = (s : Int) := by omega
  have w2 : (0 : Int) - (s : Int) = -(s : Int) := by omega
  have w3 : IntKind.i64.wrap (e + (s : Int)) = e + s := wrap_i64 (by omega)
  have w4 : IntKind.i64.wrap ((blen q : Int) - (k : Int)) = (blen q : Int) - (k : Int) := wrap_i64 (by omega)
  have w5 : IntKind.i64.wrap (-(s : Int)) = -(s : Int) := wrap_i64 (by omega)
  refine ⟨z2, ?_⟩
  rw [run_k G T J.C.dyad_made]
  clear hm2 htz hbd hk hb hm
  simp only [DyA, A3] at *
  generalize decide (q % 2 ^ s = 0) = o at *
  cases o <;> cases more <;> repeat' (first | (simp (maxSteps := 1000000) only [seval, evB, exB, c_dyad_made, l1, w1, w2, w3, w4, w5, mm_max2, h1, h2]) | (simp (maxSteps := 1000000) (disch := first | with_reducible assumption | omega) only [dxB]) | (simp only [kI_d, kG_dt, kG_df]; split) | (simp only [kI_v, kG_vt, kG_vf]; split))
def quoN (k a b : Nat) : Nat := k + 1 + blen b - blen a
theorem quo_blen {k a b : Nat} (ha : a ≠ 0) (hb : b ≠ 0) : k < blen (a * 2 ^ quoN k a b / b) := by
  rw [lt_blen]
  have h1 : 2 ^ k * b ≤ a * 2 ^ quoN k a b := by
    have e1 := lt_pow_blen b
    have e2 := pow_blen_le ha
    have e3 := blen_pos ha
    calc 2 ^ k * b ≤ 2 ^ k * 2 ^ blen b := Nat.mul_le_mul_left _ (Nat.le_of_lt e1)
      _ = 2 ^ (k + blen b) := (Nat.pow_add ..).symm
      _ ≤ 2 ^ (blen a - 1 + quoN k a b) := Nat.pow_le_pow_right (by decide) (by unfold quoN; omega)
      _ = 2 ^ (blen a - 1) * 2 ^ quoN k a b := Nat.pow_add ..
      _ ≤ a * 2 ^ quoN k a b := Nat.mul_le_mul_right _ e2
  exact (Nat.le_div_iff_mul_le (by omega)).2 h1
theorem div_cut {Q t S : Nat} (h : t ≤ S) : Q / 2 ^ t / 2 ^ (S - t) = Q / 2 ^ S := by
  rw [Nat.div_div_eq_div_mul, ← Nat.pow_add, show t + (S - t) = S by omega]
theorem mod_cut {Q t S : Nat} (h : t ≤ S) (ht : Q % 2 ^ t = 0) : Q / 2 ^ t % 2 ^ (S - t) = 0 ↔ Q % 2 ^ S = 0 := by
  have := mod_mod_pow Q t (S - t)
  rw [show t + (S - t) = S by omega] at this
  rw [this]; exact ⟨fun h2 => ⟨ht, h2⟩, fun h2 => h2.2⟩
theorem mkD_cut {n : Bool} {Q t S : Nat} {e : Int} (h : Q ≠ 0) (h2 : Q / 2 ^ t ≠ 0) (ht : Q % 2 ^ t = 0) : mkD n (Q / 2 ^ t) (e + t) = mkD n Q e := by
  have e1 : Q = Q / 2 ^ t * 2 ^ t := by
    have := Nat.div_add_mod Q (2 ^ t)
    rw [ht, Nat.add_zero, Nat.mul_comm] at this; exact this.symm
  have e2 : tz Q = tz (Q / 2 ^ t) + t := by
    conv => lhs; rw [e1]
    exact tz_mul h2 t
  rw [mkD_pos h, mkD_pos h2, e2, Nat.div_div_eq_div_mul, ← Nat.pow_add, Nat.add_comm t]
  congr 1; omega
theorem ref02_Cut_no (J : Al G T g) {z : Bool} {d : Dy} {k : Nat} (hs : (dl d.m).length < 17179869183) (hk : blen d.m ≤ k) (hkk : k < 8192) :
    run G T 80 [DyA z d, .int .i64 (k : Int)] = some (.tup [DyA z d, .bool false]) := by
  obtain ⟨n, m, e⟩ := d
  simp only at *
  have l1 := ref01_Len (G := G) J (z := z) (a := m) (by omega)
  have w2 : ((blen m : Nat) : Int) - (k : Int) ≤ 0 := by omega
  have w4 : IntKind.i64.wrap ((blen m : Int) - (k : Int)) = (blen m : Int) - (k : Int) := wrap_i64 (by omega)
  rw [run_k G T J.C.ref02_Cut]
  clear hs hk
  simp only [DyA, A3] at *
  repeat' (first | (simp (maxSteps := 1000000) only [seval, evB, exB, c_ref02_Cut, l1, w2, w4]) | (simp (maxSteps := 1000000) (disch := first | with_reducible assumption | omega) only [dxB]) | (simp only [kI_d, kG_dt, kG_df]; split) | (simp only [kI_v, kG_vt, kG_vf]; split))
theorem form_cut (J : Al G T g) {n z : Bool} {Q k S : Nat} {e : Int} (hl : (dl Q).length < 1048576) (hS : blen Q = k + S) (h0 : 0 < S) (hk0 : 0 < k) (hk : k < 8192) (he : -68719476736 < e ∧ e < 68719476736) :
    ∃ z', run G T 80 [DyA z (mkD n Q e), .int .i64 (k : Int)] = some (.tup [DyA z' (mkD n (Q / 2 ^ S) (e + S)), .bool (!decide (Q % 2 ^ S = 0))]) := by
  have hQ : Q ≠ 0 := by rintro rfl; rw [blen_zero] at hS; omega
  have hl2 := dl_len_blen Q
  have t1 := (tz_spec hQ).1
  have tm : Q % 2 ^ tz Q = 0 := by
    have := Nat.mul_mod_left (Q / 2 ^ tz Q) (2 ^ tz Q)
    rw [← t1] at this; exact this
  have tb := tz_blen hQ
  have bd := blen_div Q (tz Q)
  have ld := dl_len_blen (Q / 2 ^ tz Q)
  have bS := blen_div Q S
  have hQS : Q / 2 ^ S ≠ 0 := by intro hc; rw [hc, blen_zero] at bS; omega
  rcases Nat.lt_or_ge (tz Q) S with h | h
  · obtain ⟨z', hc⟩ := ref02_Cut (G := G) J (z := z) (d := mkD n Q e) (k := k) (s := S - tz Q) (by rw [mkD_pos hQ]; simp only; omega) (by rw [mkD_pos hQ]; simp only; omega) (by rw [mkD_pos hQ]; simp only; omega) (by omega) hk (by rw [mkD_pos hQ]; simp only; omega)
    refine ⟨z', ?_⟩
    rw [hc, mkD_pos hQ]
    simp only
    rw [div_cut (Nat.le_of_lt h), show e + (tz Q : Int) + ((S - tz Q : Nat) : Int) = e + S by omega]
    congr 4
    simp only [mod_cut (Nat.le_of_lt h) tm]
  · have hm : Q % 2 ^ S = 0 := by
      have e1 := mod_mod_pow Q S (tz Q - S)
      rw [show S + (tz Q - S) = tz Q by omega] at e1
      exact (e1.1 tm).1
    have hc := ref02_Cut_no (G := G) J (z := z) (d := mkD n Q e) (k := k) (by rw [mkD_pos hQ]; simp only; omega) (by rw [mkD_pos hQ]; simp only; omega) hk
    refine ⟨z, ?_⟩
    rw [hc, mkD_cut (t := S) (S := 0) hQ hQS hm, hm]; rfl
theorem ref02_Quo (J : Al G T g) {z y : Bool} {a b : Dy} {k S : Nat} (ha : a.m ≠ 0) (hb : b.m ≠ 0) (la : blen a.m < 1048576) (lb : blen b.m < 1048576) (hk0 : 0 < k) (hk : k < 8192)
    (ea : -17179869184 < a.e ∧ a.e < 17179869184) (eb : -17179869184 < b.e ∧ b.e < 17179869184) (hS : blen (a.m * 2 ^ quoN k a.m b.m / b.m) = k + S) :
    ∃ z', run G T 41 [DyA z a, DyA y b, .int .i64 (k : Int)] = some (.tup [DyA z' (mkD (a.n != b.n) (a.m * 2 ^ quoN k a.m b.m / b.m / 2 ^ S) (a.e - b.e - (quoN k a.m b.m : Nat) + S)),
      .bool (!decide (a.m * 2 ^ quoN k a.m b.m / b.m % 2 ^ S = 0) || !decide (a.m * 2 ^ quoN k a.m b.m % b.m = 0))]) := by
  have hqb := quo_blen (k := k) ha hb
  obtain ⟨n, m, e⟩ := a
  obtain ⟨n', m', e'⟩ := b
  simp only at *
  have d1 := dl_len_blen m
  have d2 := dl_len_blen m'
  have l1 := ref01_Len (G := G) J (z := z) (a := m) (by omega)
  have l2 := ref01_Len (G := G) J (z := y) (a := m') (by omega)
  have hN2 : quoN k m m' = k + 1 + blen m' - blen m := rfl
  generalize quoN k m m' = N at *
  obtain ⟨z1, h1⟩ := ref01_Up (G := G) J (z := z) (a := m) (n := N) (by omega) (by omega)
  have bm := blen_mul ha N
  have d3 := dl_len_blen (m * 2 ^ N)
  obtain ⟨z2, z3, h2⟩ := ref01_QuoRem (G := G) J (z := z1) (y := y) (a := m * 2 ^ N) (b := m') (by omega) (by omega) (by omega)
  have bq := blen_mono (Nat.div_le_self (m * 2 ^ N) m')
  have d4 := dl_len_blen (m * 2 ^ N / m')
  have hrl : decide ((0 : Int) < ((dl (m * 2 ^ N % m')).length : Int)) = !decide (m * 2 ^ N % m' = 0) := by
    rw [← decide_not]; refine decide_eq_decide.2 ?_
    rw [← dl_len0]; omega
  generalize m * 2 ^ N / m' = Q at *
  generalize m * 2 ^ N % m' = R at *
  obtain ⟨z4, h3⟩ := ref02_Form (G := G) J (n := n != n') (z := z2) (a := Q) (e := e - e' - N) (by omega) (by omega)
  obtain ⟨z5, h4⟩ := form_cut (G := G) J (n := n != n') (z := z4) (Q := Q) (k := k) (S := S) (e := e - e' - N) (by omega) hS (by omega) hk0 hk (by omega)
  have c1 : ¬ ((dl m).length : Int) = 0 := fun hc => ha (dl_len0.1 (by omega))
  refine ⟨z5, ?_⟩
  have hne : (n != n') = !decide (n = n') := by cases n <;> cases n' <;> rfl
  rw [hne] at h3 h4 ⊢
  rw [run_k G T J.C.ref02_Quo]
  simp only [DyA, A3] at *
  have wa : IntKind.i64.wrap ((k : Int) + 1) = (k : Int) + 1 := wrap_i64 (by omega)
  have wb : IntKind.i64.wrap ((k : Int) + 1 + (blen m' : Int)) = (k : Int) + 1 + (blen m' : Int) := wrap_i64 (by omega)
  have wc : IntKind.i64.wrap ((k : Int) + 1 + (blen m' : Int) - (blen m : Int)) = (k : Int) + 1 + (blen m' : Int) - (blen m : Int) := wrap_i64 (by omega)
  have wd : IntKind.i64.wrap (e - e') = e - e' := wrap_i64 (by omega)
  have we : IntKind.i64.wrap (e - e' - (N : Int)) = e - e' - N := wrap_i64 (by omega)
  have hN3 : ((k : Int) + 1 + (blen m' : Int) - (blen m : Int) < 0 ∧ N = 0) ∨ (¬ ((k : Int) + 1 + (blen m' : Int) - (blen m : Int) < 0) ∧ (k : Int) + 1 + (blen m' : Int) - (blen m : Int) = N) := by omega
  clear d1 d2 d3 d4 bm bq hqb hS hN2
  generalize decide (Q % 2 ^ S = 0) = o at *
  rcases hN3 with ⟨c3, rfl⟩ | ⟨c3, wN⟩
  · simp only [cast0, Nat.pow_zero, Nat.mul_one] at h1 h2 we h3 h4 ⊢
    cases o <;> (repeat' (first | (simp (maxSteps := 1000000) only [seval, evB, exB, c_ref02_Quo, l1, l2, c1, c3, wa, wb, wc, wd, we, h1, h2, h3, h4, hrl]) | (simp (maxSteps := 1000000) (disch := first | with_reducible assumption | omega) only [dxB]) | (simp only [kI_d, kG_dt, kG_df]; split) | (simp only [kI_v, kG_vt, kG_vf]; split)); try rfl)
  · have c4 : ¬ (N : Int) < 0 := by omega
    rw [wN] at wc
    cases o <;> (repeat' (first | (simp (maxSteps := 1000000) only [seval, evB, exB, c_ref02_Quo, l1, l2, c1, c4, wN, wa, wb, wc, wd, we, h1, h2, h3, h4, hrl]) | (simp (maxSteps := 1000000) (disch := first | with_reducible assumption | omega) only [dxB]) | (simp only [kI_d, kG_dt, kG_df]; split) | (simp only [kI_v, kG_vt, kG_vf]; split)); try rfl)
theorem both_loop (e : Env) (h : Heap) : evL G T c_dyad_both_l1 e h = kS G T (evL G T c_dyad_both_b1 (keepE [5, 6, 7] e) h) c_dyad_both_l1 := s_loopc G T rfl e h
theorem dyad_both (J : Al G T g) {n z n' z' : Bool} {l l' : List Nat} (hd : Dg l) (hd' : Dg l') {e e' : Int} :
    run G T 74 [.imm 2 [.bool n, D z l, .int .i64 e, .bool n', D z' l', .int .i64 e']] = some (.bool (mayD n l e && mayD n' l' e')) := by
  rw [run_k G T J.C.dyad_both]
  have h2 := dyad_May J (n := n) (z := z) hd (e := e)
  have h3 := dyad_May J (n := n') (z := z') hd' (e := e')
  simp only [A3] at *
  cases hm : mayD n l e <;> cases hm' : mayD n' l' e' <;> (
    rw [hm] at h2
    rw [hm'] at h3
    repeat' (first | (simp (maxSteps := 1000000) only [seval, evB, exB, c_dyad_both, h2, h3, both_loop, c_dyad_both_b1, iad20, iad21, rd_ip]) | (simp (maxSteps := 1000000) (disch := first | with_reducible assumption | omega) only [dxB]) | (simp only [kI_d, kG_dt, kG_df]; split) | (simp only [kI_v, kG_vt, kG_vf]; split))
    all_goals rfl)
theorem dyad_Quo (J : Al G T g) {z y : Bool} {a b : Dy} {k S : Nat} (da : mayD a.n (dl a.m) a.e = true) (db : mayD b.n (dl b.m) b.e = true)
    (ha : a.m ≠ 0) (hb : b.m ≠ 0) (hk : 1 ≤ k ∧ k ≤ 8192) (hw : quoN k a.m b.m + blen a.m ≤ 131072) (ea : -4000000 < a.e ∧ a.e < 4000000) (eb : -4000000 < b.e ∧ b.e < 4000000)
    (hS : blen (a.m * 2 ^ quoN k a.m b.m / b.m) = k + S) :
    ∃ z', run G T 40 [DyA z a, DyA y b, .int .i64 (k : Int)] = some (.tup [DyA z' (mkD (a.n != b.n) (a.m * 2 ^ quoN k a.m b.m / b.m / 2 ^ S) (a.e - b.e - (quoN k a.m b.m : Nat) + S)),
      .bool (!decide (a.m * 2 ^ quoN k a.m b.m / b.m % 2 ^ S = 0) || !decide (a.m * 2 ^ quoN k a.m b.m % b.m = 0)), .int .i64 0]) := by
  have hqb := quo_blen (k := k) ha hb
  have ma := (mayD_facts da).1
  have mb := (mayD_facts db).1
  obtain ⟨n, m, e⟩ := a
  obtain ⟨n', m', e'⟩ := b
  simp only at *
  have b0 := dyad_both J (n := n) (z := z) (n' := n') (z' := y) (Dg_dl m) (Dg_dl m') (e := e) (e' := e')
  rw [da, db, Bool.and_self] at b0
  have a0 := dyad_asked J hk
  have l1 := nat_Len J (z := z) ma
  have l2 := nat_Len J (z := y) mb
  have bm := may_blen ma
  have bm' := may_blen mb
  have hN2 : quoN k m m' = k + 1 + blen m' - blen m := rfl
  generalize quoN k m m' = N at *
  obtain ⟨z1, h1⟩ := nat_Shift_up J (z := z) (a := m) (n := N) ma (Or.inr hw) (by omega)
  have bN := blen_mul ha N
  have mN : mayL (dl (m * 2 ^ N)) = true := mayL_small (by omega)
  obtain ⟨z2, z3, h2⟩ := nat_QuoRem J (z := z1) (y := y) (a := m * 2 ^ N) (b := m') mN mb hb
  have bq := blen_mono (Nat.div_le_self (m * 2 ^ N) m')
  have mq : mayL (dl (m * 2 ^ N / m')) = true := mayL_small (by omega)
  have hrl : decide ((0 : Int) < ((dl (m * 2 ^ N % m')).length : Int)) = !decide (m * 2 ^ N % m' = 0) := by
    rw [← decide_not]; refine decide_eq_decide.2 ?_
    rw [← dl_len0]; omega
  generalize m * 2 ^ N / m' = Q at *
  generalize m * 2 ^ N % m' = R at *
  obtain ⟨z5, h4⟩ := dyad_made J (n := n != n') (z := z2) (more := !decide (R = 0)) (q := Q) (k := k) (s := S) (e := e - e' - N) mq hS (by omega) (by omega)
  have c1 : ¬ ((dl m).length : Int) = 0 := fun hc => ha (dl_len0.1 (by omega))
  have c2 : ¬ ((dl m').length : Int) = 0 := fun hc => hb (dl_len0.1 (by omega))
  refine ⟨z5, ?_⟩
  have hne : (n != n') = !decide (n = n') := by cases n <;> cases n' <;> rfl
  rw [hne] at h4 ⊢
  rw [run_k G T J.C.dyad_Quo]
  simp only [DyA, A3] at *
  have c3 : ¬ (k : Int) < 1 := by omega
  have wa : IntKind.i64.wrap ((k : Int) + 1) = (k : Int) + 1 := wrap_i64 (by omega)
  have wb : IntKind.i64.wrap ((k : Int) + 1 + (blen m' : Int)) = (k : Int) + 1 + (blen m' : Int) := wrap_i64 (by omega)
  have wc : IntKind.i64.wrap ((k : Int) + 1 + (blen m' : Int) - (blen m : Int)) = (k : Int) + 1 + (blen m' : Int) - (blen m : Int) := wrap_i64 (by omega)
  have wd : IntKind.i64.wrap (e - e') = e - e' := wrap_i64 (by omega)
  have we : IntKind.i64.wrap (e - e' - (N : Int)) = e - e' - N := wrap_i64 (by omega)
  have wm : max (0 : Int) ((k : Int) + 1 + (blen m' : Int) - (blen m : Int)) = N := by omega
  have wf : IntKind.i64.wrap (131072 - (blen m : Int)) = 131072 - (blen m : Int) := wrap_i64 (by omega)
  have c4 : ¬ (131072 - (blen m : Int) < (N : Int)) := by omega
  clear bN mN bq mq hqb hS hN2 da db ma mb hw
  generalize decide (Q % 2 ^ S = 0) = o at *
  cases o <;> (repeat' (first | (simp (maxSteps := 1000000) only [seval, evB, exB, c_dyad_Quo, b0, a0, c1, c2, c3, c4, l1, l2, wa, wb, wc, wd, we, wf, wm, mm_max2, h1, h2, h4, hrl]) | (simp (maxSteps := 1000000) (disch := first | with_reducible assumption | omega) only [dxB]) | (simp only [kI_d, kG_dt, kG_df]; split) | (simp only [kI_v, kG_vt, kG_vf]; split)); try rfl)
end Go.Cv
