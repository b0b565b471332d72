/-
  A part of the proof of the statements of this seat (texts that the law's own text leans on): no condition.
-/
import Derived.Test.YtcedpdogncohfaaGreatDoorM8
import Derived.Test.YtcedpdogncohfaaGreatDoorM6
set_option linter.unusedVariables false
set_option linter.unusedSimpArgs false
namespace Go.Cv
variable {G : Nat → Option (List AV)} {T : Tbl} {g : Nat}
theorem cmp_loop (h : Heap) (a b : List Nat) (z y : Bool) (ha : Dg a) (hb : Dg b) (hs : a.length < 1099511627776) (hl : a.length = b.length) : ∀ n : Nat, n ≤ a.length → val (a.drop n) = val (b.drop n) →
    Post (evL G T c_nat_cmp_l1 [(0, D z a), (1, D y b), (5, .int .i64 ((n : Int) - 1))] h) fun r =>
      (∃ e, r = (.exit 1, e, h) ∧ val a = val b) ∨ r = (.ret, [(4, .int .i64 (cmpN (val a) (val b)))], h) ∧ val a ≠ val b
  | 0, hn, he => by
    rw [s_loopc G T (c := c_nat_cmp_l1) rfl]
    repeat (first | (simp (maxSteps := 9^7) only [seval, evB, c_nat_cmp_b1, cast0, Int.zero_sub]) | (simp (disch := omega) only [dsB]))
    exact Post.some (Or.inl ⟨_, rfl, he⟩)
  | n + 1, hn, he => by
    rw [s_loopc G T (c := c_nat_cmp_l1) rfl]
    have e1 : ((n + 1 : Nat) : Int) - 1 = n := by omega
    have h0 : (0 : Int) ≤ n := by omega
    by_cases h1 : (dg a n : Int) = dg b n
    · repeat (first | (simp (maxSteps := 9^7) only [seval, evB, c_nat_cmp_b1, e1, h0, h1]) | (simp (disch := omega) only [dsB]))
      refine cmp_loop h a b z y ha hb hs hl n (by omega) ?_
      rw [drop_cons (l := a) (i := n) (by omega), drop_cons (l := b) (i := n) (by omega), val_cons, val_cons, he]; omega
    · by_cases h2 : (dg a n : Int) < dg b n
      · repeat (first | (simp (maxSteps := 9^7) only [seval, evB, c_nat_cmp_b1, e1, h0, h1, h2]) | (simp (disch := omega) only [dsB]))
        have := val_lt_at ha (n := n) (by omega) (by omega) he (by omega)
        exact Post.some (Or.inr ⟨by rw [cmpN_lt this], by omega⟩)
      · repeat (first | (simp (maxSteps := 9^7) only [seval, evB, c_nat_cmp_b1, e1, h0, h1, h2]) | (simp (disch := omega) only [dsB]))
        have := val_lt_at hb (n := n) (by omega) (by omega) he.symm (by omega)
        exact Post.some (Or.inr ⟨by rw [cmpN_gt this], by omega⟩)
theorem nat_cmp (J : Al G T g) {z y : Bool} {a b : Nat} (ha : (dl a).length < 1099511627776) (hb : (dl b).length < 1099511627776) :
    run G T 107 [D z (dl a), D y (dl b)] = some (.int .i64 (cmpN a b)) := by
  rw [run_k G T J.A.nat_cmp]
  by_cases h0 : ((dl a).length : Int) < (dl b).length
  · repeat (first | (simp (maxSteps := 9^7) only [seval, evB, c_nat_cmp, h0]) | (simp (disch := omega) only [dsB]))
    rw [cmpN_lt (dl_lt_len (by omega))]
  · by_cases h1 : ((dl b).length : Int) < (dl a).length
    · repeat (first | (simp (maxSteps := 9^7) only [seval, evB, c_nat_cmp, h0, h1]) | (simp (disch := omega) only [dsB]))
      rw [cmpN_gt (dl_lt_len (by omega))]
    · obtain ⟨r, hr, hp⟩ := cmp_loop (G := G) (T := T) .nil (dl a) (dl b) z y (Dg_dl a) (Dg_dl b) ha (by omega) (dl a).length (Nat.le_refl _)
        (by rw [List.drop_eq_nil_of_le (by omega), List.drop_eq_nil_of_le (by omega)])
      rw [val_dl, val_dl] at hp
      rcases hp with ⟨e, rfl, he⟩ | ⟨rfl, he⟩
      · repeat (first | (simp (maxSteps := 9^7) only [seval, evB, c_nat_cmp, h0, h1, hr]) | (simp (disch := omega) only [dsB]))
        rw [cmpN_eq he]
      · repeat (first | (simp (maxSteps := 9^7) only [seval, evB, c_nat_cmp, h0, h1, hr]) | (simp (disch := omega) only [dsB]))
theorem up_step {l : List Nat} {j q i c x d c' A S : Nat} (hl : l.length = j) (hj : j = q + i) (he : val l + 4294967296 ^ j * c = 4294967296 ^ q * S * A) (hd : d + 4294967296 * c' = c + x * S) :
    val (l ++ [d]) + 4294967296 ^ (j + 1) * c' = 4294967296 ^ q * S * (A + 4294967296 ^ i * x) := by
  subst hj
  rw [val_snoc, hl, Nat.pow_succ, Nat.mul_add, ← he]
  have e : 4294967296 ^ q * S * (4294967296 ^ i * x) = 4294967296 ^ (q + i) * (x * S) := by
    rw [Nat.pow_add]; simp only [Nat.mul_assoc, Nat.mul_left_comm, Nat.mul_comm]
  rw [e]
  generalize 4294967296 ^ (q + i) = p at *
  have : p * d + p * 4294967296 * c' = p * c + p * (x * S) := by rw [Nat.mul_assoc, ← Nat.mul_add, hd, Nat.mul_add]
  omega
theorem pow_cast (s : Nat) : ((2 : Int) ^ s) = ((2 ^ s : Nat) : Int) := by simp
theorem carry_lt {c x s : Nat} (hc : c < 2 ^ s) (hx : x < 4294967296) : (c + x * 2 ^ s) / 4294967296 < 2 ^ s := by
  have h2 : x * 2 ^ s ≤ 4294967295 * 2 ^ s := Nat.mul_le_mul (by omega) (Nat.le_refl _)
  generalize x * 2 ^ s = y at *
  generalize 2 ^ s = p at *
  omega
theorem strix_len {x : Nat} (hx : x < 256) : strixA c_strtab0 (.int .u8 (x : Int)) = some (.int .u8 ((blen x : Nat) : Int)) := by
  have key : ∀ x < 256, c_strtab0[x]? = some (blen x) := by decide +kernel
  simp only [strixA, Int.natCast_nonneg, if_true, Int.toNat_natCast, key x hx, Option.map_some]
theorem blen8 {x : Nat} (h : x < 256) : blen x ≤ 8 := blen_le.2 h
theorem bits_Len32 (J : Al G T g) {x : Nat} (hx : x < 4294967296) : run G T 88 [.int .u32 (x : Int)] = some (.int .i64 ((blen x : Nat) : Int)) := by
  rw [run_k G T J.A.bits_Len32]
  have d16 : (x : Int) / 65536 = ((x / 65536 : Nat) : Int) := by omega
  have d8 : (x : Int) / 256 = ((x / 256 : Nat) : Int) := by omega
  have d24 : ((x / 65536 : Nat) : Int) / 256 = ((x / 16777216 : Nat) : Int) := by omega
  have b16 := blen_div x 16
  have b8 := blen_div x 8
  have b24 := blen_div x 24
  have l16 := @lt_blen x 16
  have l8 := @lt_blen x 8
  have l24 := @lt_blen x 24
  simp only [Nat.reducePow] at b16 b8 b24 l16 l8 l24
  by_cases h1 : (65536 : Int) ≤ x
  · by_cases h2 : (256 : Int) ≤ ((x / 65536 : Nat) : Int)
    · have m : ((x / 16777216 : Nat) : Int) % 256 = ((x / 16777216 : Nat) : Int) := by omega
      have hb := blen8 (x := x / 16777216) (by omega)
      repeat (first | (simp (maxSteps := 9^7) only [seval, evB, c_bits_Len32, h1, h2, d16, d24, m, wrap_u8 ]) | (simp (disch := omega) only [dsB,  strix_len]))
      exact congrArg (fun n : Int => some (AV.int .i64 n)) (by omega)
    · have m : ((x / 65536 : Nat) : Int) % 256 = ((x / 65536 : Nat) : Int) := by omega
      have hb := blen8 (x := x / 65536) (by omega)
      repeat (first | (simp (maxSteps := 9^7) only [seval, evB, c_bits_Len32, h1, h2, d16, m, wrap_u8 ]) | (simp (disch := omega) only [dsB,  strix_len]))
      exact congrArg (fun n : Int => some (AV.int .i64 n)) (by omega)
  · by_cases h2 : (256 : Int) ≤ x
    · have m : ((x / 256 : Nat) : Int) % 256 = ((x / 256 : Nat) : Int) := by omega
      have hb := blen8 (x := x / 256) (by omega)
      repeat (first | (simp (maxSteps := 9^7) only [seval, evB, c_bits_Len32, h1, h2, d8, m, wrap_u8 ]) | (simp (disch := omega) only [dsB,  strix_len]))
      exact congrArg (fun n : Int => some (AV.int .i64 n)) (by omega)
    · have m : (x : Int) % 256 = (x : Int) := by omega
      have hb := blen8 (x := x) (by omega)
      repeat (first | (simp (maxSteps := 9^7) only [seval, evB, c_bits_Len32, h1, h2, m, wrap_u8 ]) | (simp (disch := omega) only [dsB,  strix_len]))
      exact congrArg (fun n : Int => some (AV.int .i64 n)) (by omega)
theorem bits_Len64 (J : Al G T g) {x : Nat} (hx : x < 18446744073709551616) : run G T 53 [.int .u64 (x : Int)] = some (.int .i64 ((blen x : Nat) : Int)) := by
  rw [run_k G T J.A.bits_Len64]
  have d0_8 : (x : Int) / 256 = ((x / 256 : Nat) : Int) := by omega
  have d0_16 : (x : Int) / 65536 = ((x / 65536 : Nat) : Int) := by omega
  have d16_8 : ((x / 65536 : Nat) : Int) / 256 = ((x / 16777216 : Nat) : Int) := by omega
  have d0_32 : (x : Int) / 4294967296 = ((x / 4294967296 : Nat) : Int) := by omega
  have d32_8 : ((x / 4294967296 : Nat) : Int) / 256 = ((x / 1099511627776 : Nat) : Int) := by omega
  have d32_16 : ((x / 4294967296 : Nat) : Int) / 65536 = ((x / 281474976710656 : Nat) : Int) := by omega
  have d48_8 : ((x / 281474976710656 : Nat) : Int) / 256 = ((x / 72057594037927936 : Nat) : Int) := by omega
  have b8 := blen_div x 8
  have l8 := @lt_blen x 8
  simp only [Nat.reducePow] at b8 l8
  have b16 := blen_div x 16
  have l16 := @lt_blen x 16
  simp only [Nat.reducePow] at b16 l16
  have b24 := blen_div x 24
  have l24 := @lt_blen x 24
  simp only [Nat.reducePow] at b24 l24
  have b32 := blen_div x 32
  have l32 := @lt_blen x 32
  simp only [Nat.reducePow] at b32 l32
  have b40 := blen_div x 40
  have l40 := @lt_blen x 40
  simp only [Nat.reducePow] at b40 l40
  have b48 := blen_div x 48
  have l48 := @lt_blen x 48
  simp only [Nat.reducePow] at b48 l48
  have b56 := blen_div x 56
  have l56 := @lt_blen x 56
  simp only [Nat.reducePow] at b56 l56
  by_cases h1 : (4294967296 : Int) ≤ (x : Int)
  · by_cases h2 : (65536 : Int) ≤ ((x / 4294967296 : Nat) : Int)
    · by_cases h3 : (256 : Int) ≤ ((x / 281474976710656 : Nat) : Int)
      · have m : ((x / 72057594037927936 : Nat) : Int) % 256 = ((x / 72057594037927936 : Nat) : Int) := by omega
        have hb := blen8 (x := x / 72057594037927936) (by omega)
        repeat (first | (simp (maxSteps := 9^7) only [seval, evB, c_bits_Len64, h1, h2, h3, d0_8, d0_16, d16_8, d0_32, d32_8, d32_16, d48_8, m, wrap_u8 ]) | (simp (disch := omega) only [dsB,  strix_len]))
        exact congrArg (fun n : Int => some (AV.int .i64 n)) (by omega)
      · have m : ((x / 281474976710656 : Nat) : Int) % 256 = ((x / 281474976710656 : Nat) : Int) := by omega
        have hb := blen8 (x := x / 281474976710656) (by omega)
        repeat (first | (simp (maxSteps := 9^7) only [seval, evB, c_bits_Len64, h1, h2, h3, d0_8, d0_16, d16_8, d0_32, d32_8, d32_16, d48_8, m, wrap_u8 ]) | (simp (disch := omega) only [dsB,  strix_len]))
        exact congrArg (fun n : Int => some (AV.int .i64 n)) (by omega)
    · by_cases h3 : (256 : Int) ≤ ((x / 4294967296 : Nat) : Int)
      · have m : ((x / 1099511627776 : Nat) : Int) % 256 = ((x / 1099511627776 : Nat) : Int) := by omega
        have hb := blen8 (x := x / 1099511627776) (by omega)
        repeat (first | (simp (maxSteps := 9^7) only [seval, evB, c_bits_Len64, h1, h2, h3, d0_8, d0_16, d16_8, d0_32, d32_8, d32_16, d48_8, m, wrap_u8 ]) | (simp (disch := omega) only [dsB,  strix_len]))
        exact congrArg (fun n : Int => some (AV.int .i64 n)) (by omega)
      · have m : ((x / 4294967296 : Nat) : Int) % 256 = ((x / 4294967296 : Nat) : Int) := by omega
        have hb := blen8 (x := x / 4294967296) (by omega)
        repeat (first | (simp (maxSteps := 9^7) only [seval, evB, c_bits_Len64, h1, h2, h3, d0_8, d0_16, d16_8, d0_32, d32_8, d32_16, d48_8, m, wrap_u8 ]) | (simp (disch := omega) only [dsB,  strix_len]))
        exact congrArg (fun n : Int => some (AV.int .i64 n)) (by omega)
  · by_cases h2 : (65536 : Int) ≤ (x : Int)
    · by_cases h3 : (256 : Int) ≤ ((x / 65536 : Nat) : Int)
      · have m : ((x / 16777216 : Nat) : Int) % 256 = ((x / 16777216 : Nat) : Int) := by omega
        have hb := blen8 (x := x / 16777216) (by omega)
        repeat (first | (simp (maxSteps := 9^7) only [seval, evB, c_bits_Len64, h1, h2, h3, d0_8, d0_16, d16_8, d0_32, d32_8, d32_16, d48_8, m, wrap_u8 ]) | (simp (disch := omega) only [dsB,  strix_len]))
        exact congrArg (fun n : Int => some (AV.int .i64 n)) (by omega)
      · have m : ((x / 65536 : Nat) : Int) % 256 = ((x / 65536 : Nat) : Int) := by omega
        have hb := blen8 (x := x / 65536) (by omega)
        repeat (first | (simp (maxSteps := 9^7) only [seval, evB, c_bits_Len64, h1, h2, h3, d0_8, d0_16, d16_8, d0_32, d32_8, d32_16, d48_8, m, wrap_u8 ]) | (simp (disch := omega) only [dsB,  strix_len]))
        exact congrArg (fun n : Int => some (AV.int .i64 n)) (by omega)
    · by_cases h3 : (256 : Int) ≤ (x : Int)
      · have m : ((x / 256 : Nat) : Int) % 256 = ((x / 256 : Nat) : Int) := by omega
        have hb := blen8 (x := x / 256) (by omega)
        repeat (first | (simp (maxSteps := 9^7) only [seval, evB, c_bits_Len64, h1, h2, h3, d0_8, d0_16, d16_8, d0_32, d32_8, d32_16, d48_8, m, wrap_u8 ]) | (simp (disch := omega) only [dsB,  strix_len]))
        exact congrArg (fun n : Int => some (AV.int .i64 n)) (by omega)
      · have m : (x : Int) % 256 = (x : Int) := by omega
        have hb := blen8 (x := x) (by omega)
        repeat (first | (simp (maxSteps := 9^7) only [seval, evB, c_bits_Len64, h1, h2, h3, d0_8, d0_16, d16_8, d0_32, d32_8, d32_16, d48_8, m, wrap_u8 ]) | (simp (disch := omega) only [dsB,  strix_len]))
        exact congrArg (fun n : Int => some (AV.int .i64 n)) (by omega)
theorem dl_len0 {a : Nat} : (dl a).length = 0 ↔ a = 0 := by rw [List.length_eq_zero_iff, dl_eq_nil]
theorem nat_Len (J : Al G T g) {z : Bool} {a : Nat} (hm : mayL (dl a) = true) : run G T 49 [D z (dl a)] = some (.int .i64 ((blen a : Nat) : Int)) := by
  rw [run_k G T J.A.nat_Len]
  have hl := (mayL_iff.1 hm).1
  by_cases h0 : ((dl a).length : Int) = 0
  · repeat (first | (simp (maxSteps := 9^7) only [seval, evB, c_nat_Len, nat_May J, hm, h0]) | (simp (disch := omega) only [dsB]))
    have e0 : a = 0 := dl_len0.1 (by omega)
    subst e0; rfl
  · have hd := (Dg_dl a).dg ((dl a).length - 1)
    have e := blen_dl (n := a) (by rintro rfl; exact h0 (by rw [dl_zero]; rfl))
    have h32 : blen (dg (dl a) ((dl a).length - 1)) ≤ 32 := blen_le.2 hd
    repeat (first | (simp (maxSteps := 9^7) only [seval, evB, c_nat_Len, nat_May J, hm, h0, bits_Len32 J hd]) | (simp (disch := omega) only [dsB]))
    exact congrArg (fun n : Int => some (AV.int .i64 n)) (by omega)
theorem and_one (x : Nat) : x &&& 1 = x % 2 := Nat.and_one_is_mod x
theorem ntz_at : ∀ k < 32, ntz32[2 ^ k * 125613361 % 4294967296 / 134217728]? = some k := by decide +kernel
theorem rd_ntz (J : Al G T g) (h : Mem) {k : Nat} (hk : k < 32) : rdAt G h 1 (.gptr g (2 ^ k * 125613361 % 4294967296 / 134217728)) = some [.int .u8 (k : Int)] := by
  have e := ntz_at k hk
  generalize 2 ^ k * 125613361 % 4294967296 / 134217728 = i at *
  have hi := (List.getElem?_eq_some_iff.1 e).1
  have e2 : (ntz32.map fun (d : Nat) => AV.int .u8 (d : Int))[i]? = some (.int .u8 (k : Int)) := by rw [List.getElem?_map, e]; rfl
  have hi2 := (List.getElem?_eq_some_iff.1 e2).1
  simp only [rdAt]
  rw [J.gl]
  simp only
  rw [if_pos (by omega), take_one _ _ hi2, (List.getElem?_eq_some_iff.1 e2).2]
def tzOps (g : Nat) (c : Int) : List IOper := [⟨some 5, .mov (.t 0), none⟩, ⟨some 6, .mov (.t 0), none⟩, ⟨some 7, .un .neg (.t 6), none⟩, ⟨some 8, .bin .and (.t 5) (.t 7), none⟩,
  ⟨some 9, .bin .mul (.t 8) (.c (.int .u32 c)), none⟩, ⟨some 10, .bin .shr (.t 9) (.c (.int .u64 27)), none⟩, ⟨some 11, .iaddrA 32 1 (.g g) (.t 10), none⟩,
  ⟨some 12, .load false 1 (.t 11), none⟩, ⟨some 13, .cvt .i64 (.t 12), none⟩, ⟨some 2, .mov (.t 13), none⟩]
theorem tz_region (c : Int) {x y p i k : Nat} (w1 : (0 - (x : Int)) % 4294967296 = (y : Int)) (w2 : andI .u32 (x : Int) (y : Int) = (p : Int))
    (w3 : mulW (p : Int) c / 134217728 = (i : Int)) (w5 : iaddrAV 32 1 (.gptr g 0) (.int .u32 (i : Int)) = some (.gptr g i)) (w4 : rdAt G (Heap.mem .nil) 1 (.gptr g i) = some [.int .u8 (k : Int)]) (hk : k < 32) :
    evL G T (.reg (tzOps g c) [2] []) [(0, .int .u32 (x : Int)), (4, .bool false)] .nil = some (.norm, [(2, .int .i64 (k : Int))], .nil) := by
  repeat (first | (simp (maxSteps := 9^7) only [seval, evB, tzOps, w1, w2, w3, w4, w5]) | (simp (disch := omega) only [dsB]))
theorem tz_run (J : Al G T g) {x y p i k : Nat} (hx : x < 4294967296) (h1 : ¬ (x : Int) = 0) (w1 : (0 - (x : Int)) % 4294967296 = (y : Int)) (w2 : andI .u32 (x : Int) (y : Int) = (p : Int))
    (w3 : mulW (p : Int) 125613361 / 134217728 = (i : Int)) (w5 : iaddrAV 32 1 (.gptr g 0) (.int .u32 (i : Int)) = some (.gptr g i)) (w4 : rdAt G (Heap.mem .nil) 1 (.gptr g i) = some [.int .u8 (k : Int)]) (hk : k < 32) :
    run G T 114 [.int .u32 (x : Int)] = some (.int .i64 (k : Int)) := by
  have hC := tz_region (G := G) (T := T) (g := g) 125613361 w1 w2 w3 w5 w4 hk
  have hB : evL G T (.seq (.reg [⟨some 3, .mov (.t 0), none⟩, ⟨some 4, .bin .eql (.t 3) (.c (.int .u32 0)), none⟩] [0, 4] []) (.cond (.t 4) (.seq (.reg [⟨some 2, .mov (.c (.int .i64 32)), none⟩] [2] []) .ret) .skip)) [(0, .int .u32 (x : Int))] .nil = some (.norm, [(0, .int .u32 (x : Int)), (4, .bool false)], .nil) := by
    repeat (first | (simp (maxSteps := 9^7) only [seval, evB, h1]) | (simp (disch := omega) only [dsB]))
  have hA : evL G T (.reg [⟨some 2, .mov (.c (.int .i64 0)), none⟩] [0] []) (numE 0 [.int .u32 (x : Int)]) .nil = some (.norm, [(0, .int .u32 (x : Int))], .nil) := by
    repeat (first | (simp (maxSteps := 9^7) only [seval, evB]) | (simp (disch := omega) only [dsB]))
  have e : (c_bits_TrailingZeros32 g).body = .seq (.reg [⟨some 2, .mov (.c (.int .i64 0)), none⟩] [0] []) (.seq (.seq (.reg [⟨some 3, .mov (.t 0), none⟩, ⟨some 4, .bin .eql (.t 3) (.c (.int .u32 0)), none⟩] [0, 4] []) (.cond (.t 4) (.seq (.reg [⟨some 2, .mov (.c (.int .i64 32)), none⟩] [2] []) .ret) .skip)) (.seq (.reg (tzOps g 125613361) [2] []) .ret)) := rfl
  have e2 : (c_bits_TrailingZeros32 g).res = [.tmp 2] := rfl
  rw [run_k G T J.A.bits_TrailingZeros32, e, e2, s_seq, hA, kS_norm, s_seq, hB, kS_norm, s_seq, hC, kS_norm, evL_ret]
  repeat (first | (simp (maxSteps := 9^7) only [seval, evB]) | (simp (disch := omega) only [dsB]))
theorem bits_Tz (J : Al G T g) {x : Nat} (h0 : x ≠ 0) (hx : x < 4294967296) : run G T 114 [.int .u32 (x : Int)] = some (.int .i64 ((tz x : Nat) : Int)) := by
  have ⟨hl, hk⟩ := low_bit h0 hx
  obtain ⟨y, hy⟩ : ∃ y, y = 4294967296 - x := ⟨_, rfl⟩
  rw [← hy] at hl
  obtain ⟨i, hi⟩ : ∃ i, i = 2 ^ tz x * 125613361 % 4294967296 / 134217728 := ⟨_, rfl⟩
  have w4 := rd_ntz J (Heap.mem .nil) hk
  rw [← hi] at w4
  refine tz_run J (y := y) (p := 2 ^ tz x) (i := i) hx (by omega) (by omega) ?_ ?_ ?_ w4 hk
  · rw [and32 hx (by omega), hl]
  · have hc : mulW ((2 ^ tz x : Nat) : Int) 125613361 = ((2 ^ tz x * 125613361 % 4294967296 : Nat) : Int) := by
      rw [mulW_eq, Int.natCast_emod, Int.natCast_mul]; simp only [Int.cast_ofNat_Int]
    rw [hc, hi, Int.natCast_ediv]; rfl
  · simp only [iaddrAV]
    rw [if_pos (by omega), Int.toNat_natCast, Nat.mul_one, Nat.zero_add]
theorem natLow_loop (J : Al G T g) (h : Heap) {a : List Nat} {z : Bool} (hd : Dg a) (hs : a.length ≤ 4096) : ∀ (m i : Nat), m + i = a.length → val (a.take i) = 0 →
    Post (evL G T c_nat_Low_l1 [(8, D z a), (9, .int .i64 ((a.length : Nat) : Int)), (10, .int .i64 (i : Int))] h) fun r =>
      ∃ e h', r = (.exit 0, e, h') ∧ val a = 0 ∨ r = (.ret, [(2, .int .i64 ((tz (val a) : Nat) : Int))], h')
  | 0, i, hm, hv => by
    rw [s_loopc G T (c := c_nat_Low_l1) rfl]
    have h1 : ¬ (i : Int) < a.length := by omega
    repeat (first | (simp (maxSteps := 9^7) only [seval, evB, c_nat_Low_b1, h1]) | (simp (disch := omega) only [dsB]))
    rw [List.take_of_length_le (by omega)] at hv
    exact Post.some ⟨_, _, Or.inl ⟨rfl, hv⟩⟩
  | m + 1, i, hm, hv => by
    rw [s_loopc G T (c := c_nat_Low_l1) rfl]
    have h1 : (i : Int) < a.length := by omega
    have e : (i : Int) + 1 = ((i + 1 : Nat) : Int) := by omega
    by_cases h2 : (dg a i : Int) = 0
    · repeat (first | (simp (maxSteps := 9^7) only [seval, evB, c_nat_Low_b1, h1, h2, e]) | (simp (disch := omega) only [dsB]))
      exact natLow_loop J h hd hs m (i + 1) (by omega) (by rw [val_take_succ', hv, show dg a i = 0 by omega, Nat.mul_zero])
    · have ht := bits_Tz (G := G) J (x := dg a i) (by omega) (hd.dg i)
      have hk := (low_bit (x := dg a i) (by omega) (hd.dg i)).2
      have e2 : (32 * (i : Int) + ((tz (dg a i) : Nat) : Int)) = ((tz (val a) : Nat) : Int) := by
        rw [tz_dig hd (by omega) hv (by omega)]; omega
      repeat (first | (simp (maxSteps := 9^7) only [seval, evB, c_nat_Low_b1, h1, h2, e, ht, e2]) | (simp (disch := omega) only [dsB]))
      exact Post.some ⟨[], _, Or.inr rfl⟩
theorem nat_Low (J : Al G T g) {a : Nat} {z : Bool} (hm : mayL (dl a) = true) : run G T 90 [D z (dl a)] = some (.int .i64 ((tz a : Nat) : Int)) := by
  rw [run_k G T J.A.nat_Low]
  obtain ⟨r, hr, e, h', hp⟩ := natLow_loop J .nil (z := z) (Dg_dl a) (mayL_iff.1 hm).1 (dl a).length 0 (by omega) rfl
  rw [cast0] at hr
  rw [val_dl] at hp
  rcases hp with ⟨rfl, rfl⟩ | rfl
  · repeat (first | (simp (maxSteps := 9^7) only [seval, evB, c_nat_Low, nat_May J, hm, hr]) | (simp (disch := omega) only [dsB]))
    rw [tz_zero]; rfl
  · repeat (first | (simp (maxSteps := 9^7) only [seval, evB, c_nat_Low, nat_May J, hm, hr]) | (simp (disch := omega) only [dsB]))
theorem mod_step (A p d : Nat) (hd : d = A / p % 4294967296) (hp : 0 < p) : A % p + p * d = A % (p * 4294967296) := by
  subst hd; rw [Nat.mod_mul]
theorem tz_lt {a n : Nat} (h : a ≠ 0) : tz a < n ↔ a % 2 ^ n ≠ 0 := by
  have ⟨h1, h2⟩ := tz_spec h
  constructor
  · intro hn h0
    obtain ⟨k, hk⟩ := Nat.dvd_of_mod_eq_zero h0
    have e : a / 2 ^ tz a = 2 ^ (n - tz a) * k := by
      have : a = 2 ^ tz a * (2 ^ (n - tz a) * k) := by rw [← Nat.mul_assoc, ← Nat.pow_add, show tz a + (n - tz a) = n by omega]; exact hk
      exact Nat.div_eq_of_eq_mul_right (Nat.two_pow_pos _) this
    obtain ⟨j, hj⟩ : ∃ j, n - tz a = j + 1 := ⟨n - tz a - 1, by omega⟩
    rw [e, hj, Nat.pow_succ, Nat.mul_assoc, Nat.mul_left_comm] at h2
    omega
  · intro hn
    rcases Nat.lt_or_ge (tz a) n with h3 | h3
    · exact h3
    · exfalso; apply hn
      rw [h1]
      apply Nat.mod_eq_zero_of_dvd
      exact Nat.dvd_trans (Nat.pow_dvd_pow 2 h3) (Nat.dvd_mul_left ..)
theorem trim_own {h : Heap} {b : Nat} {L : List Nat} (H : Holds h b L) (hd : Dg L) (hs : L.length < 1099511627776) : ∀ n : Nat, n ≤ L.length →
    ∃ (n' : Nat) (e' : Env), evL G T c_nat_trim_l1 [(0, .own b 0 n 1)] h = some (.exit 0, (0, .own b 0 n' 1) :: e', h) ∧ n' ≤ L.length ∧ L.take n' = dl (val (L.take n))
  | 0, hn => by
    refine ⟨0, [(14, .bool false)], ?_, hn, by rw [List.take_zero, val_nil, dl_zero]⟩
    rw [s_loopc G T (c := c_nat_trim_l1) rfl]
    repeat (first | (simp (maxSteps := 9^7) only [seval, evB, c_nat_trim_b1, cast0, Int.lt_irrefl]) | (simp (disch := omega) only [dsB]))
  | n + 1, hn => by
    have h0 : (0 : Int) < ((n + 1 : Nat) : Int) := by omega
    have e1 : ((n + 1 : Nat) : Int) - 1 = n := by omega
    by_cases h1 : (dg L n : Int) = 0
    · obtain ⟨n', e', ih, hk, ht⟩ := trim_own H hd hs n (by omega)
      refine ⟨n', e', ?_, hk, ?_⟩
      · rw [s_loopc G T (c := c_nat_trim_l1) rfl]
        repeat (first | (simp (maxSteps := 9^7) only [seval, evB, c_nat_trim_b1, h0, e1, h1 ]) | (simp (disch := omega) only [dsB,  load_own, H, sl_own H.mem]))
        rw [ih]
      · rw [ht, val_take_succ', show dg L n = 0 by omega, Nat.mul_zero, Nat.add_zero]
    · refine ⟨n + 1, [(14, .bool false)], ?_, hn, ?_⟩
      · rw [s_loopc G T (c := c_nat_trim_l1) rfl]
        repeat (first | (simp (maxSteps := 9^7) only [seval, evB, c_nat_trim_b1, h0, e1, h1 ]) | (simp (disch := omega) only [dsB,  load_own, H]))
      · rw [dl_val (hd.take _)]
        right
        have : (L.take (n + 1)).length = n + 1 := by rw [List.length_take]; omega
        rw [this, Nat.add_sub_cancel, dg_lt (by omega), List.getElem_take, ← dg_lt]; omega
theorem shl_mod {x s : Nat} (hs : s ≤ 32) : x * 2 ^ s % 4294967296 = x % 2 ^ (32 - s) * 2 ^ s := by
  have e : (4294967296 : Nat) = 2 ^ (32 - s) * 2 ^ s := by rw [← Nat.pow_add, show 32 - s + s = 32 by omega]
  rw [e, Nat.mul_mod_mul_right]
theorem shr_carry {x s : Nat} (hs : s ≤ 32) : x / 2 ^ (32 - s) = x * 2 ^ s / 4294967296 := by
  have e : (4294967296 : Nat) = 2 ^ (32 - s) * 2 ^ s := by rw [← Nat.pow_add, show 32 - s + s = 32 by omega]
  rw [e, Nat.mul_div_mul_right _ _ (Nat.two_pow_pos s)]
theorem up_loop {a : List Nat} {z : Bool} {q s : Nat} (ha : Dg a) (hs : s < 32) (hb : q + a.length < 549755813888) : ∀ (m i : Nat) (h : Heap) (v : AV) (l : List Nat) (c : Nat),
    m + i = a.length → Bld h v l → Dg l → l.length = q + i → c < 2 ^ s → val l + 4294967296 ^ (q + i) * c = 4294967296 ^ q * 2 ^ s * val (a.take i) →
    Post (evL G T c_nat_up_l1 [(5, v), (6, .int .i64 (s : Int)), (7, .int .u32 (c : Int)), (24, D z a), (25, .int .i64 ((a.length : Nat) : Int)), (26, .int .i64 (i : Int))] h) fun r =>
      ∃ e h' v' l', ∃ c' : Nat, r = (.exit 0, (5, v') :: (6, .int .i64 (s : Int)) :: (7, .int .u32 (c' : Int)) :: e, h') ∧ Bld h' v' l' ∧ Dg l' ∧ l'.length = q + a.length ∧ c' < 2 ^ s ∧ val (l' ++ [c']) = 4294967296 ^ q * 2 ^ s * val a
  | 0, i, h, v, l, c, hm, B, hd, hl, hc, he => by
    rw [s_loopc G T (c := c_nat_up_l1) rfl]
    have h1 : ¬ (i : Int) < a.length := by omega
    repeat (first | (simp (maxSteps := 9^7) only [seval, evB, c_nat_up_b1, h1]) | (simp (disch := omega) only [dsB]))
    refine Post.some ⟨_, _, _, _, _, rfl, B, hd, by omega, hc, ?_⟩
    rw [List.take_of_length_le (by omega)] at he
    rw [val_snoc, hl, he]
  | m + 1, i, h, v, l, c, hm, B, hd, hl, hc, he => by
    rw [s_loopc G T (c := c_nat_up_l1) rfl]
    have ha' := ha.dg i
    have e7 : (i : Int) + 1 = ((i + 1 : Nat) : Int) := by omega
    have h1 : (i : Int) < a.length := by omega
    have hk := carry_lt hc ha'
    have hp : (2 : Nat) ^ s ≤ 2 ^ 31 := Nat.pow_le_pow_right (by decide) (by omega)
    have w1 : (dg a i : Int) % 18446744073709551616 = dg a i := by omega
    have w2 : min s 32 = s := by omega
    have w3 : (dg a i : Int) * 2 ^ s % 4294967296 = ((dg a i * 2 ^ s % 4294967296 : Nat) : Int) := by
      rw [pow_cast, ← Int.natCast_mul]; omega
    have w4 : orI .u32 ((dg a i * 2 ^ s % 4294967296 : Nat) : Int) (c : Int) = ((c + dg a i * 2 ^ s % 4294967296 : Nat) : Int) := by
      rw [or32 (by omega) (by omega), Nat.or_comm, shl_mod (by omega), or_add hc]
    have w5 : (32 - (s : Int)) = ((32 - s : Nat) : Int) := by omega
    have w6 : min (32 - s) 64 = 32 - s := by omega
    have w7 : (dg a i : Int) / 2 ^ (32 - s) = ((dg a i / 2 ^ (32 - s) : Nat) : Int) := by rw [pow_cast]; rfl
    have hsm : dg a i * 2 ^ s % 4294967296 + c < 4294967296 := by
      have e0 := shl_mod (x := dg a i) (s := s) (by omega)
      have e1 : dg a i % 2 ^ (32 - s) < 2 ^ (32 - s) := Nat.mod_lt _ (Nat.two_pow_pos _)
      have e2 : (dg a i % 2 ^ (32 - s) + 1) * 2 ^ s ≤ 2 ^ (32 - s) * 2 ^ s := Nat.mul_le_mul_right _ e1
      rw [← Nat.pow_add, show 32 - s + s = 32 by omega, Nat.add_mul] at e2
      omega
    have hcd : (dg a i * 2 ^ s % 4294967296 + c) + 4294967296 * (dg a i * 2 ^ s / 4294967296) = c + dg a i * 2 ^ s := by omega
    have hcl : dg a i * 2 ^ s / 4294967296 < 2 ^ s := by
      refine Nat.lt_of_le_of_lt ?_ hk
      exact Nat.div_le_div_right (by omega)
    have w8 : ((dg a i / 2 ^ (32 - s) : Nat) : Int) % 4294967296 = ((dg a i * 2 ^ s / 4294967296 : Nat) : Int) := by
      rw [shr_carry (by omega)]; omega
    repeat (first | (simp (maxSteps := 9^7) only [seval, evB, c_nat_up_b1, h1, w1, w2, w3, w4, w5, w6, w7, w8 ]) | (simp (disch := omega) only [dsB,  app_b B]))
    rw [e7]
    refine up_loop ha hs hb m (i + 1) _ _ _ _ (by omega) (Bld_app B (by omega) (by omega)).2 (Dg_snoc hd (by omega)) (by rw [List.length_append, hl]; rfl) hcl ?_
    rw [val_take_succ']
    refine up_step (j := q + i) (q := q) (i := i) hl rfl he ?_
    rw [Int.toNat_natCast, Nat.add_comm c]; exact hcd
theorem val_rep (k : Nat) : val (List.replicate k 0) = 0 := by
  induction k with
  | zero => rfl
  | succ k ih => rw [List.replicate_succ, val_cons, ih]
theorem nat_up (J : Al G T g) {z : Bool} {a n : Nat} (hs : (dl a).length < 137438953472) (hn : n < 1099511627776) : ∃ z', run G T 91 [D z (dl a), .int .i64 (n : Int)] = some (D z' (dl (a * 2 ^ n))) := by
  apply exP
  rw [run_k G T J.A.nat_up]
  by_cases h0 : ((dl a).length : Int) = 0
  · repeat (first | (simp (maxSteps := 9^7) only [seval, evB, c_nat_up, h0]) | (simp (disch := omega) only [dsB]))
    have : a = 0 := dl_eq_nil.1 (List.length_eq_zero_iff.1 (by omega))
    subst this
    exact Post.some ⟨true, by rw [Nat.zero_mul, dl_zero]; rfl⟩
  · have hnm : n / 32 ≤ n / 32 + (dl a).length + 1 := by omega
    obtain ⟨r, hr, e, h', v', l', c', rfl, B, hd, hl, hc, hv⟩ := up_loop (G := G) (T := T) (z := z) (q := n / 32) (s := n % 32) (Dg_dl a) (by omega) (by omega) (dl a).length 0 _ _ _ 0 rfl (Bld_newc FreH.nil (n / 32) _ hnm) (Dg_rep _) (by simp) (Nat.two_pow_pos _) (by simp [val_rep, val])
    rw [cast0] at hr
    have hp : c' < 4294967296 := by
      have : (2 : Nat) ^ (n % 32) ≤ 2 ^ 31 := Nat.pow_le_pow_right (by decide) (by omega)
      omega
    have m1 : (((n / 32 : Nat) : Int) + ((dl a).length : Nat) + 1).toNat = n / 32 + (dl a).length + 1 := by omega
    obtain ⟨hap, HB, B2⟩ := Bld_app3 B (w := (c' : Int)) (by omega) (by omega)
    rw [Int.toNat_natCast] at HB
    have hd2 := Dg_snoc hd hp
    have hlen : (l' ++ [c']).length = l'.length + 1 := by rw [List.length_append]; rfl
    obtain ⟨n', e', ht, hn', htk⟩ := trim_own (G := G) (T := T) HB hd2 (by omega) (l'.length + 1) (by omega)
    rw [← hlen, List.take_length, hv, val_dl, pow32, ← Nat.pow_add, show 32 * (n / 32) + n % 32 = n by omega, Nat.mul_comm] at htk
    have hsn := snap_own HB hn'
    rw [htk] at hsn
    have hw1 : IntKind.i64.wrap ((n / 32 : Nat) : Int) = ((n / 32 : Nat) : Int) := wrap_i64 (by omega)
    repeat (first | (simp (maxSteps := 9^7) only [seval, evB, c_nat_up, h0, hw1, m1, hr, hap, st_callk G T J.A.nat_trim, c_nat_trim, ht, hsn]) | (simp (disch := omega) only [dsB]))
    exact Post.some ⟨_, rfl⟩
theorem store_n {h : Heap} {b : Nat} {l : List Nat} (H : Holds h b l) {i x : Nat} (hi : i < l.length) : storeV h 1 (.ptr b i) (.int .u32 (x : Int)) = some (.tup [], put h b (l.set i x)) := by
  have := store_1 H (i := i) (x := (x : Int)) ⟨hi, Int.natCast_nonneg x⟩
  rw [Int.toNat_natCast] at this; exact this
theorem take_set {l : List Nat} {i d : Nat} (h : i < l.length) : (l.set i d).take (i + 1) = l.take i ++ [d] := by
  rw [take_snoc (by rw [List.length_set]; exact h), dg_lt (by rw [List.length_set]; exact h), List.getElem_set_self, List.take_set_of_le (Nat.le_refl _)]
theorem Dg_set {l : List Nat} {i d : Nat} (h : Dg l) (hd : d < 4294967296) : Dg (l.set i d) := fun x hx => by
  rcases List.mem_or_eq_of_mem_set hx with h1 | h1
  · exact h x h1
  · omega
theorem dg_set {l : List Nat} {i d : Nat} (h : i < l.length) : dg (l.set i d) i = d := by
  rw [dg_lt (by rw [List.length_set]; exact h), List.getElem_set_self]
theorem down_dig {L : List Nat} (hd : Dg L) {i s : Nat} (hs : s < 32) : dg L i / 2 ^ s ||| dg L (i + 1) * 2 ^ (32 - s) % 4294967296 = val L / 2 ^ (32 * i + s) % 4294967296 := by
  have e1 := dig_down (val L / 4294967296 ^ i) hs
  rw [Nat.div_div_eq_div_mul, ← Nat.pow_succ] at e1
  rw [← dg_eq hd, ← dg_eq hd, Nat.div_div_eq_div_mul, pow32, ← Nat.pow_add] at e1
  rw [← e1]
  have h := Nat.or_mod_two_pow (a := dg L i / 2 ^ s) (b := dg L (i + 1) * 2 ^ (32 - s)) (n := 32)
  simp only [Nat.reducePow] at h
  rw [h, Nat.mod_eq_of_lt (shr_lt (hd.dg i))]
theorem down_loop {L : List Nat} {z : Bool} {s b : Nat} (hL : Dg L) (hs : s < 32) (hb : L.length < 17179869184) : ∀ (m i : Nat) (h : Heap) (l : List Nat),
    m + i = L.length → Holds h b l → Dg l → l.length = L.length → val (l.take i) = val L / 2 ^ s % 4294967296 ^ i →
    Post (evL G T c_nat_down_l1 [(0, D z L), (5, .int .i64 (s : Int)), (6, .own b 0 L.length 1), (23, D z L), (24, .int .i64 ((L.length : Nat) : Int)), (25, .int .i64 (i : Int))] h) fun r =>
      ∃ e h' l', r = (.exit 0, (0, D z L) :: (5, .int .i64 (s : Int)) :: (6, .own b 0 L.length 1) :: e, h') ∧ Holds h' b l' ∧ Dg l' ∧ l'.length = L.length ∧ val l' = val L / 2 ^ s
  | 0, i, h, l, hm, H, hd, hl, he => by
    rw [s_loopc G T (c := c_nat_down_l1) rfl]
    have h1 : ¬ (i : Int) < L.length := by omega
    repeat (first | (simp (maxSteps := 9^7) only [seval, evB, c_nat_down_b1, h1]) | (simp (disch := omega) only [dsB]))
    refine Post.some ⟨_, _, _, rfl, H, hd, hl, ?_⟩
    rw [List.take_of_length_le (by omega)] at he
    rw [he, Nat.mod_eq_of_lt]
    refine Nat.lt_of_le_of_lt (Nat.div_le_self ..) ?_
    rw [show i = L.length by omega]; exact val_lt hL
  | m + 1, i, h, l, hm, H, hd, hl, he => by
    rw [s_loopc G T (c := c_nat_down_l1) rfl]
    have h1 : (i : Int) < L.length := by omega
    have hx := hL.dg i
    have hy := hL.dg (i + 1)
    have e7 : (i : Int) + 1 = ((i + 1 : Nat) : Int) := by omega
    have w1 : (dg L (i + 1) : Int) % 18446744073709551616 = dg L (i + 1) := by omega
    have w2 : min s 32 = s := by omega
    have w3 : (dg L i : Int) / 2 ^ s = ((dg L i / 2 ^ s : Nat) : Int) := by rw [pow_cast]; rfl
    have w4 : (32 - (s : Int)) = ((32 - s : Nat) : Int) := by omega
    have w5 : min (32 - s) 64 = 32 - s := by omega
    have p32 : (2 : Nat) ^ (32 - s) ≤ 2 ^ 32 := Nat.pow_le_pow_right (by decide) (by omega)
    have q32 : dg L (i + 1) * 2 ^ (32 - s) ≤ 4294967295 * 2 ^ 32 := Nat.mul_le_mul (by omega) p32
    have w6 : (dg L (i + 1) : Int) * 2 ^ (32 - s) % 18446744073709551616 % 4294967296 = ((dg L (i + 1) * 2 ^ (32 - s) % 4294967296 : Nat) : Int) := by
      rw [pow_cast, ← Int.natCast_mul]; omega
    have s3 := shr_lt (s := s) hx
    have w7 : orI .u32 ((dg L i / 2 ^ s : Nat) : Int) ((dg L (i + 1) * 2 ^ (32 - s) % 4294967296 : Nat) : Int) = ((dg L i / 2 ^ s ||| dg L (i + 1) * 2 ^ (32 - s) % 4294967296 : Nat) : Int) :=
      or32 s3 (by omega)
    have key := down_dig hL (i := i) hs
    have hil : i < l.length := by omega
    have fin : ∀ d : Nat, d = val L / 2 ^ (32 * i + s) % 4294967296 → val ((l.set i d).take (i + 1)) = val L / 2 ^ s % 4294967296 ^ (i + 1) := by
      intro d hdd
      rw [take_set hil, val_snoc, List.length_take, Nat.min_eq_left (by omega), he, Nat.pow_succ]
      apply mod_step
      · rw [hdd, pow32, Nat.div_div_eq_div_mul, ← Nat.pow_add, Nat.add_comm s]
      · rw [pow32]; exact Nat.two_pow_pos _
    by_cases h2 : ((i + 1 : Nat) : Int) < L.length
    · have H1 := H.put (l.set i (dg L i / 2 ^ s))
      have hi1 : i < (l.set i (dg L i / 2 ^ s)).length := by rw [List.length_set]; exact hil
      repeat (first | (simp (maxSteps := 9^7) only [seval, evB, c_nat_down_b1, h1, h2, w1, w2, w3, w4, w5, w6, w7, e7, dg_set hil, put_put, List.set_set ]) | (simp (disch := omega) only [dsB,  load_own, H1, store_n H, store_n H1]))
      refine down_loop hL hs hb m (i + 1) _ _ (by omega) (H.put _) (Dg_set hd ?_) (by rw [List.length_set]; exact hl) (fin _ key)
      rw [key]; omega
    · rw [dg_ge (l := L) (i := i + 1) (by omega), Nat.zero_mul, Nat.zero_mod, Nat.or_zero] at key
      repeat (first | (simp (maxSteps := 9^7) only [seval, evB, c_nat_down_b1, h1, h2, w1, w2, w3, w4, w5, w6, w7, e7 ]) | (simp (disch := omega) only [dsB,  store_n H]))
      exact down_loop hL hs hb m (i + 1) _ _ (by omega) (H.put _) (Dg_set hd s3) (by rw [List.length_set]; exact hl) (fin _ key)
theorem nat_down (J : Al G T g) {z : Bool} {a n : Nat} (hb : (dl a).length < 17179869184) (hn : n < 1099511627776) : ∃ z', run G T 89 [D z (dl a), .int .i64 (n : Int)] = some (D z' (dl (a / 2 ^ n))) := by
  apply exP
  rw [run_k G T J.A.nat_down]
  have hw : IntKind.i64.wrap ((n / 32 : Nat) : Int) = ((n / 32 : Nat) : Int) := wrap_i64 (by omega)
  by_cases h0 : ((dl a).length : Int) ≤ ((n / 32 : Nat) : Int)
  · repeat (first | (simp (maxSteps := 9^7) only [seval, evB, c_nat_down, hw, h0]) | (simp (disch := omega) only [dsB]))
    refine Post.some ⟨true, ?_⟩
    have h1 : blen a ≤ n := by have := dl_len_blen a; omega
    rw [Nat.div_eq_of_lt (blen_le.1 h1), dl_zero]; rfl
  · have hL : Dg ((dl a).drop (n / 32)) := (Dg_dl a).drop _
    have hlen : ((dl a).drop (n / 32)).length = (dl a).length - n / 32 := List.length_drop ..
    obtain ⟨r, hr, e, h', l', rfl, H, hd, hl, hv⟩ := down_loop (G := G) (T := T) (z := zz z (dl a)) (s := n % 32) (b := Heap.nil.b.length) hL (by omega) (by omega) ((dl a).drop (n / 32)).length 0 (new .nil (List.replicate ((dl a).drop (n / 32)).length 0)) _ (by omega) (Holds_new FreH.nil _) (Dg_rep _) (by rw [List.length_replicate]) (by rw [Nat.pow_zero, Nat.mod_one]; rfl)
    rw [cast0] at hr
    have hsn := snap_own H (n := ((dl a).drop (n / 32)).length) (by omega)
    rw [← hl, List.take_length] at hsn
    obtain ⟨z', hz⟩ := nat_trim J (z := false) hd (by omega)
    rw [hv, val_drop (Dg_dl a), val_dl, pow32, Nat.div_div_eq_div_mul, ← Nat.pow_add, show 32 * (n / 32) + n % 32 = n by omega] at hz
    rw [hl] at hsn
    repeat (first | (simp (maxSteps := 9^7) only [seval, evB, c_nat_down, hw, h0, hr, hsn, hz]) | (simp (disch := omega) only [dsB]))
    exact Post.some ⟨_, rfl⟩
theorem may_blen {a : Nat} (hm : mayL (dl a) = true) : blen a ≤ 131072 := by
  have := (mayL_iff.1 hm).1; have := dl_len_blen a; omega
theorem nat_Shift_down (J : Al G T g) {z : Bool} {a n : Nat} (hm : mayL (dl a) = true) (h0 : 0 < n) (hn : n < 1099511627776) :
    ∃ z', run G T 50 [D z (dl a), .int .i64 (-(n : Int))] = some (.tup [D z' (dl (a / 2 ^ n)), .bool (!decide (a % 2 ^ n = 0)), .int .i64 0]) := by
  apply exP
  rw [run_k G T J.A.nat_Shift]
  have hl := (mayL_iff.1 hm).1
  have hbl := may_blen hm
  by_cases h1 : ((dl a).length : Int) = 0
  · repeat (first | (simp (maxSteps := 9^7) only [seval, evB, c_nat_Shift, nat_May J, hm, h1]) | (simp (disch := omega) only [dsB]))
    have : a = 0 := dl_len0.1 (by omega)
    subst this
    refine Post.some ⟨true, ?_⟩
    simp [dl_zero, D_nil]
  · have hne : a ≠ 0 := by rintro rfl; exact h1 (by rw [dl_zero]; rfl)
    by_cases h2 : -(n : Int) < -131072
    · repeat (first | (simp (maxSteps := 9^7) only [seval, evB, c_nat_Shift, nat_May J, hm, h1, h2]) | (simp (disch := omega) only [dsB]))
      refine Post.some ⟨true, ?_⟩
      have hlt : a < 2 ^ n := blen_le.1 (by omega)
      rw [Nat.div_eq_of_lt hlt, Nat.mod_eq_of_lt hlt, dl_zero, D_nil, decide_eq_false hne]; rfl
    · have h3 : -(n : Int) < 0 := by omega
      have h4 : 0 - -(n : Int) = n := by omega
      obtain ⟨z', hz⟩ := nat_down J (z := z) (a := a) (n := n) (by omega) hn
      have ht : decide (((tz a : Nat) : Int) < n) = !decide (a % 2 ^ n = 0) := by
        rw [← decide_not]; apply decide_eq_decide.2
        rw [← ne_eq, ← tz_lt hne]; omega
      repeat (first | (simp (maxSteps := 9^7) only [seval, evB, c_nat_Shift, nat_May J, hm, h1, h2, h3, h4, hz, nat_Low J hm, ht]) | (simp (disch := omega) only [dsB]))
      exact Post.some ⟨z', rfl⟩
theorem nat_Shift_up (J : Al G T g) {z : Bool} {a n : Nat} (hm : mayL (dl a) = true) (hn : a = 0 ∨ n + blen a ≤ 131072) (hn2 : n < 1099511627776) :
    ∃ z', run G T 50 [D z (dl a), .int .i64 (n : Int)] = some (.tup [D z' (dl (a * 2 ^ n)), .bool false, .int .i64 0]) := by
  apply exP
  rw [run_k G T J.A.nat_Shift]
  have hl := (mayL_iff.1 hm).1
  have hbl := may_blen hm
  by_cases h1 : ((dl a).length : Int) = 0
  · repeat (first | (simp (maxSteps := 9^7) only [seval, evB, c_nat_Shift, nat_May J, hm, h1]) | (simp (disch := omega) only [dsB]))
    have : a = 0 := dl_len0.1 (by omega)
    subst this
    refine Post.some ⟨true, ?_⟩
    simp [dl_zero, D_nil]
  · have hne : a ≠ 0 := by rintro rfl; exact h1 (by rw [dl_zero]; rfl)
    have h2 : ¬ (n : Int) < -131072 := by omega
    have h3 : ¬ (n : Int) < 0 := by omega
    have h4 : ¬ (131072 - ((blen a : Nat) : Int)) < n := by omega
    obtain ⟨z', hz⟩ := nat_up J (z := z) (a := a) (n := n) (by omega) (by omega)
    repeat (first | (simp (maxSteps := 9^7) only [seval, evB, c_nat_Shift, nat_May J, hm, h1, h2, h3, h4, hz, nat_Len J hm]) | (simp (disch := omega) only [dsB]))
    exact Post.some ⟨z', rfl⟩
theorem nat_Of (J : Al G T g) {n : Nat} (hn : n < 18446744073709551616) : ∃ z', run G T 55 [.int .u64 (n : Int)] = some (D z' (dl n)) := by
  apply exP
  rw [run_k G T J.A.nat_Of]
  have w1 : (n : Int) % 4294967296 = ((n % 4294967296 : Nat) : Int) := by omega
  have w2 : (n : Int) / 4294967296 % 4294967296 = ((n / 4294967296 : Nat) : Int) := by omega
  have hd : Dg [n % 4294967296, n / 4294967296] := Dg_cons.2 ⟨by omega, Dg_cons.2 ⟨by omega, Dg.nil⟩⟩
  have hv : val [n % 4294967296, n / 4294967296] = n := by simp only [val]; omega
  obtain ⟨z', hz⟩ := nat_trim J (z := false) hd (by simp)
  rw [hv] at hz
  have hf : fillA (repA 2 [AV.int .u32 0]) [(0, 1, .int .u32 ((n % 4294967296 : Nat) : Int)), (1, 1, .int .u32 ((n / 4294967296 : Nat) : Int))] = some (cells [n % 4294967296, n / 4294967296]) := rfl
  have hok : (cells [n % 4294967296, n / 4294967296]).all okCell = true := cells_ok _
  have hsn : snapG (Heap.mem ⟨Heap.nil.b ++ [⟨cells [n % 4294967296, n / 4294967296], false⟩], Heap.nil.f⟩) 3 Heap.nil.b.length 0 2 1 = some (D false [n % 4294967296, n / 4294967296]) :=
    snap_own (Holds_new FreH.nil [n % 4294967296, n / 4294967296]) (Nat.le_refl 2)
  repeat (first | (simp (maxSteps := 9^7) only [seval, evB, c_nat_Of, w1, w2, hf, hok, hsn, hz]) | (simp (disch := omega) only [dsB]))
  exact Post.some ⟨z', rfl⟩
theorem Num_loop (h : Heap) {a : List Nat} {z : Bool} (hd : Dg a) (hs : a.length ≤ 2) : ∀ (m i c : Nat), m + i = a.length → c = val (a.take i) →
    ∃ e, evL G T c_nat_Num_l1 [(4, .int .u64 (c : Int)), (15, D z a), (16, .int .i64 ((a.length : Nat) : Int)), (17, .int .i64 (i : Int))] h = some (.exit 0, (4, .int .u64 ((val a : Nat) : Int)) :: e, h)
  | 0, i, c, hm, hc => by
    refine ⟨[(15, D z a), (16, .int .i64 ((a.length : Nat) : Int)), (17, .int .i64 (i : Int)), (18, .bool false)], ?_⟩
    rw [s_loopc G T (c := c_nat_Num_l1) rfl]
    have h1 : ¬ (i : Int) < a.length := by omega
    rw [List.take_of_length_le (by omega)] at hc
    subst hc
    repeat (first | (simp (maxSteps := 9^7) only [seval, evB, c_nat_Num_b1, h1]) | (simp (disch := omega) only [dsB]))
  | m + 1, i, c, hm, hc => by
    have ih := Num_loop h (z := z) hd hs m (i + 1) (c + 4294967296 ^ i * dg a i) (by omega) (by rw [val_take_succ', hc])
    obtain ⟨e, he⟩ := ih
    refine ⟨e, ?_⟩
    rw [s_loopc G T (c := c_nat_Num_l1) rfl]
    have h1 : (i : Int) < a.length := by omega
    have hx := hd.dg i
    have e7 : (i : Int) + 1 = ((i + 1 : Nat) : Int) := by omega
    have w1 : (dg a i : Int) % 18446744073709551616 = dg a i := by omega
    have w2 : 32 * (i : Int) = ((32 * i : Nat) : Int) := by omega
    have w3 : min (32 * i) 64 = 32 * i := by omega
    have hcl : c < 2 ^ (32 * i) := by rw [hc, ← pow32]; exact val_take_lt hd i
    have hp : (2 : Nat) ^ (32 * i) ≤ 2 ^ 32 := Nat.pow_le_pow_right (by decide) (by omega)
    have hm2 : dg a i * 2 ^ (32 * i) ≤ 4294967295 * 2 ^ 32 := Nat.mul_le_mul (by omega) hp
    have w4 : (dg a i : Int) * 2 ^ (32 * i) % 18446744073709551616 = ((dg a i * 2 ^ (32 * i) : Nat) : Int) := by
      rw [pow_cast, ← Int.natCast_mul]; omega
    have w5 : orI .u64 (c : Int) ((dg a i * 2 ^ (32 * i) : Nat) : Int) = ((c + 4294967296 ^ i * dg a i : Nat) : Int) := by
      rw [or64 (by omega) (by omega), or_add hcl, pow32, Nat.mul_comm]
    repeat (first | (simp (maxSteps := 9^7) only [seval, evB, c_nat_Num_b1, h1, w1, w2, w3, w4, w5, e7]) | (simp (disch := omega) only [dsB]))
    rw [he]
theorem nat_Num (J : Al G T g) {z : Bool} {a : Nat} (hs : a < 18446744073709551616) : run G T 51 [D z (dl a)] = some (.tup [.int .u64 (a : Int), .bool true]) := by
  rw [run_k G T J.A.nat_Num]
  have hl : (dl a).length ≤ 2 := dl_len.2 (by simpa using hs)
  have hm : mayL (dl a) = true := mayL_iff.2 ⟨by omega, Nm_dl a⟩
  have h1 : ¬ (2 : Int) < (dl a).length := by omega
  obtain ⟨e, he⟩ := Num_loop (G := G) (T := T) .nil (z := z) (Dg_dl a) hl (dl a).length 0 0 (by omega) rfl
  rw [cast0, val_dl] at he
  repeat (first | (simp (maxSteps := 9^7) only [seval, evB, c_nat_Num, nat_May J, hm, h1, he]) | (simp (disch := omega) only [dsB]))
end Go.Cv
namespace Go.Cv
variable {G : Nat → Option (List AV)} {T : Tbl} {g : Nat}
theorem ok_D (z : Bool) (l : List Nat) : okCell (D z l) = true := by cases l <;> cases z <;> rfl
theorem cellsA_agg (cs : List AV) : cellsA (.agg cs) = cs := rfl
theorem cellsA_D (z : Bool) (l : List Nat) : cellsA (D z l) = [D z l] := by cases l <;> cases z <;> rfl
theorem cellsA_int (k : IntKind) (n : Int) : cellsA (.int k n) = [.int k n] := rfl
theorem cellsA_bool (b : Bool) : cellsA (.bool b) = [.bool b] := rfl
def B3 (n : Bool) (m : AV) (e : Int) : Blk := ⟨[.bool n, m, .int .i64 e], false⟩
def A3 (n : Bool) (m : AV) (e : Int) : AV := .agg [.bool n, m, .int .i64 e]
theorem box3 (F : CallF) (n : Bool) (z : Bool) (l : List Nat) (x : Int) (v : AV) (d : Option Nat) (os : List IOper) (e : Env) (h : Heap) :
    kB G F (boxOk 3 (A3 n (D z l) x)) v (cellsA (A3 n (D z l) x)) d os e h = evOps G F os (putE d v e) ⟨h.b ++ [B3 n (D z l) x], h.f⟩ := by
  have : boxOk 3 (A3 n (D z l) x) = true := by
    have e1 : okCell (.bool n) = true := rfl
    have e2 : okCell (.int .i64 x) = true := rfl
    simp [boxOk, A3, cellsA_agg, e1, e2, ok_D]
  rw [this, kB_true]; rfl
section
variable {h : Mem} {b : Nat} {n : Bool} {m : AV} {e : Int}
theorem ld0 (H : h b = some (B3 n m e)) : rdAt G h 1 (.ptr b 0) = some [.bool n] := by simp [rdAt, rdBlk, H, B3]
theorem ld1 (H : h b = some (B3 n m e)) : rdAt G h 1 (.ptr b 1) = some [m] := by simp [rdAt, rdBlk, H, B3]
theorem ld2 (H : h b = some (B3 n m e)) : rdAt G h 1 (.ptr b 2) = some [.int .i64 e] := by simp [rdAt, rdBlk, H, B3]
theorem ld3 (H : h b = some (B3 n m e)) : rdAt G h 3 (.ptr b 0) = some [.bool n, m, .int .i64 e] := by simp [rdAt, rdBlk, H, B3]
end
theorem mem0 (b : Blk) (bs : List Blk) (f : List Nat) : Heap.mem ⟨b :: bs, f⟩ 0 = some b := rfl
theorem ld0_0 {n : Bool} {m : AV} {e : Int} {bs : List Blk} {f : List Nat} : rdAt G (Heap.mem ⟨B3 n m e :: bs, f⟩) 1 (.ptr 0 0) = some [.bool n] := ld0 (mem0 ..)
theorem ld0_1 {n : Bool} {m : AV} {e : Int} {bs : List Blk} {f : List Nat} : rdAt G (Heap.mem ⟨B3 n m e :: bs, f⟩) 1 (.ptr 0 1) = some [m] := ld1 (mem0 ..)
theorem ld0_2 {n : Bool} {m : AV} {e : Int} {bs : List Blk} {f : List Nat} : rdAt G (Heap.mem ⟨B3 n m e :: bs, f⟩) 1 (.ptr 0 2) = some [.int .i64 e] := ld2 (mem0 ..)
theorem ld0_3 {n : Bool} {m : AV} {e : Int} {bs : List Blk} {f : List Nat} : rdAt G (Heap.mem ⟨B3 n m e :: bs, f⟩) 3 (.ptr 0 0) = some [.bool n, m, .int .i64 e] := ld3 (mem0 ..)
def mayD (n : Bool) (l : List Nat) (e : Int) : Bool := mayL l && (if l.length = 0 then (!n && decide (e = 0)) else (decide (dg l 0 % 2 = 1) && (decide (-16777216 ≤ e) && decide (e ≤ 16777216))))
theorem dyad_inside (J : Al G T g) (e : Int) : run G T 87 [.int .i64 e] = some (.bool (decide (-16777216 ≤ e) && decide (e ≤ 16777216))) := by
  rw [run_k G T J.C.dyad_inside]
  by_cases h3 : (-16777216 : Int) ≤ e
  · repeat (first | (simp (maxSteps := 9^7) only [seval, evB, c_dyad_inside, h3]) | (simp (disch := omega) only [dsB]))
    try simp
  · repeat (first | (simp (maxSteps := 9^7) only [seval, evB, c_dyad_inside, h3]) | (simp (disch := omega) only [dsB]))
    try simp
theorem dyad_May (J : Al G T g) (n z : Bool) {l : List Nat} (hd : Dg l) (e : Int) : run G T 48 [A3 n (D z l) e] = some (.bool (mayD n l e)) := by
  rw [run_k G T J.C.dyad_May]
  by_cases h0 : mayL l = true
  · by_cases h1 : (l.length : Int) = 0
    · have h1' : l.length = 0 := by omega
      cases n
      · repeat (first | (simp (maxSteps := 9^7) only [seval, evB, c_dyad_May, box3, nilb, nilf, List.length_nil, faddr_p, Nat.zero_add, ld0_0, ld0_1, ld0_2, nat_May J, h0, h1]) | (simp (disch := omega) only [dsB]))
        simp [mayD, h0, h1']
      · repeat (first | (simp (maxSteps := 9^7) only [seval, evB, c_dyad_May, box3, nilb, nilf, List.length_nil, faddr_p, Nat.zero_add, ld0_0, ld0_1, ld0_2, nat_May J, h0, h1]) | (simp (disch := omega) only [dsB]))
        simp [mayD, h0, h1']
    · have h1' : ¬ l.length = 0 := by omega
      have hx := hd.dg 0
      have w1 : andI .u32 (dg l 0 : Int) 1 = ((dg l 0 % 2 : Nat) : Int) := by
        rw [← and_one]; exact and32 hx (b := 1) (by decide)
      by_cases h2 : ((dg l 0 % 2 : Nat) : Int) = 1
      · have h2' : dg l 0 % 2 = 1 := by omega
        repeat (first | (simp (maxSteps := 9^7) only [seval, evB, c_dyad_May, box3, nilb, nilf, List.length_nil, faddr_p, Nat.zero_add, ld0_0, ld0_1, ld0_2, nat_May J, dyad_inside J, h0, h1, w1, h2]) | (simp (disch := omega) only [dsB]))
        simp only [mayD, h0, h1', h2', if_false, decide_true, Bool.true_and]
      · have h2' : ¬ dg l 0 % 2 = 1 := by omega
        repeat (first | (simp (maxSteps := 9^7) only [seval, evB, c_dyad_May, box3, nilb, nilf, List.length_nil, faddr_p, Nat.zero_add, ld0_0, ld0_1, ld0_2, nat_May J, dyad_inside J, h0, h1, w1, h2]) | (simp (disch := omega) only [dsB]))
        simp only [mayD, h0, h1', h2', if_false, decide_false, Bool.false_and, Bool.and_false]
  · repeat (first | (simp (maxSteps := 9^7) only [seval, evB, c_dyad_May, box3, nilb, nilf, List.length_nil, faddr_p, Nat.zero_add, ld0_0, ld0_1, ld0_2, nat_May J, h0]) | (simp (disch := omega) only [dsB]))
    simp [mayD, h0]
end Go.Cv
namespace Go.Cv
variable {G : Nat → Option (List AV)} {T : Tbl} {g : Nat}
structure Dy where
  n : Bool
  m : Nat
  e : Int
def mkD (n : Bool) (m : Nat) (e : Int) : Dy := if m = 0 then ⟨false, 0, 0⟩ else ⟨n, m / 2 ^ tz m, e + tz m⟩
def DyA (z : Bool) (d : Dy) : AV := A3 d.n (D z (dl d.m)) d.e
theorem allocB (F : CallF) (d : Option Nat) (os : List IOper) (e : Env) (h : Heap) : evOps G F (⟨d, .alloc [.bool false, .nil, .int .i64 0], none⟩ :: os) e h = evOps G F os (putE d (.ptr h.b.length 0) e) ⟨h.b ++ [B3 false .nil 0], h.f⟩ := st_alloc G F d os e h _
theorem build0 (F : CallF) (d : Option Nat) (os : List IOper) (e : Env) (h : Heap) : evOps G F (⟨d, .build [.bool false, .nil, .int .i64 0] [], none⟩ :: os) e h = evOps G F os (putE d (A3 false .nil 0) e) h := by
  rw [st_build]; rfl
theorem fill3 (n z : Bool) (l : List Nat) (x : Int) : fillA [.bool false, .nil, .int .i64 0] [(0, 1, .bool n), (1, 1, D z l), (2, 1, .int .i64 x)] = some [.bool n, D z l, .int .i64 x] := by
  have e1 : okCell (.bool n) = true := rfl
  have e2 : okCell (.int .i64 x) = true := rfl
  simp [fillA, cellsA_bool, cellsA_D, cellsA_int, e1, e2, ok_D, setAt]
theorem st_build3 (F : CallF) (d : Option Nat) (a b c : IOpd) (os : List IOper) (e : Env) (h : Heap) : evOps G F (⟨d, .build [.bool false, .nil, .int .i64 0] [(0, 1, a), (1, 1, b), (2, 1, c)], none⟩ :: os) e h =
    kV G F ((fillA [.bool false, .nil, .int .i64 0] [(0, 1, opd e a), (1, 1, opd e b), (2, 1, opd e c)]).map .agg) d os e h := st_build G F d os e h _ _
theorem store3 {h : Heap} {b : Nat} {n0 n z : Bool} {m0 : AV} {x0 x : Int} {l : List Nat} (hb : h.b[b]? = some (B3 n0 m0 x0)) (hf : h.f.contains b = false) :
    storeV h 3 (.ptr b 0) (A3 n (D z l) x) = some (.tup [], ⟨h.b.set b (B3 n (D z l) x), h.f⟩) := by
  have e1 : okCell (.bool n) = true := rfl
  have e2 : okCell (.int .i64 x) = true := rfl
  have e : cellsA (A3 n (D z l) x) = [.bool n, D z l, .int .i64 x] := rfl
  rw [storeV, e, if_pos ⟨rfl, by simp [e1, e2, ok_D]⟩, wrBlk, hb]
  simp only [B3]
  rw [if_pos ⟨trivial, hf, by simp⟩]
  simp [setAt]
theorem store3_0 {n0 n z : Bool} {m0 : AV} {x0 x : Int} {l : List Nat} (bs : List Blk) : storeV ⟨B3 n0 m0 x0 :: bs, []⟩ 3 (.ptr 0 0) (A3 n (D z l) x) = some (.tup [], ⟨B3 n (D z l) x :: bs, []⟩) :=
  store3 (h := ⟨B3 n0 m0 x0 :: bs, []⟩) rfl rfl
theorem store3_00 {n0 n : Bool} {m0 : AV} {x0 x : Int} (bs : List Blk) : storeV ⟨B3 n0 m0 x0 :: bs, []⟩ 3 (.ptr 0 0) (A3 n .nil x) = some (.tup [], ⟨B3 n .nil x :: bs, []⟩) :=
  store3_0 (z := true) (l := []) bs
theorem agg3 (n : Bool) (m : AV) (x : Int) : AV.agg [.bool n, m, .int .i64 x] = A3 n m x := rfl
theorem snap_A3 (g : Nat → Nat → Nat → Nat → Option AV) (n z : Bool) (l : List Nat) (x : Int) : snapA g (A3 n (D z l) x) = some (A3 n (D z l) x) := by
  simp only [A3, sn_agg, sl_cons, sn_bool, sn_D, sn_int, sl_nil, consO_some, Option.map_some]
theorem snap_A30 (g : Nat → Nat → Nat → Nat → Option AV) (n : Bool) (x : Int) : snapA g (A3 n .nil x) = some (A3 n .nil x) := snap_A3 g n true [] x
theorem tz_blen {a : Nat} (hne : a ≠ 0) : tz a < blen a := (tz_lt (n := blen a) hne).2 (by rw [Nat.mod_eq_of_lt (lt_pow_blen a)]; exact hne)
theorem dyad_Make (J : Al G T g) {n z : Bool} {a : Nat} {e : Int} (hm : mayL (dl a) = true) (he : a = 0 ∨ (-16777216 ≤ e + tz a ∧ e + tz a ≤ 16777216)) (he2 : -1099511627776 < e ∧ e < 1099511627776) :
    ∃ z', run G T 54 [.bool n, D z (dl a), .int .i64 e] = some (.tup [DyA z' (mkD n a e), .int .i64 0]) := by
  apply exP
  rw [run_k G T J.C.dyad_Make]
  have hl := (mayL_iff.1 hm).1
  by_cases h0 : ((dl a).length : Int) = 0
  · repeat (first | (simp (maxSteps := 9^7) only [seval, evB, c_dyad_Make, nilb, nilf, List.length_nil, faddr_p, Nat.zero_add, ld0_0, ld0_1, ld0_2, ld0_3, allocB, build0, st_build3, store3_0, store3_00, res_cell, resC_ptr, agg3, snap_A3, snap_A30, fill3, nat_May J, hm, h0]) | (simp (disch := omega) only [dsB]))
    have : a = 0 := dl_len0.1 (by omega)
    subst this
    refine Post.some ⟨true, ?_⟩
    simp [mkD, DyA, dl_zero, D_nil]
  · have hne : a ≠ 0 := by rintro rfl; exact h0 (by rw [dl_zero]; rfl)
    have htz := tz_blen hne
    have hbl := may_blen hm
    have h1 : ¬ (16777216 - ((tz a : Nat) : Int)) < e := by omega
    have h2 : ¬ e < -16777216 - ((tz a : Nat) : Int) := by omega
    have hz : ∃ z' fl, run G T 50 [D z (dl a), .int .i64 (0 - ((tz a : Nat) : Int))] = some (.tup [D z' (dl (a / 2 ^ tz a)), .bool fl, .int .i64 0]) := by
      rcases Nat.eq_zero_or_pos (tz a) with ht | ht
      · rw [ht]
        obtain ⟨z', hz⟩ := nat_Shift_up (G := G) J (z := z) (a := a) (n := 0) hm (by omega) (by omega)
        exact ⟨z', false, by simpa using hz⟩
      · obtain ⟨z', hz⟩ := nat_Shift_down (G := G) J (z := z) (a := a) (n := tz a) hm ht (by omega)
        exact ⟨z', _, by rw [Int.zero_sub]; exact hz⟩
    obtain ⟨z', fl, hz⟩ := hz
    repeat (first | (simp (maxSteps := 9^7) only [seval, evB, c_dyad_Make, nilb, nilf, List.length_nil, faddr_p, Nat.zero_add, ld0_0, ld0_1, ld0_2, ld0_3, allocB, build0, st_build3, store3_0, store3_00, res_cell, resC_ptr, agg3, snap_A3, snap_A30, fill3, nat_May J, hm, h0, nat_Low J hm, h1, h2, hz]) | (simp (disch := omega) only [dsB]))
    refine Post.some ⟨z', ?_⟩
    simp only [mkD, DyA, hne, if_false]
end Go.Cv
namespace Go.Cv
variable {G : Nat → Option (List AV)} {T : Tbl} {g : Nat}
section
variable (a : Blk) {n : Bool} {m : AV} {e : Int} {bs : List Blk} {f : List Nat}
end
section
variable (a : Blk) {n0 n z : Bool} {m0 m : AV} {x0 x : Int} {l : List Nat} (bs : List Blk)
end
def sgnD (d : Dy) : Int := if d.m = 0 then 0 else if d.n then -1 else 1
def topD (d : Dy) : Int := if d.m = 0 then 0 else d.e + blen d.m
def negD (d : Dy) : Dy := if d.m = 0 then d else ⟨!d.n, d.m, d.e⟩
def absD (d : Dy) : Dy := ⟨false, d.m, d.e⟩
def shD (d : Dy) (k : Int) : Dy := if d.m = 0 then d else ⟨d.n, d.m, d.e + k⟩
end Go.Cv
namespace Go.Cv
variable {G : Nat → Option (List AV)} {T : Tbl} {g : Nat}
def floorD (d : Dy) : Dy := if 0 ≤ d.e then d else mkD d.n (d.m / 2 ^ (-d.e).toNat + if d.n && !decide (d.m % 2 ^ (-d.e).toNat = 0) then 1 else 0) 0
def addD (a b : Dy) : Dy :=
  if a.m = 0 then b else if b.m = 0 then a else
  if a.n = b.n then mkD a.n (a.m * 2 ^ (a.e - min a.e b.e).toNat + b.m * 2 ^ (b.e - min a.e b.e).toNat) (min a.e b.e)
  else if b.m * 2 ^ (b.e - min a.e b.e).toNat ≤ a.m * 2 ^ (a.e - min a.e b.e).toNat then mkD a.n (a.m * 2 ^ (a.e - min a.e b.e).toNat - b.m * 2 ^ (b.e - min a.e b.e).toNat) (min a.e b.e)
  else mkD b.n (b.m * 2 ^ (b.e - min a.e b.e).toNat - a.m * 2 ^ (a.e - min a.e b.e).toNat) (min a.e b.e)
def subD (a b : Dy) : Dy := addD a (negD b)
def cmpD (a b : Dy) : Int :=
  if sgnD a ≠ sgnD b then (if sgnD a < sgnD b then -1 else 1)
  else if sgnD a = 0 then 0
  else if topD a ≠ topD b then (if decide (topD a < topD b) = decide (0 < sgnD a) then -1 else 1)
  else sgnD (subD a b)
structure Bd (d : Dy) (K : Nat) : Prop where
  bl : blen d.m ≤ K
  lo : -(K : Int) ≤ d.e
  hi : d.e ≤ K
theorem blen_mul_le (a k : Nat) : blen (a * 2 ^ k) ≤ blen a + k := by
  by_cases h : a = 0
  · subst h; rw [Nat.zero_mul, blen_zero]; omega
  · rw [blen_mul h]; exact Nat.le_refl _
theorem blen_add_le (a b : Nat) : blen (a + b) ≤ max (blen a) (blen b) + 1 := by
  rw [blen_le, Nat.pow_succ]
  have h1 := lt_pow_blen a
  have h2 := lt_pow_blen b
  have h3 : 2 ^ blen a ≤ 2 ^ max (blen a) (blen b) := Nat.pow_le_pow_right (by decide) (by omega)
  have h4 : 2 ^ blen b ≤ 2 ^ max (blen a) (blen b) := Nat.pow_le_pow_right (by decide) (by omega)
  omega
theorem Bd.neg {d : Dy} {K : Nat} (h : Bd d K) : Bd (negD d) K := by
  obtain ⟨h1, h2, h3⟩ := h
  unfold negD; split
  · exact ⟨h1, h2, h3⟩
  · exact ⟨h1, h2, h3⟩
theorem dyad_Sign (J : Al G T g) {n z : Bool} {l : List Nat} (hd : Dg l) {e : Int} : run G T 22 [A3 n (D z l) e] = some (.int .i64 (if mayD n l e = false ∨ l.length = 0 then 0 else if n then -1 else 1)) := by
  rw [run_k G T J.C.dyad_Sign]
  have hm := dyad_May J n z hd e
  simp only [DyA, A3] at *
  cases h : mayD n l e
  all_goals
    rw [h] at hm
    by_cases h2 : l.length = 0
    all_goals
      cases n
      all_goals
        repeat' (first | (simp (maxSteps := 9^7) only [seval, exC, c_dyad_Sign, hm]) | (simp (maxSteps := 9^7) (disch := first | with_reducible assumption | omega) only [dxB]) | (simp only [kdB]; split) | (simp only [kvB]; split))
        all_goals simp [h2]
inductive Fm where
  | s | d
  deriving DecidableEq
def Fm.u : Fm → Int | .s => 1 | .d => 2
def Fm.fr : Fm → Nat | .s => 23 | .d => 52
def Fm.low : Fm → Int | .s => -149 | .d => -1074
def Fm.wide : Fm → Int | .s => 128 | .d => 1024
def Fm.most : Fm → Nat | .s => 255 | .d => 2047
def Fm.sg : Fm → Nat | .s => 2147483648 | .d => 9223372036854775808
theorem ref03_Frac (J : Al G T g) (F : Fm) : run G T 31 [.int .u8 F.u] = some (.int .i64 (F.fr : Int)) := by
  rw [run_k G T J.D.ref03_Frac]
  cases F <;> (simp only [Fm.u, Fm.fr]; repeat' (first | (simp (maxSteps := 9^7) only [seval, exC, c_ref03_Frac]) | (simp (maxSteps := 9^7) (disch := first | with_reducible assumption | omega) only [dxB]) | (simp only [kdB]; split) | (simp only [kvB]; split)))
theorem ref03_Most (J : Al G T g) (F : Fm) : run G T 63 [.int .u8 F.u] = some (.int .i64 (F.most : Int)) := by
  rw [run_k G T J.D.ref03_Most]
  cases F <;> (simp only [Fm.u, Fm.most]; repeat' (first | (simp (maxSteps := 9^7) only [seval, exC, c_ref03_Most]) | (simp (maxSteps := 9^7) (disch := first | with_reducible assumption | omega) only [dxB]) | (simp only [kdB]; split) | (simp only [kvB]; split)))
theorem ref03_Sign (J : Al G T g) (F : Fm) : run G T 73 [.int .u8 F.u] = some (.int .u64 (F.sg : Int)) := by
  rw [run_k G T J.D.ref03_Sign]
  cases F <;> (simp only [Fm.u, Fm.sg]; repeat' (first | (simp (maxSteps := 9^7) only [seval, exC, c_ref03_Sign]) | (simp (maxSteps := 9^7) (disch := first | with_reducible assumption | omega) only [dxB]) | (simp only [kdB]; split) | (simp only [kvB]; split)))
def Fm.sgn (F : Fm) (n : Bool) : Nat := if n then F.sg else 0
def fldA (n : Bool) (x w : Int) : AV := .agg [.bool n, .int .i64 x, .int .u64 w]
theorem ref03_Join (J : Al G T g) (F : Fm) {n : Bool} {x w : Nat} (hx : x ≤ F.most) (hw : w < 2 ^ F.fr ∨ x = 0 ∧ w < F.sg) :
    run G T 62 [.int .u8 F.u, fldA n x w] = some (.int .u64 ((x * 2 ^ F.fr + w + F.sgn n : Nat) : Int)) := by
  rw [run_k G T J.D.ref03_Join]
  have h1 := ref03_Frac (G := G) J F
  have h2 := ref03_Sign (G := G) J F
  cases F <;> cases n <;> (
    simp only [Fm.u, Fm.fr, Fm.sg, Fm.most, fldA, Fm.sgn] at *
    repeat' (first | (simp (maxSteps := 9^7) only [seval, exC, c_ref03_Join, h1, h2]) | (simp (maxSteps := 9^7) (disch := first | with_reducible assumption | omega) only [dxB]) | (simp only [kdB]; split) | (simp only [kvB]; split))
    all_goals (refine some_int ?_; omega))
def Fm.inf (F : Fm) (n : Bool) : Nat := F.most * 2 ^ F.fr + F.sgn n
def shA (F : Fm) : AV := .agg [.int .i64 (F.fr : Int), .int .i64 (F.most : Int), .int .u64 (F.sg : Int)]
theorem or64z {x : Int} (h : 0 ≤ x ∧ x < 18446744073709551616) : orI .u64 0 x = x := by
  obtain ⟨n, rfl⟩ := Int.eq_ofNat_of_zero_le h.1
  have := or64 (a := 0) (b := n) (by decide) (by omega)
  rw [cast0] at this; rw [this]; simp
theorem or64_31 {x : Int} (h : 0 ≤ x ∧ x < 2147483648) : orI .u64 x 2147483648 = x + 2147483648 := by
  obtain ⟨n, rfl⟩ := Int.eq_ofNat_of_zero_le h.1
  have := or64 (a := n) (b := 2147483648) (by omega) (by decide)
  rw [Int.cast_ofNat_Int] at this; rw [this]
  have e := or_add (c := n) (x := 1) (s := 31) (by omega)
  rw [Nat.one_mul] at e
  rw [show (2147483648 : Nat) = 2 ^ 31 from rfl, e]; omega
theorem or64_63 {x : Int} (h : 0 ≤ x ∧ x < 9223372036854775808) : orI .u64 x 9223372036854775808 = x + 9223372036854775808 := by
  obtain ⟨n, rfl⟩ := Int.eq_ofNat_of_zero_le h.1
  have := or64 (a := n) (b := 9223372036854775808) (by omega) (by decide)
  rw [Int.cast_ofNat_Int] at this; rw [this]
  have e := or_add (c := n) (x := 1) (s := 63) (by omega)
  rw [Nat.one_mul] at e
  rw [show (9223372036854775808 : Nat) = 2 ^ 63 from rfl, e]; omega
theorem word_shapeOf (J : Al G T g) (F : Fm) : run G T 115 [.int .u8 F.u] = some (.tup [shA F, .bool true]) := by
  rw [run_k G T J.D.word_shapeOf]
  cases F <;> (simp only [shA, Fm.u, Fm.fr, Fm.most, Fm.sg, Int.cast_ofNat_Int]; repeat' (first | (simp (maxSteps := 9^7) only [seval, exC, c_word_shapeOf]) | (simp (maxSteps := 9^7) (disch := first | with_reducible assumption | omega) only [dxB]) | (simp only [kdB]; split) | (simp only [kvB]; split)))
theorem word_open0 (J : Al G T g) (F : Fm) : run G T 95 [.int .u8 F.u, .nil] = some (.tup [shA F, .int .i64 0]) := by
  rw [run_k G T J.D.word_open]
  have h1 := word_shapeOf (G := G) J F
  have hl : ∀ (e : Env) (h : Heap), evL G T c_word_open_l1 e h = kS G T (evL G T c_word_open_b1 (keepE [4, 6, 18, 19, 20] e) h) c_word_open_l1 := fun e h => s_loopc G T (c := c_word_open_l1) rfl e h
  simp only [shA] at *
  repeat' (first | (simp (maxSteps := 9^7) only [seval, exC, c_word_open, h1, hl, c_word_open_b1]) | (simp (maxSteps := 9^7) (disch := first | with_reducible assumption | omega) only [dxB]) | (simp only [kdB]; split) | (simp only [kvB]; split))
theorem word_inf (J : Al G T g) (F : Fm) : run G T 60 [shA F] = some (.int .u64 ((F.most * 2 ^ F.fr : Nat) : Int)) := by
  rw [run_k G T J.D.word_shape_inf]
  cases F <;> (simp only [shA, Fm.u, Fm.fr, Fm.most, Fm.sg, Int.cast_ofNat_Int]; repeat' (first | (simp (maxSteps := 9^7) only [seval, exC, c_word_shape_inf]) | (simp (maxSteps := 9^7) (disch := first | with_reducible assumption | omega) only [dxB]) | (simp only [kdB]; split) | (simp only [kvB]; split)))
theorem word_low (J : Al G T g) (F : Fm) : run G T 96 [shA F] = some (.int .i64 F.low) := by
  rw [run_k G T J.D.word_shape_low]
  cases F <;> (simp only [shA, Fm.u, Fm.fr, Fm.most, Fm.sg, Fm.low, Int.cast_ofNat_Int]; repeat' (first | (simp (maxSteps := 9^7) only [seval, exC, c_word_shape_low]) | (simp (maxSteps := 9^7) (disch := first | with_reducible assumption | omega) only [dxB]) | (simp only [kdB]; split) | (simp only [kvB]; split)))
theorem word_join0 (J : Al G T g) (F : Fm) {n : Bool} {w : Nat} (hw : w < F.sg) :
    run G T 97 [shA F, fldA n 0 w] = some (.int .u64 ((w + F.sgn n : Nat) : Int)) := by
  rw [run_k G T J.D.word_shape_join]
  cases F <;> cases n <;> (
    simp only [shA, Fm.u, Fm.fr, Fm.sg, Fm.most, fldA, Fm.sgn, Int.cast_ofNat_Int] at *
    repeat' (first | (simp (maxSteps := 9^7) only [seval, exC, c_word_shape_join ]) | (simp (maxSteps := 9^7) (disch := first | with_reducible assumption | omega) only [dxB,  or64z, or64_31, or64_63]) | (simp only [kdB]; split) | (simp only [kvB]; split))
    all_goals (refine some_int ?_; try simp))
theorem word_zero1 (J : Al G T g) (F : Fm) : run G T 98 [shA F] = some (.int .u64 0) := by
  rw [run_k G T J.D.word_Zero_1]
  simp only [shA]; repeat' (first | (simp (maxSteps := 9^7) only [seval, exC, c_word_Zero_1]) | (simp (maxSteps := 9^7) (disch := first | with_reducible assumption | omega) only [dxB]) | (simp only [kdB]; split) | (simp only [kvB]; split))
theorem word_greatest1 (J : Al G T g) (F : Fm) : run G T 59 [shA F] = some (.int .u64 ((F.most * 2 ^ F.fr - 1 : Nat) : Int)) := by
  rw [run_k G T J.D.word_Greatest_1]
  have h := word_inf (G := G) J F
  cases F <;> (simp only [shA, Fm.u, Fm.fr, Fm.most, Fm.sg, Int.cast_ofNat_Int, Nat.reducePow, Nat.reduceMul] at *; repeat' (first | (simp (maxSteps := 9^7) only [seval, exC, c_word_Greatest_1, h]) | (simp (maxSteps := 9^7) (disch := first | with_reducible assumption | omega) only [dxB]) | (simp only [kdB]; split) | (simp only [kvB]; split)))
theorem word_named (J : Al G T g) (F : Fm) {n : Bool} {k x : Nat} (hk : run G T k [shA F] = some (.int .u64 (x : Int))) (hx : x < F.sg) :
    run G T 58 [.int .u8 F.u, .bool n, .fn k []] = some (.tup [.int .u64 ((x + F.sgn n : Nat) : Int), .int .i64 0]) := by
  rw [run_k G T J.D.word_named]
  have h1 := word_open0 (G := G) J F
  cases F <;> cases n <;> (
    simp only [shA, Fm.u, Fm.fr, Fm.sg, Fm.most, Fm.sgn, Int.cast_ofNat_Int] at *
    repeat' (first | (simp (maxSteps := 9^7) only [seval, exC, c_word_named, h1, hk ]) | (simp (maxSteps := 9^7) (disch := first | with_reducible assumption | omega) only [dxB,  or64_31, or64_63]) | (simp only [kdB]; split) | (simp only [kvB]; split))
    all_goals (refine congrArg (fun x : Int => some (AV.tup [.int .u64 x, .int .i64 0])) ?_; try simp))
theorem word_Zero (J : Al G T g) (F : Fm) {n : Bool} : run G T 57 [.int .u8 F.u, .bool n] = some (.tup [.int .u64 ((F.sgn n : Nat) : Int), .int .i64 0]) := by
  rw [run_k G T J.D.word_Zero]
  have h := word_named (G := G) J F (n := n) (k := 98) (x := 0) (word_zero1 J F) (by cases F <;> decide)
  rw [Nat.zero_add] at h
  repeat' (first | (simp (maxSteps := 9^7) only [seval, exC, c_word_Zero, h]) | (simp (maxSteps := 9^7) (disch := first | with_reducible assumption | omega) only [dxB]) | (simp only [kdB]; split) | (simp only [kvB]; split))
theorem word_Inf (J : Al G T g) (F : Fm) {n : Bool} : run G T 26 [.int .u8 F.u, .bool n] = some (.tup [.int .u64 ((F.inf n : Nat) : Int), .int .i64 0]) := by
  rw [run_k G T J.D.word_Inf]
  have h := word_named (G := G) J F (n := n) (k := 60) (word_inf J F) (by cases F <;> decide)
  repeat' (first | (simp (maxSteps := 9^7) only [seval, exC, c_word_Inf, h]) | (simp (maxSteps := 9^7) (disch := first | with_reducible assumption | omega) only [dxB]) | (simp only [kdB]; split) | (simp only [kvB]; split))
  rfl
theorem word_Greatest (J : Al G T g) (F : Fm) {n : Bool} : run G T 25 [.int .u8 F.u, .bool n] = some (.tup [.int .u64 ((F.inf n - 1 : Nat) : Int), .int .i64 0]) := by
  rw [run_k G T J.D.word_Greatest]
  have h := word_named (G := G) J F (n := n) (k := 59) (word_greatest1 J F) (by cases F <;> decide)
  repeat' (first | (simp (maxSteps := 9^7) only [seval, exC, c_word_Greatest, h]) | (simp (maxSteps := 9^7) (disch := first | with_reducible assumption | omega) only [dxB]) | (simp only [kdB]; split) | (simp only [kvB]; split))
  cases F <;> cases n <;> rfl
def Fm.unit (F : Fm) (d : Dy) : Int := max (d.e + blen d.m - F.fr - 1) F.low
def Fm.fits (F : Fm) (d : Dy) : Prop := d.m ≠ 0 ∧ blen d.m ≤ F.fr + 1 ∧ F.low ≤ d.e ∧ d.e + blen d.m ≤ F.wide
def Fm.enc (F : Fm) (n : Nat) (u : Int) : Nat := (u - F.low).toNat * 2 ^ F.fr + n
theorem fits_len {F : Fm} {d : Dy} (h : F.fits d) : F.unit d ≤ d.e ∧ F.low ≤ F.unit d ∧ blen (d.m * 2 ^ (d.e - F.unit d).toNat) ≤ F.fr + 1 ∧ (F.unit d = F.low ∨ 2 ^ F.fr ≤ d.m * 2 ^ (d.e - F.unit d).toNat) ∧ (F.unit d - F.low).toNat + 1 < F.most := by
  obtain ⟨h0, h1, h2, h3⟩ := h
  have e1 : F.unit d ≤ d.e := by unfold Fm.unit; omega
  have e2 : F.low ≤ F.unit d := by unfold Fm.unit; omega
  have hb := blen_mul h0 (d.e - F.unit d).toNat
  refine ⟨e1, e2, ?_, ?_, ?_⟩
  · rw [hb]; unfold Fm.unit at *; omega
  · by_cases hu : F.unit d = F.low
    · exact Or.inl hu
    · right
      apply lt_blen.1
      rw [hb]; unfold Fm.unit at *; omega
  · cases F <;> simp only [Fm.unit, Fm.fr, Fm.low, Fm.wide, Fm.most] at * <;> omega
theorem enc_lt {F : Fm} {d : Dy} (h : F.fits d) : F.enc (d.m * 2 ^ (d.e - F.unit d).toNat) (F.unit d) < F.most * 2 ^ F.fr := by
  obtain ⟨h1, h2, h3, h4, h5⟩ := fits_len h
  have := blen_le.1 h3
  rw [Nat.pow_succ] at this
  unfold Fm.enc
  have h6 : ((F.unit d - F.low).toNat + 2) * 2 ^ F.fr ≤ F.most * 2 ^ F.fr := Nat.mul_le_mul_right _ (by omega)
  rw [Nat.add_mul] at h6
  omega
theorem min_to {k : Int} {n : Nat} (h : k.toNat ≤ n) : min k.toNat n = k.toNat := Nat.min_eq_left h
theorem shl_u64 {m : Nat} {k : Int} (hk : k.toNat ≤ 64) (h : m * 2 ^ k.toNat < 18446744073709551616) : IntKind.u64.wrap ((m : Int) * 2 ^ (min k.toNat 64)) = ((m * 2 ^ k.toNat : Nat) : Int) := by
  rw [min_to hk, pow_cast, ← Int.natCast_mul, wrap_u64]
  omega
theorem word_Of (J : Al G T g) (F : Fm) {z : Bool} {d : Dy} (hm : mayD d.n (dl d.m) d.e = true) (hf : F.fits d) :
    run G T 56 [.int .u8 F.u, DyA z d] = some (.tup [.int .u64 ((F.enc (d.m * 2 ^ (d.e - F.unit d).toNat) (F.unit d) + F.sgn d.n : Nat) : Int), .int .i64 0]) := by
  rw [run_k G T J.D.word_Of]
  have hl := fits_len hf
  have he := enc_lt hf
  obtain ⟨n, m, e⟩ := d
  obtain ⟨hf0, hf1, hf2, hf3⟩ := hf
  obtain ⟨hl1, hl2, hl3, hl4, hl5⟩ := hl
  simp only at *
  have hmb := blen_le.1 hf1
  have h1 := word_open0 (G := G) J F
  have h2 := dyad_May (G := G) J n z (Dg_dl m) e
  rw [hm] at h2
  have m64 : m < 18446744073709551616 := Nat.lt_of_lt_of_le hmb (by cases F <;> decide)
  have h3 := nat_Num J (z := z) m64
  have h4 := bits_Len64 J m64
  have h5 := word_low (G := G) J F
  have hx := blen_le.1 hl3
  have hb64 : F.most * 2 ^ F.fr ≤ F.sg := by cases F <;> decide
  have h6 := word_join0 (G := G) J F (n := n) (w := F.enc (m * 2 ^ (e - F.unit ⟨n, m, e⟩).toNat) (F.unit ⟨n, m, e⟩)) (by omega)
  have hu : max (e + blen m - F.fr - 1) F.low = F.unit ⟨n, m, e⟩ := rfl
  have hw1 : e ≤ 1024 := by cases F <;> simp only [Fm.wide] at hf3 <;> omega
  generalize hU : F.unit ⟨n, m, e⟩ = u at *
  have hX : m * 2 ^ (e - u).toNat < 18446744073709551616 := Nat.lt_of_lt_of_le hx (by cases F <;> decide)
  have hs := fun (hk : (e - u).toNat ≤ 64) => shl_u64 hk hX
  generalize m * 2 ^ (e - u).toNat = X at *
  have hne : ¬ (m : Int) = 0 := by omega
  cases F
  · simp only [Fm.u, Fm.fr, Fm.sg, Fm.most, Fm.low, Fm.wide, Fm.enc, shA, fldA, DyA, A3, Int.cast_ofNat_Int, Nat.reducePow] at *
    have hs' := hs (by omega)
    rw [wrap_u64] at hs'
    have hW : ((u - -149) % 18446744073709551616 * 8388608 % 18446744073709551616 + X) % 18446744073709551616 = (((u - -149).toNat * 8388608 + X : Nat) : Int) := by omega
    repeat' (first | (simp (maxSteps := 9^7) only [seval, exC, c_word_Of, h1, h2, h3, h4, h5, hu, hs', hW, h6 ]) | (simp (maxSteps := 9^7) (disch := first | with_reducible assumption | omega) only [dxB,  hu]) | (simp only [kdB]; split) | (simp only [kvB]; split))
  · simp only [Fm.u, Fm.fr, Fm.sg, Fm.most, Fm.low, Fm.wide, Fm.enc, shA, fldA, DyA, A3, Int.cast_ofNat_Int, Nat.reducePow] at *
    have hs' := hs (by omega)
    rw [wrap_u64] at hs'
    have hW : ((u - -1074) % 18446744073709551616 * 4503599627370496 % 18446744073709551616 + X) % 18446744073709551616 = (((u - -1074).toNat * 4503599627370496 + X : Nat) : Int) := by omega
    repeat' (first | (simp (maxSteps := 9^7) only [seval, exC, c_word_Of, h1, h2, h3, h4, h5, hu, hs', hW, h6 ]) | (simp (maxSteps := 9^7) (disch := first | with_reducible assumption | omega) only [dxB,  hu]) | (simp only [kdB]; split) | (simp only [kvB]; split))
theorem word_Of_zero (J : Al G T g) (F : Fm) {z : Bool} : run G T 56 [.int .u8 F.u, DyA z ⟨false, 0, 0⟩] = some (.tup [.int .u64 0, .int .i64 0]) := by
  rw [run_k G T J.D.word_Of]
  have h1 := word_open0 (G := G) J F
  have h2 := dyad_May (G := G) J false z (Dg_dl 0) 0
  rw [show mayD false (dl 0) 0 = true by rw [dl_zero]; rfl] at h2
  have h3 := nat_Num J (z := z) (a := 0) (by decide)
  have h4 := bits_Len64 J (x := 0) (by decide)
  rw [blen_zero] at h4
  cases F <;> (
    simp only [shA, DyA, A3, cast0, Fm.u, Fm.fr, Fm.sg, Fm.most, Int.cast_ofNat_Int] at *
    repeat' (first | (simp (maxSteps := 9^7) only [seval, exC, c_word_Of, h1, h2, h3, h4]) | (simp (maxSteps := 9^7) (disch := first | with_reducible assumption | omega) only [dxB]) | (simp only [kdB]; split) | (simp only [kvB]; split)))
def upB (md : Int) (neg odd half more : Bool) : Bool :=
  if md = 1 then half && (more || odd) else if md = 2 then half else if md = 4 then !neg && (half || more) else if md = 5 then neg && (half || more) else false
def halfN (M k : Nat) : Bool := decide (M / 2 ^ (k - 1) % 2 = 1)
def moreN (M : Nat) (s : Bool) (k : Nat) : Bool := s || decide (M % 2 ^ (k - 1) ≠ 0)
def rdN (md : Int) (neg : Bool) (M : Nat) (s : Bool) (k : Nat) : Nat × Bool :=
  (M / 2 ^ k + (upB md neg (decide (M / 2 ^ k % 2 = 1)) (halfN M k) (moreN M s k)).toNat, !halfN M k && !moreN M s k)
def rnd (md : Int) (neg : Bool) (M : Nat) (E u : Int) : Nat × Bool :=
  if u ≤ E then (M * 2 ^ (E - u).toNat, true) else rdN md neg M false (u - E).toNat
theorem mod_mod_pow (M j k : Nat) : (M % 2 ^ (j + k) = 0) ↔ (M % 2 ^ j = 0 ∧ M / 2 ^ j % 2 ^ k = 0) := by
  rw [Nat.pow_add, Nat.mod_mul]
  have hp : 0 < 2 ^ j := Nat.two_pow_pos j
  constructor
  · intro h
    have h1 : M % 2 ^ j = 0 := by omega
    refine ⟨h1, ?_⟩
    rw [h1, Nat.zero_add] at h
    rcases Nat.mul_eq_zero.1 h with h2 | h2
    · omega
    · exact h2
  · rintro ⟨h1, h2⟩; rw [h1, h2]; rfl
theorem rdN_shift (md : Int) (neg : Bool) (M : Nat) (s : Bool) (j k : Nat) (hk : 0 < k) :
    rdN md neg (M / 2 ^ j) (s || decide (M % 2 ^ j ≠ 0)) k = rdN md neg M s (j + k) := by
  obtain ⟨i, rfl⟩ : ∃ i, k = i + 1 := ⟨k - 1, by omega⟩
  have e1 : ∀ i, M / 2 ^ j / 2 ^ i = M / 2 ^ (j + i) := fun i => by rw [Nat.div_div_eq_div_mul, ← Nat.pow_add]
  have e2 : halfN (M / 2 ^ j) (i + 1) = halfN M (j + (i + 1)) := by
    simp only [halfN, e1]
    rw [show j + (i + 1 - 1) = j + (i + 1) - 1 by omega]
  have e3 : moreN (M / 2 ^ j) (s || decide (M % 2 ^ j ≠ 0)) (i + 1) = moreN M s (j + (i + 1)) := by
    simp only [moreN]
    rw [show j + (i + 1) - 1 = j + i by omega, show i + 1 - 1 = i by omega, Bool.or_assoc]
    congr 1
    have := mod_mod_pow M j i
    rw [Bool.eq_iff_iff]
    simp only [Bool.or_eq_true, decide_eq_true_eq, ne_eq, this]
    by_cases h : M % 2 ^ j = 0 <;> simp [h]
  simp only [rdN, e1, e2, e3]
theorem div_pow_mul {M j k : Nat} (h : k ≤ j) : M * 2 ^ j / 2 ^ k = M * 2 ^ (j - k) := by
  obtain ⟨i, rfl⟩ : ∃ i, j = k + i := ⟨j - k, by omega⟩
  rw [Nat.pow_add, Nat.mul_comm (2 ^ k), ← Nat.mul_assoc, Nat.mul_div_cancel _ (Nat.two_pow_pos k), show k + i - k = i by omega]
theorem mod_pow_mul {M j k : Nat} (h : k ≤ j) : M * 2 ^ j % 2 ^ k = 0 := by
  obtain ⟨i, rfl⟩ : ∃ i, j = k + i := ⟨j - k, by omega⟩
  rw [Nat.pow_add, Nat.mul_comm (2 ^ k), ← Nat.mul_assoc]; exact Nat.mul_mod_left ..
theorem div_pow_mul2 {M j k : Nat} (h : j ≤ k) : M * 2 ^ j / 2 ^ k = M / 2 ^ (k - j) := by
  obtain ⟨i, rfl⟩ : ∃ i, k = j + i := ⟨k - j, by omega⟩
  rw [Nat.pow_add, ← Nat.div_div_eq_div_mul, Nat.mul_div_cancel _ (Nat.two_pow_pos j), show j + i - j = i by omega]
theorem mod_pow_mul2 {M j k : Nat} (h : j ≤ k) : M * 2 ^ j % 2 ^ k = M % 2 ^ (k - j) * 2 ^ j := by
  obtain ⟨i, rfl⟩ : ∃ i, k = j + i := ⟨k - j, by omega⟩
  rw [Nat.pow_add, Nat.mul_comm (2 ^ j), Nat.mul_mod_mul_right, show j + i - j = i by omega]
theorem rdN_up (md : Int) (neg : Bool) (M j k : Nat) (hk : 0 < k) :
    rdN md neg (M * 2 ^ j) false k = if k ≤ j then (M * 2 ^ (j - k), true) else rdN md neg M false (k - j) := by
  obtain ⟨i, rfl⟩ : ∃ i, k = i + 1 := ⟨k - 1, by omega⟩
  by_cases h : i + 1 ≤ j
  · rw [if_pos h]
    have e1 : halfN (M * 2 ^ j) (i + 1) = false := by
      simp only [halfN, Nat.add_sub_cancel]
      rw [div_pow_mul (by omega), show j - i = (j - i - 1) + 1 by omega, Nat.pow_succ, ← Nat.mul_assoc, Nat.mul_mod_left]; rfl
    have e2 : moreN (M * 2 ^ j) false (i + 1) = false := by
      simp only [moreN, Nat.add_sub_cancel, Bool.false_or]
      rw [mod_pow_mul (by omega)]; rfl
    have e3 : ∀ a b, upB md a b false false = false := by intro a b; simp [upB]
    simp only [rdN, e1, e2, e3, div_pow_mul h]; rfl
  · rw [if_neg h]
    have e1 : halfN (M * 2 ^ j) (i + 1) = halfN M (i + 1 - j) := by
      simp only [halfN]
      rw [div_pow_mul2 (by omega), show i + 1 - 1 - j = i + 1 - j - 1 by omega]
    have e2 : moreN (M * 2 ^ j) false (i + 1) = moreN M false (i + 1 - j) := by
      simp only [moreN, Bool.false_or]
      rw [mod_pow_mul2 (by omega), show i + 1 - 1 - j = i + 1 - j - 1 by omega]
      have hp := Nat.two_pow_pos j
      congr 1
      apply propext
      constructor
      · intro h1 h2; apply h1; rw [h2, Nat.zero_mul]
      · intro h1 h2
        rcases Nat.mul_eq_zero.1 h2 with h3 | h3
        · exact h1 h3
        · omega
    simp only [rdN, e1, e2, div_pow_mul2 (show j ≤ i + 1 by omega)]
theorem rdN_part (md : Int) (neg : Bool) {M : Nat} (hM : M ≠ 0) (E u : Int) (hu : E + blen M - 64 < u) :
    rdN md neg (if blen M ≤ 64 then M * 2 ^ (64 - blen M) else M / 2 ^ (blen M - 64)) (if blen M ≤ 64 then false else decide (M % 2 ^ (blen M - 64) ≠ 0)) (u - (E + blen M) + 64).toNat = rnd md neg M E u := by
  by_cases h : blen M ≤ 64
  · rw [if_pos h, if_pos h, rdN_up _ _ _ _ _ (by omega)]
    unfold rnd
    by_cases h2 : u ≤ E
    · rw [if_pos h2, if_pos (by omega), show 64 - blen M - (u - (E + blen M) + 64).toNat = (E - u).toNat by omega]
    · rw [if_neg h2, if_neg (by omega), show (u - (E + blen M) + 64).toNat - (64 - blen M) = (u - E).toNat by omega]
  · rw [if_neg h, if_neg h]
    have := rdN_shift md neg M false (blen M - 64) (u - (E + blen M) + 64).toNat (by omega)
    rw [Bool.false_or] at this
    rw [this]
    unfold rnd
    rw [if_neg (by omega), show blen M - 64 + (u - (E + blen M) + 64).toNat = (u - E).toNat by omega]
def ovr (F : Fm) (md : Int) (neg : Bool) : Nat := if md = 3 ∨ (md = 4 ∧ neg = true) ∨ (md = 5 ∧ neg = false) then F.inf neg - 1 else F.inf neg
def wordOf (F : Fm) (md : Int) (neg : Bool) (n : Nat) (ex : Bool) (e top : Int) (fine : Nat) : Nat × Nat :=
  if F.wide < blen n + e then (ovr F md neg, 20)
  else (F.enc n e + F.sgn neg, if ex then 0 else if blen fine + (top - F.fr - 1) < F.low + F.fr + 1 then 24 else 16)
def Fm.eOf (F : Fm) (top : Int) : Int := max (top - F.fr - 1) F.low
def rndW (F : Fm) (md : Int) (d : Dy) : Nat × Nat :=
  if d.m = 0 then (0, 0) else
  let top := d.e + blen d.m
  let r := rnd md d.n d.m d.e (F.eOf top)
  wordOf F md d.n r.1 r.2 (F.eOf top) top (rnd md d.n d.m d.e (top - F.fr - 1)).1
def fmA (F : Fm) : AV := .agg [.int .i64 ((F.fr : Int) + 1), .int .i64 F.low, .int .i64 F.wide]
theorem round_formOf (J : Al G T g) (F : Fm) : run G T 47 [.int .u8 F.u] = some (.tup [fmA F, .bool true]) := by
  rw [run_k G T J.E.round_formOf]
  cases F <;> (simp only [fmA, Fm.u, Fm.fr, Fm.low, Fm.wide, Int.cast_ofNat_Int, Int.reduceAdd]; repeat' (first | (simp (maxSteps := 9^7) only [seval, exC, c_round_formOf]) | (simp (maxSteps := 9^7) (disch := first | with_reducible assumption | omega) only [dxB]) | (simp only [kdB]; split) | (simp only [kvB]; split)))
theorem iad10 (a b c : AV) (k : IntKind) : iaddrV 3 (.imm 1 [a, b, c]) (.int k 0) = some (.iptr [a, b, c] 0) := rfl
theorem iad20 (a b c a' b' c' : AV) (k : IntKind) : iaddrV 3 (.imm 2 [a, b, c, a', b', c']) (.int k 0) = some (.iptr [a, b, c, a', b', c'] 0) := rfl
theorem iad21 (a b c a' b' c' : AV) (k : IntKind) : iaddrV 3 (.imm 2 [a, b, c, a', b', c']) (.int k 1) = some (.iptr [a, b, c, a', b', c'] 3) := rfl
theorem rOpen_loop : ∀ (e : Env) (h : Heap), evL G T c_round_open_l1 e h = kS G T (evL G T c_round_open_b1 (keepE [6, 8, 27, 28, 29] e) h) c_round_open_l1 := fun e h => s_loopc G T (c := c_round_open_l1) rfl e h
theorem round_open0 (J : Al G T g) (F : Fm) {m : Int} (h : 1 ≤ m ∧ m ≤ 5) : run G T 21 [.int .u8 F.u, .int .u8 m, .nil] = some (.tup [fmA F, .int .i64 0]) := by
  rw [run_k G T J.E.round_open]
  have h1 := round_formOf (G := G) J F
  simp only [fmA] at *
  repeat' (first | (simp (maxSteps := 9^7) only [seval, exC, c_round_open, h1, rOpen_loop, c_round_open_b1]) | (simp (maxSteps := 9^7) (disch := first | with_reducible assumption | omega) only [dxB]) | (simp only [kdB]; split) | (simp only [kvB]; split))
theorem round_open1 (J : Al G T g) (F : Fm) {m : Int} (h : 1 ≤ m ∧ m ≤ 5) {n z : Bool} {l : List Nat} (hd : Dg l) {e : Int} :
    run G T 21 [.int .u8 F.u, .int .u8 m, .imm 1 [.bool n, D z l, .int .i64 e]] = some (.tup [fmA F, .int .i64 (if mayD n l e then 0 else 2)]) := by
  rw [run_k G T J.E.round_open]
  have h1 := round_formOf (G := G) J F
  have h2 := dyad_May (G := G) J n z hd e
  simp only [fmA, A3] at *
  cases hm : mayD n l e <;> (
    rw [hm] at h2
    repeat' (first | (simp (maxSteps := 9^7) only [seval, exC, c_round_open, h1, h2, rOpen_loop, c_round_open_b1, iad10, iad20, iad21, rd_ip]) | (simp (maxSteps := 9^7) (disch := first | with_reducible assumption | omega) only [dxB]) | (simp only [kdB]; split) | (simp only [kvB]; split))
    all_goals rfl)
theorem round_open2 (J : Al G T g) (F : Fm) {m : Int} (h : 1 ≤ m ∧ m ≤ 5) {n z n' z' : Bool} {l l' : List Nat} (hd : Dg l) (hd' : Dg l') {e e' : Int} :
    run G T 21 [.int .u8 F.u, .int .u8 m, .imm 2 [.bool n, D z l, .int .i64 e, .bool n', D z' l', .int .i64 e']] = some (.tup [fmA F, .int .i64 (if mayD n l e && mayD n' l' e' then 0 else 2)]) := by
  rw [run_k G T J.E.round_open]
  have h1 := round_formOf (G := G) J F
  have h2 := dyad_May (G := G) J n z hd e
  have h3 := dyad_May (G := G) J n' z' hd' e'
  simp only [fmA, A3] at *
  cases hm : mayD n l e <;> cases hm' : mayD n' l' e' <;> (
    rw [hm] at h2
    rw [hm'] at h3
    repeat' (first | (simp (maxSteps := 9^7) only [seval, exC, c_round_open, h1, h2, h3, rOpen_loop, c_round_open_b1, iad10, iad20, iad21, rd_ip]) | (simp (maxSteps := 9^7) (disch := first | with_reducible assumption | omega) only [dxB]) | (simp only [kdB]; split) | (simp only [kvB]; split))
    all_goals rfl)
theorem round_up (J : Al G T g) {m : Int} {neg odd half more : Bool} : run G T 93 [.int .u8 m, .bool neg, .bool odd, .bool half, .bool more] = some (.bool (upB m neg odd half more)) := by
  rw [run_k G T J.E.round_up]
  by_cases h1 : m = 1
  · subst h1
    cases odd <;> cases more <;> (repeat' (first | (simp (maxSteps := 9^7) only [seval, exC, c_round_up]) | (simp (maxSteps := 9^7) (disch := first | with_reducible assumption | omega) only [dxB]) | (simp only [kdB]; split) | (simp only [kvB]; split)); cases half <;> rfl)
  · by_cases h2 : m = 2
    · subst h2; repeat' (first | (simp (maxSteps := 9^7) only [seval, exC, c_round_up]) | (simp (maxSteps := 9^7) (disch := first | with_reducible assumption | omega) only [dxB]) | (simp only [kdB]; split) | (simp only [kvB]; split)); rfl
    · by_cases h4 : m = 4
      · subst h4
        cases neg <;> cases half <;> (repeat' (first | (simp (maxSteps := 9^7) only [seval, exC, c_round_up]) | (simp (maxSteps := 9^7) (disch := first | with_reducible assumption | omega) only [dxB]) | (simp only [kdB]; split) | (simp only [kvB]; split)); cases more <;> rfl)
      · by_cases h5 : m = 5
        · subst h5
          cases neg <;> cases half <;> (repeat' (first | (simp (maxSteps := 9^7) only [seval, exC, c_round_up]) | (simp (maxSteps := 9^7) (disch := first | with_reducible assumption | omega) only [dxB]) | (simp only [kdB]; split) | (simp only [kvB]; split)); cases more <;> rfl)
        · repeat' (first | (simp (maxSteps := 9^7) only [seval, exC, c_round_up]) | (simp (maxSteps := 9^7) (disch := first | with_reducible assumption | omega) only [dxB]) | (simp only [kdB]; split) | (simp only [kvB]; split))
          simp [upB, h1, h2, h4, h5]
theorem round_btoi (J : Al G T g) {b : Bool} : run G T 92 [.bool b] = some (.int .u64 (b.toNat : Int)) := by
  rw [run_k G T J.E.round_btoi]
  cases b <;> (repeat' (first | (simp (maxSteps := 9^7) only [seval, exC, c_round_btoi]) | (simp (maxSteps := 9^7) (disch := first | with_reducible assumption | omega) only [dxB]) | (simp only [kdB]; split) | (simp only [kvB]; split)); try rfl)
def headN (m : Nat) : Nat := if blen m ≤ 64 then m * 2 ^ (64 - blen m) else m / 2 ^ (blen m - 64)
def behindN (m : Nat) : Bool := if blen m ≤ 64 then false else decide (m % 2 ^ (blen m - 64) ≠ 0)
theorem headN_blen {m : Nat} (h : m ≠ 0) : blen (headN m) = 64 := by
  unfold headN; split
  · rw [blen_mul h]; omega
  · rw [blen_div]; omega
def partA (w : Nat) (top : Int) (more : Bool) : AV := .agg [.int .u64 (w : Int), .int .i64 top, .bool more]
theorem round_partOf (J : Al G T g) {z : Bool} {d : Dy} (hm : mayL (dl d.m) = true) (h0 : d.m ≠ 0) (he : -1099511627776 < d.e ∧ d.e < 1099511627776) :
    run G T 23 [DyA z d] = some (partA (headN d.m) (d.e + blen d.m) (behindN d.m)) := by
  rw [run_k G T J.E.round_partOf]
  obtain ⟨n, m, e⟩ := d
  simp only at *
  have hb := may_blen hm
  have hh := headN_blen h0
  have h1 := nat_Len J (z := z) hm
  have h64 : headN m < 18446744073709551616 := blen_le.1 (Nat.le_of_eq hh)
  have hs : ∃ z', run G T 50 [D z (dl m), .int .i64 (64 - blen m)] = some (.tup [D z' (dl (headN m)), .bool (behindN m), .int .i64 0]) := by
    unfold headN behindN
    by_cases hc : blen m ≤ 64
    · obtain ⟨z', hz⟩ := nat_Shift_up (G := G) J (z := z) (a := m) (n := 64 - blen m) hm (by omega) (by omega)
      rw [show ((64 - blen m : Nat) : Int) = 64 - blen m by omega] at hz
      exact ⟨z', by rw [if_pos hc, if_pos hc]; exact hz⟩
    · obtain ⟨z', hz⟩ := nat_Shift_down (G := G) J (z := z) (a := m) (n := blen m - 64) hm (by omega) (by omega)
      rw [show -((blen m - 64 : Nat) : Int) = 64 - blen m by omega] at hz
      exact ⟨z', by rw [if_neg hc, if_neg hc, hz]; simp⟩
  obtain ⟨z', h2⟩ := hs
  have h3 := nat_Num J (z := z') h64
  simp only [DyA, A3, partA] at *
  repeat' (first | (simp (maxSteps := 9^7) only [seval, exC, c_round_partOf, h1, h2, h3]) | (simp (maxSteps := 9^7) (disch := first | with_reducible assumption | omega) only [dxB]) | (simp only [kdB]; split) | (simp only [kvB]; split))
theorem and1_64 {x : Int} (h : 0 ≤ x ∧ x < 18446744073709551616) : andI .u64 x 1 = x % 2 := by
  obtain ⟨n, rfl⟩ := Int.eq_ofNat_of_zero_le h.1
  have := and64 (a := n) (b := 1) (by omega) (by decide)
  rw [show ((1 : Nat) : Int) = 1 from rfl] at this
  rw [this, and_one]; rfl
theorem lt_cast64 {n : Nat} (h : n < 18446744073709551616) : 0 ≤ (n : Int) ∧ (n : Int) < 18446744073709551616 := ⟨Int.natCast_nonneg n, by omega⟩
theorem and_mask {x j : Nat} (hx : x < 18446744073709551616) (hj : j < 64) : andI .u64 (x : Int) (2 ^ j - 1) = ((x % 2 ^ j : Nat) : Int) := by
  have hp := Nat.two_pow_pos j
  have h2 : 2 ^ j < 18446744073709551616 := Nat.lt_of_lt_of_le (Nat.pow_lt_pow_right (by decide) hj) (by decide)
  have e : ((2 : Int) ^ j - 1) = ((2 ^ j - 1 : Nat) : Int) := by rw [pow_cast]; omega
  rw [e, and64 hx (by omega), Nat.and_two_pow_sub_one_eq_mod]
set_option maxHeartbeats 2000000 in
theorem round_units (J : Al G T g) {m : Int} {neg more : Bool} {w k : Nat} {e top : Int} (hw : blen w = 64) (hk : e - top + 64 = k) (h0 : 0 < k) (he : -1099511627776 < e ∧ e < 1099511627776) (ht : -1099511627776 < top ∧ top < 1099511627776) :
    run G T 52 [partA w top more, .int .u8 m, .bool neg, .int .i64 e] = some (.tup [.int .u64 ((rdN m neg w more k).1 : Int), .bool (rdN m neg w more k).2]) := by
  rw [run_k G T J.E.round_part_units]
  have h64 : w < 18446744073709551616 := blen_le.1 (Nat.le_of_eq hw)
  have hw0 : w ≠ 0 := by rintro rfl; rw [blen_zero] at hw; omega
  by_cases hc : 64 < k
  · have h1 := round_up (G := G) J (m := m) (neg := neg) (odd := false) (half := false) (more := true)
    have h2 := round_btoi (G := G) J (b := upB m neg false false true)
    have e0 : ∀ j, 64 ≤ j → w < 2 ^ j := fun j hj => Nat.lt_of_lt_of_le h64 (by rw [show 18446744073709551616 = 2 ^ 64 from rfl]; exact Nat.pow_le_pow_right (by decide) hj)
    have e1 : w / 2 ^ k = 0 := Nat.div_eq_of_lt (e0 _ (by omega))
    have e2 : halfN w k = false := by simp only [halfN]; rw [Nat.div_eq_of_lt (e0 _ (by omega))]; rfl
    have e3 : moreN w more k = true := by simp only [moreN]; rw [Nat.mod_eq_of_lt (e0 _ (by omega)), decide_eq_true hw0, Bool.or_true]
    have e4 : rdN m neg w more k = ((upB m neg false false true).toNat, false) := by simp only [rdN, e1, e2, e3]; simp
    rw [e4]
    simp only [partA] at *
    repeat' (first | (simp (maxSteps := 9^7) only [seval, exC, c_round_part_units, h1, h2, hk]) | (simp (maxSteps := 9^7) (disch := first | with_reducible assumption | omega) only [dxB]) | (simp only [kdB]; split) | (simp only [kvB]; split))
  · have hkm : min (k - 1) 64 = k - 1 := by omega
    have hkp : min k 64 = k := by omega
    have p1 := Nat.two_pow_pos k
    have hh : (w : Int) / 2 ^ (k - 1) = ((w / 2 ^ (k - 1) : Nat) : Int) := by rw [pow_cast]; rfl
    have hd : (w : Int) / 2 ^ k = ((w / 2 ^ k : Nat) : Int) := by rw [pow_cast]; rfl
    have hq : w / 2 ^ (k - 1) < 18446744073709551616 := Nat.lt_of_le_of_lt (Nat.div_le_self ..) h64
    have hq2 : w / 2 ^ k < 9223372036854775808 := by
      apply Nat.div_lt_of_lt_mul
      have : 2 ^ 1 ≤ 2 ^ k := Nat.pow_le_pow_right (by decide) h0
      omega
    have hmsk := and_mask (x := w) (j := k - 1) h64 (by omega)
    have p2 : 2 ^ (k - 1) < 18446744073709551616 := Nat.lt_of_lt_of_le (Nat.pow_lt_pow_right (by decide) (show k - 1 < 64 by omega)) (by decide)
    have p3 := Nat.two_pow_pos (k - 1)
    have w1 : (1 * (2 : Int) ^ (k - 1)) % 18446744073709551616 = 2 ^ (k - 1) := by rw [pow_cast]; omega
    have w2 : ((2 : Int) ^ (k - 1) - 1) % 18446744073709551616 = 2 ^ (k - 1) - 1 := by rw [pow_cast]; omega
    have hb1 : decide (((w / 2 ^ (k - 1) : Nat) : Int) % 2 = 1) = halfN w k := by
      simp only [halfN]; congr 1; apply propext; omega
    have hb2 : (!decide (((w % 2 ^ (k - 1) : Nat) : Int) = 0)) = moreN w false k := by
      simp only [moreN, Bool.false_or, ne_eq, decide_not]; congr 2; apply propext; omega
    have hb4 : moreN w true k = true := rfl
    have hA1 := and1_64 (x := ((w / 2 ^ (k - 1) : Nat) : Int)) (lt_cast64 hq)
    have hA2 := and1_64 (x := ((w / 2 ^ k : Nat) : Int)) (lt_cast64 (Nat.lt_trans hq2 (by decide)))
    have hA3 := and1_64 (x := 0) (by decide)
    by_cases hk2 : k = 64
    · have e1 : w / 2 ^ k = 0 := Nat.div_eq_of_lt (by rw [hk2]; exact h64)
      have h1 := round_up (G := G) J (m := m) (neg := neg) (odd := false) (half := halfN w k) (more := moreN w more k)
      have h2 := round_btoi (G := G) J (b := upB m neg false (halfN w k) (moreN w more k))
      have e4 : rdN m neg w more k = ((upB m neg false (halfN w k) (moreN w more k)).toNat, !halfN w k && !moreN w more k) := by simp only [rdN, e1]; simp
      have hbt : (upB m neg false (halfN w k) (moreN w more k)).toNat ≤ 1 := by cases upB m neg false (halfN w k) (moreN w more k) <;> decide
      rw [e4]
      generalize (upB m neg false (halfN w k) (moreN w more k)).toNat = bt at *
      simp only [partA] at *
      cases more
      · cases hH : halfN w k <;> cases hM : moreN w false k <;> (
          rw [hH] at h1 h2 hb1
          rw [hM] at h1 h2 hb2
          repeat' (first | (simp (maxSteps := 9^7) only [seval, exC, c_round_part_units, h1, h2, hk, hkm, hA1, hA2, hA3, hh, hb1, hb2, hmsk, w1, w2]) | (simp (maxSteps := 9^7) (disch := first | with_reducible assumption | omega) only [dxB]) | (simp only [kdB]; split) | (simp only [kvB]; split))
          all_goals (refine tup_int ?_; clear hA1 hA2; generalize w / 2 ^ k = Q at hq2 ⊢; omega))
      · rw [hb4] at *
        cases hH : halfN w k <;> (
          rw [hH] at h1 h2 hb1
          repeat' (first | (simp (maxSteps := 9^7) only [seval, exC, c_round_part_units, h1, h2, hk, hkm, hA1, hA2, hA3, hh, hb1, hmsk, w1, w2]) | (simp (maxSteps := 9^7) (disch := first | with_reducible assumption | omega) only [dxB]) | (simp only [kdB]; split) | (simp only [kvB]; split))
          all_goals (refine tup_int ?_; clear hA1 hA2; generalize w / 2 ^ k = Q at hq2 ⊢; omega))
    · have h1 := round_up (G := G) J (m := m) (neg := neg) (odd := decide (w / 2 ^ k % 2 = 1)) (half := halfN w k) (more := moreN w more k)
      have h2 := round_btoi (G := G) J (b := upB m neg (decide (w / 2 ^ k % 2 = 1)) (halfN w k) (moreN w more k))
      have hb3 : decide (((w / 2 ^ k : Nat) : Int) % 2 = 1) = decide (w / 2 ^ k % 2 = 1) := by congr 1; apply propext; omega
      have hbt : (upB m neg (decide (w / 2 ^ k % 2 = 1)) (halfN w k) (moreN w more k)).toNat ≤ 1 := by cases upB m neg (decide (w / 2 ^ k % 2 = 1)) (halfN w k) (moreN w more k) <;> decide
      simp only [rdN]
      generalize (upB m neg (decide (w / 2 ^ k % 2 = 1)) (halfN w k) (moreN w more k)).toNat = bt at *
      simp only [partA] at *
      have hlt : k < 64 := by omega
      cases more
      · cases hH : halfN w k <;> cases hM : moreN w false k <;> (
          rw [hH] at h1 h2 hb1
          rw [hM] at h1 h2 hb2
          repeat' (first | (simp (maxSteps := 9^7) only [seval, exC, c_round_part_units, h1, h2, hk, hkm, hA1, hA2, hA3, hkp, hh, hd, hb1, hb2, hb3, hmsk, w1, w2]) | (simp (maxSteps := 9^7) (disch := first | with_reducible assumption | omega) only [dxB]) | (simp only [kdB]; split) | (simp only [kvB]; split))
          all_goals (refine tup_int ?_; clear hA1 hA2; generalize w / 2 ^ k = Q at hq2 ⊢; omega))
      · rw [hb4] at *
        cases hH : halfN w k <;> (
          rw [hH] at h1 h2 hb1
          repeat' (first | (simp (maxSteps := 9^7) only [seval, exC, c_round_part_units, h1, h2, hk, hkm, hA1, hA2, hA3, hkp, hh, hd, hb1, hb3, hmsk, w1, w2]) | (simp (maxSteps := 9^7) (disch := first | with_reducible assumption | omega) only [dxB]) | (simp only [kdB]; split) | (simp only [kvB]; split))
          all_goals (refine tup_int ?_; clear hA1 hA2; generalize w / 2 ^ k = Q at hq2 ⊢; omega))
theorem round_Over (J : Al G T g) (F : Fm) {m : Int} (h : 1 ≤ m ∧ m ≤ 5) {neg : Bool} : run G T 8 [.int .u8 F.u, .int .u8 m, .bool neg] = some (.tup [.int .u64 (ovr F m neg : Int), .int .i64 0]) := by
  rw [run_k G T J.E.round_Over]
  have h1 := round_open0 (G := G) J F h
  have h2 := word_Greatest (G := G) J F (n := neg)
  have h3 := word_Inf (G := G) J F (n := neg)
  simp only [fmA] at *
  cases neg
  · repeat' (first | (simp (maxSteps := 9^7) only [seval, exC, c_round_Over, h1, h2, h3]) | (simp (maxSteps := 9^7) (disch := first | with_reducible assumption | omega) only [dxB]) | (simp only [kdB]; split) | (simp only [kvB]; split))
    all_goals simp_all [ovr]
  · repeat' (first | (simp (maxSteps := 9^7) only [seval, exC, c_round_Over, h1, h2, h3]) | (simp (maxSteps := 9^7) (disch := first | with_reducible assumption | omega) only [dxB]) | (simp only [kdB]; split) | (simp only [kvB]; split))
    all_goals simp_all [ovr]
theorem mkD_zero (n : Bool) (e : Int) : mkD n 0 e = ⟨false, 0, 0⟩ := rfl
theorem mkD_pos {n : Bool} {m : Nat} (h : m ≠ 0) (e : Int) : mkD n m e = ⟨n, m / 2 ^ tz m, e + tz m⟩ := if_neg h
theorem mkD_m0 {n : Bool} {m : Nat} (h : m ≠ 0) (e : Int) : (mkD n m e).m ≠ 0 := by
  rw [mkD_pos h]; have := (tz_spec h).2; intro h0; simp only at h0; rw [h0] at this; exact absurd this (by decide)
theorem mkD_blen {n : Bool} {m : Nat} (h : m ≠ 0) (e : Int) : (mkD n m e).e + blen (mkD n m e).m = e + blen m := by
  rw [mkD_pos h]; simp only [blen_div]
  have := tz_blen h; omega
theorem mayL_small {a : Nat} (h : blen a ≤ 131072) : mayL (dl a) = true := by
  rw [mayL_iff]; refine ⟨?_, Nm_dl a⟩; have := dl_len_blen a; omega
theorem dg0 (a : Nat) : dg (dl a) 0 % 2 = a % 2 := by
  rw [dg_eq (Dg_dl a), val_dl]; simp
theorem mayD_mk {n : Bool} {m : Nat} {e : Int} (hb : blen m ≤ 131072) (he : m = 0 ∨ (-16777216 ≤ e + tz m ∧ e + tz m ≤ 16777216)) : mayD (mkD n m e).n (dl (mkD n m e).m) (mkD n m e).e = true := by
  by_cases h : m = 0
  · subst h; rw [mkD_zero, dl_zero]; rfl
  · rw [mkD_pos h]
    simp only at *
    have h1 : mayL (dl (m / 2 ^ tz m)) = true := mayL_small (by rw [blen_div]; omega)
    have h2 := (tz_spec h).2
    have h3 : ¬ (dl (m / 2 ^ tz m)).length = 0 := by rw [dl_len0]; intro h0; rw [h0] at h2; exact absurd h2 (by decide)
    simp only [mayD, h1, h3, if_false, dg0, h2, Bool.true_and, decide_true]
    rw [decide_eq_true (by omega : -16777216 ≤ e + tz m), decide_eq_true (by omega : e + tz m ≤ 16777216)]; rfl
theorem mkD_fits {F : Fm} {neg : Bool} {n : Nat} {e : Int} (h0 : n ≠ 0) (h1 : n ≤ 2 ^ (F.fr + 1)) (h2 : F.low ≤ e) (h3 : e + blen n ≤ F.wide) : F.fits (mkD neg n e) := by
  have hb := mkD_blen (n := neg) h0 e
  have hm := mkD_m0 (n := neg) h0 e
  refine ⟨hm, ?_, ?_, by omega⟩
  · rw [mkD_pos h0]; simp only
    rcases Nat.lt_or_ge n (2 ^ (F.fr + 1)) with h | h
    · rw [blen_div]; have := blen_le.2 h; omega
    · have h5 : n = 1 * 2 ^ (F.fr + 1) := by omega
      rw [h5, tz_unique (by decide), Nat.mul_div_cancel _ (Nat.two_pow_pos _), show blen 1 = 1 from rfl]; omega
  · rw [mkD_pos h0]; simp only; omega
theorem mkD_enc {F : Fm} {neg : Bool} {n : Nat} {e : Int} (h0 : n ≠ 0) (h1 : n ≤ 2 ^ (F.fr + 1)) (h2 : F.low ≤ e) (h4 : e = F.low ∨ 2 ^ F.fr ≤ n) :
    F.enc ((mkD neg n e).m * 2 ^ ((mkD neg n e).e - F.unit (mkD neg n e)).toNat) (F.unit (mkD neg n e)) = F.enc n e := by
  have hb := mkD_blen (n := neg) h0 e
  have hu : F.unit (mkD neg n e) = max (e + blen n - F.fr - 1) F.low := by unfold Fm.unit; rw [hb]
  rw [hu]
  rcases Nat.lt_or_ge n (2 ^ (F.fr + 1)) with h | h
  · have h5 := blen_le.2 h
    have h6 : max (e + blen n - F.fr - 1) F.low = e := by
      rcases h4 with h4 | h4
      · omega
      · have := lt_blen.2 h4; omega
    rw [h6, mkD_pos h0]
    simp only
    rw [show (e + (tz n : Int) - e).toNat = tz n by omega, ← (tz_spec h0).1]
  · have h5 : n = 1 * 2 ^ (F.fr + 1) := by omega
    have h6 : tz n = F.fr + 1 := by rw [h5]; exact tz_unique (by decide)
    have h7 : blen n = F.fr + 2 := by rw [h5, blen_mul (by decide), show blen 1 = 1 from rfl]; omega
    rw [mkD_pos h0, h6, h7]
    simp only
    have h8 : n / 2 ^ (F.fr + 1) = 1 := by rw [h5, Nat.mul_div_cancel _ (Nat.two_pow_pos _)]
    rw [h8, show max (e + ((F.fr + 2 : Nat) : Int) - F.fr - 1) F.low = e + 1 by omega, show (e + ((F.fr + 1 : Nat) : Int) - (e + 1)).toNat = F.fr by omega]
    unfold Fm.enc
    rw [show (e + 1 - F.low).toNat = (e - F.low).toNat + 1 by omega, Nat.add_mul, h5, Nat.pow_succ]; omega
theorem rdN_bd {md : Int} {neg more : Bool} {w k : Nat} (hw : blen w = 64) {p : Nat} (hk : 64 ≤ k + p) : (rdN md neg w more k).1 ≤ 2 ^ p := by
  have h64 : w < 2 ^ 64 := blen_le.1 (Nat.le_of_eq hw)
  have h1 : w / 2 ^ k < 2 ^ p := by
    apply Nat.div_lt_of_lt_mul
    rw [← Nat.pow_add]
    exact Nat.lt_of_lt_of_le h64 (Nat.pow_le_pow_right (by decide) hk)
  have h2 : ∀ b : Bool, b.toNat ≤ 1 := by intro b; cases b <;> decide
  have := h2 (upB md neg (decide (w / 2 ^ k % 2 = 1)) (halfN w k) (moreN w more k))
  simp only [rdN]; omega
theorem rdN_lo {md : Int} {neg more : Bool} {w k : Nat} (hw : blen w = 64) (hk : k ≤ 63) : 2 ^ (63 - k) ≤ (rdN md neg w more k).1 := by
  have h1 : 2 ^ 63 ≤ w := lt_blen.1 (by omega)
  have h2 : 2 ^ (63 - k) ≤ w / 2 ^ k := by
    rw [Nat.le_div_iff_mul_le (Nat.two_pow_pos _), ← Nat.pow_add, show 63 - k + k = 63 by omega]; exact h1
  simp only [rdN]; omega
end Go.Cv
