/-
  A part of the proof of the statements of this seat (texts that the law's own text leans on): no condition.
-/
import Derived.Test.YtcedpdogncohfaaGreatDoorM10
set_option linter.unusedVariables false
set_option linter.unusedSimpArgs false
namespace Go.Cv
variable {G : Nat → Option (List AV)} {T : Tbl} {g : Nat}
theorem iaddr_off {b off n : Nat} {k : IntKind} {j : Int} (hj : 0 ≤ j ∧ j < n) : iaddrV 1 (.own b off n 1) (.int k j) = some (.ptr b (off + j.toNat)) := by
  rw [iaddrV, if_pos ⟨hj.1, hj.2, rfl⟩, Nat.mul_one]
theorem dg_mid {A W C : List Nat} {i : Nat} (hi : i < W.length) : dg (A ++ W ++ C) (A.length + i) = dg W i := by
  rw [dg_lt (by simp only [List.length_append]; omega), dg_lt hi, List.getElem_append_left (by simp only [List.length_append]; omega), List.getElem_append_right (by omega)]
  congr 1; omega
theorem dg_left {V C : List Nat} {i : Nat} (hi : i < V.length) : dg (V ++ C) i = dg V i := by
  rw [dg_lt (by simp only [List.length_append]; omega), dg_lt hi, List.getElem_append_left hi]
theorem set_mid {A W C : List Nat} {i x : Nat} (hi : i < W.length) : (A ++ W ++ C).set (A.length + i) x = A ++ W.set i x ++ C := by
  rw [List.set_append_left _ _ (by simp only [List.length_append]; omega), List.set_append_right _ _ (by omega), Nat.add_sub_cancel_left]
theorem load_w {h : Heap} {b : Nat} {A W C : List Nat} (H : Holds h b (A ++ W ++ C)) {i : Nat} (hi : i < W.length) : rdAt G h.mem 1 (.ptr b (A.length + i)) = some [.int .u32 (dg W i)] := by
  rw [load_own (G := G) H (by simp only [List.length_append]; omega), dg_mid hi]
theorem load_v {h : Heap} {b : Nat} {V C : List Nat} (H : Holds h b (V ++ C)) {i : Nat} (hi : i < V.length) : rdAt G h.mem 1 (.ptr b i) = some [.int .u32 (dg V i)] := by
  rw [load_own (G := G) H (by simp only [List.length_append]; omega), dg_left hi]
theorem store_w {h : Heap} {b : Nat} {A W C : List Nat} (H : Holds h b (A ++ W ++ C)) {i x : Nat} (hi : i < W.length) :
    storeV h 1 (.ptr b (A.length + i)) (.int .u32 (x : Int)) = some (.tup [], put h b (A ++ W.set i x ++ C)) := by
  rw [store_n H (by simp only [List.length_append]; omega), set_mid hi]
theorem step_guess {h : Heap} {bu bv n : Nat} {A W C V V2 : List Nat} {X Y P v1 v2 t u : Nat} (HU : Holds h bu (A ++ W ++ C)) (HV : Holds h bv (V ++ V2)) (hW : W.length = n + 1) (hV : V.length = n) (hn : 2 ≤ n) (hs : n < 549755813888)
    (dV : Dg V) (dW : Dg W) (e1 : dg V (n - 1) = v1) (e2 : dg V (n - 2) = v2) (e3 : dg W (n - 2) = u) (h0 : 0 < Y) (hV1 : (v1 * 4294967296 + v2) * P ≤ Y) (hV2 : Y ≤ (v1 * 4294967296 + v2 + 1) * P) (hX1 : (t * 4294967296 + u) * P ≤ X)
    (hX2 : X < (t * 4294967296 + u + 1) * P) (hXV : X < 4294967296 * Y) (hv1 : 1 ≤ v1) (ht : t < v1 * 4294967296 + 4294967296) (htb : t < 18446744073709551616) : ∀ (g l : Nat),
    l < 4294967296 → g * v1 + l = t → X / Y ≤ g →
    Post (evL G T c_nat_step_l3 [(0, .own bu A.length (n + 1) 1), (1, .own bv 0 n 1), (5, .int .i64 (n : Int)), (7, .int .u64 (g : Int)), (8, .int .u64 (l : Int))] h) fun r =>
      ∃ e g', r = (.exit 0, (0, .own bu A.length (n + 1) 1) :: (1, .own bv 0 n 1) :: (5, .int .i64 (n : Int)) :: (7, .int .u64 ((g' : Nat) : Int)) :: e, h) ∧ g' < 4294967296 ∧ X / Y ≤ g' ∧ g' ≤ X / Y + 1 := by
  intro g
  induction g using Nat.strongRecOn with
  | ind g ih =>
    intro l hl hgl hq
    have hv2 : v2 < 4294967296 := e2 ▸ dV.dg _
    have hu : u < 4294967296 := e3 ▸ dW.dg _
    have hv1' : v1 < 4294967296 := e1 ▸ dV.dg _
    have hend := fun g l => guess_end (X := X) (V := Y) (t := t) (u := u) (P := P) (g := g) (l := l) h0 hV1 hV2 hX1 hv1 hv2
    have hdn := guess_down (g := g) (l := l) hV1 hX2 hXV hgl
    have hgt : g ≤ t := Nat.le_trans (Nat.le_mul_of_pos_right g hv1) (by omega)
    have hstep : 1 ≤ g → (g - 1) * v1 + (l + v1) = t := fun hg => by
      obtain ⟨k, rfl⟩ : ∃ k, g = k + 1 := ⟨g - 1, by omega⟩
      rw [Nat.add_mul] at hgl; simp only [Nat.add_sub_cancel]; omega
    clear hX1 hX2 hXV hV1 hV2
    generalize X / Y = q at *
    rw [s_loopc G T (c := c_nat_step_l3) rfl]
    have i1 : (n : Int) - 1 = ((n - 1 : Nat) : Int) := by omega
    have i2 : (n : Int) - 2 = ((n - 2 : Nat) : Int) := by omega
    have l1 := load_v (G := G) HV (i := n - 1) (by omega)
    have l2 := load_v (G := G) HV (i := n - 2) (by omega)
    have l3 := load_w (G := G) HU (i := n - 2) (by omega)
    rw [e1] at l1
    rw [e2] at l2
    rw [e3] at l3
    have wv1 : (v1 : Int) % 18446744073709551616 = v1 := by omega
    have wv2 : (v2 : Int) % 18446744073709551616 = v2 := by omega
    have wu : (u : Int) % 18446744073709551616 = u := by omega
    have wl : ((l : Int) + v1) % 18446744073709551616 = ((l + v1 : Nat) : Int) := by omega
    have wo := shl32_or (r := l) (x := u) hl hu
    have wg : 1 ≤ g → ((g : Int) - 1) % 18446744073709551616 = ((g - 1 : Nat) : Int) := fun hg => by omega
    have fin : (hg : q < g) → Post (if (4294967296 : Int) ≤ ((l + v1 : Nat) : Int) then some ((.exit 0, [(0, .own bu A.length (n + 1) 1), (1, .own bv 0 n 1), (5, .int .i64 (n : Int)), (7, .int .u64 ((g - 1 : Nat) : Int)), (8, .int .u64 ((l + v1 : Nat) : Int)), (80, .bool true)], h) : Ex × Env × Heap)
        else evL G T c_nat_step_l3 [(0, .own bu A.length (n + 1) 1), (1, .own bv 0 n 1), (5, .int .i64 (n : Int)), (7, .int .u64 ((g - 1 : Nat) : Int)), (8, .int .u64 ((l + v1 : Nat) : Int)), (80, .bool false)] h) fun r =>
      ∃ e g', r = (.exit 0, (0, .own bu A.length (n + 1) 1) :: (1, .own bv 0 n 1) :: (5, .int .i64 (n : Int)) :: (7, .int .u64 ((g' : Nat) : Int)) :: e, h) ∧ g' < 4294967296 ∧ q ≤ g' ∧ g' ≤ q + 1 := by
      intro hg
      by_cases c2 : 4294967296 ≤ l + v1
      · rw [if_pos (by omega)]
        exact Post.some ⟨_, _, rfl, hend _ _ (hstep (by omega)) ht (by omega) (Or.inr c2)⟩
      · rw [if_neg (by omega), show evL G T c_nat_step_l3 [(0, .own bu A.length (n + 1) 1), (1, .own bv 0 n 1), (5, .int .i64 (n : Int)), (7, .int .u64 ((g - 1 : Nat) : Int)), (8, .int .u64 ((l + v1 : Nat) : Int)), (80, .bool false)] h = evL G T c_nat_step_l3 [(0, .own bu A.length (n + 1) 1), (1, .own bv 0 n 1), (5, .int .i64 (n : Int)), (7, .int .u64 ((g - 1 : Nat) : Int)), (8, .int .u64 ((l + v1 : Nat) : Int))] h by
          rw [s_loopc G T (c := c_nat_step_l3) rfl, s_loopc G T (c := c_nat_step_l3) rfl]; rfl]
        exact ih (g - 1) (by omega) (l + v1) (by omega) (hstep (by omega)) (by omega)
    by_cases c1 : 4294967296 ≤ g
    · have hg := hdn (Or.inl c1)
      have c1' : (4294967296 : Int) ≤ (g : Int) := by omega
      have wg := wg (by omega)
      have fin := fin hg
      clear hend hdn ih hstep
      by_cases c2 : (4294967296 : Int) ≤ ((l + v1 : Nat) : Int)
      · rw [if_pos c2] at fin
        repeat (first | (simp (maxSteps := 9^7) only [seval, evB, c_nat_step_b3, c1', c2, wg, wl, wv1, i1, l1 ]) | (simp (disch := omega) only [dsB,  iaddr_off]))
        exact fin
      · rw [if_neg c2] at fin
        repeat (first | (simp (maxSteps := 9^7) only [seval, evB, c_nat_step_b3, c1', c2, wg, wl, wv1, i1, l1 ]) | (simp (disch := omega) only [dsB,  iaddr_off]))
        exact fin
    · have c1' : ¬ (4294967296 : Int) ≤ (g : Int) := by omega
      have hp : g * v2 ≤ 4294967295 * 4294967295 := Nat.mul_le_mul (by omega) (by omega)
      have wp : (g : Int) * (v2 : Int) = ((g * v2 : Nat) : Int) := by rw [Int.natCast_mul]
      have wp2 : ((g * v2 : Nat) : Int) % 18446744073709551616 = ((g * v2 : Nat) : Int) := by omega
      by_cases c3 : l * 4294967296 + u < g * v2
      · have hg := hdn (Or.inr c3)
        have wg := wg (by omega)
        have fin := fin hg
        have c3' : ((l * 4294967296 + u : Nat) : Int) < ((g * v2 : Nat) : Int) := by omega
        clear hend hdn ih hstep
        by_cases c2 : (4294967296 : Int) ≤ ((l + v1 : Nat) : Int)
        · rw [if_pos c2] at fin
          repeat (first | (simp (maxSteps := 9^7) only [seval, evB, c_nat_step_b3, c1', c2, c3', wp, wp2, wo, wu, wv2, wg, wl, wv1, i1, i2, l1, l2, l3 ]) | (simp (disch := omega) only [dsB,  iaddr_off]))
          exact fin
        · rw [if_neg c2] at fin
          repeat (first | (simp (maxSteps := 9^7) only [seval, evB, c_nat_step_b3, c1', c2, c3', wp, wp2, wo, wu, wv2, wg, wl, wv1, i1, i2, l1, l2, l3 ]) | (simp (disch := omega) only [dsB,  iaddr_off]))
          exact fin
      · have c3' : ¬ ((l * 4294967296 + u : Nat) : Int) < ((g * v2 : Nat) : Int) := by omega
        have fin := hend g l hgl ht hq (Or.inl ⟨by omega, by omega⟩)
        clear hend hdn ih hstep
        repeat (first | (simp (maxSteps := 9^7) only [seval, evB, c_nat_step_b3, c1', c3', wp, wp2, wo, wu, wv2, i1, i2, l2, l3 ]) | (simp (disch := omega) only [dsB,  iaddr_off]))
        exact Post.some ⟨_, _, rfl, fin⟩
theorem sub_dig {x y w : Nat} (hx : x < 4294967296) (hy : y < 4294967296) (hw : w ≤ 1) : ∃ d z, d < 4294967296 ∧ z ≤ 1 ∧ d + y + w = x + 4294967296 * z := by
  by_cases h : y + w ≤ x
  · exact ⟨x - y - w, 0, by omega, by omega, by omega⟩
  · exact ⟨x + 4294967296 - y - w, 1, by omega, by omega, by omega⟩
theorem add_dig {x y w : Nat} (hx : x < 4294967296) (hy : y < 4294967296) (hw : w ≤ 1) : ∃ d z, d < 4294967296 ∧ z ≤ 1 ∧ d + 4294967296 * z = x + y + w :=
  ⟨(x + y + w) % 4294967296, (x + y + w) / 4294967296, by omega, by omega, by omega⟩
theorem step_take (J : Al G T g) {h : Heap} {bu bv n q : Nat} {A C V V2 W0 : List Nat} (HU : Holds h bu (A ++ W0 ++ C)) (HV : Holds h bv (V ++ V2)) (hne : bv ≠ bu) (hV : V.length = n) (hs : n < 549755813888)
    (dV : Dg V) (hq : q < 4294967296) : ∀ (m i : Nat) (W : List Nat) (c w : Nat), m + i = n → W.length = n + 1 → Dg W → c < 4294967296 → w ≤ 1 → val W + q * val (V.take i) = val W0 + 4294967296 ^ i * (c + w) →
    Post (evL G T c_nat_step_l2 [(0, .own bu A.length (n + 1) 1), (1, .own bv 0 n 1), (5, .int .i64 (n : Int)), (7, .int .u64 (q : Int)), (9, .int .u32 (w : Int)), (10, .int .u64 (c : Int)), (81, .own bv 0 n 1), (82, .int .i64 (n : Int)), (83, .int .i64 (i : Int))] (put h bu (A ++ W ++ C))) fun r =>
      ∃ e W' c' w', r = (.exit 2, (0, .own bu A.length (n + 1) 1) :: (1, .own bv 0 n 1) :: (5, .int .i64 (n : Int)) :: (7, .int .u64 (q : Int)) :: (9, .int .u32 ((w' : Nat) : Int)) :: (10, .int .u64 ((c' : Nat) : Int)) :: e, put h bu (A ++ W' ++ C)) ∧
        W'.length = n + 1 ∧ Dg W' ∧ c' < 4294967296 ∧ w' ≤ 1 ∧ val W' + q * val V = val W0 + 4294967296 ^ n * (c' + w')
  | 0, i, W, c, w, hm, hW, dW, hc, hw, he => by
    rw [s_loopc G T (c := c_nat_step_l2) rfl]
    have h1 : ¬ (i : Int) < (n : Int) := by omega
    repeat (first | (simp (maxSteps := 9^7) only [seval, evB, c_nat_step_b2, h1]) | (simp (disch := omega) only [dsB]))
    obtain rfl : i = n := by omega
    rw [List.take_of_length_le (by omega)] at he
    exact Post.some ⟨_, _, _, _, rfl, hW, dW, hc, hw, he⟩
  | m + 1, i, W, c, w, hm, hW, dW, hc, hw, he => by
    rw [s_loopc G T (c := c_nat_step_l2) rfl]
    have h1 : (i : Int) < (n : Int) := by omega
    have e7 : (i : Int) + 1 = ((i + 1 : Nat) : Int) := by omega
    have hd := dV.dg i
    have hx := dW.dg i
    have HU' := HU.put (A ++ W ++ C)
    have HV' := HV.other (l := A ++ W ++ C) hne
    have l1 := load_v (G := G) HV' (i := i) (by omega)
    have l2 := load_w (G := G) HU' (i := i) (by omega)
    have w1 : (dg V i : Int) % 18446744073709551616 = dg V i := by omega
    have hp : q * dg V i ≤ 4294967295 * 4294967295 := Nat.mul_le_mul (by omega) (by omega)
    have w2 : (q : Int) * (dg V i : Int) = ((q * dg V i : Nat) : Int) := by rw [Int.natCast_mul]
    have hv := val_take_succ' (l := V) (i := i)
    generalize hpp : q * dg V i = p at *
    have w3 : (p : Int) % 18446744073709551616 = p := by omega
    have w4 : ((c : Int) + (p : Int)) % 18446744073709551616 = ((c + p : Nat) : Int) := by omega
    have w5 : ((c + p : Nat) : Int) % 4294967296 = (((c + p) % 4294967296 : Nat) : Int) := by omega
    have w6 : ((c + p : Nat) : Int) / 4294967296 = (((c + p) / 4294967296 : Nat) : Int) := by omega
    have hy : (c + p) % 4294967296 < 4294967296 := Nat.mod_lt _ (by decide)
    have hc2 : (c + p) / 4294967296 < 4294967296 := by omega
    have hcp : c + p = (c + p) % 4294967296 + 4294967296 * ((c + p) / 4294967296) := by omega
    generalize (c + p) % 4294967296 = y at *
    generalize (c + p) / 4294967296 = c2 at *
    obtain ⟨d, z, hd1, hz, hdz⟩ := sub_dig hx hy hw
    have call := bits_Sub32 (G := G) J hx hy hw hd1 hz hdz
    have st := store_w HU' (i := i) (x := d) (by omega)
    rw [put_put] at st
    repeat (first | (simp (maxSteps := 9^7) only [seval, evB, c_nat_step_b2, h1, e7, w1, w2, w3, w4, w5, w6, l1, l2, call, st ]) | (simp (disch := omega) only [dsB,  iaddr_off]))
    refine step_take J HU HV hne hV hs dV hq m (i + 1) _ _ _ (by omega) (by rw [List.length_set]; exact hW) (Dg_set dW hd1) hc2 hz ?_
    rw [hv]
    exact take_step (val_set d (by omega)) he hdz (by rw [hpp]; exact hcp)
theorem step_back (J : Al G T g) {h : Heap} {bu bv n q : Nat} {A C V V2 W0 : List Nat} (HU : Holds h bu (A ++ W0 ++ C)) (HV : Holds h bv (V ++ V2)) (hne : bv ≠ bu) (hV : V.length = n) (hs : n < 549755813888)
    (dV : Dg V) : ∀ (m i : Nat) (W : List Nat) (w : Nat), m + i = n → W.length = n + 1 → Dg W → w ≤ 1 → val W + 4294967296 ^ i * w = val W0 + val (V.take i) → dg W n = dg W0 n →
    Post (evL G T c_nat_step_l1 [(0, .own bu A.length (n + 1) 1), (5, .int .i64 (n : Int)), (7, .int .u64 (q : Int)), (13, .int .u32 (w : Int)), (129, .own bv 0 n 1), (130, .int .i64 (n : Int)), (131, .int .i64 (i : Int))] (put h bu (A ++ W ++ C))) fun r =>
      ∃ e W' w', r = (.exit 4, (0, .own bu A.length (n + 1) 1) :: (5, .int .i64 (n : Int)) :: (7, .int .u64 (q : Int)) :: (13, .int .u32 ((w' : Nat) : Int)) :: e, put h bu (A ++ W' ++ C)) ∧
        W'.length = n + 1 ∧ Dg W' ∧ w' ≤ 1 ∧ val W' + 4294967296 ^ n * w' = val W0 + val V ∧ dg W' n = dg W0 n
  | 0, i, W, w, hm, hW, dW, hw, he, hn => by
    rw [s_loopc G T (c := c_nat_step_l1) rfl]
    have h1 : ¬ (i : Int) < (n : Int) := by omega
    repeat (first | (simp (maxSteps := 9^7) only [seval, evB, c_nat_step_b1, h1]) | (simp (disch := omega) only [dsB]))
    obtain rfl : i = n := by omega
    rw [List.take_of_length_le (by omega)] at he
    exact Post.some ⟨_, _, _, rfl, hW, dW, hw, he, hn⟩
  | m + 1, i, W, w, hm, hW, dW, hw, he, hn => by
    rw [s_loopc G T (c := c_nat_step_l1) rfl]
    have h1 : (i : Int) < (n : Int) := by omega
    have e7 : (i : Int) + 1 = ((i + 1 : Nat) : Int) := by omega
    have hd := dV.dg i
    have hx := dW.dg i
    have HU' := HU.put (A ++ W ++ C)
    have HV' := HV.other (l := A ++ W ++ C) hne
    have l1 := load_v (G := G) HV' (i := i) (by omega)
    have l2 := load_w (G := G) HU' (i := i) (by omega)
    obtain ⟨d, z, hd1, hz, hdz⟩ := add_dig hx hd hw
    have call := bits_Add32 (G := G) J hx hd hw hd1 hz hdz
    have st := store_w HU' (i := i) (x := d) (by omega)
    rw [put_put] at st
    repeat (first | (simp (maxSteps := 9^7) only [seval, evB, c_nat_step_b1, h1, e7, l1, l2, call, st ]) | (simp (disch := omega) only [dsB,  iaddr_off]))
    refine step_back J HU HV hne hV hs dV m (i + 1) _ _ (by omega) (by rw [List.length_set]; exact hW) (Dg_set dW hd1) hz ?_ (by rw [dg_set_ne (by omega)]; exact hn)
    rw [val_take_succ']
    exact back_step (val_set d (by omega)) he hdz
theorem step_fin0 {X Y g w : Nat} (h0 : 0 < Y) (he : w + g * Y = X) (hq : X / Y ≤ g) : g = X / Y ∧ w = X % Y := by
  have h1 : g ≤ X / Y := by rw [Nat.le_div_iff_mul_le h0]; omega
  obtain rfl : g = X / Y := by omega
  have := Nat.div_add_mod X Y
  rw [Nat.mul_comm] at this
  exact ⟨rfl, by omega⟩
theorem step_fin1 {X Y g w w4 k B : Nat} (h0 : 0 < Y) (hB : Y ≤ B) (he : w + g * Y = X + B) (hw : w < B) (hq : g ≤ X / Y + 1) (h4 : w4 + B * k = w + Y) (hw4 : w4 < B) : g = X / Y + 1 ∧ w4 = X % Y := by
  have h1 : X / Y < g := Nat.div_lt_of_lt_mul (by rw [Nat.mul_comm]; omega)
  obtain rfl : g = X / Y + 1 := by omega
  have h2 := Nat.div_add_mod X Y
  have h3 := Nat.mod_lt X h0
  rw [Nat.add_mul, Nat.one_mul, Nat.mul_comm] at he
  refine ⟨rfl, ?_⟩
  rcases k with _ | _ | k
  · rw [Nat.mul_zero] at h4; omega
  · omega
  · have : B * (k + 1 + 1) = B * k + B + B := by rw [Nat.mul_add, Nat.mul_add, Nat.mul_one]
    omega
theorem top_two {V : List Nat} {n : Nat} (hV : V.length = n + 2) : val V = val (V.take n) + 4294967296 ^ n * (dg V (n + 1) * 4294967296 + dg V n) := by
  have e1 := val_take_succ' (l := V) (i := n)
  have e2 := val_take_succ' (l := V) (i := n + 1)
  rw [List.take_of_length_le (by omega)] at e2
  rw [e2, e1, Nat.pow_succ, Nat.mul_add, Nat.mul_assoc, Nat.mul_comm 4294967296 (dg V (n + 1))]; omega
theorem top_three {W : List Nat} {n : Nat} (hW : W.length = n + 3) : val W = val (W.take n) + 4294967296 ^ n * ((dg W (n + 2) * 4294967296 + dg W (n + 1)) * 4294967296 + dg W n) := by
  have e1 := val_take_succ' (l := W) (i := n)
  have e2 := val_take_succ' (l := W) (i := n + 1)
  have e3 := val_take_succ' (l := W) (i := n + 2)
  rw [List.take_of_length_le (by omega)] at e3
  rw [e3, e2, e1, Nat.pow_succ (m := n + 1), Nat.pow_succ (m := n)]
  generalize 4294967296 ^ n = p
  generalize dg W n = a
  generalize dg W (n + 1) = b
  generalize dg W (n + 2) = c
  have h1 : p * 4294967296 * b = 4294967296 * (p * b) := by rw [Nat.mul_comm p, Nat.mul_assoc]
  have h2 : p * 4294967296 * 4294967296 * c = 4294967296 * 4294967296 * (p * c) := by rw [Nat.mul_assoc p, Nat.mul_comm p, Nat.mul_assoc]
  have h3 : p * ((c * 4294967296 + b) * 4294967296 + a) = 4294967296 * 4294967296 * (p * c) + 4294967296 * (p * b) + p * a := by
    rw [Nat.mul_add, ← Nat.mul_assoc, Nat.mul_add, ← Nat.mul_assoc]; omega
  rw [h1, h2, h3]; omega
theorem lt_aux {b t v u2 v2 : Nat} (h : t * b + u2 < b * (v + v2 + 1)) (h2 : v2 < b) : t < v + b := by
  have h3 : b * t < b * (v + v2 + 1) := by rw [Nat.mul_comm]; exact Nat.lt_of_le_of_lt (Nat.le_add_right _ _) h
  have := Nat.lt_of_mul_lt_mul_left h3
  omega
structure StepPre (W V : List Nat) (n : Nat) : Prop where
  hn : 2 ≤ n
  hs : n < 17179869184
  hW : W.length = n + 1
  hV : V.length = n
  dW : Dg W
  dV : Dg V
  top : 2147483648 ≤ dg V (n - 1)
  lt : val W < 4294967296 * val V
theorem step_facts {W V : List Nat} {n : Nat} (p : StepPre W V n) : ∃ P, 0 < P ∧ (dg V (n - 1) * 4294967296 + dg V (n - 2)) * P ≤ val V ∧ val V ≤ (dg V (n - 1) * 4294967296 + dg V (n - 2) + 1) * P ∧
    ((dg W n * 4294967296 + dg W (n - 1)) * 4294967296 + dg W (n - 2)) * P ≤ val W ∧ val W < ((dg W n * 4294967296 + dg W (n - 1)) * 4294967296 + dg W (n - 2) + 1) * P ∧
    dg W n * 4294967296 + dg W (n - 1) < dg V (n - 1) * 4294967296 + 4294967296 ∧ val W / val V ≤ (dg W n * 4294967296 + dg W (n - 1)) / dg V (n - 1) ∧ 0 < val V := by
  obtain ⟨hn, hs, hW, hV, dW, dV, top, lt⟩ := p
  obtain ⟨k, rfl⟩ : ∃ k, n = k + 2 := ⟨n - 2, by omega⟩
  have e1 := top_two hV
  have e2 := top_three hW
  have t1 := val_lt (dV.take k)
  have t2 := val_lt (dW.take k)
  rw [List.length_take, Nat.min_eq_left (by omega)] at t1 t2
  simp only [Nat.add_sub_cancel, show k + 2 - 1 = k + 1 from rfl] at *
  have b1 := dV.dg k
  have b2 := dW.dg k
  have b3 := dW.dg (k + 1)
  generalize 4294967296 ^ k = P at *
  generalize val (V.take k) = lo at *
  generalize val (W.take k) = lo2 at *
  generalize dg V (k + 1) = v1 at *
  generalize dg V k = v2 at *
  generalize dg W (k + 2) = u0 at *
  generalize dg W (k + 1) = u1 at *
  generalize dg W k = u2 at *
  rw [Nat.mul_comm] at e1 e2
  have c1 : (v1 * 4294967296 + v2) * P ≤ val V := by rw [e1]; exact Nat.le_add_left _ _
  have c2 : val V < (v1 * 4294967296 + v2 + 1) * P := by rw [e1, Nat.add_mul _ 1, Nat.one_mul]; omega
  have c3 : ((u0 * 4294967296 + u1) * 4294967296 + u2) * P ≤ val W := by rw [e2]; exact Nat.le_add_left _ _
  have c4 : val W < ((u0 * 4294967296 + u1) * 4294967296 + u2 + 1) * P := by rw [e2, Nat.add_mul _ 1, Nat.one_mul]; omega
  have hP : 0 < P := by omega
  have hY : 0 < val V := Nat.lt_of_lt_of_le (Nat.mul_pos (by omega) hP) c1
  refine ⟨P, hP, c1, Nat.le_of_lt c2, c3, c4, ?_, ?_, hY⟩
  · have h1 : ((u0 * 4294967296 + u1) * 4294967296 + u2) * P < (4294967296 * (v1 * 4294967296 + v2 + 1)) * P := by
      calc _ ≤ val W := c3
        _ < 4294967296 * val V := lt
        _ ≤ 4294967296 * ((v1 * 4294967296 + v2 + 1) * P) := Nat.mul_le_mul_left _ (Nat.le_of_lt c2)
        _ = _ := by rw [Nat.mul_assoc]
    exact lt_aux (Nat.lt_of_mul_lt_mul_right h1) b1
  · refine guess_first (P := P) (g := 0) (l := 0) (Q := 4294967296 * P) ?_ ?_ (by omega)
    · refine Nat.le_trans ?_ c1
      rw [← Nat.mul_assoc]; exact Nat.mul_le_mul_right _ (by omega)
    · refine Nat.lt_of_lt_of_le c4 ?_
      rw [← Nat.mul_assoc]; exact Nat.mul_le_mul_right _ (by omega)
theorem put_self {h : Heap} {b : Nat} {l : List Nat} (H : Holds h b l) : put h b l = h := by
  have := H.at_
  cases h with
  | mk bs fs =>
    simp only [put] at *
    congr 1
    apply List.ext_getElem?
    intro i
    by_cases hi : b = i
    · subst hi
      rw [List.getElem?_set_self (by have := (List.getElem?_eq_some_iff.1 this).1; exact this), this]
    · rw [List.getElem?_set_ne hi]
theorem step_facts2 {W V : List Nat} {n : Nat} (p : StepPre W V n) : ∃ P t, t = dg W n * 4294967296 + dg W (n - 1) ∧ 0 < P ∧ (dg V (n - 1) * 4294967296 + dg V (n - 2)) * P ≤ val V ∧ val V ≤ (dg V (n - 1) * 4294967296 + dg V (n - 2) + 1) * P ∧
    (t * 4294967296 + dg W (n - 2)) * P ≤ val W ∧ val W < (t * 4294967296 + dg W (n - 2) + 1) * P ∧
    t < dg V (n - 1) * 4294967296 + 4294967296 ∧ val W / val V ≤ t / dg V (n - 1) ∧ 0 < val V := by
  obtain ⟨P, h⟩ := step_facts p
  exact ⟨P, _, rfl, h⟩
theorem nat_step (J : Al G T g) {h : Heap} {bu bv n : Nat} {A C V V2 W : List Nat} (HU : Holds h bu (A ++ W ++ C)) (HV : Holds h bv (V ++ V2)) (hne : bv ≠ bu) (p : StepPre W V n) :
    ∃ W', kJ G c_nat_step.res (evL G T c_nat_step.body (numE 0 [.own bu A.length (n + 1) 1, .own bv 0 n 1]) h) = some (.int .u32 ((val W / val V : Nat) : Int), put h bu (A ++ W' ++ C)) ∧ W'.length = n + 1 ∧ Dg W' ∧ val W' = val W % val V := by
  obtain ⟨P, t, hte, hP, f1, f2, f3, f4, f5, f6, f7⟩ := step_facts2 p
  obtain ⟨hn, hs, hW, hV, dW, dV, top, lt⟩ := p
  have x0 := dW.dg n
  have x1 := dW.dg (n - 1)
  have y1 := dV.dg (n - 1)
  have ht : t < 18446744073709551616 := by omega
  have hmod := Nat.mod_lt t (y := dg V (n - 1)) (by omega)
  have hdm := Nat.div_add_mod t (dg V (n - 1))
  rw [Nat.mul_comm] at hdm
  obtain ⟨_, hr, e, q', rfl, hq1, hq2, hq3⟩ := step_guess (G := G) (T := T) (t := t) HU HV hW hV hn (by omega) dV dW rfl rfl rfl f7 f1 f2 f3 f4 lt (by omega) f5 ht _ _ (by omega) hdm f6
  obtain ⟨_, hr2, e2, W1, c, w, rfl, hW1, dW1, hc, hw, hv1⟩ := step_take (G := G) J HU HV hne hV (by omega) dV hq1 n 0 W 0 0 (by omega) hW dW (by decide) (by decide) (by simp [val])
  rw [put_self HU, cast0] at hr2
  have HU1 := HU.put (A ++ W1 ++ C)
  have l0 := load_w (G := G) HU (i := n) (by omega)
  have l1 := load_w (G := G) HU (i := n - 1) (by omega)
  have l2 := load_v (G := G) HV (i := n - 1) (by omega)
  have l3 := load_w (G := G) HU1 (i := n) (by omega)
  have i1 : (n : Int) - 1 = ((n - 1 : Nat) : Int) := by omega
  have w0 : (dg W n : Int) % 18446744073709551616 = dg W n := by omega
  have w1 : (dg W (n - 1) : Int) % 18446744073709551616 = dg W (n - 1) := by omega
  have w2 := shl32_or x0 x1
  rw [← hte] at w2
  have w3 : (dg V (n - 1) : Int) % 18446744073709551616 = dg V (n - 1) := by omega
  have h2 : ¬ (dg V (n - 1) : Int) = 0 := by omega
  have hbig : t / dg V (n - 1) < 18446744073709551616 := Nat.lt_of_le_of_lt (Nat.div_le_self _ _) ht
  have w4 : (t : Int).tdiv (dg V (n - 1) : Int) = ((t / dg V (n - 1) : Nat) : Int) := rfl
  have w5 : (t : Int).tmod (dg V (n - 1) : Int) = ((t % dg V (n - 1) : Nat) : Int) := rfl
  generalize t / dg V (n - 1) = tq at *
  generalize t % dg V (n - 1) = tm at *
  have w6 : (tq : Int) % 18446744073709551616 = tq := by omega
  have w7 : (c : Int) % 4294967296 = c := by omega
  obtain ⟨d, z, hd, hz, hdz⟩ := sub_dig (dW1.dg n) hc hw
  have call := bits_Sub32 (G := G) J (dW1.dg n) hc hw hd hz hdz
  have st := store_w HU1 (i := n) (x := d) (by omega)
  rw [put_put] at st
  have hset := val_set (l := W1) (j := n) d (by omega)
  have hlen2 : (W1.set n d).length = n + 1 := by rw [List.length_set]; exact hW1
  have dW2 := Dg_set (i := n) dW1 hd
  have hlt2 := val_lt dW2
  rw [hlen2] at hlt2
  have key : val (W1.set n d) + q' * val V = val W + 4294967296 ^ (n + 1) * z := by
    rw [Nat.pow_succ, Nat.mul_assoc]
    have h1 : 4294967296 ^ n * d + 4294967296 ^ n * c + 4294967296 ^ n * w = 4294967296 ^ n * dg W1 n + 4294967296 ^ n * (4294967296 * z) := by rw [← Nat.mul_add, ← Nat.mul_add, hdz, Nat.mul_add]
    rw [Nat.mul_add] at hv1
    generalize 4294967296 ^ n * (4294967296 * z) = a1 at *
    generalize 4294967296 ^ n * d = a2 at *
    generalize 4294967296 ^ n * c = a3 at *
    generalize 4294967296 ^ n * w = a4 at *
    generalize 4294967296 ^ n * dg W1 n = a5 at *
    generalize q' * val V = a6 at *
    omega
  by_cases hz0 : z = 0
  · subst hz0
    rw [Nat.mul_zero, Nat.add_zero] at key
    obtain ⟨k1, k2⟩ := step_fin0 f7 key hq2
    refine ⟨W1.set n d, ?_, hlen2, dW2, k2⟩
    rw [← k1]
    rw [cast0] at call
    have w8 : (q' : Int) % 4294967296 = q' := by omega
    clear key k1 k2 hset hdm hlt2 f1 f2 f3 f4 f5 f6 hv1 lt hq2 hq3
    repeat (first | (simp (maxSteps := 9^7) only [seval, evB, c_nat_step, l0, l1, l2, l3, i1, w0, w1, w2, w3, w4, w5, w6, w7, w8, h2, hr, hr2, call, st ]) | (simp (disch := omega) only [dsB,  iaddr_off]))
  · obtain rfl : z = 1 := by omega
    rw [Nat.mul_one] at key
    have HU2 := HU.put (A ++ W1.set n d ++ C)
    have HV2 := HV.other (l := A ++ W1.set n d ++ C) hne
    obtain ⟨_, hr3, e3, W3, w', rfl, hW3, dW3, hw3, hv3, hn3⟩ := step_back (G := G) (q := q') J HU2 HV2 hne hV (by omega) dV n 0 (W1.set n d) 0 (by omega) hlen2 dW2 (by decide) (by simp [val]) rfl
    rw [put_put, put_put, cast0] at hr3
    have HU3 := HU.put (A ++ W3 ++ C)
    have l4 := load_w (G := G) HU3 (i := n) (by omega)
    have x3 := dW3.dg n
    have w9 : ((dg W3 n : Int) + w') % 4294967296 = (((dg W3 n + w') % 4294967296 : Nat) : Int) := by omega
    have hdd : dg W3 n + w' = (dg W3 n + w') % 4294967296 + 4294967296 * ((dg W3 n + w') / 4294967296) := by omega
    have hd3 : (dg W3 n + w') % 4294967296 < 4294967296 := Nat.mod_lt _ (by decide)
    generalize (dg W3 n + w') % 4294967296 = d3 at *
    generalize (dg W3 n + w') / 4294967296 = k3 at *
    have st3 := store_w HU3 (i := n) (x := d3) (by omega)
    rw [put_put] at st3
    have hset3 := val_set (l := W3) (j := n) d3 (by omega)
    have hlen4 : (W3.set n d3).length = n + 1 := by rw [List.length_set]; exact hW3
    have dW4 := Dg_set (i := n) dW3 hd3
    have hlt4 := val_lt dW4
    rw [hlen4] at hlt4
    have key4 : val (W3.set n d3) + 4294967296 ^ (n + 1) * k3 = val (W1.set n d) + val V := by
      rw [Nat.pow_succ, Nat.mul_assoc]
      have h1 : 4294967296 ^ n * dg W3 n + 4294967296 ^ n * w' = 4294967296 ^ n * d3 + 4294967296 ^ n * (4294967296 * k3) := by rw [← Nat.mul_add, ← Nat.mul_add, hdd]
      generalize 4294967296 ^ n * (4294967296 * k3) = a1 at *
      generalize 4294967296 ^ n * d3 = a2 at *
      generalize 4294967296 ^ n * w' = a3 at *
      generalize 4294967296 ^ n * dg W3 n = a4 at *
      omega
    have hYB : val V ≤ 4294967296 ^ (n + 1) := by
      have h1 := val_lt dV
      rw [hV] at h1
      exact Nat.le_of_lt (Nat.lt_of_lt_of_le h1 (Nat.pow_le_pow_right (by decide) (Nat.le_succ n)))
    obtain ⟨k1, k2⟩ := step_fin1 f7 hYB key hlt2 hq3 key4 hlt4
    refine ⟨W3.set n d3, ?_, hlen4, dW4, k2⟩
    have hq : val W / val V = q' - 1 := by rw [k1, Nat.add_sub_cancel]
    have hq0 : 1 ≤ q' := by rw [k1]; exact Nat.le_add_left 1 _
    rw [hq]
    rw [show ((1 : Nat) : Int) = 1 from rfl] at call
    have w8 : ((q' : Int) - 1) % 18446744073709551616 = ((q' - 1 : Nat) : Int) := by omega
    have w10 : ((q' - 1 : Nat) : Int) % 4294967296 = ((q' - 1 : Nat) : Int) := by omega
    clear key k1 k2 hset hdm hlt2 f1 f2 f3 f4 f5 f6 hv1 lt hq2 hq3 key4 hset3 hYB hdd hv3 hlt4 hq
    repeat (first | (simp (maxSteps := 9^7) only [seval, evB, c_nat_step, l0, l1, l2, l3, l4, i1, w0, w1, w2, w3, w4, w5, w6, w7, w8, w9, w10, h2, hr, hr2, hr3, call, st, st3 ]) | (simp (disch := omega) only [dsB,  iaddr_off]))
def KeepsAll (h0 h : Heap) (v : AV) : Prop := ∀ bv lv, Holds h0 bv lv → Holds h bv lv ∧ ∀ b o n s, v = .own b o n s → b ≠ bv
theorem app_keeps {h0 h : Heap} {v : AV} {l : List Nat} (B : Bld h v l) (K : KeepsAll h0 h v) {w : Int} (hw : 0 ≤ w) (hl : l.length < 1099511627776) :
    KeepsAll h0 (appH h v w) (.own (h.b.length + 1) 0 (l.length + 1) 1) := by
  intro bv lv H0
  obtain ⟨HH, hne⟩ := K bv lv H0
  obtain ⟨hf, hB⟩ := B
  have e0 : sliceCells (Heap.mem ⟨h.b ++ [⟨[.int .u32 w], false⟩], h.f⟩) 1 (.own h.b.length 0 1 1) = some (1, cells [w.toNat]) := by
    have : (Heap.mem ⟨h.b ++ [⟨[.int .u32 w], false⟩], h.f⟩) h.b.length = some ⟨cells [w.toNat], false⟩ := by
      simp [Heap.mem, cells, Int.toNat_of_nonneg hw]
    simp [sliceCells, rdBlk, this, cells]
  have key : ∃ h', appV ⟨h.b ++ [⟨[.int .u32 w], false⟩], h.f⟩ 1 4 v (.own h.b.length 0 1 1) = some (.own (h.b.length + 1) 0 (l.length + 1) 1, h') ∧
      h'.f = h.f ∧ h'.b[bv]? = h.b[bv]? := by
    rcases hB with ⟨rfl, rfl⟩ | ⟨b, l2, rfl, H⟩
    · refine ⟨⟨(h.b ++ [⟨[.int .u32 w], false⟩]) ++ [⟨cells [w.toNat], false⟩], h.f⟩, ?_, rfl, ?_⟩
      · simp only [appV, e0, Nat.succ_ne_zero, if_false]
        rw [if_pos (by decide)]
        simp
      · show (h.b ++ _ ++ _)[bv]? = _
        rw [List.getElem?_append_left (by simp only [List.length_append]; have := HH.lt; omega), List.getElem?_append_left HH.lt]
    · refine ⟨⟨(h.b ++ [(⟨[.int .u32 w], false⟩ : Blk)]).set b ⟨cells (l ++ l2), true⟩ ++ [⟨cells (l ++ [w.toNat]), false⟩], h.f⟩, ?_, rfl, ?_⟩
      · simp only [appV, e0]
        rw [List.getElem?_append_left H.lt, H.at_]
        simp only
        rw [if_pos ⟨trivial, trivial, H.fre, by rw [cells_len, List.length_append]; omega, by simp only [boundApp]; omega⟩]
        simp only [List.length_append, List.length_cons, List.length_nil, List.drop_zero, Nat.mul_one]
        rw [cells_take, List.take_left' rfl, cells_app, Nat.zero_add]
      · have hb : b ≠ bv := hne _ _ _ _ rfl
        show ((h.b ++ _).set b _ ++ _)[bv]? = _
        rw [List.getElem?_append_left (by rw [List.length_set, List.length_append]; have := HH.lt; omega), List.getElem?_set_ne hb, List.getElem?_append_left HH.lt]
  obtain ⟨h', k1, k2, k3⟩ := key
  have e : appH h v w = h' := by simp only [appH, k1, Option.getD_some]
  rw [e]
  refine ⟨⟨by rw [k3]; exact HH.at_, by rw [k2]; exact HH.fre⟩, ?_⟩
  intro b o n s hv
  have := HH.lt
  injection hv with hb
  omega
theorem up_loop2 {h0 : Heap} {a : List Nat} {z : Bool} {q s : Nat} (ha : Dg a) (hs : s < 32) (hb : q + a.length < 549755813888) : ∀ (m i : Nat) (h : Heap) (v : AV) (l : List Nat) (c : Nat),
    m + i = a.length → Bld h v l → KeepsAll h0 h v → Dg l → l.length = q + i → c < 2 ^ s → val l + 4294967296 ^ (q + i) * c = 4294967296 ^ q * 2 ^ s * val (a.take i) →
    Post (evL G T c_nat_up_l1 [(5, v), (6, .int .i64 (s : Int)), (7, .int .u32 (c : Int)), (24, D z a), (25, .int .i64 ((a.length : Nat) : Int)), (26, .int .i64 (i : Int))] h) fun r =>
      ∃ e h' v' l', ∃ c' : Nat, r = (.exit 0, (5, v') :: (6, .int .i64 (s : Int)) :: (7, .int .u32 (c' : Int)) :: e, h') ∧ Bld h' v' l' ∧ KeepsAll h0 h' v' ∧ Dg l' ∧ l'.length = q + a.length ∧ c' < 2 ^ s ∧ val (l' ++ [c']) = 4294967296 ^ q * 2 ^ s * val a
  | 0, i, h, v, l, c, hm, B, K, hd, hl, hc, he => by
    rw [s_loopc G T (c := c_nat_up_l1) rfl]
    have h1 : ¬ (i : Int) < a.length := by omega
    repeat (first | (simp (maxSteps := 9^7) only [seval, evB, c_nat_up_b1, h1]) | (simp (disch := omega) only [dsB]))
    refine Post.some ⟨_, _, _, _, _, rfl, B, K, hd, by omega, hc, ?_⟩
    rw [List.take_of_length_le (by omega)] at he
    rw [val_snoc, hl, he]
  | m + 1, i, h, v, l, c, hm, B, K, hd, hl, hc, he => by
    rw [s_loopc G T (c := c_nat_up_l1) rfl]
    have ha' := ha.dg i
    have e7 : (i : Int) + 1 = ((i + 1 : Nat) : Int) := by omega
    have h1 : (i : Int) < a.length := by omega
    have hk := carry_lt hc ha'
    have hp : (2 : Nat) ^ s ≤ 2 ^ 31 := Nat.pow_le_pow_right (by decide) (by omega)
    have w1 : (dg a i : Int) % 18446744073709551616 = dg a i := by omega
    have w2 : min s 32 = s := by omega
    have w3 : (dg a i : Int) * 2 ^ s % 4294967296 = ((dg a i * 2 ^ s % 4294967296 : Nat) : Int) := by
      rw [pow_cast, ← Int.natCast_mul]; omega
    have w4 : orI .u32 ((dg a i * 2 ^ s % 4294967296 : Nat) : Int) (c : Int) = ((c + dg a i * 2 ^ s % 4294967296 : Nat) : Int) := by
      rw [or32 (by omega) (by omega), Nat.or_comm, shl_mod (by omega), or_add hc]
    have w5 : (32 - (s : Int)) = ((32 - s : Nat) : Int) := by omega
    have w6 : min (32 - s) 64 = 32 - s := by omega
    have w7 : (dg a i : Int) / 2 ^ (32 - s) = ((dg a i / 2 ^ (32 - s) : Nat) : Int) := by rw [pow_cast]; rfl
    have hsm : dg a i * 2 ^ s % 4294967296 + c < 4294967296 := by
      have e0 := shl_mod (x := dg a i) (s := s) (by omega)
      have e1 : dg a i % 2 ^ (32 - s) < 2 ^ (32 - s) := Nat.mod_lt _ (Nat.two_pow_pos _)
      have e2 : (dg a i % 2 ^ (32 - s) + 1) * 2 ^ s ≤ 2 ^ (32 - s) * 2 ^ s := Nat.mul_le_mul_right _ e1
      rw [← Nat.pow_add, show 32 - s + s = 32 by omega, Nat.add_mul] at e2
      omega
    have hcd : (dg a i * 2 ^ s % 4294967296 + c) + 4294967296 * (dg a i * 2 ^ s / 4294967296) = c + dg a i * 2 ^ s := by omega
    have hcl : dg a i * 2 ^ s / 4294967296 < 2 ^ s := by
      refine Nat.lt_of_le_of_lt ?_ hk
      exact Nat.div_le_div_right (by omega)
    have w8 : ((dg a i / 2 ^ (32 - s) : Nat) : Int) % 4294967296 = ((dg a i * 2 ^ s / 4294967296 : Nat) : Int) := by
      rw [shr_carry (by omega)]; omega
    repeat (first | (simp (maxSteps := 9^7) only [seval, evB, c_nat_up_b1, h1, w1, w2, w3, w4, w5, w6, w7, w8 ]) | (simp (disch := omega) only [dsB,  app_b B]))
    rw [e7]
    refine up_loop2 ha hs hb m (i + 1) _ _ _ _ (by omega) (Bld_app B (by omega) (by omega)).2 (app_keeps B K (by omega) (by omega)) (Dg_snoc hd (by omega)) (by rw [List.length_append, hl]; rfl) hcl ?_
    rw [val_take_succ']
    refine up_step (j := q + i) (q := q) (i := i) hl rfl he ?_
    rw [Int.toNat_natCast, Nat.add_comm c]; exact hcd
theorem nat_up_h (J : Al G T g) {h : Heap} (hf : FreH h) {z : Bool} {a n : Nat} (ha : a ≠ 0) (hs : (dl a).length < 137438953472) (hn : n < 1099511627776) :
    ∃ b l2 h', kJ G c_nat_up.res (evL G T c_nat_up.body (numE 0 [D z (dl a), .int .i64 (n : Int)]) h) = some (.own b 0 (dl (a * 2 ^ n)).length 1, h') ∧ Holds h' b (dl (a * 2 ^ n) ++ l2) ∧ Dg l2 ∧ FreH h' ∧ KeepsAll h h' (.own b 0 (dl (a * 2 ^ n)).length 1) := by
  have h0 : ¬ ((dl a).length : Int) = 0 := by
    intro hc
    exact ha (dl_eq_nil.1 (List.length_eq_zero_iff.1 (by omega)))
  have hnm : n / 32 ≤ n / 32 + (dl a).length + 1 := by omega
  have K0 : KeepsAll h (new h (List.replicate (n / 32 + (dl a).length + 1) 0)) (.own h.b.length 0 (n / 32) 1) := fun bv lv H => ⟨H.new, fun b o n s hv => by have := H.lt; injection hv with hb; omega⟩
  obtain ⟨r, hr, e, h', v', l', c', rfl, B, K, hd, hl, hc, hv⟩ := up_loop2 (G := G) (T := T) (z := z) (q := n / 32) (s := n % 32) (Dg_dl a) (by omega) (by omega) (dl a).length 0 _ _ _ 0 rfl (Bld_newc hf (n / 32) _ hnm) K0 (Dg_rep _) (by simp) (Nat.two_pow_pos _) (by simp [val_rep, val])
  rw [cast0] at hr
  have hp : c' < 4294967296 := by
    have : (2 : Nat) ^ (n % 32) ≤ 2 ^ 31 := Nat.pow_le_pow_right (by decide) (by omega)
    omega
  have m1 : (((n / 32 : Nat) : Int) + ((dl a).length : Nat) + 1).toNat = n / 32 + (dl a).length + 1 := by omega
  obtain ⟨hap, HB, B2⟩ := Bld_app3 B (w := (c' : Int)) (by omega) (by omega)
  have K2 := app_keeps B K (w := (c' : Int)) (by omega) (by omega)
  rw [Int.toNat_natCast] at HB
  have hd2 := Dg_snoc hd hp
  have hlen : (l' ++ [c']).length = l'.length + 1 := by rw [List.length_append]; rfl
  obtain ⟨n', e', ht, hn', htk⟩ := trim_own (G := G) (T := T) HB hd2 (by omega) (l'.length + 1) (by omega)
  rw [← hlen, List.take_length, hv, val_dl, pow32, ← Nat.pow_add, show 32 * (n / 32) + n % 32 = n by omega, Nat.mul_comm] at htk
  have hn2 : n' = (dl (a * 2 ^ n)).length := by rw [← htk, List.length_take]; omega
  subst hn2
  have hw1 : IntKind.i64.wrap ((n / 32 : Nat) : Int) = ((n / 32 : Nat) : Int) := wrap_i64 (by omega)
  refine ⟨h'.b.length + 1, (l' ++ [c']).drop (dl (a * 2 ^ n)).length, appH h' v' c', ?_, ?_, hd2.drop _, B2.1, ?_⟩
  · repeat (first | (simp (maxSteps := 9^7) only [seval, evB, c_nat_up, h0, hw1, m1, hr, hap, st_callk G T J.A.nat_trim, c_nat_trim, ht]) | (simp (disch := omega) only [dsB]))
  · rw [← htk, List.length_take, Nat.min_eq_left hn', List.take_append_drop]; exact HB
  · intro bv lv H
    obtain ⟨k1, k2⟩ := K2 bv lv H
    exact ⟨k1, fun b o n s hv => by injection hv with hb; subst hb; exact k2 _ _ _ _ rfl⟩
theorem sl_mid {h : Heap} {b n : Nat} {l : List Nat} (H : Holds h b l) (hn : n ≤ l.length) {lo hi : Nat} (h1 : lo ≤ hi ∧ hi ≤ n ∧ lo < n) :
    evSlice h.mem 1 (.own b 0 n 1) (some (.int .i64 (lo : Int))) (some (.int .i64 (hi : Int))) = some (.own b lo (hi - lo) 1) := by
  simp only [evSlice, lenA, capA, bound, H.mem, Bool.false_eq_true, if_false, Nat.succ_ne_zero, cells_len]
  rw [if_pos (by refine ⟨by omega, by omega, ?_⟩; omega), if_pos ⟨trivial, Or.inr (by omega)⟩]
  have e0 : ((hi : Int) - (lo : Int)).toNat = hi - lo := by omega
  rw [e0, Int.toNat_natCast, Nat.mul_one, Nat.zero_add]
theorem long_pre {n j N : Nat} {U0 R V : List Nat} (hn : 2 ≤ n) (hs : N < 17179869184) (hV : V.length = n) (dV : Dg V) (d0 : Dg U0) (dR : Dg R) (top : 2147483648 ≤ dg V (n - 1)) (hU : U0.length = N) (hR : R.length = N - (j + 1)) (hj : j + 1 + n ≤ N) (hlt : val R < val V) :
    StepPre ((dg U0 j :: R).take (n + 1)) V n ∧ val ((dg U0 j :: R).take (n + 1)) = dg U0 j + 4294967296 * val R ∧ val ((dg U0 j :: R).drop (n + 1)) = 0 := by
  have dX : Dg (dg U0 j :: R) := Dg_cons.2 ⟨d0.dg j, dR⟩
  have hX : val (dg U0 j :: R) < 4294967296 * val V := by
    rw [val_cons]; have := d0.dg j; omega
  have hVb := val_lt dV
  rw [hV] at hVb
  have hB : val (dg U0 j :: R) < 4294967296 ^ (n + 1) := by
    rw [Nat.pow_succ, Nat.mul_comm]
    exact Nat.lt_of_lt_of_le hX (Nat.mul_le_mul_left _ (Nat.le_of_lt hVb))
  have e1 := val_take dX (n + 1)
  have e2 := val_drop dX (n + 1)
  rw [Nat.mod_eq_of_lt hB] at e1
  rw [Nat.div_eq_of_lt hB] at e2
  refine ⟨⟨hn, by omega, ?_, hV, dX.take _, dV, top, by rw [e1]; exact hX⟩, by rw [e1, val_cons], e2⟩
  rw [List.length_take, List.length_cons]; omega
theorem long_step {U0 Q V : List Nat} {j q r X R : Nat} (hj : j < U0.length) (hq : j < Q.length) (h : val (U0.drop (j + 1)) = val (Q.drop (j + 1)) * val V + R) (hX : X = dg U0 j + 4294967296 * R) :
    val (U0.drop j) = val ((Q.set j (X / val V)).drop j) * val V + X % val V := by
  rw [drop_cons hj, drop_set hq, val_cons, val_cons, h]
  have h2 := Nat.div_add_mod X (val V)
  generalize X / val V = a at *
  generalize X % val V = b at *
  rw [Nat.mul_add, Nat.add_mul, Nat.mul_assoc, Nat.mul_comm a]
  generalize val (Q.drop (j + 1)) * val V = c at *
  omega
theorem long_loop (J : Al G T g) {bu bv bq n N m : Nat} {U0 C V V2 : List Nat} {s : AV} (h1 : bv ≠ bu) (h2 : bq ≠ bu) (h3 : bv ≠ bq) (hn : 2 ≤ n) (hs : N < 17179869184) (hV : V.length = n) (dV : Dg V) (d0 : Dg U0) (top : 2147483648 ≤ dg V (n - 1)) (hU : U0.length = N) (hm : N = m + n) :
    ∀ (j : Nat) (h : Heap) (R Q : List Nat), j ≤ m → Holds h bu (U0.take j ++ R ++ C) → Holds h bv (V ++ V2) → Holds h bq Q → Dg R → R.length = N - j → Dg Q → Q.length = m → val R < val V → val (U0.drop j) = val (Q.drop j) * val V + val R →
    Post (evL G T c_nat_long_l1 [(6, s), (7, .own bv 0 n 1), (8, .own bu 0 N 1), (9, .int .i64 (n : Int)), (10, .own bq 0 m 1), (11, .int .i64 ((j : Int) - 1))] h) fun r =>
      ∃ e h' R' Q', r = (.exit 2, (6, s) :: (7, .own bv 0 n 1) :: (8, .own bu 0 N 1) :: (9, .int .i64 (n : Int)) :: (10, .own bq 0 m 1) :: e, h') ∧ Holds h' bu (R' ++ C) ∧ Holds h' bq Q' ∧ Dg R' ∧ R'.length = N ∧ Dg Q' ∧ Q'.length = m ∧ val R' < val V ∧ val U0 = val Q' * val V + val R'
  | 0, h, R, Q, hj, HU, HV, HQ, dR, hR, dQ, hQ, hlt, he => by
    rw [s_loopc G T (c := c_nat_long_l1) rfl]
    have c1 : ¬ (0 : Int) ≤ ((0 : Nat) : Int) - 1 := by omega
    repeat (first | (simp (maxSteps := 9^7) only [seval, evB, c_nat_long_b1, c1]) | (simp (disch := omega) only [dsB]))
    rw [List.take_zero, List.nil_append] at HU
    exact Post.some ⟨_, _, _, _, rfl, HU, HQ, dR, hR, dQ, hQ, hlt, he⟩
  | j + 1, h, R, Q, hj, HU, HV, HQ, dR, hR, dQ, hQ, hlt, he => by
    rw [s_loopc G T (c := c_nat_long_l1) rfl]
    have e1 : ((j + 1 : Nat) : Int) - 1 = (j : Int) := by omega
    have c1 : (0 : Int) ≤ (j : Int) := by omega
    obtain ⟨p, v1, v2⟩ := long_pre (j := j) (U0 := U0) (R := R) (N := N) hn hs hV dV d0 dR top hU hR (by omega) hlt
    have hls := long_step (U0 := U0) (Q := Q) (V := V) (j := j) (q := 0) (r := 0) (by omega) (by omega) he v1
    have hlen : (dg U0 j :: R).length = N - j := by rw [List.length_cons]; omega
    have dX : Dg (dg U0 j :: R) := Dg_cons.2 ⟨d0.dg j, dR⟩
    have hsp : U0.take (j + 1) ++ R ++ C = U0.take j ++ (dg U0 j :: R).take (n + 1) ++ ((dg U0 j :: R).drop (n + 1) ++ C) := by
      rw [take_snoc (by omega)]
      simp only [List.append_assoc, List.singleton_append]
      rw [← List.append_assoc (List.take (n + 1) _), List.take_append_drop, List.cons_append]
    have hcl : N ≤ (U0.take (j + 1) ++ R ++ C).length := by
      simp only [List.length_append, List.length_take]; omega
    have sl := sl_mid HU hcl (lo := j) (hi := j + n + 1) ⟨by omega, by omega, by omega⟩
    rw [show j + n + 1 - j = n + 1 by omega] at sl
    have e2 : (j : Int) + (n : Int) + 1 = ((j + n + 1 : Nat) : Int) := by omega
    rw [hsp] at HU
    have htl : (U0.take j).length = j := by rw [List.length_take]; omega
    obtain ⟨W', hst, hW', dW', hv'⟩ := nat_step (G := G) J HU HV h1 p
    rw [htl] at hst
    simp only [numE_cons, numE_nil, Nat.reduceAdd, Nat.zero_add] at hst
    have hlt' : val W' < val V := by rw [hv']; exact Nat.mod_lt _ (by have := val_lt dV; omega)
    have HU' := HU.put (U0.take j ++ W' ++ ((dg U0 j :: R).drop (n + 1) ++ C))
    have HV' := HV.other (l := U0.take j ++ W' ++ ((dg U0 j :: R).drop (n + 1) ++ C)) h1
    have HQ' := HQ.other (l := U0.take j ++ W' ++ ((dg U0 j :: R).drop (n + 1) ++ C)) h2
    have st := store_n HQ' (i := j) (x := val (List.take (n + 1) (dg U0 j :: R)) / val V) (by omega)
    have hqd : val (List.take (n + 1) (dg U0 j :: R)) / val V < 4294967296 := div_lt_le p.lt (Nat.le_refl _)
    have HU2 := HU'.other (l := Q.set j (val (List.take (n + 1) (dg U0 j :: R)) / val V)) h2.symm
    have HV2 := HV'.other (l := Q.set j (val (List.take (n + 1) (dg U0 j :: R)) / val V)) h3
    have HQ2 := HQ'.put (Q.set j (val (List.take (n + 1) (dg U0 j :: R)) / val V))
    rw [e1]
    repeat (first | (simp (maxSteps := 9^7) only [seval, evB, c_nat_long_b1, c1, e2, sl, st_callk G T J.A.nat_step, hst, st]) | (simp (disch := omega) only [dsB]))
    have hR2 : val (W' ++ (dg U0 j :: R).drop (n + 1)) = val W' := by rw [val_app, v2, Nat.mul_zero, Nat.add_zero]
    have hl : U0.take j ++ (W' ++ (dg U0 j :: R).drop (n + 1)) ++ C = U0.take j ++ W' ++ ((dg U0 j :: R).drop (n + 1) ++ C) := by simp only [List.append_assoc]
    refine long_loop J h1 h2 h3 hn hs hV dV d0 top hU hm j _ (W' ++ (dg U0 j :: R).drop (n + 1)) _ (by omega) (by rw [hl]; exact HU2) HV2 HQ2 (Dg_app.2 ⟨dW', dX.drop _⟩) ?_ (Dg_set dQ hqd) (by rw [List.length_set]; exact hQ) (by rw [hR2]; exact hlt') ?_
    · rw [List.length_append, List.length_drop, hW', hlen]; omega
    · rw [hR2, hv']; exact hls
theorem ext_loop {h0 h : Heap} {b La : Nat} {L C A : List Nat} {za : Bool} {s6 s7 : AV} (H : Holds h b (L ++ C)) (hf : FreH h) (dL : Dg L) (hL : L.length = La) (hs : A.length < 17179869184) (hlen : La = A.length ∨ La = A.length + 1) (K : KeepsAll h0 h (.own b 0 La 1)) :
    Post (evL G T c_nat_long_l2 [(0, D za A), (6, s6), (7, s7), (8, .own b 0 La 1)] h) fun r =>
      ∃ e h' b' C' U, r = (.exit 0, (0, D za A) :: (6, s6) :: (7, s7) :: (8, .own b' 0 (A.length + 1) 1) :: e, h') ∧ Holds h' b' (U ++ C') ∧ FreH h' ∧ U.length = A.length + 1 ∧ Dg U ∧ val U = val L ∧ KeepsAll h0 h' (.own b' 0 (A.length + 1) 1) := by
  subst hL
  rw [s_loopc G T (c := c_nat_long_l2) rfl]
  rcases hlen with hl | hl
  · have c1 : ((L.length : Nat) : Int) ≤ ((A.length : Nat) : Int) := by omega
    have B : Bld h (.own b 0 L.length 1) L := ⟨hf, Or.inr ⟨b, C, rfl, H⟩⟩
    obtain ⟨ha1, ha2, ha3⟩ := Bld_app3 B (w := 0) (by decide) (by omega)
    have K2 := app_keeps B K (w := 0) (by decide) (by omega)
    have c2 : ¬ (((L.length + 1 : Nat) : Int) ≤ ((A.length : Nat) : Int)) := by omega
    have e : Post (evL G T c_nat_long_l2 [(0, D za A), (6, s6), (7, s7), (8, .own (h.b.length + 1) 0 (L.length + 1) 1)] (appH h (.own b 0 L.length 1) 0)) fun r =>
      ∃ e h' b' C' U, r = (.exit 0, (0, D za A) :: (6, s6) :: (7, s7) :: (8, .own b' 0 (A.length + 1) 1) :: e, h') ∧ Holds h' b' (U ++ C') ∧ FreH h' ∧ U.length = A.length + 1 ∧ Dg U ∧ val U = val L ∧ KeepsAll h0 h' (.own b' 0 (A.length + 1) 1) := by
      rw [s_loopc G T (c := c_nat_long_l2) rfl]
      repeat (first | (simp (maxSteps := 9^7) only [seval, evB, c_nat_long_b2, c2]) | (simp (disch := omega) only [dsB]))
      refine Post.some ⟨_, _, _, [], L ++ [0], by rw [hl], by rw [List.append_nil]; exact ha2, ha3.1, by rw [List.length_append, hl]; rfl, Dg_snoc dL (by decide), by rw [val_snoc, Nat.mul_zero, Nat.add_zero], by rw [← hl]; exact K2⟩
    repeat (first | (simp (maxSteps := 9^7) only [seval, evB, c_nat_long_b2, c1, ha1]) | (simp (disch := omega) only [dsB]))
    exact e
  · have c1 : ¬ (((L.length : Nat) : Int) ≤ ((A.length : Nat) : Int)) := by omega
    repeat (first | (simp (maxSteps := 9^7) only [seval, evB, c_nat_long_b2, c1]) | (simp (disch := omega) only [dsB]))
    exact Post.some ⟨_, _, _, C, L, by rw [hl], H, hf, hl, dL, rfl, by rw [← hl]; exact K⟩
theorem long_top {b n s : Nat} (hn : (dl b).length = n) (h0 : 0 < n) (hs : s = 32 - blen (dg (dl b) (n - 1))) : s < 32 ∧ (dl (b * 2 ^ s)).length = n ∧ 2147483648 ≤ dg (dl (b * 2 ^ s)) (n - 1) := by
  have hb0 : b ≠ 0 := by rintro rfl; rw [dl_zero] at hn; simp at hn; omega
  have hbl := blen_dl hb0
  rw [hn] at hbl
  have ht : blen (dg (dl b) (n - 1)) ≤ 32 := blen_le.2 ((Dg_dl b).dg _)
  have hb1 := dl_len_blen b
  rw [hn] at hb1
  have hm := blen_mul hb0 s
  have e1 : blen (b * 2 ^ s) = 32 * n := by omega
  have e2 : (dl (b * 2 ^ s)).length = n := by rw [dl_len_blen]; omega
  have hm0 : b * 2 ^ s ≠ 0 := Nat.mul_ne_zero hb0 (Nat.ne_of_gt (Nat.two_pow_pos s))
  have e3 := blen_dl hm0
  rw [e2, e1] at e3
  have e4 : 31 < blen (dg (dl (b * 2 ^ s)) (n - 1)) := by omega
  exact ⟨by omega, e2, lt_blen.1 e4⟩
theorem long_first {a b s m n N : Nat} {U : List Nat} (dU : Dg U) (hN : U.length = N) (hU : val U = a * 2 ^ s) (ha : (dl a).length + 1 = N) (hb : (dl b).length = n) (h0 : 0 < n) (hm : N = m + n) : val (U.drop m) < b * 2 ^ s := by
  rw [val_drop dU, hU]
  apply Nat.div_lt_of_lt_mul
  have h1 : a < 4294967296 ^ (N - 1) := dl_len.1 (by omega)
  have h2 : 4294967296 ^ (n - 1) ≤ b := by
    apply Classical.byContradiction; intro hc
    have := dl_len.2 (Nat.lt_of_not_le hc)
    omega
  have h3 : a < 4294967296 ^ m * b := by
    refine Nat.lt_of_lt_of_le h1 ?_
    rw [show N - 1 = m + (n - 1) by omega, Nat.pow_add]
    exact Nat.mul_le_mul_left _ h2
  rw [← Nat.mul_assoc]
  exact Nat.mul_lt_mul_of_pos_right h3 (Nat.two_pow_pos s)
theorem nat_long (J : Al G T g) {z y : Bool} {a b : Nat} (hb : 2 ≤ (dl b).length) (hab : b ≤ a) (hs : (dl a).length < 8589934592) : ∃ z1 z2, run G T 109 [D z (dl a), D y (dl b)] = some (.tup [D z1 (dl (a / b)), D z2 (dl (a % b))]) := by
  obtain ⟨n, hn⟩ : ∃ n, n = (dl b).length := ⟨_, rfl⟩
  obtain ⟨s, hs1⟩ : ∃ s, s = 32 - blen (dg (dl b) (n - 1)) := ⟨_, rfl⟩
  obtain ⟨t1, t2, t3⟩ := long_top hn.symm (by omega) hs1
  have hb0 : b ≠ 0 := by rintro rfl; rw [dl_zero] at hb; exact absurd hb (by decide)
  have ha0 : a ≠ 0 := by omega
  have hle : (dl b).length ≤ (dl a).length := by
    have h1 := blen_mono hab
    have h2 := dl_len_blen a
    have h3 := dl_len_blen b
    omega
  obtain ⟨bv, V2, h1, r1, H1, dV2, F1, K1⟩ := nat_up_h (G := G) (z := y) J (h := .nil) FreH.nil hb0 (by omega) (n := s) (by omega)
  obtain ⟨bu, l2, h2, r2, H2, d2, F2, K2⟩ := nat_up_h (G := G) (z := z) J (h := h1) F1 ha0 (by omega) (n := s) (by omega)
  simp only [numE_cons, numE_nil, Nat.reduceAdd, Nat.zero_add] at r1 r2
  have hLa : (dl (a * 2 ^ s)).length = (dl a).length ∨ (dl (a * 2 ^ s)).length = (dl a).length + 1 := by
    rw [dl_len_blen, dl_len_blen, blen_mul ha0]; omega
  obtain ⟨_, r3, e3, h3, bu3, C3, U, rfl, H3, F3, hUl, dU, hUv, K3⟩ := ext_loop (G := G) (T := T) (h0 := h1) (za := z) (s6 := .int .i64 (s : Int)) (s7 := .own bv 0 n 1) H2 F2 (Dg_dl _) rfl (A := dl a) (by omega) hLa K2
  rw [val_dl] at hUv
  obtain ⟨HV3, hne3⟩ := K3 _ _ H1
  obtain ⟨m, hm⟩ : ∃ m, (dl a).length + 1 = m + n := ⟨(dl a).length + 1 - n, by omega⟩
  have hfirst := long_first dU hUl hUv rfl hn.symm (by omega) hm
  have HQ := Holds_new F3 (List.replicate m 0)
  have HU4 := H3.new (m := List.replicate m 0)
  have HV4 := HV3.new (m := List.replicate m 0)
  have q1 : bv ≠ bu3 := (hne3 _ _ _ _ rfl).symm
  have q2 : h3.b.length ≠ bu3 := by have := H3.lt; omega
  have q3 : bv ≠ h3.b.length := by have := HV3.lt; omega
  have vV : val (dl (b * 2 ^ s)) = b * 2 ^ s := val_dl _
  obtain ⟨_, r4, e4, h4, R, Q, rfl, HU5, HQ5, dR, hR, dQ, hQ, hlt, hv⟩ := long_loop (G := G) (m := m) (N := (dl a).length + 1) (n := n) (s := .int .i64 (s : Int)) J q1 q2 q3 (by omega) (by omega) t2 (Dg_dl _) dU t3 hUl hm m (new h3 (List.replicate m 0)) (U.drop m) (List.replicate m 0) (Nat.le_refl _) (by rw [List.take_append_drop]; exact HU4) HV4 HQ (dU.drop _) (by rw [List.length_drop, hUl]) (Dg_rep _) (List.length_replicate ..) (by rw [vV]; exact hfirst) (by
    have : (List.replicate m 0).drop m = [] := List.drop_eq_nil_of_le (by rw [List.length_replicate]; exact Nat.le_refl _)
    rw [this]; simp [val])
  rw [vV] at hlt hv
  rw [hUv] at hv
  have hq : val Q = a / b := by
    have h1 := (divmod_of hlt hv).1
    rw [h1, Nat.mul_div_mul_right _ _ (Nat.two_pow_pos s)]
  have hr : val R = a % b * 2 ^ s := by
    have h1 := (divmod_of hlt hv).2
    rw [h1, Nat.mul_mod_mul_right]
  have hRn : val (R.take n) = val R := by
    rw [val_take dR, Nat.mod_eq_of_lt]
    refine Nat.lt_of_lt_of_le hlt ?_
    have := val_lt (Dg_dl (b * 2 ^ s))
    rw [t2, val_dl] at this
    exact Nat.le_of_lt this
  obtain ⟨z1, hz1⟩ := nat_trim J (z := false) dQ (by omega)
  obtain ⟨z2, hz2⟩ := nat_trim J (z := false) (dR.take n) (by rw [List.length_take]; omega)
  rw [hRn, hr] at hz2
  rw [hq] at hz1
  have hsb : (dl (a % b * 2 ^ s)).length ≤ n := by
    have := dl_len.1 (Nat.le_refl (dl (b * 2 ^ s)).length)
    rw [t2] at this
    exact dl_len.2 (Nat.lt_of_le_of_lt (Nat.mul_le_mul_right _ (Nat.le_of_lt (Nat.mod_lt a (by omega)))) this)
  obtain ⟨z3, hz3⟩ := nat_down J (z := z2) (a := a % b * 2 ^ s) (n := s) (by omega) (by omega)
  rw [Nat.mul_div_cancel _ (Nat.two_pow_pos s)] at hz3
  have hsl : (dl (a % b)).length < 1099511627776 := by
    have h1 := blen_mono (Nat.le_of_lt (Nat.mod_lt a (Nat.pos_of_ne_zero hb0)))
    have h2 := dl_len_blen (a % b)
    have h3 := dl_len_blen b
    omega
  obtain ⟨z4, hz4⟩ := nat_trim J (z := z3) (Dg_dl (a % b)) hsl
  rw [val_dl] at hz4
  have sq := snap_own HQ5 (n := m) (by omega)
  rw [← hQ, List.take_length, hQ] at sq
  have su := snap_own HU5 (n := n) (by rw [List.length_append]; omega)
  rw [List.take_append_of_le_length (by omega)] at su
  have slu := sl_own (n := (dl a).length + 1) (off := 0) (k := .i64) (j := (n : Int)) HU5.mem ⟨by omega, by rw [Int.toNat_natCast]; omega⟩
  rw [Int.toNat_natCast] at slu
  have i1 : ((dl b).length : Int) - 1 = (((dl b).length - 1 : Nat) : Int) := by omega
  have lz := bits_Lz (G := G) J ((Dg_dl b).dg (n - 1))
  rw [← hs1] at lz
  have w1 : (((dl a).length + 1 : Nat) : Int) - (n : Int) = (m : Int) := by omega
  have mm : ∀ f : List Nat, (⟨h4.b, f⟩ : Heap).mem = h4.mem := fun _ => rfl
  refine ⟨z1, z4, ?_⟩
  rw [run_k G T J.A.nat_long]
  clear hLa hUv hfirst hlt hv hq hr hRn hsb hsl
  subst hn
  rw [t2] at r1
  repeat (first | (simp (maxSteps := 9^7) only [seval, evB, c_nat_long, i1, lz, st_callk G T J.A.nat_up, r1, r2, r3, r4, w1, sq, hz1, slu, su, hz2, hz3, hz4, mm, frz_own]) | (simp (disch := omega) only [dsB]))
theorem all_loop (e : Env) (h : Heap) : evL G T c_nat_all_l1 e h = kS G T (evL G T c_nat_all_b1 (keepE [5, 6, 7] e) h) c_nat_all_l1 := s_loopc G T rfl e h
theorem ia1_0 (x y : AV) (k : IntKind) : iaddrV 1 (.imm 2 [x, y]) (.int k 0) = some (.iptr [x, y] 0) := rfl
theorem ia1_1 (x y : AV) (k : IntKind) : iaddrV 1 (.imm 2 [x, y]) (.int k 1) = some (.iptr [x, y] 1) := rfl
theorem rd1_0 (h : Mem) (x y : AV) : rdAt G h 1 (.iptr [x, y] 0) = some [x] := rfl
theorem rd1_1 (h : Mem) (x y : AV) : rdAt G h 1 (.iptr [x, y] 1) = some [y] := rfl
theorem nat_all (J : Al G T g) {z y : Bool} {a b : List Nat} : run G T 106 [.imm 2 [D z a, D y b]] = some (.bool (mayL a && mayL b)) := by
  rw [run_k G T J.A.nat_all]
  have h1 := nat_May (G := G) J z a
  have h2 := nat_May (G := G) J y b
  cases ha : mayL a <;> cases hb : mayL b <;> (
    rw [ha] at h1
    rw [hb] at h2
    repeat' (first | (simp (maxSteps := 9^7) only [seval, exC, c_nat_all, h1, h2, all_loop, c_nat_all_b1, ia1_0, ia1_1, rd1_0, rd1_1]) | (simp (maxSteps := 9^7) (disch := first | with_reducible assumption | omega) only [dxB]) | (simp only [kdB]; split) | (simp only [kvB]; split))
    all_goals rfl)
theorem app_nil {h : Heap} {z : Bool} {l : List Nat} (hl : l ≠ []) (hs : l.length < 549755813888) : appV h 1 4 .nil (D z l) = some (.own h.b.length 0 l.length 1, new h l) := by
  cases l with
  | nil => exact absurd rfl hl
  | cons a l =>
    have e : sliceCells h.mem 1 (D z (a :: l)) = some ((a :: l).length, cells (a :: l)) := by
      simp [D, sliceCells, cells]
    simp only [appV, e]
    rw [if_neg (by simp), if_pos (by simp only [boundApp]; omega)]
    rfl
theorem app_nil0 {h : Heap} {z : Bool} : appV h 1 4 .nil (D z []) = some (.nil, h) := by
  cases z <;> rfl
theorem cmpN_neg {a b : Nat} : cmpN a b < 0 ↔ a < b := by
  unfold cmpN; split
  · constructor <;> intro <;> omega
  · split <;> constructor <;> intro <;> omega
theorem snap_new {h : Heap} (hf : FreH h) (l : List Nat) : snapG (new h l).mem 3 h.b.length 0 l.length 1 = some (D false l) := by
  have := snap_own (Holds_new hf l) (n := l.length) (Nat.le_refl _)
  rw [List.take_length] at this; exact this
theorem nat_QuoRem (J : Al G T g) {z y : Bool} {a b : Nat} (ha : mayL (dl a) = true) (hb : mayL (dl b) = true) (h0 : b ≠ 0) :
    ∃ z1 z2, run G T 77 [D z (dl a), D y (dl b)] = some (.tup [D z1 (dl (a / b)), D z2 (dl (a % b)), .int .i64 0]) := by
  have la := (mayL_iff.1 ha).1
  have lb := (mayL_iff.1 hb).1
  have h1 := nat_all (G := G) J (z := z) (y := y) (a := dl a) (b := dl b)
  rw [ha, hb, Bool.and_self] at h1
  have h2 := nat_cmp (G := G) J (z := z) (y := y) (a := a) (b := b) (by omega) (by omega)
  have hl0 : ¬ ((dl b).length : Int) = 0 := by
    intro hc; exact h0 (dl_len0.1 (by omega))
  by_cases hab : a < b
  · have c1 : cmpN a b < 0 := cmpN_neg.2 hab
    rw [Nat.div_eq_of_lt hab, Nat.mod_eq_of_lt hab, dl_zero]
    by_cases ha0 : a = 0
    · subst ha0
      rw [dl_zero] at *
      refine ⟨true, true, ?_⟩
      rw [run_k G T J.A.nat_QuoRem]
      clear la lb ha hb hab
      repeat' (first | (simp (maxSteps := 9^7) only [seval, exC, c_nat_QuoRem, h1, h2, hl0, c1, app_nil0]) | (simp (maxSteps := 9^7) (disch := first | with_reducible assumption | omega) only [dxB]) | (simp only [kdB]; split) | (simp only [kvB]; split))
      rfl
    · have hne : dl a ≠ [] := fun hc => ha0 (dl_eq_nil.1 hc)
      refine ⟨true, false, ?_⟩
      rw [run_k G T J.A.nat_QuoRem]
      clear ha hb hab
      repeat' (first | (simp (maxSteps := 9^7) only [seval, exC, c_nat_QuoRem, h1, h2, hl0, c1 ]) | (simp (maxSteps := 9^7) (disch := first | with_reducible assumption | omega) only [dxB,  app_nil]) | (simp only [kdB]; split) | (simp only [kvB]; split))
      have hsn := snap_new (h := { b := [{ cs := [D z (dl a), D y (dl b)] }], f := fz1 (AV.bool true) [0] }) (fun c hc => absurd hc List.not_mem_nil) (dl a)
      simp only [List.length_cons, List.length_nil, Nat.zero_add] at hsn
      rw [hsn]
      rfl
  · have c1 : ¬ cmpN a b < 0 := fun hc => hab (cmpN_neg.1 hc)
    by_cases hb1 : (dl b).length = 1
    · have hd0 : dl b = [b] := by
        have e1 : b < 4294967296 := by have := dl_len.1 (Nat.le_of_eq hb1); simpa using this
        rw [dl_pos h0, Nat.mod_eq_of_lt e1, Nat.div_eq_of_lt e1, dl_zero]
      have e1 : b < 4294967296 := by have := dl_len.1 (Nat.le_of_eq hb1); simpa using this
      have hr : a % b < b := Nat.mod_lt _ (by omega)
      obtain ⟨z1, hz1⟩ := nat_small (G := G) J (z := z) (a := a) (d := b) (by omega) e1 (by omega)
      obtain ⟨z2, hz2⟩ := nat_trim (G := G) J (z := false) (l := [a % b]) (Dg_cons.2 ⟨by omega, Dg.nil⟩) (by simp)
      rw [show val [a % b] = a % b by simp [val]] at hz2
      have hz2 : run G T 94 [.imm 1 [.int .u32 ((a % b : Nat) : Int)]] = some (D z2 (dl (a % b))) := hz2
      have hdb : dg (dl b) 0 = b := by rw [hd0]; rfl
      have hb1' : ((dl b).length : Int) = 1 := by omega
      refine ⟨z1, z2, ?_⟩
      rw [run_k G T J.A.nat_QuoRem]
      clear ha hb hab hr
      repeat' (first | (simp (maxSteps := 9^7) only [seval, exC, c_nat_QuoRem, h1, h2, hl0, c1, hb1', hdb, hz1, hz2]) | (simp (maxSteps := 9^7) (disch := first | with_reducible assumption | omega) only [dxB]) | (simp only [kdB]; split) | (simp only [kvB]; split))
    · have hb2 : ¬ ((dl b).length : Int) = 1 := by omega
      have hb3 : ¬ (dl b).length = 0 := by omega
      obtain ⟨z1, z2, hz⟩ := nat_long (G := G) J (z := z) (y := y) (a := a) (b := b) (by omega) (by omega) (by omega)
      refine ⟨z1, z2, ?_⟩
      rw [run_k G T J.A.nat_QuoRem]
      clear ha hb hab
      repeat' (first | (simp (maxSteps := 9^7) only [seval, exC, c_nat_QuoRem, h1, h2, hl0, c1, hb2, hz]) | (simp (maxSteps := 9^7) (disch := first | with_reducible assumption | omega) only [dxB]) | (simp only [kdB]; split) | (simp only [kvB]; split))
theorem sum_loop (J : Al G T g) {h : Heap} {b N : Nat} {Q X l0 : List Nat} {zq zx : Bool} {va : AV} (H : Holds h b l0) (dQ : Dg Q) (dX : Dg X) (hs : N < 17179869184) : ∀ (m i : Nat) (l : List Nat) (c : Nat), m + i = N → l.length = N → Dg l → c ≤ 1 → val (l.take i) + 4294967296 ^ i * c = val (Q.take i) + val (X.take i) →
    Post (evL G T c_nat_Root_l1 [(0, va), (5, D zx X), (6, D zq Q), (9, .own b 0 N 1), (10, .int .u32 (c : Int)), (42, .int .i64 (N : Int)), (43, .int .i64 (i : Int))] (put h b l)) fun r =>
      ∃ e l' c', r = (.exit 2, (0, va) :: (5, D zx X) :: (6, D zq Q) :: (9, .own b 0 N 1) :: (10, .int .u32 ((c' : Nat) : Int)) :: e, put h b l') ∧ l'.length = N ∧ Dg l' ∧ val l' + 4294967296 ^ N * c' = val (Q.take N) + val (X.take N)
  | 0, i, l, c, hm, hl, dl', hc, he => by
    rw [s_loopc G T (c := c_nat_Root_l1) rfl]
    have h1 : ¬ (i : Int) < (N : Int) := by omega
    repeat (first | (simp (maxSteps := 9^7) only [seval, evB, c_nat_Root_b1, h1]) | (simp (disch := omega) only [dsB]))
    obtain rfl : i = N := by omega
    rw [List.take_of_length_le (by omega)] at he
    exact Post.some ⟨_, _, _, rfl, hl, dl', he⟩
  | m + 1, i, l, c, hm, hl, dl', hc, he => by
    rw [s_loopc G T (c := c_nat_Root_l1) rfl]
    have h1 : (i : Int) < (N : Int) := by omega
    have e7 : (i : Int) + 1 = ((i + 1 : Nat) : Int) := by omega
    have HU := H.put l
    have hx := dX.dg i
    have hq := dQ.dg i
    obtain ⟨d, z, hd1, hz, hdz⟩ := add_dig hq hx hc
    have call := bits_Add32 (G := G) J hq hx hc hd1 hz hdz
    have st := store_n HU (i := i) (x := d) (by omega)
    rw [put_put] at st
    have fin := sum_loop J (zq := zq) (zx := zx) (va := va) H dQ dX hs m (i + 1) (l.set i d) z (by omega) (by rw [List.length_set]; exact hl) (Dg_set dl' hd1) hz (by
      rw [take_set (by omega), val_take_succ', val_take_succ']
      exact add_step (by rw [List.length_take]; omega) he (by omega))
    by_cases c1 : (i : Int) < (Q.length : Int)
    · by_cases c2 : (i : Int) < (X.length : Int)
      · repeat (first | (simp (maxSteps := 9^7) only [seval, evB, c_nat_Root_b1, h1, c1, c2, e7, call, st]) | (simp (disch := omega) only [dsB]))
        exact fin
      · have z2 : dg X i = 0 := dg_ge (by omega)
        rw [z2, cast0] at call
        repeat (first | (simp (maxSteps := 9^7) only [seval, evB, c_nat_Root_b1, h1, c1, c2, e7, call, st]) | (simp (disch := omega) only [dsB]))
        exact fin
    · have z1 : dg Q i = 0 := dg_ge (by omega)
      rw [z1, cast0] at call
      by_cases c2 : (i : Int) < (X.length : Int)
      · repeat (first | (simp (maxSteps := 9^7) only [seval, evB, c_nat_Root_b1, h1, c1, c2, e7, call, st]) | (simp (disch := omega) only [dsB]))
        exact fin
      · have z2 : dg X i = 0 := dg_ge (by omega)
        rw [z2, cast0] at call
        repeat (first | (simp (maxSteps := 9^7) only [seval, evB, c_nat_Root_b1, h1, c1, c2, e7, call, st]) | (simp (disch := omega) only [dsB]))
        exact fin
theorem newton {a x : Nat} (ha : 0 < a) (hx : 0 < x) : a < ((a / x + x) / 2 + 1) * ((a / x + x) / 2 + 1) ∧ 0 < (a / x + x) / 2 := by
  have h1 := Nat.div_add_mod a x
  have h2 := Nat.mod_lt a hx
  generalize hq : a / x = q at *
  constructor
  · obtain ⟨w, hw⟩ : ∃ w, w = (q + x) / 2 + 1 := ⟨_, rfl⟩
    rw [← hw]
    have h3 : q + x + 1 ≤ 2 * w := by omega
    have h4 : (q + 1 + x) * (q + 1 + x) ≤ (2 * w) * (2 * w) := Nat.mul_le_mul (by omega) (by omega)
    have h5 : 4 * ((q + 1) * x) ≤ (q + 1 + x) * (q + 1 + x) := by
      rcases Nat.le_total (q + 1) x with h | h
      · obtain ⟨d, rfl⟩ := Nat.exists_eq_add_of_le h
        generalize q + 1 = p
        have : (p + (p + d)) * (p + (p + d)) = 4 * (p * (p + d)) + d * d := by
          simp only [Nat.mul_add, Nat.add_mul, Nat.mul_comm d p]; omega
        omega
      · obtain ⟨d, hd⟩ := Nat.exists_eq_add_of_le h
        rw [hd]
        have : (x + d + x) * (x + d + x) = 4 * ((x + d) * x) + d * d := by
          simp only [Nat.mul_add, Nat.add_mul, Nat.mul_comm d x]; omega
        omega
    have h6 : (2 * w) * (2 * w) = 4 * (w * w) := by
      rw [Nat.mul_mul_mul_comm]
    have h7 : a < (q + 1) * x := by rw [Nat.add_mul, Nat.one_mul, Nat.mul_comm]; omega
    omega
  · apply Classical.byContradiction
    intro hc
    have h3 : q + x ≤ 1 := by omega
    obtain rfl : x = 1 := by omega
    obtain rfl : q = 0 := by omega
    omega
theorem newton_end {a x : Nat} (hx : 0 < x) (h : x ≤ (a / x + x) / 2) : x * x ≤ a := by
  have h1 : x ≤ a / x := by omega
  exact (Nat.le_div_iff_mul_le hx).1 h1
theorem reach_own {h : Heap} {b : Nat} {l : List Nat} (H : Holds h b l) : reachG h.mem 3 b = [b] := by
  cases h with
  | mk bs fs => rw [rg_x, H.at_, rgO_some, rl_cells]
theorem FreH_fz {h : Heap} {b : Nat} {l : List Nat} (H : Holds h b l) (hf : FreH h) (r : AV) : FreH ⟨h.b, fz1 r [b] ++ h.f⟩ := by
  intro c hc
  rcases List.mem_append.1 hc with h1 | h1
  · unfold fz1 at h1
    split at h1
    · have := List.mem_singleton.1 h1; subst this; exact H.lt
    · exact absurd h1 List.not_mem_nil
  · exact hf c h1
theorem cmpN_zero {a b : Nat} : cmpN a b = 0 ↔ a = b := by
  unfold cmpN; split
  · constructor <;> intro <;> omega
  · split <;> constructor <;> intro <;> omega
theorem root_loop (J : Al G T g) {z : Bool} {a : Nat} (ha : mayL (dl a) = true) (ha0 : 0 < a) : ∀ (x : Nat) (h : Heap) (zx : Bool), FreH h → 0 < x → mayL (dl x) = true → a < (x + 1) * (x + 1) →
    Post (evL G T c_nat_Root_l2 [(0, D z (dl a)), (5, D zx (dl x))] h) fun R =>
      ∃ e h' r z', R = (.ret, (2, D z' (dl r)) :: (3, .bool (decide (r * r = a))) :: (4, .int .i64 0) :: e, h') ∧ r * r ≤ a ∧ a < (r + 1) * (r + 1) := by
  intro x
  induction x using Nat.strongRecOn with
  | ind x ih =>
    intro h zx hf hx hmx hlt
    rw [s_loopc G T (c := c_nat_Root_l2) rfl]
    have la := (mayL_iff.1 ha).1
    have lx := (mayL_iff.1 hmx).1
    obtain ⟨zq, zr, hq⟩ := nat_QuoRem (G := G) J (z := z) (y := zx) ha hmx (by omega)
    have hqa : a / x ≤ a := Nat.div_le_self _ _
    have lq : (dl (a / x)).length ≤ 4096 := by
      have h1 := blen_mono hqa
      have h2 := dl_len_blen (a / x)
      have h3 := dl_len_blen a
      omega
    obtain ⟨nw1, nw2⟩ := newton ha0 hx
    have nw3 := newton_end (a := a) hx
    generalize a / x = q at *
    obtain ⟨N, hN⟩ : ∃ N, N = max (dl q).length (dl x).length + 1 := ⟨_, rfl⟩
    have e1 : max ((dl q).length : Int) ((dl x).length : Int) + 1 = (N : Int) := by omega
    have H0 := Holds_new hf (List.replicate N 0)
    obtain ⟨_, hr, e, l', c', rfl, hl, dl2, hv⟩ := sum_loop (G := G) (zq := zq) (zx := zx) (va := D z (dl a)) J H0 (Dg_dl q) (Dg_dl x) (N := N) (by omega) N 0 (List.replicate N 0) 0 (by omega) (List.length_replicate ..) (Dg_rep _) (by decide) (by simp [val])
    rw [put_self H0, cast0] at hr
    rw [List.take_of_length_le (by omega), List.take_of_length_le (by omega), val_dl, val_dl] at hv
    have hl4 := val_lt dl2
    rw [hl] at hl4
    have hsum : q + x < 4294967296 ^ N := by
      have h1 : q < 4294967296 ^ (N - 1) := dl_len.1 (by omega)
      have h2 : x < 4294967296 ^ (N - 1) := dl_len.1 (by omega)
      have h3 : 4294967296 ^ N = 4294967296 ^ (N - 1) * 4294967296 := by rw [← Nat.pow_succ, show (N - 1).succ = N by omega]
      rw [h3]; omega
    have hval : val l' = q + x := by
      rcases Nat.eq_zero_or_pos c' with h1 | h1
      · subst h1; rw [Nat.mul_zero] at hv; omega
      · have : 4294967296 ^ N * 1 ≤ 4294967296 ^ N * c' := Nat.mul_le_mul_left _ h1
        omega
    have H1 := H0.put l'
    have hsn := snap_own H1 (n := N) (by omega)
    rw [← hl, List.take_length, hl] at hsn
    obtain ⟨z1, hz1⟩ := nat_trim (G := G) J (z := false) dl2 (by omega)
    rw [hval] at hz1
    have lsum : (dl (q + x)).length ≤ N := dl_len.2 hsum
    obtain ⟨z2, hz2⟩ := nat_down (G := G) J (z := z1) (a := q + x) (n := 1) (by omega) (by decide)
    rw [Nat.pow_one, show ((1 : Nat) : Int) = 1 from rfl] at hz2
    generalize hy : (q + x) / 2 = y at *
    have ly : (dl y).length ≤ N := by
      have h1 := blen_mono (a := y) (b := q + x) (by omega)
      have h2 := dl_len_blen y
      have h3 := dl_len_blen (q + x)
      omega
    have hc := nat_cmp (G := G) J (z := z2) (y := zx) (a := y) (b := x) (by omega) (by omega)
    have hf2 : FreH ⟨(put (new h (List.replicate N 0)) h.b.length l').b, fz1 (D z1 (dl (q + x))) [h.b.length] ++ (put (new h (List.replicate N 0)) h.b.length l').f⟩ := FreH_fz H1 ((hf.new _).put _ _) _
    have hre := reach_own H1
    by_cases c1 : y < x
    · have c2 : ¬ 0 ≤ cmpN y x := by have := cmpN_neg.2 c1; omega
      have hmy : mayL (dl y) = true := by
        rw [mayL_iff]; refine ⟨?_, Nm_dl _⟩
        have h1 := blen_mono (Nat.le_of_lt c1)
        have h2 := dl_len_blen y
        have h3 := dl_len_blen x
        omega
      have fin := ih y c1 _ z2 hf2 nw2 hmy nw1
      clear nw1 nw3 ih hv hl4 hsum hlt hy
      repeat (first | (simp (maxSteps := 9^7) only [seval, evB, c_nat_Root_b2, hq, mm_max2, e1, hr, hsn, hz1, hz2, hc, c2, frz_own, hre]) | (simp (disch := omega) only [dsB]))
      exact fin
    · have c2 : 0 ≤ cmpN y x := by
        have : ¬ cmpN y x < 0 := fun hh => c1 (cmpN_neg.1 hh)
        omega
      obtain ⟨z3, hz3⟩ := nat_mul (G := G) J (z := zx) (y := zx) (a := x) (b := x) (by omega)
      have lxx : (dl (x * x)).length ≤ 8192 := by
        have h1 := dl_len_blen (x * x)
        have h2 := dl_len_blen x
        have h3 : blen (x * x) ≤ blen x + blen x := by
          rw [blen_le, Nat.pow_add]
          exact Nat.mul_lt_mul'' (lt_pow_blen x) (lt_pow_blen x)
        omega
      have hc3 := nat_cmp (G := G) J (z := z3) (y := z) (a := x * x) (b := a) (by omega) (by omega)
      have hd : decide (cmpN (x * x) a = 0) = decide (x * x = a) := decide_eq_decide.2 cmpN_zero
      have fin := nw3 (by omega)
      clear nw1 nw3 ih hv hl4 hsum hy
      repeat (first | (simp (maxSteps := 9^7) only [seval, evB, c_nat_Root_b2, hq, mm_max2, e1, hr, hsn, hz1, hz2, hc, c2, frz_own, hre, hz3, hc3, hd]) | (simp (disch := omega) only [dsB]))
      exact Post.some ⟨_, _, _, _, rfl, fin, hlt⟩
theorem nat_Root (J : Al G T g) {z : Bool} {a : Nat} (ha : mayL (dl a) = true) :
    ∃ r z', run G T 81 [D z (dl a)] = some (.tup [D z' (dl r), .bool (decide (r * r = a)), .int .i64 0]) ∧ r * r ≤ a ∧ a < (r + 1) * (r + 1) := by
  have la := (mayL_iff.1 ha).1
  have h1 := nat_May (G := G) J z (dl a)
  rw [ha] at h1
  by_cases h0 : a = 0
  · subst h0
    rw [dl_zero] at *
    refine ⟨0, true, ?_, by decide, by decide⟩
    rw [run_k G T J.A.nat_Root, dl_zero]
    clear la ha
    repeat' (first | (simp (maxSteps := 9^7) only [seval, exC, c_nat_Root, h1]) | (simp (maxSteps := 9^7) (disch := first | with_reducible assumption | omega) only [dxB]) | (simp only [kdB]; split) | (simp only [kvB]; split))
    rfl
  · have hl : ¬ ((dl a).length : Int) = 0 := fun hc => h0 (dl_len0.1 (by omega))
    have h2 := nat_Len (G := G) J (z := z) ha
    have hb : blen a ≤ 131072 := may_blen ha
    have w1 : ((blen a : Nat) : Int) + 1 = ((blen a + 1 : Nat) : Int) := by omega
    have w2 : ((blen a + 1 : Nat) : Int).tdiv 2 = (((blen a + 1) / 2 : Nat) : Int) := rfl
    have w3 : ((blen a + 1 : Nat) : Int) / 2 = (((blen a + 1) / 2 : Nat) : Int) := rfl
    have ltb := lt_pow_blen a
    have hk : blen a ≤ 2 * ((blen a + 1) / 2) := by omega
    have hk2 : (blen a + 1) / 2 ≤ 65536 := by omega
    generalize (blen a + 1) / 2 = k at *
    have d1 : dl 1 = [1] := by rw [dl_pos (by decide), Nat.mod_eq_of_lt (by decide), Nat.div_eq_of_lt (by decide), dl_zero]
    obtain ⟨zx, hz⟩ := nat_up (G := G) J (z := false) (a := 1) (n := k) (by rw [d1]; decide) (by omega)
    rw [Nat.one_mul, d1] at hz
    have hz2 : run G T 91 [.imm 1 [.int .u32 1], .int .i64 (k : Int)] = some (D zx (dl (2 ^ k))) := hz
    have H0 : Holds ⟨[⟨[.int .u32 1], false⟩], []⟩ 0 [1] := ⟨rfl, rfl⟩
    have hre := reach_own H0
    have hf : FreH ⟨[⟨[.int .u32 1], false⟩], fz1 (D zx (dl (2 ^ k))) [0] ++ []⟩ := FreH_fz H0 (fun c hc => absurd hc List.not_mem_nil) _
    rw [List.append_nil] at hf
    have hmx : mayL (dl (2 ^ k)) = true := mayL_small (by
      have := blen_eq (n := 2 ^ k) (k := k) (Nat.le_refl _) (Nat.pow_lt_pow_right (by decide) (Nat.lt_succ_self k)); omega)
    have hlt : a < (2 ^ k + 1) * (2 ^ k + 1) := by
      have e1 : a < 2 ^ k * 2 ^ k := by
        rw [← Nat.pow_add]
        exact Nat.lt_of_lt_of_le ltb (Nat.pow_le_pow_right (by decide) (by omega))
      exact Nat.lt_of_lt_of_le e1 (Nat.mul_le_mul (by omega) (by omega))
    obtain ⟨_, hr, e, h', r, z', rfl, p1, p2⟩ := root_loop (G := G) J (z := z) ha (by omega) (2 ^ k) _ zx hf (Nat.two_pow_pos k) hmx hlt
    refine ⟨r, z', ?_, p1, p2⟩
    rw [run_k G T J.A.nat_Root]
    clear ltb hk hlt hmx p1 p2 ha hf
    repeat' (first | (simp (maxSteps := 9^7) only [seval, exC, c_nat_Root, h1, h2, hl, w1, w2, w3, hz, hz2, hre, hr]) | (simp (maxSteps := 9^7) (disch := first | with_reducible assumption | omega) only [dxB]) | (simp only [kdB]; split) | (simp only [kvB]; split))
theorem root_uniq {r t a : Nat} (h1 : r * r ≤ a) (h2 : a < (r + 1) * (r + 1)) (h3 : t * t ≤ a) (h4 : a < (t + 1) * (t + 1)) : r = t := by
  rcases Nat.lt_trichotomy r t with h | h | h
  · have : (r + 1) * (r + 1) ≤ t * t := Nat.mul_le_mul h h
    omega
  · exact h
  · have : (t + 1) * (t + 1) ≤ r * r := Nat.mul_le_mul h h
    omega
theorem dyad_asked (J : Al G T g) {n : Nat} (h : 1 ≤ n ∧ n ≤ 8192) : run G T 75 [.int .i64 (n : Int)] = some (.int .i64 0) := by
  rw [run_k G T J.C.dyad_asked]
  have c1 : ¬ (n : Int) < 1 := by omega
  have c2 : ¬ (8192 : Int) < (n : Int) := by omega
  repeat' (first | (simp (maxSteps := 9^7) only [seval, exC, c_dyad_asked, c1, c2]) | (simp (maxSteps := 9^7) (disch := first | with_reducible assumption | omega) only [dxB]) | (simp only [kdB]; split) | (simp only [kvB]; split))
theorem dyad_made (J : Al G T g) {z n more : Bool} {q k s : Nat} {e : Int} (hm : mayL (dl q) = true) (hk : blen q = k + s) (h0 : 0 < s) (he : -16000000 < e ∧ e < 16000000) :
    ∃ z', run G T 78 [.bool n, D z (dl q), .int .i64 e, .bool more, .int .i64 (k : Int)] = some (.tup [DyA z' (mkD n (q / 2 ^ s) (e + s)), .bool (!decide (q % 2 ^ s = 0) || more), .int .i64 0]) := by
  have hb := may_blen hm
  have l1 := nat_Len (G := G) J (z := z) hm
  obtain ⟨z1, h1⟩ := nat_Shift_down (G := G) J (z := z) (a := q) (n := s) hm h0 (by omega)
  have hbd := blen_div q s
  have hm2 : mayL (dl (q / 2 ^ s)) = true := mayL_small (by omega)
  have htz : tz (q / 2 ^ s) ≤ 131072 ∨ q / 2 ^ s = 0 := by
    by_cases hz : q / 2 ^ s = 0
    · exact Or.inr hz
    · left; have := tz_blen hz; omega
  obtain ⟨z2, h2⟩ := dyad_Make (G := G) J (n := n) (z := z1) (a := q / 2 ^ s) (e := e + s) hm2 (by
    rcases htz with h | h
    · right; omega
    · left; exact h) (by omega)
  have w1 : max (0 : Int) ((blen q : Int) - (k : Int)) = (s : Int) := by omega
  have w2 : (0 : Int) - (s : Int) = -(s : Int) := by omega
  have w3 : IntKind.i64.wrap (e + (s : Int)) = e + s := wrap_i64 (by omega)
  have w4 : IntKind.i64.wrap ((blen q : Int) - (k : Int)) = (blen q : Int) - (k : Int) := wrap_i64 (by omega)
  have w5 : IntKind.i64.wrap (-(s : Int)) = -(s : Int) := wrap_i64 (by omega)
  refine ⟨z2, ?_⟩
  rw [run_k G T J.C.dyad_made]
  clear hm2 htz hbd hk hb hm
  simp only [DyA, A3] at *
  generalize decide (q % 2 ^ s = 0) = o at *
  cases o <;> cases more <;> repeat' (first | (simp (maxSteps := 9^7) only [seval, exC, c_dyad_made, l1, w1, w2, w3, w4, w5, mm_max2, h1, h2]) | (simp (maxSteps := 9^7) (disch := first | with_reducible assumption | omega) only [dxB]) | (simp only [kdB]; split) | (simp only [kvB]; split))
def quoN (k a b : Nat) : Nat := k + 1 + blen b - blen a
theorem quo_blen {k a b : Nat} (ha : a ≠ 0) (hb : b ≠ 0) : k < blen (a * 2 ^ quoN k a b / b) := by
  rw [lt_blen]
  have h1 : 2 ^ k * b ≤ a * 2 ^ quoN k a b := by
    have e1 := lt_pow_blen b
    have e2 := pow_blen_le ha
    have e3 := blen_pos ha
    calc 2 ^ k * b ≤ 2 ^ k * 2 ^ blen b := Nat.mul_le_mul_left _ (Nat.le_of_lt e1)
      _ = 2 ^ (k + blen b) := (Nat.pow_add ..).symm
      _ ≤ 2 ^ (blen a - 1 + quoN k a b) := Nat.pow_le_pow_right (by decide) (by unfold quoN; omega)
      _ = 2 ^ (blen a - 1) * 2 ^ quoN k a b := Nat.pow_add ..
      _ ≤ a * 2 ^ quoN k a b := Nat.mul_le_mul_right _ e2
  exact (Nat.le_div_iff_mul_le (by omega)).2 h1
theorem both_loop (e : Env) (h : Heap) : evL G T c_dyad_both_l1 e h = kS G T (evL G T c_dyad_both_b1 (keepE [5, 6, 7] e) h) c_dyad_both_l1 := s_loopc G T rfl e h
theorem dyad_both (J : Al G T g) {n z n' z' : Bool} {l l' : List Nat} (hd : Dg l) (hd' : Dg l') {e e' : Int} :
    run G T 74 [.imm 2 [.bool n, D z l, .int .i64 e, .bool n', D z' l', .int .i64 e']] = some (.bool (mayD n l e && mayD n' l' e')) := by
  rw [run_k G T J.C.dyad_both]
  have h2 := dyad_May J (n := n) (z := z) hd (e := e)
  have h3 := dyad_May J (n := n') (z := z') hd' (e := e')
  simp only [A3] at *
  cases hm : mayD n l e <;> cases hm' : mayD n' l' e' <;> (
    rw [hm] at h2
    rw [hm'] at h3
    repeat' (first | (simp (maxSteps := 9^7) only [seval, exC, c_dyad_both, h2, h3, both_loop, c_dyad_both_b1, iad20, iad21, rd_ip]) | (simp (maxSteps := 9^7) (disch := first | with_reducible assumption | omega) only [dxB]) | (simp only [kdB]; split) | (simp only [kvB]; split))
    all_goals rfl)
theorem dyad_Quo (J : Al G T g) {z y : Bool} {a b : Dy} {k S : Nat} (da : mayD a.n (dl a.m) a.e = true) (db : mayD b.n (dl b.m) b.e = true)
    (ha : a.m ≠ 0) (hb : b.m ≠ 0) (hk : 1 ≤ k ∧ k ≤ 8192) (hw : quoN k a.m b.m + blen a.m ≤ 131072) (ea : -4000000 < a.e ∧ a.e < 4000000) (eb : -4000000 < b.e ∧ b.e < 4000000)
    (hS : blen (a.m * 2 ^ quoN k a.m b.m / b.m) = k + S) :
    ∃ z', run G T 40 [DyA z a, DyA y b, .int .i64 (k : Int)] = some (.tup [DyA z' (mkD (a.n != b.n) (a.m * 2 ^ quoN k a.m b.m / b.m / 2 ^ S) (a.e - b.e - (quoN k a.m b.m : Nat) + S)),
      .bool (!decide (a.m * 2 ^ quoN k a.m b.m / b.m % 2 ^ S = 0) || !decide (a.m * 2 ^ quoN k a.m b.m % b.m = 0)), .int .i64 0]) := by
  have hqb := quo_blen (k := k) ha hb
  have ma := (mayD_facts da).1
  have mb := (mayD_facts db).1
  obtain ⟨n, m, e⟩ := a
  obtain ⟨n', m', e'⟩ := b
  simp only at *
  have b0 := dyad_both J (n := n) (z := z) (n' := n') (z' := y) (Dg_dl m) (Dg_dl m') (e := e) (e' := e')
  rw [da, db, Bool.and_self] at b0
  have a0 := dyad_asked J hk
  have l1 := nat_Len J (z := z) ma
  have l2 := nat_Len J (z := y) mb
  have bm := may_blen ma
  have bm' := may_blen mb
  have hN2 : quoN k m m' = k + 1 + blen m' - blen m := rfl
  generalize quoN k m m' = N at *
  obtain ⟨z1, h1⟩ := nat_Shift_up J (z := z) (a := m) (n := N) ma (Or.inr hw) (by omega)
  have bN := blen_mul ha N
  have mN : mayL (dl (m * 2 ^ N)) = true := mayL_small (by omega)
  obtain ⟨z2, z3, h2⟩ := nat_QuoRem J (z := z1) (y := y) (a := m * 2 ^ N) (b := m') mN mb hb
  have bq := blen_mono (Nat.div_le_self (m * 2 ^ N) m')
  have mq : mayL (dl (m * 2 ^ N / m')) = true := mayL_small (by omega)
  have hrl : decide ((0 : Int) < ((dl (m * 2 ^ N % m')).length : Int)) = !decide (m * 2 ^ N % m' = 0) := by
    rw [← decide_not]; refine decide_eq_decide.2 ?_
    rw [← dl_len0]; omega
  generalize m * 2 ^ N / m' = Q at *
  generalize m * 2 ^ N % m' = R at *
  obtain ⟨z5, h4⟩ := dyad_made J (n := n != n') (z := z2) (more := !decide (R = 0)) (q := Q) (k := k) (s := S) (e := e - e' - N) mq hS (by omega) (by omega)
  have c1 : ¬ ((dl m).length : Int) = 0 := fun hc => ha (dl_len0.1 (by omega))
  have c2 : ¬ ((dl m').length : Int) = 0 := fun hc => hb (dl_len0.1 (by omega))
  refine ⟨z5, ?_⟩
  have hne : (n != n') = !decide (n = n') := by cases n <;> cases n' <;> rfl
  rw [hne] at h4 ⊢
  rw [run_k G T J.C.dyad_Quo]
  simp only [DyA, A3] at *
  have c3 : ¬ (k : Int) < 1 := by omega
  have wa : IntKind.i64.wrap ((k : Int) + 1) = (k : Int) + 1 := wrap_i64 (by omega)
  have wb : IntKind.i64.wrap ((k : Int) + 1 + (blen m' : Int)) = (k : Int) + 1 + (blen m' : Int) := wrap_i64 (by omega)
  have wc : IntKind.i64.wrap ((k : Int) + 1 + (blen m' : Int) - (blen m : Int)) = (k : Int) + 1 + (blen m' : Int) - (blen m : Int) := wrap_i64 (by omega)
  have wd : IntKind.i64.wrap (e - e') = e - e' := wrap_i64 (by omega)
  have we : IntKind.i64.wrap (e - e' - (N : Int)) = e - e' - N := wrap_i64 (by omega)
  have wm : max (0 : Int) ((k : Int) + 1 + (blen m' : Int) - (blen m : Int)) = N := by omega
  have wf : IntKind.i64.wrap (131072 - (blen m : Int)) = 131072 - (blen m : Int) := wrap_i64 (by omega)
  have c4 : ¬ (131072 - (blen m : Int) < (N : Int)) := by omega
  clear bN mN bq mq hqb hS hN2 da db ma mb hw
  generalize decide (Q % 2 ^ S = 0) = o at *
  cases o <;> (repeat' (first | (simp (maxSteps := 9^7) only [seval, exC, c_dyad_Quo, b0, a0, c1, c2, c3, c4, l1, l2, wa, wb, wc, wd, we, wf, wm, mm_max2, h1, h2, h4, hrl]) | (simp (maxSteps := 9^7) (disch := first | with_reducible assumption | omega) only [dxB]) | (simp only [kdB]; split) | (simp only [kvB]; split)); try rfl)
def shN (m : Nat) (n : Int) : Nat := if 0 ≤ n then m * 2 ^ n.toNat else m / 2 ^ (-n).toNat
def shB (m : Nat) (n : Int) : Bool := if 0 ≤ n then false else !decide (m % 2 ^ (-n).toNat = 0)
theorem shN_blen {m : Nat} (h : m ≠ 0) {n : Int} (hn : 0 ≤ (blen m : Int) + n) : (blen (shN m n) : Int) = blen m + n := by
  unfold shN; split
  · rw [blen_mul h]; omega
  · rw [blen_div]; omega
theorem nat_Shift_sh (J : Al G T g) {z : Bool} {m : Nat} {n : Int} (hm : mayL (dl m) = true) (h1 : (blen m : Int) + n ≤ 131072) (h2 : -1099511627776 < n ∧ n < 1099511627776) :
    ∃ z', run G T 50 [D z (dl m), .int .i64 n] = some (.tup [D z' (dl (shN m n)), .bool (shB m n), .int .i64 0]) := by
  unfold shN shB
  by_cases h : 0 ≤ n
  · obtain ⟨z', hz⟩ := nat_Shift_up J (z := z) (a := m) (n := n.toNat) hm (by omega) (by omega)
    rw [if_pos h, if_pos h]
    rw [show ((n.toNat : Nat) : Int) = n by omega] at hz
    exact ⟨z', hz⟩
  · obtain ⟨z', hz⟩ := nat_Shift_down J (z := z) (a := m) (n := (-n).toNat) hm (by omega) (by omega)
    rw [if_neg h, if_neg h]
    rw [show -(((-n).toNat : Nat) : Int) = n by omega] at hz
    exact ⟨z', hz⟩
theorem root_blen {k r M : Nat} (h1 : 2 ^ k * 2 ^ k ≤ M) (h2 : M < (r + 1) * (r + 1)) : k < blen r := by
  rw [lt_blen]
  rcases Nat.lt_or_ge r (2 ^ k) with h | h
  · have := Nat.mul_le_mul (show r + 1 ≤ 2 ^ k by omega) (show r + 1 ≤ 2 ^ k by omega)
    omega
  · exact h
theorem and1_i64 (x : Int) : andI .i64 x 1 = x % 2 := by
  rw [andI_eq]
  unfold andI0
  have h1 : (BitVec.ofInt IntKind.i64.bits x &&& BitVec.ofInt IntKind.i64.bits 1).toNat = (x % 18446744073709551616).toNat % 2 := by
    rw [BitVec.toNat_and]
    rw [show (BitVec.ofInt IntKind.i64.bits 1).toNat = 1 from rfl, BitVec.toNat_ofInt]
    rw [show ((2 : Nat) ^ IntKind.i64.bits : Nat) = 18446744073709551616 from rfl]
    exact and_one _
  rw [h1]
  rw [wrap_i64 (by omega)]
  omega
set_option maxHeartbeats 2000000 in
theorem dyad_Root (J : Al G T g) {z : Bool} {d : Dy} {k S : Nat} {n c : Int} {r : Nat} (dd : mayD d.n (dl d.m) d.e = true) (h0 : d.m ≠ 0) (hs : d.n = false)
    (hk : 1 ≤ k ∧ k ≤ 8192) (hn : n = 2 * k + 2 - blen d.m + (d.e - (2 * k + 2 - blen d.m)) % 2) (hc : d.e - n = 2 * c)
    (r1 : r * r ≤ shN d.m n) (r2 : shN d.m n < (r + 1) * (r + 1)) (hS : blen r = k + S) :
    ∃ z', run G T 43 [DyA z d, .int .i64 (k : Int)] = some (.tup [DyA z' (mkD false (r / 2 ^ S) (c + S)),
      .bool (!decide (r % 2 ^ S = 0) || (shB d.m n || !decide (r * r = shN d.m n))), .int .i64 0]) := by
  obtain ⟨f1, f2, f3, f4, f5⟩ := mayD_facts dd
  obtain ⟨ng, m, e⟩ := d
  simp only at *
  subst hs
  have hbm := may_blen f1
  have hbp := blen_pos h0
  have hbs := shN_blen h0 (n := n) (by omega)
  have hrk : k < blen r := root_blen (k := k) (r := r) (M := shN m n) (by
    have := pow_blen_le (n := shN m n) (by intro hc; rw [hc, blen_zero] at hbs; omega)
    rw [← Nat.pow_add]
    exact Nat.le_trans (Nat.pow_le_pow_right (by decide) (by omega)) this) r2
  have b0 := dyad_May J false z (Dg_dl m) e
  rw [dd] at b0
  have a0 := dyad_asked J hk
  have l1 := nat_Len J (z := z) f1
  obtain ⟨z1, h1⟩ := nat_Shift_sh J (z := z) (m := m) (n := n) f1 (by omega) (by omega)
  have mM : mayL (dl (shN m n)) = true := mayL_small (by omega)
  obtain ⟨r', z2, h2, q1, q2⟩ := nat_Root J (z := z1) (a := shN m n) mM
  have hrr : r' = r := root_uniq q1 q2 r1 r2
  subst hrr
  have hbr : blen r' ≤ blen (shN m n) := blen_mono (Nat.le_trans (Nat.le_mul_self r') r1)
  have mr : mayL (dl r') = true := mayL_small (by omega)
  obtain ⟨z5, h4⟩ := dyad_made J (n := false) (z := z2) (more := shB m n || !decide (r' * r' = shN m n)) (q := r') (k := k) (s := S) (e := c) mr hS (by omega) (by omega)
  have c1 : ¬ ((dl m).length : Int) = 0 := fun hc => h0 (dl_len0.1 (by omega))
  refine ⟨z5, ?_⟩
  rw [run_k G T J.C.dyad_Root]
  simp only [DyA, A3] at *
  have wa : IntKind.i64.wrap (2 * (k : Int)) = 2 * (k : Int) := wrap_i64 (by omega)
  have wb : IntKind.i64.wrap (2 * (k : Int) + 2) = 2 * (k : Int) + 2 := wrap_i64 (by omega)
  have wc : IntKind.i64.wrap (2 * (k : Int) + 2 - (blen m : Int)) = 2 * (k : Int) + 2 - (blen m : Int) := wrap_i64 (by omega)
  have wd : IntKind.i64.wrap (e - (2 * (k : Int) + 2 - (blen m : Int))) = e - (2 * (k : Int) + 2 - (blen m : Int)) := wrap_i64 (by omega)
  have we : IntKind.i64.wrap (e - n) = e - n := wrap_i64 (by omega)
  have wt : IntKind.i64.wrap ((e - n).tdiv 2) = c := by rw [hc, Int.mul_tdiv_cancel_left _ (by decide)]; exact wrap_i64 (by omega)
  have wx := and1_i64 (e - (2 * (k : Int) + 2 - (blen m : Int)))
  have hpar : ((e - (2 * (k : Int) + 2 - (blen m : Int))) % 2 = 0 ∧ n = 2 * (k : Int) + 2 - (blen m : Int)) ∨
     ((e - (2 * (k : Int) + 2 - (blen m : Int))) % 2 = 1 ∧ IntKind.i64.wrap (2 * (k : Int) + 2 - (blen m : Int) + 1) = n) := by
    rcases Int.emod_two_eq (e - (2 * (k : Int) + 2 - (blen m : Int))) with hp | hp
    · left; exact ⟨hp, by omega⟩
    · right; refine ⟨hp, ?_⟩; rw [wrap_i64 (by omega)]; omega
  clear hbs hrk hbr mr mM hS r1 r2 q1 q2 f1 f2 f3 f4 f5 dd hbm hbp hn
  generalize shB m n = o1 at *
  generalize decide (r' * r' = shN m n) = o2 at *
  generalize decide (r' % 2 ^ S = 0) = o at *
  generalize shN m n = M at *
  rcases hpar with ⟨hp, hn⟩ | ⟨hp, hn⟩
  · rw [hp] at wx
    rw [hn] at h1 we wt
    cases o1 <;> cases o2 <;> (simp only [Bool.false_or, Bool.true_or, Bool.not_true, Bool.not_false, Bool.or_false, Bool.or_true] at h4 ⊢; repeat' (first | (simp (maxSteps := 9^7) only [seval, exC, c_dyad_Root, b0, a0, c1, l1, wa, wb, wc, wd, we, wt, wx, h1, h2, h4]) | (simp (maxSteps := 9^7) (disch := first | with_reducible assumption | omega) only [dxB]) | (simp only [kdB]; split) | (simp only [kvB]; split)); try rfl)
  · rw [hp] at wx
    cases o1 <;> cases o2 <;> (simp only [Bool.false_or, Bool.true_or, Bool.not_true, Bool.not_false, Bool.or_false, Bool.or_true] at h4 ⊢; repeat' (first | (simp (maxSteps := 9^7) only [seval, exC, c_dyad_Root, b0, a0, c1, l1, wa, wb, wc, wd, we, wt, wx, hn, h1, h2, h4]) | (simp (maxSteps := 9^7) (disch := first | with_reducible assumption | omega) only [dxB]) | (simp only [kdB]; split) | (simp only [kvB]; split)); try rfl)
def sW (F : Fm) (md : Int) (neg : Bool) (Q : Nat) (more : Bool) (E : Int) : Nat × Nat :=
  wordOf F md neg (rdN md neg Q more (F.eOf (E + blen Q) - E).toNat).1 (rdN md neg Q more (F.eOf (E + blen Q) - E).toNat).2 (F.eOf (E + blen Q)) (E + blen Q) (rdN md neg Q more (blen Q - F.fr - 1)).1
theorem partW_sW (F : Fm) (md : Int) (neg : Bool) {w : Nat} (more : Bool) (top : Int) (hw : blen w = 64) : partW F md neg w more top = sW F md neg w more (top - 64) := by
  unfold partW sW
  have h1 : top - 64 + (blen w : Int) = top := by omega
  rw [h1, show F.eOf top - top + 64 = F.eOf top - (top - 64) by omega, show blen w - F.fr - 1 = 63 - F.fr by omega]
theorem sW_shift (F : Fm) (md : Int) (neg : Bool) {Q j : Nat} (more : Bool) (E : Int) (h : F.fr + 2 + j ≤ blen Q) :
    sW F md neg (Q / 2 ^ j) (more || decide (Q % 2 ^ j ≠ 0)) (E + j) = sW F md neg Q more E := by
  unfold sW
  have hb : (blen (Q / 2 ^ j) : Int) = blen Q - j := by rw [blen_div]; omega
  have hb' : blen (Q / 2 ^ j) = blen Q - j := by omega
  have e1 : E + j + (blen (Q / 2 ^ j) : Int) = E + blen Q := by omega
  have hE : E + (blen Q : Int) - F.fr - 1 ≤ F.eOf (E + blen Q) := by unfold Fm.eOf; omega
  have r1 := rdN_shift md neg Q more j (F.eOf (E + blen Q) - (E + j)).toNat (by omega)
  have r2 := rdN_shift md neg Q more j (blen Q - j - F.fr - 1) (by omega)
  rw [show j + (F.eOf (E + blen Q) - (E + j)).toNat = (F.eOf (E + blen Q) - E).toNat by omega] at r1
  rw [show j + (blen Q - j - F.fr - 1) = blen Q - F.fr - 1 by omega] at r2
  rw [e1, hb', r1, r2]
theorem headN_mul {M : Nat} (h : M ≠ 0) (t : Nat) : headN (M * 2 ^ t) = headN M ∧ behindN (M * 2 ^ t) = behindN M := by
  unfold headN behindN
  rw [blen_mul h]
  by_cases h1 : blen M ≤ 64
  · by_cases h2 : blen M + t ≤ 64
    · rw [if_pos h1, if_pos h2, if_pos h1, if_pos h2, Nat.mul_assoc, ← Nat.pow_add, show t + (64 - (blen M + t)) = 64 - blen M by omega]
      exact ⟨rfl, rfl⟩
    · rw [if_pos h1, if_neg h2, if_pos h1, if_neg h2]
      rw [div_pow_mul (by omega), mod_pow_mul (by omega), show t - (blen M + t - 64) = 64 - blen M by omega]
      exact ⟨rfl, rfl⟩
  · rw [if_neg h1, if_neg (by omega), if_neg h1, if_neg (by omega)]
    rw [div_pow_mul2 (by omega), mod_pow_mul2 (by omega), show blen M + t - 64 - t = blen M - 64 by omega]
    have hp := Nat.two_pow_pos t
    refine ⟨rfl, decide_eq_decide.2 ?_⟩
    constructor
    · intro h3 h4; exact h3 (by rw [h4, Nat.zero_mul])
    · intro h3 h4
      rcases Nat.mul_eq_zero.1 h4 with h5 | h5
      · exact h3 h5
      · omega
theorem sW_head (F : Fm) (md : Int) (neg : Bool) {M : Nat} (E : Int) (h : F.fr + 2 ≤ blen M) : sW F md neg (headN M) (behindN M) (E + blen M - 64) = sW F md neg M false E := by
  have hF := fm_facts F
  unfold headN behindN
  by_cases h1 : blen M ≤ 64
  · rw [if_pos h1, if_pos h1]
    have hm : M ≠ 0 := by rintro rfl; rw [blen_zero] at h; omega
    have := sW_shift F md neg (Q := M * 2 ^ (64 - blen M)) (j := 64 - blen M) false (E + blen M - 64) (by rw [blen_mul hm]; omega)
    rw [Nat.mul_div_cancel _ (Nat.two_pow_pos _), Nat.mul_mod_left, show E + (blen M : Int) - 64 + ((64 - blen M : Nat) : Int) = E by omega] at this
    rw [← this]; rfl
  · rw [if_neg h1, if_neg h1]
    have := sW_shift F md neg (Q := M) (j := blen M - 64) false E (by omega)
    rw [← this, Bool.false_or, show E + ((blen M - 64 : Nat) : Int) = E + blen M - 64 by omega]
theorem rndW_mk (F : Fm) (md : Int) (neg : Bool) {M : Nat} (E : Int) (h : F.fr + 2 ≤ blen M) : rndW F md (mkD neg M E) = sW F md neg M false E := by
  have hm : M ≠ 0 := by rintro rfl; rw [blen_zero] at h; omega
  have t1 := (tz_spec hm).1
  have hb := blen_div M (tz M)
  have hz := tz_blen hm
  have hm' : M / 2 ^ tz M ≠ 0 := by intro hc; rw [hc, blen_zero] at hb; omega
  have h1 := partW_eq F md (d := mkD neg M E) (by rw [mkD_pos hm]; exact hm')
  rw [← h1, mkD_pos hm]
  simp only
  obtain ⟨e1, e2⟩ := headN_mul hm' (tz M)
  rw [← t1] at e1 e2
  rw [← e1, ← e2, partW_sW _ _ _ _ _ (headN_blen hm), show E + (tz M : Int) + (blen (M / 2 ^ tz M) : Int) - 64 = E + blen M - 64 by omega, sW_head F md neg E h]
theorem sW_quo (F : Fm) (md : Int) (neg : Bool) {a b N j : Nat} (E : Int) (hb : b ≠ 0) (h : F.fr + 2 ≤ blen (a * 2 ^ N / b)) :
    sW F md neg (a * 2 ^ (N + j) / b) (!decide (a * 2 ^ (N + j) % b = 0)) (E - j) = sW F md neg (a * 2 ^ N / b) (!decide (a * 2 ^ N % b = 0)) E := by
  have hp := Nat.two_pow_pos j
  have e0 : a * 2 ^ (N + j) = a * 2 ^ N * 2 ^ j := by rw [Nat.pow_add, Nat.mul_assoc]
  rw [e0]
  generalize a * 2 ^ N = A at *
  have e1 : A * 2 ^ j / b / 2 ^ j = A / b := by rw [Nat.div_div_eq_div_mul, Nat.mul_div_mul_right _ _ hp]
  have hbl := blen_div (A * 2 ^ j / b) j
  rw [e1] at hbl
  have h2 := sW_shift F md neg (Q := A * 2 ^ j / b) (j := j) (!decide (A * 2 ^ j % b = 0)) (E - j) (by omega)
  rw [e1, show E - (j : Int) + j = E by omega] at h2
  rw [← h2]
  congr 1
  have e3 : A * 2 ^ j % (b * 2 ^ j) = A % b * 2 ^ j := Nat.mul_mod_mul_right ..
  rw [Nat.mod_mul] at e3
  have key : A % b = 0 ↔ (A * 2 ^ j % b = 0 ∧ A * 2 ^ j / b % 2 ^ j = 0) := by
    constructor
    · intro h3
      rw [h3, Nat.zero_mul] at e3
      have h4 : A * 2 ^ j % b = 0 := by omega
      rw [h4, Nat.zero_add] at e3
      refine ⟨h4, ?_⟩
      rcases Nat.mul_eq_zero.1 e3 with h5 | h5
      · exact absurd h5 hb
      · exact h5
    · rintro ⟨h3, h4⟩
      rw [h3, h4, Nat.mul_zero, Nat.add_zero] at e3
      rcases Nat.mul_eq_zero.1 e3.symm with h5 | h5
      · exact h5
      · omega
  rw [Bool.eq_iff_iff]
  simp only [Bool.or_eq_true, Bool.not_eq_true', decide_eq_true_eq, decide_eq_false_iff_not, ne_eq, key]
  by_cases h5 : A * 2 ^ j % b = 0 <;> by_cases h6 : A * 2 ^ j / b % 2 ^ j = 0 <;> simp [h5, h6]
theorem mul_self_shift (t j : Nat) : t * 2 ^ j * (t * 2 ^ j) = t * t * 2 ^ (2 * j) := by
  rw [Nat.mul_mul_mul_comm, ← Nat.pow_add, show j + j = 2 * j by omega]
theorem root_fine {X r t j : Nat} (h1 : r * r ≤ X) (h2 : X < (r + 1) * (r + 1)) (h3 : t * t ≤ X / 2 ^ (2 * j)) (h4 : X / 2 ^ (2 * j) < (t + 1) * (t + 1)) :
    t = r / 2 ^ j ∧ ((t * t = X / 2 ^ (2 * j) ∧ X % 2 ^ (2 * j) = 0) ↔ (r * r = X ∧ r % 2 ^ j = 0)) := by
  have hp := Nat.two_pow_pos j
  have hq := Nat.two_pow_pos (2 * j)
  have g1 : t * 2 ^ j * (t * 2 ^ j) ≤ X := by
    rw [mul_self_shift]
    exact Nat.le_trans (Nat.mul_le_mul_right _ h3) (Nat.div_mul_le_self ..)
  have g2 : t * 2 ^ j ≤ r := by
    rcases Nat.lt_or_ge r (t * 2 ^ j) with h | h
    · have := Nat.mul_le_mul (show r + 1 ≤ t * 2 ^ j from h) (show r + 1 ≤ t * 2 ^ j from h); omega
    · exact h
  have g3 : r / 2 ^ j * (r / 2 ^ j) ≤ X / 2 ^ (2 * j) := by
    rw [Nat.le_div_iff_mul_le hq, ← mul_self_shift]
    exact Nat.le_trans (Nat.mul_le_mul (Nat.div_mul_le_self ..) (Nat.div_mul_le_self ..)) h1
  have g4 : r / 2 ^ j ≤ t := by
    rcases Nat.lt_or_ge t (r / 2 ^ j) with h | h
    · have := Nat.mul_le_mul (show t + 1 ≤ r / 2 ^ j from h) (show t + 1 ≤ r / 2 ^ j from h); omega
    · exact h
  have g5 : t = r / 2 ^ j := Nat.le_antisymm ((Nat.le_div_iff_mul_le hp).2 g2) g4
  refine ⟨g5, ?_⟩
  have m1 := Nat.div_add_mod X (2 ^ (2 * j))
  have m2 := Nat.div_add_mod r (2 ^ j)
  constructor
  · rintro ⟨a1, a2⟩
    have hX : t * 2 ^ j * (t * 2 ^ j) = X := by
      rw [mul_self_shift, a1, Nat.mul_comm]; omega
    have hr : t * 2 ^ j = r := by
      refine root_uniq (a := X) (Nat.le_of_eq hX) ?_ h1 h2
      rw [← hX]; exact Nat.mul_lt_mul_of_lt_of_le (Nat.lt_succ_self _) (Nat.le_succ _) (by omega)
    refine ⟨by rw [← hr]; exact hX, ?_⟩
    rw [← hr]; exact Nat.mul_mod_left ..
  · rintro ⟨a1, a2⟩
    have hr : r = t * 2 ^ j := by rw [g5, Nat.mul_comm]; omega
    have hX : X = t * t * 2 ^ (2 * j) := by rw [← a1, hr, mul_self_shift]
    refine ⟨?_, by rw [hX]; exact Nat.mul_mod_left ..⟩
    rw [hX, Nat.mul_div_cancel _ hq]
theorem sW_root (F : Fm) (md : Int) (neg : Bool) {X r t j : Nat} (E : Int) (h1 : r * r ≤ X) (h2 : X < (r + 1) * (r + 1)) (h3 : t * t ≤ X / 2 ^ (2 * j)) (h4 : X / 2 ^ (2 * j) < (t + 1) * (t + 1)) (h : F.fr + 2 ≤ blen t) :
    sW F md neg t (!decide (X % 2 ^ (2 * j) = 0) || !decide (t * t = X / 2 ^ (2 * j))) (E + j) = sW F md neg r (!decide (r * r = X)) E := by
  obtain ⟨e1, e2⟩ := root_fine h1 h2 h3 h4
  have hbl := blen_div r j
  rw [← e1] at hbl
  have h5 := sW_shift F md neg (Q := r) (j := j) (!decide (r * r = X)) E (by omega)
  rw [← e1] at h5
  rw [← h5]
  congr 1
  rw [Bool.eq_iff_iff]
  simp only [Bool.or_eq_true, Bool.not_eq_true', decide_eq_true_eq, decide_eq_false_iff_not, ne_eq]
  by_cases h6 : t * t = X / 2 ^ (2 * j) <;> by_cases h7 : X % 2 ^ (2 * j) = 0 <;> by_cases h8 : r * r = X <;> by_cases h9 : r % 2 ^ j = 0 <;> simp_all
def quoW (F : Fm) (md : Int) (a b : Dy) : Nat × Nat :=
  sW F md (a.n != b.n) (a.m * 2 ^ quoN 64 a.m b.m / b.m) (!decide (a.m * 2 ^ quoN 64 a.m b.m % b.m = 0)) (a.e - b.e - (quoN 64 a.m b.m : Nat))
theorem or_ne (o1 o2 : Bool) : (!o1 || !o2) = (!o2 || !o1) := by cases o1 <;> cases o2 <;> rfl
theorem head64 {w : Nat} (h : blen w = 64) : headN w = w ∧ behindN w = false := by
  unfold headN behindN
  rw [if_pos (by omega), if_pos (by omega), h]
  exact ⟨Nat.mul_one w, rfl⟩
theorem mk_head {n : Bool} {w : Nat} {e : Int} (h : blen w = 64) : headN (mkD n w e).m = w ∧ behindN (mkD n w e).m = false ∧ (mkD n w e).e + (blen (mkD n w e).m : Int) = e + 64 ∧ (mkD n w e).m ≠ 0 ∧ (mkD n w e).n = n := by
  have h0 : w ≠ 0 := by rintro rfl; rw [blen_zero] at h; omega
  have t1 := (tz_spec h0).1
  have hb := blen_div w (tz w)
  have hz := tz_blen h0
  have hm' : w / 2 ^ tz w ≠ 0 := by intro hc; rw [hc, blen_zero] at hb; omega
  obtain ⟨e1, e2⟩ := headN_mul hm' (tz w)
  rw [← t1] at e1 e2
  rw [mkD_pos h0]
  simp only
  rw [← e1, ← e2]
  exact ⟨(head64 h).1, (head64 h).2, by omega, hm', by trivial⟩
theorem fm_fr (F : Fm) : F.fr + 2 ≤ 54 := by cases F <;> decide
theorem round_Quo (J : Al G T g) (F : Fm) {m : Int} (hm : 1 ≤ m ∧ m ≤ 5) {z y : Bool} {a b : Dy} (da : mayD a.n (dl a.m) a.e = true) (db : mayD b.n (dl b.m) b.e = true)
    (ha : a.m ≠ 0) (hb : b.m ≠ 0) (hw : quoN 64 a.m b.m + blen a.m ≤ 131072) :
    run G T 15 [.int .u8 F.u, .int .u8 m, DyA z a, DyA y b] = some (.tup [.int .u64 ((quoW F m a b).1 : Int), .int .u8 ((quoW F m a b).2 : Int), .int .i64 0]) := by
  rw [run_k G T J.E.round_Quo]
  obtain ⟨f1, f2, f3, f4, f5⟩ := mayD_facts da
  obtain ⟨g1, g2, g3, g4, g5⟩ := mayD_facts db
  have o1 := round_open2 J F hm (n := a.n) (z := z) (n' := b.n) (z' := y) (Dg_dl a.m) (Dg_dl b.m) (e := a.e) (e' := b.e)
  rw [da, db, Bool.and_self, if_pos rfl] at o1
  have s1 := dyad_Sign J (n := a.n) (z := z) (Dg_dl a.m) (e := a.e)
  rw [sign_may da, if_neg ha] at s1
  have s2 := dyad_Sign J (n := b.n) (z := y) (Dg_dl b.m) (e := b.e)
  rw [sign_may db, if_neg hb] at s2
  have bound : ∀ {n : Bool} {m : Nat} {e : Int}, mayD n (dl m) e = true → m ≠ 0 → mayD false (dl m) 0 = true := by
    intro n m e hx hx0
    have h1 : ¬ (dl m).length = 0 := by rw [dl_len0]; exact hx0
    simp only [mayD] at hx ⊢
    rw [if_neg h1] at hx ⊢
    simp only [Bool.and_eq_true, decide_eq_true_eq] at hx ⊢
    exact ⟨hx.1, hx.2.1, by omega⟩
  have hqb := quo_blen (k := 64) ha hb
  obtain ⟨S, hS⟩ : ∃ S, blen (a.m * 2 ^ quoN 64 a.m b.m / b.m) = 64 + S := ⟨blen (a.m * 2 ^ quoN 64 a.m b.m / b.m) - 64, by omega⟩
  obtain ⟨zq, q1⟩ := dyad_Quo J (z := z) (y := y) (a := ⟨false, a.m, 0⟩) (b := ⟨false, b.m, 0⟩) (k := 64) (S := S) (bound da ha) (bound db hb) ha hb (by omega) hw ⟨by simp, by simp⟩ ⟨by simp, by simp⟩ hS
  simp only at q1
  rw [show ((64 : Nat) : Int) = 64 from rfl] at q1
  have bS := blen_div (a.m * 2 ^ quoN 64 a.m b.m / b.m) S
  have hb64 : blen (a.m * 2 ^ quoN 64 a.m b.m / b.m / 2 ^ S) = 64 := by omega
  have hq1 := quoN
  have hN : quoN 64 a.m b.m = 64 + 1 + blen b.m - blen a.m := rfl
  have bS2 := blen_mono (Nat.div_le_self (a.m * 2 ^ quoN 64 a.m b.m) b.m)
  rw [blen_mul ha] at bS2
  have bbm := may_blen g1
  have W : quoW F m a b = partW F m (a.n != b.n) (a.m * 2 ^ quoN 64 a.m b.m / b.m / 2 ^ S) (!decide (a.m * 2 ^ quoN 64 a.m b.m / b.m % 2 ^ S = 0) || !decide (a.m * 2 ^ quoN 64 a.m b.m % b.m = 0))
      ((0 : Int) - 0 - (quoN 64 a.m b.m : Nat) + S + 64 + (a.e - b.e)) := by
    rw [partW_sW _ _ _ _ _ hb64]
    have := sW_shift F m (a.n != b.n) (Q := a.m * 2 ^ quoN 64 a.m b.m / b.m) (j := S) (!decide (a.m * 2 ^ quoN 64 a.m b.m % b.m = 0)) (a.e - b.e - (quoN 64 a.m b.m : Nat)) (by have := fm_fr F; omega)
    unfold quoW
    simp only [ne_eq, decide_not] at this
    rw [← this, or_ne, show (0 : Int) - 0 - (quoN 64 a.m b.m : Nat) + S + 64 + (a.e - b.e) - 64 = a.e - b.e - (quoN 64 a.m b.m : Nat) + S by omega]
  rw [W]
  clear W bS
  generalize a.m * 2 ^ quoN 64 a.m b.m / b.m % 2 ^ S = R1 at *
  generalize a.m * 2 ^ quoN 64 a.m b.m % b.m = R2 at *
  generalize a.m * 2 ^ quoN 64 a.m b.m / b.m / 2 ^ S = Q at *
  generalize a.m * 2 ^ quoN 64 a.m b.m / b.m = Q0 at *
  have hX : -2000000 < (0 : Int) - 0 - (quoN 64 a.m b.m : Nat) + S ∧ (0 : Int) - 0 - (quoN 64 a.m b.m : Nat) + S < 2000000 := by omega
  generalize (0 : Int) - 0 - (quoN 64 a.m b.m : Nat) + S = X at *
  obtain ⟨k1, k2, k3, k4, k5⟩ := mk_head (n := false != false) (e := X) hb64
  have hd := mkD_pos (n := false != false) (m := Q) (by rintro rfl; rw [blen_zero] at hb64; omega) X
  have hQ0 : Q ≠ 0 := by rintro rfl; rw [blen_zero] at hb64; omega
  have tq := tz_blen hQ0
  have hmm : mayL (dl (mkD (false != false) Q X).m) = true := mayL_small (by
    have := blen_div Q (tz Q)
    rw [hd]; simp only; omega)
  have p1 := round_partOf J (z := zq) (d := mkD (false != false) Q X) hmm k4 (by rw [hd]; simp only; omega)
  rw [k1, k2, k3] at p1
  have w1 := round_word J F hm (neg := a.n != b.n) (more := !decide (R1 = 0) || !decide (R2 = 0)) (w := Q) (top := X + 64 + (a.e - b.e)) hb64 (by omega)
  have wa : IntKind.i64.wrap (a.e - b.e) = a.e - b.e := wrap_i64 (by omega)
  have wb : IntKind.i64.wrap (X + 64 + (a.e - b.e)) = X + 64 + (a.e - b.e) := wrap_i64 (by omega)
  clear k1 k2 k3 k4 k5 hd tq hmm hb64 hw hN hqb hS bS2 bbm f1 f2 f3 f4 f5 g1 g2 g3 g4 g5 da db bound hX hq1
  obtain ⟨na, ma, ea⟩ := a
  obtain ⟨nb, mb, eb⟩ := b
  simp only at *
  have hne : (na != nb) = !decide (na = nb) := by cases na <;> cases nb <;> rfl
  rw [hne] at w1 ⊢
  have c1 : ¬ (if na = true then (-1 : Int) else 1) = 0 := by split <;> decide
  have c2 : ¬ (if nb = true then (-1 : Int) else 1) = 0 := by split <;> decide
  generalize (if na = true then (-1 : Int) else 1) = sa at *
  generalize (if nb = true then (-1 : Int) else 1) = sb at *
  generalize (!decide (R1 = 0) || !decide (R2 = 0)) = lost at *
  simp only [DyA, A3, fmA, partA] at *
  cases lost <;> (
    repeat' (first | (simp (maxSteps := 9^7) only [seval, exC, c_round_Quo, o1, s1, s2, c1, c2, q1, p1, wa, wb, w1]) | (simp (maxSteps := 9^7) (disch := first | with_reducible assumption | omega) only [dxB]) | (simp only [kdB]; split) | (simp only [kvB]; split))
    all_goals try rfl)
end Go.Cv
