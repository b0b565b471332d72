/-
  A part of the proof of the statements of this seat (texts that the law's own text leans on): no condition.
-/
import Derived.Test.YtabmkppfiklbaaaGreatDoorM6
set_option linter.unusedVariables false
set_option linter.unusedSimpArgs false
/-
  The statements on exact sums, products, quotients.
-/
namespace Go.Cv
variable {G : Nat → Option (List AV)} {T : Tbl} {g : Nat}

def eqsA (neg : Bool) (ls : List Bool) : AV → AV → Option AV
  | .agg a, .agg b => if (kindsA ls a && kindsA ls b) = true then (eqCells a b).map fun r => .bool (if neg then !r else r) else none
  | _, _ => none
theorem st_eqs (F : CallF) (d : Option Nat) (os : List IOper) (e : Env) (h : Heap) (neg : Bool) (ls : List Bool) (x y : IOpd) : evOps G F (⟨d, .eqs neg ls x y, none⟩ :: os) e h = kV G F (eqsA neg ls (opd e x) (opd e y)) d os e h := by
  rw [st_pure G F d _ os e h rfl]
  simp only [evQ]
  cases opd e x <;> cases opd e y <;> try rfl
  simp only [eqsA]
  split
  · cases eqCells _ _ <;> rfl
  · rfl
theorem zr_self (a b c d : Int) : eqsA false [false, false, false, false] (.agg [.int .u64 a, .int .u64 b, .int .u8 c, .int .u8 d]) (.agg [.int .u64 a, .int .u64 b, .int .u8 c, .int .u8 d]) = some (.bool true) := by
  simp [eqsA, kindsA, eqCells]
def zr0 : AV := zrA (0, 0) (0, 0)
theorem law12_is_ok (hW : HasJ g T) {p q : Nat × Nat} : run G T 254 [zrA p q, .int .i64 0, zrA p q, .int .i64 0] = some (.bool true) := by
  rw [run_k G T hW.law12_is]
  simp only [zrA]
  repeat' (first | (simp (maxSteps := 1000000) only [seval, evB, exB, c_law12_is, st_eqs, zr_self]) | (simp (maxSteps := 1000000) (disch := first | with_reducible assumption | omega) only [dxB]) | (simp only [kI_d, kG_dt, kG_df]; split) | (simp only [kI_v, kG_vt, kG_vf]; split))
theorem law12_is_err (hW : HasJ g T) {e : Int} (he : e ≠ 0) : run G T 254 [zr0, .int .i64 e, zr0, .int .i64 e] = some (.bool true) := by
  rw [run_k G T hW.law12_is]
  simp only [zr0, zrA, cast0]
  repeat' (first | (simp (maxSteps := 1000000) only [seval, evB, exB, c_law12_is, he, st_eqs, zr_self]) | (simp (maxSteps := 1000000) (disch := first | with_reducible assumption | omega) only [dxB]) | (simp only [kI_d, kG_dt, kG_df]; split) | (simp only [kI_v, kG_vt, kG_vf]; split))

theorem law12_opens_no (hD : HasD g T) (hU : HasG g T) (hW : HasJ g T) {f md : Int} (h : ¬ (f = 1 ∨ f = 2)) {v : AV} : run G T 253 [.int .u8 f, .int .u8 md, v] = some (.int .i64 4) := by
  rw [run_k G T hW.law12_opens]
  have o1 := ref05_Opens_no (G := G) (T := T) hD hU h (md := md) (v := .nil)
  repeat' (first | (simp (maxSteps := 1000000) only [seval, evB, exB, c_law12_opens, o1]) | (simp (maxSteps := 1000000) (disch := first | with_reducible assumption | omega) only [dxB]) | (simp only [kI_d, kG_dt, kG_df]; split) | (simp only [kI_v, kG_vt, kG_vf]; split))
theorem law12_opens_mode (hD : HasD g T) (hE : HasE g T) (hU : HasG g T) (hW : HasJ g T) (F : Fm) {md : Int} (h : ¬ (1 ≤ md ∧ md ≤ 5)) {v : AV} : run G T 253 [.int .u8 F.u, .int .u8 md, v] = some (.int .i64 5) := by
  rw [run_k G T hW.law12_opens]
  have o1 := ref05_Opens_mode (G := G) (T := T) hD hE hU F h (v := .nil)
  repeat' (first | (simp (maxSteps := 1000000) only [seval, evB, exB, c_law12_opens, o1]) | (simp (maxSteps := 1000000) (disch := first | with_reducible assumption | omega) only [dxB]) | (simp only [kI_d, kG_dt, kG_df]; split) | (simp only [kI_v, kG_vt, kG_vf]; split))
theorem law12_opens_k (hD : HasD g T) (hE : HasE g T) (hU : HasG g T) (hW : HasJ g T) (F : Fm) {md : Int} (h : 1 ≤ md ∧ md ≤ 5) {n : Nat} {cs : List AV} {e : Int} (h2 : run G T 185 [.int .u8 F.u, .imm n cs] = some (.int .i64 e)) : run G T 253 [.int .u8 F.u, .int .u8 md, .imm n cs] = some (.int .i64 e) := by
  rw [run_k G T hW.law12_opens]
  have o1 := ref05_Opens0 (G := G) (T := T) hD hE hU F h
  repeat' (first | (simp (maxSteps := 1000000) only [seval, evB, exB, c_law12_opens, o1, h2]) | (simp (maxSteps := 1000000) (disch := first | with_reducible assumption | omega) only [dxB]) | (simp only [kI_d, kG_dt, kG_df]; split) | (simp only [kI_v, kG_vt, kG_vf]; split))
theorem xopens_s (hD : HasD g T) (hE : HasE g T) (hF : HasF g T) (hU : HasG g T) (hW : HasJ g T) {f md : Int} {a b c d : Nat} (ha : a < 18446744073709551616) (hb : b < 18446744073709551616) (hc : c < 18446744073709551616) (hd : d < 18446744073709551616) :
    (∃ e, e ≠ 0 ∧ run G T 253 [.int .u8 f, .int .u8 md, im2 a b c d] = some (.int .i64 e) ∧ run G T 289 [.int .u8 f, .int .u8 md, im2 a b c d] = some (.tup [.nil, .int .i64 e])) ∨
    (∃ F, f = Fm.u F ∧ (1 ≤ md ∧ md ≤ 5) ∧ ((a < 2 * F.sg ∧ b < 2 * F.sg) ∧ (c < 2 * F.sg ∧ d < 2 * F.sg)) ∧ run G T 253 [.int .u8 f, .int .u8 md, im2 a b c d] = some (.int .i64 0)) := by
  by_cases hf : f = 1 ∨ f = 2
  · obtain ⟨F, rfl⟩ := fm_of hf
    by_cases hm : 1 ≤ md ∧ md ≤ 5
    · have h1 := ref10_Good2 (G := G) (T := T) hD hF hU F ha hb hc hd
      by_cases k1 : (a < 2 * F.sg ∧ b < 2 * F.sg) ∧ (c < 2 * F.sg ∧ d < 2 * F.sg)
      · rw [if_pos k1] at h1
        exact Or.inr ⟨F, rfl, hm, k1, law12_opens_k hD hE hU hW F hm h1⟩
      · rw [if_neg k1] at h1
        exact Or.inl ⟨6, by decide, law12_opens_k hD hE hU hW F hm h1, special_open2_bad hD hE hU hW F hm ha hb hc hd k1⟩
    · exact Or.inl ⟨5, by decide, law12_opens_mode hD hE hU hW F hm, special_open_mode hE hW F hm⟩
  · exact Or.inl ⟨4, by decide, law12_opens_no hD hU hW hf, special_open_no hE hW hf⟩
theorem exact_Mul_err (hW : HasJ g T) {f md e : Int} {a b c d : Nat} (he : e ≠ 0) (h : run G T 289 [.int .u8 f, .int .u8 md, im2 a b c d] = some (.tup [.nil, .int .i64 e])) :
    run G T 252 [.int .u8 f, .int .u8 md, zA a b, zA c d] = some (.tup [zr0, .int .i64 e]) := by
  have s1 : run G T 268 [.int .u8 f, .int .u8 md, zA a b, zA c d] = some (.tup [zr0, .bool false, .int .i64 e]) := by
    rw [run_k G T hW.special_Mul]
    simp only [zA, zr0, zrA, im2, cast0] at *
    repeat' (first | (simp (maxSteps := 1000000) only [seval, evB, exB, c_special_Mul, st_bs2, repA_2, h, he]) | (simp (maxSteps := 1000000) (disch := first | with_reducible assumption | omega) only [dxB]) | (simp only [kI_d, kG_dt, kG_df]; split) | (simp only [kI_v, kG_vt, kG_vf]; split))
  rw [run_k G T hW.exact_Mul]
  simp only [zA, zr0, zrA, im2, cast0] at *
  repeat' (first | (simp (maxSteps := 1000000) only [seval, evB, exB, c_exact_Mul, s1, he]) | (simp (maxSteps := 1000000) (disch := first | with_reducible assumption | omega) only [dxB]) | (simp only [kI_d, kG_dt, kG_df]; split) | (simp only [kI_v, kG_vt, kG_vf]; split))
set_option maxHeartbeats 4000000 in
theorem law12_ExactProducts (hA : HasA g T) (hB : HasB g T) (hC : HasC g T) (hG : Glob G g) (hD : HasD g T) (hE : HasE g T) (hF : HasF g T) (hU : HasG g T) (hV : HasH g T) (hW : HasJ g T) (hK : run G T 255 [] = some (.bool true))
    {f m : Int} {a b c d : Nat} (ha : a < 18446744073709551616) (hb : b < 18446744073709551616) (hc : c < 18446744073709551616) (hd : d < 18446744073709551616) :
    run G T 242 [.int .u8 f, .int .u8 m, .agg [.int .u64 (a : Int), .int .u64 (b : Int)], .agg [.int .u64 (c : Int), .int .u64 (d : Int)]] = some (.bool true) := by
  rw [run_k G T hW.law12_ExactProducts]
  rcases xopens_s (G := G) (T := T) (f := f) (md := m) hD hE hF hU hW ha hb hc hd with ⟨e, he, o1, o2⟩ | ⟨F, rfl, hm, ⟨⟨k1, k2⟩, k3, k4⟩, o1⟩
  · have r1 := exact_Mul_err (G := G) (T := T) hW he o2
    have i1 := law12_is_err (G := G) (T := T) hW he
    simp only [zA, zr0, zrA, im2, cast0] at *
    repeat' (first | (simp (maxSteps := 1000000) only [seval, evB, exB, c_law12_ExactProducts, st_bs2, repA_2, r1, o1, he, i1, hK]) | (simp (maxSteps := 1000000) (disch := first | with_reducible assumption | omega) only [dxB]) | (simp only [kI_d, kG_dt, kG_df]; split) | (simp only [kI_v, kG_vt, kG_vf]; split))
  · have r1 := exact_Mul (G := G) (T := T) hA hG hC hD hE hU hW F hm k1 k2 k3 k4
    have r2 := ref12_Mul (G := G) (T := T) hA hB hC hD hE hF hV hW F hm k1 k2 k3 k4
    have i1 := law12_is_ok (G := G) (T := T) hW (p := (mulZ F m a b c d).1) (q := (mulZ F m a b c d).2)
    generalize mulZ F m a b c d = S at *
    simp only [zA, zrA, im2] at *
    repeat' (first | (simp (maxSteps := 1000000) only [seval, evB, exB, c_law12_ExactProducts, st_bs2, repA_2, r1, o1, r2, i1, hK]) | (simp (maxSteps := 1000000) (disch := first | with_reducible assumption | omega) only [dxB]) | (simp only [kI_d, kG_dt, kG_df]; split) | (simp only [kI_v, kG_vt, kG_vf]; split))

end Go.Cv
