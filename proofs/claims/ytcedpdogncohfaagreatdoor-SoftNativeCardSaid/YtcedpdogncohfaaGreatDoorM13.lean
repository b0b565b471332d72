/-
  A part of the proof of the statements of this seat (texts that the law's own text leans on): no condition.
-/
import Derived.Test.YtcedpdogncohfaaGreatDoorM12
import Derived.Test.YtcedpdogncohfaaGreatDoorM10
import Derived.Test.YtcedpdogncohfaaGreatDoorM11
import Derived.Test.YtcedpdogncohfaaGreatDoorM6
set_option linter.unusedVariables false
set_option linter.unusedSimpArgs false
namespace Go.Cv
variable {G : Nat → Option (List AV)} {T : Tbl} {g : Nat}
theorem vl_ne {F : Fm} {w : Nat} (h : w < 2 * F.sg) (h1 : F.cls w ≠ 1) (h4 : F.cls w ≠ 4) (h5 : F.cls w ≠ 5) : (F.vl w).m ≠ 0 := by
  have r := cls_range F w
  have hf : F.fin w := fin_iff.2 (by omega)
  have := val_cls h h1 hf
  rw [← vl_val hf] at this
  exact this
set_option maxHeartbeats 8000000 in
theorem soft_Div (J : Al G T g) (F : Fm) {md : Int} (hm : 1 ≤ md ∧ md ≤ 5) {a b : Nat} (ha : a < 2 * F.sg) (hb : b < 2 * F.sg) :
    run G T 221 [.int .u8 F.u, .int .u8 md, .int .u64 (a : Int), .int .u64 (b : Int)] = some (.tup [.int .u64 ((divW2 F md a b).1 : Int), .int .u8 ((divW2 F md a b).2 : Int), .int .i64 0]) := by
  rw [run_k G T J.H.soft_Div]
  obtain ⟨z1, z2, o1⟩ := soft_open2 J F hm ha hb
  have h5 := soft_has2 J (k := 5) (c := F.cls a) (c' := F.cls b) (n := F.ng a) (s := (F.vl a).n) (n' := F.ng b) (s' := (F.vl b).n) (z := z1) (z' := z2) (l := dl (F.vl a).m) (l' := dl (F.vl b).m) (e := (F.vl a).e) (e' := (F.vl b).e)
  have nn := fun x => desk_none J F (md := md) (x := x)
  have inf := fun x => desk_inf J F (md := md) (x := x) (n := F.ng a != F.ng b)
  have ze := desk_zero J F (md := md) (n := F.ng a != F.ng b)
  have b1 := Bd_vl F a
  have b2 := Bd_vl F b
  have hq : F.cls a ≠ 1 → F.cls a ≠ 4 → F.cls a ≠ 5 → F.cls b ≠ 1 → F.cls b ≠ 4 → F.cls b ≠ 5 → run G T 15 [.int .u8 F.u, .int .u8 md, DyA z1 (F.vl a), DyA z2 (F.vl b)] = some (.tup [.int .u64 ((quoW F md (F.vl a) (F.vl b)).1 : Int), .int .u8 ((quoW F md (F.vl a) (F.vl b)).2 : Int), .int .i64 0]) := fun k1 k2 k3 k4 k5 k6 => by
    have p1 := b1.bl
    have p2 := b2.bl
    have hN : quoN 64 (F.vl a).m (F.vl b).m = 64 + 1 + blen (F.vl b).m - blen (F.vl a).m := rfl
    exact round_Quo J F hm (mayD_nzb (Nz_vl F a) (b1.mono (by decide))) (mayD_nzb (Nz_vl F b) (b2.mono (by decide))) (vl_ne ha k1 k2 k3) (vl_ne hb k4 k5 k6) (by omega)
  have ra := cls_range F a
  have rb := cls_range F b
  unfold divW2 divP
  unfold ptC at o1
  generalize quoW F md (F.vl a) (F.vl b) = S at *
  clear b1 b2
  generalize F.cls a = ca at *
  generalize F.ng a = na at *
  generalize F.vl a = va at *
  generalize F.cls b = cb at *
  generalize F.ng b = nb at *
  generalize F.vl b = vb at *
  simp only [deskA, DyA, A3, List.cons_append, List.nil_append] at *
  have hne : (na != nb) = !decide (na = nb) := by cases na <;> cases nb <;> rfl
  rw [hne] at inf ze ⊢
  by_cases q5 : ca = 5 ∨ cb = 5
  · rw [decide_eq_true q5] at h5
    rw [if_pos q5]
    repeat' (first | (simp (maxSteps := 9^7) only [seval, exC, c_soft_Div, apart_ip, o1, i5_20, i5_21, r5_0, r5_5, h5, nn]) | (simp (maxSteps := 9^7) (disch := first | with_reducible assumption | omega) only [dxB]) | (simp only [kdB]; split) | (simp only [kvB]; split))
    all_goals try rfl
  · rw [decide_eq_false q5] at h5
    rw [if_neg q5]
    by_cases q0 : ca = cb ∧ (ca = 1 ∨ ca = 4)
    · rw [if_pos q0]
      obtain ⟨e1, e2⟩ := q0
      subst e1
      clear hq
      rcases e2 with rfl | rfl
      · repeat' (first | (simp (maxSteps := 9^7) only [seval, exC, c_soft_Div, apart_ip, o1, i5_20, i5_21, r5_0, r5_5, h5, nn]) | (simp (maxSteps := 9^7) (disch := first | with_reducible assumption | omega) only [dxB]) | (simp only [kdB]; split) | (simp only [kvB]; split))
        all_goals try rfl
      · repeat' (first | (simp (maxSteps := 9^7) only [seval, exC, c_soft_Div, apart_ip, o1, i5_20, i5_21, r5_0, r5_5, h5, nn]) | (simp (maxSteps := 9^7) (disch := first | with_reducible assumption | omega) only [dxB]) | (simp only [kdB]; split) | (simp only [kvB]; split))
        all_goals try rfl
    · rw [if_neg q0]
      by_cases a4 : ca = 4
      · rw [if_pos a4]
        have c1 : ¬ ca = cb := by omega
        clear hq
        subst a4
        repeat' (first | (simp (maxSteps := 9^7) only [seval, exC, c_soft_Div, apart_ip, o1, i5_20, i5_21, r5_0, r5_5, h5, c1, inf]) | (simp (maxSteps := 9^7) (disch := first | with_reducible assumption | omega) only [dxB]) | (simp only [kdB]; split) | (simp only [kvB]; split))
        all_goals try rfl
      · rw [if_neg a4]
        by_cases b1 : cb = 1
        · rw [if_pos b1]
          have c1 : ¬ ca = 1 := by omega
          clear hq
          subst b1
          repeat' (first | (simp (maxSteps := 9^7) only [seval, exC, c_soft_Div, apart_ip, o1, i5_20, i5_21, r5_0, r5_5, h5, a4, c1, inf]) | (simp (maxSteps := 9^7) (disch := first | with_reducible assumption | omega) only [dxB]) | (simp only [kdB]; split) | (simp only [kvB]; split))
          all_goals try rfl
        · rw [if_neg b1]
          by_cases q1 : ca = 1 ∨ cb = 4
          · rw [if_pos q1]
            clear hq
            have c1 : ¬ ca = cb := by omega
            by_cases a1 : ca = 1
            · subst a1
              repeat' (first | (simp (maxSteps := 9^7) only [seval, exC, c_soft_Div, apart_ip, o1, i5_20, i5_21, r5_0, r5_5, h5, c1, b1, ze]) | (simp (maxSteps := 9^7) (disch := first | with_reducible assumption | omega) only [dxB]) | (simp only [kdB]; split) | (simp only [kvB]; split))
              all_goals try rfl
            · have b4 : cb = 4 := by omega
              subst b4
              repeat' (first | (simp (maxSteps := 9^7) only [seval, exC, c_soft_Div, apart_ip, o1, i5_20, i5_21, r5_0, r5_5, h5, a4, a1, c1, ze]) | (simp (maxSteps := 9^7) (disch := first | with_reducible assumption | omega) only [dxB]) | (simp only [kdB]; split) | (simp only [kvB]; split))
              all_goals try rfl
          · rw [if_neg q1]
            have c2 : ¬ ca = 1 := by omega
            have c3 : ¬ cb = 4 := by omega
            have hq2 := hq c2 a4 (by omega) b1 c3 (by omega)
            clear hq
            by_cases c1 : ca = cb
            · subst c1
              repeat' (first | (simp (maxSteps := 9^7) only [seval, exC, c_soft_Div, apart_ip, o1, i5_20, i5_21, r5_0, r5_5, h5, a4, c2, hq2]) | (simp (maxSteps := 9^7) (disch := first | with_reducible assumption | omega) only [dxB]) | (simp only [kdB]; split) | (simp only [kvB]; split))
              all_goals try rfl
            · repeat' (first | (simp (maxSteps := 9^7) only [seval, exC, c_soft_Div, apart_ip, o1, i5_20, i5_21, r5_0, r5_5, h5, a4, b1, c1, c2, c3, hq2]) | (simp (maxSteps := 9^7) (disch := first | with_reducible assumption | omega) only [dxB]) | (simp only [kdB]; split) | (simp only [kvB]; split))
              all_goals try rfl
theorem soft_Sqrt (J : Al G T g) (F : Fm) {md : Int} (hm : 1 ≤ md ∧ md ≤ 5) {a : Nat} (ha : a < 2 * F.sg) :
    run G T 224 [.int .u8 F.u, .int .u8 md, .int .u64 (a : Int)] = some (.tup [.int .u64 ((sqrtW F md a).1 : Int), .int .u8 ((sqrtW F md a).2 : Int), .int .i64 0]) := by
  rw [run_k G T J.H.soft_Sqrt]
  obtain ⟨z1, o1⟩ := soft_open1 J F hm ha
  have nn := fun x => desk_none J F (md := md) (x := x)
  have inf := desk_inf J F (md := md) (x := 0) (n := false)
  have ze := desk_zero J F (md := md) (n := F.ng a)
  have hr : F.cls a ≠ 1 → F.cls a ≠ 4 → F.cls a ≠ 5 → F.ng a = false → run G T 18 [.int .u8 F.u, .int .u8 md, DyA z1 (F.vl a)] = some (.tup [.int .u64 ((rootW F md (F.vl a)).1 : Int), .int .u8 ((rootW F md (F.vl a)).2 : Int), .int .i64 0]) := fun k1 k2 k3 k4 => by
    have r := cls_range F a
    have hf : F.fin a := fin_iff.2 (by omega)
    have hn : (F.vl a).n = false := by rw [vl_val hf, val_neg_cls ha k1 hf, k4]
    exact round_Root J F hm (mayD_nzb (Nz_vl F a) ((Bd_vl F a).mono (by decide))) (vl_ne ha k1 k2 k3) hn
  unfold sqrtW
  unfold ptC at o1
  generalize rootW F md (F.vl a) = S at *
  generalize F.cls a = ca at *
  generalize F.ng a = na at *
  generalize F.vl a = va at *
  simp only [deskA, DyA, A3] at *
  by_cases q5 : ca = 5
  · rw [if_pos q5]
    clear hr
    subst q5
    repeat' (first | (simp (maxSteps := 9^7) only [seval, exC, c_soft_Sqrt, apart_ip, o1, i5_10, r5_0, nn]) | (simp (maxSteps := 9^7) (disch := first | with_reducible assumption | omega) only [dxB]) | (simp only [kdB]; split) | (simp only [kvB]; split))
    all_goals try rfl
  · rw [if_neg q5]
    by_cases q1 : ca = 1
    · rw [if_pos q1]
      clear hr
      subst q1
      repeat' (first | (simp (maxSteps := 9^7) only [seval, exC, c_soft_Sqrt, apart_ip, o1, i5_10, r5_0, ze]) | (simp (maxSteps := 9^7) (disch := first | with_reducible assumption | omega) only [dxB]) | (simp only [kdB]; split) | (simp only [kvB]; split))
      all_goals try rfl
    · rw [if_neg q1]
      cases na
      · rw [if_neg (by decide)]
        by_cases q4 : ca = 4
        · rw [if_pos q4]
          clear hr
          subst q4
          repeat' (first | (simp (maxSteps := 9^7) only [seval, exC, c_soft_Sqrt, apart_ip, o1, i5_10, r5_0, inf]) | (simp (maxSteps := 9^7) (disch := first | with_reducible assumption | omega) only [dxB]) | (simp only [kdB]; split) | (simp only [kvB]; split))
          all_goals try rfl
        · rw [if_neg q4]
          have hr := hr q1 q4 q5 rfl
          repeat' (first | (simp (maxSteps := 9^7) only [seval, exC, c_soft_Sqrt, apart_ip, o1, i5_10, r5_0, q1, q4, q5, hr]) | (simp (maxSteps := 9^7) (disch := first | with_reducible assumption | omega) only [dxB]) | (simp only [kdB]; split) | (simp only [kvB]; split))
          all_goals try rfl
      · rw [if_pos rfl]
        clear hr
        repeat' (first | (simp (maxSteps := 9^7) only [seval, exC, c_soft_Sqrt, apart_ip, o1, i5_10, r5_0, q1, q5, nn]) | (simp (maxSteps := 9^7) (disch := first | with_reducible assumption | omega) only [dxB]) | (simp only [kdB]; split) | (simp only [kvB]; split))
        all_goals try rfl
set_option maxHeartbeats 16000000 in
theorem soft_MulAdd (J : Al G T g) (F : Fm) {md : Int} (hm : 1 ≤ md ∧ md ≤ 5) {a b c : Nat} (ha : a < 2 * F.sg) (hb : b < 2 * F.sg) (hc : c < 2 * F.sg) :
    run G T 175 [.int .u8 F.u, .int .u8 md, .int .u64 (a : Int), .int .u64 (b : Int), .int .u64 (c : Int)] = some (.tup [.int .u64 ((fmaW F md a b c).1 : Int), .int .u8 ((fmaW F md a b c).2 : Int), .int .i64 0]) := by
  rw [run_k G T J.U.soft_MulAdd]
  obtain ⟨z1, z2, z3, o1⟩ := soft_open3 J F hm ha hb hc
  have h5 := soft_has3 J (k := 5) (c := F.cls a) (c' := F.cls b) (c'' := F.cls c) (n := F.ng a) (s := (F.vl a).n) (n' := F.ng b) (s' := (F.vl b).n) (n'' := F.ng c) (s'' := (F.vl c).n) (z := z1) (z' := z2) (z'' := z3) (l := dl (F.vl a).m) (l' := dl (F.vl b).m) (l'' := dl (F.vl c).m) (e := (F.vl a).e) (e' := (F.vl b).e) (e'' := (F.vl c).e)
  have hk := fun k => soft_has2 J (k := k) (c := F.cls a) (c' := F.cls b) (n := F.ng a) (s := (F.vl a).n) (n' := F.ng b) (s' := (F.vl b).n) (z := z1) (z' := z2) (l := dl (F.vl a).m) (l' := dl (F.vl b).m) (e := (F.vl a).e) (e' := (F.vl b).e)
  have h4 := hk 4
  have h1 := hk 1
  have nn := fun x => desk_none J F (md := md) (x := x)
  have b1 := Bd_vl F a
  have b2 := Bd_vl F b
  obtain ⟨z4, m1⟩ := dyad_Mul J (z := z1) (y := z2) (b1.mono (by decide)) (b2.mono (by decide)) (mayD_nzb (Nz_vl F a) (b1.mono (by decide))) (mayD_nzb (Nz_vl F b) (b2.mono (by decide)))
  have ad := fun (k : Int) (z : Bool) (d : Dy) (hz : Nz d) (hb : Bd d 16384) => desk_add J F hm (c := k) (n := F.ng a != F.ng b) (z := z) (d := d) (c' := F.cls c) (n' := F.ng c) (z' := z3) (d' := F.vl c) hz (Nz_vl F c) hb ((Bd_vl F c).mono (by decide))
  have ad4 := ad 4 true ⟨false, 0, 0⟩ ⟨fun _ => rfl, fun h => absurd rfl h⟩ ⟨by simp only [blen_zero]; omega, by simp, by simp⟩
  have ad1 := ad 1 true ⟨false, 0, 0⟩ ⟨fun _ => rfl, fun h => absurd rfl h⟩ ⟨by simp only [blen_zero]; omega, by simp, by simp⟩
  have ad3 := ad 3 z4 (mulD (F.vl a) (F.vl b)) (Nz_mul _ _) ((Bd_mul b1 b2).mono (by decide))
  clear ad b1 b2 hk
  unfold fmaW prC
  unfold ptC at o1
  generalize mulD (F.vl a) (F.vl b) = s at *
  have hne : (F.ng a != F.ng b) = !decide (F.ng a = F.ng b) := by cases F.ng a <;> cases F.ng b <;> rfl
  rw [hne] at ad4 ad1 ad3 ⊢
  generalize F.cls a = ca at *
  generalize F.ng a = na at *
  generalize F.vl a = va at *
  generalize F.cls b = cb at *
  generalize F.ng b = nb at *
  generalize F.vl b = vb at *
  generalize F.cls c = cc at *
  generalize F.ng c = nc at *
  generalize F.vl c = vc at *
  by_cases q5 : ca = 5 ∨ cb = 5 ∨ cc = 5
  · rw [decide_eq_true q5] at h5
    rw [if_pos q5]
    simp only [deskA, ptA, DyA, A3, dl_zero, List.cons_append, List.nil_append] at *
    repeat' (first | (simp (maxSteps := 9^7) only [seval, exC, c_soft_MulAdd, apart_ip, repA_3, st_bs5, o1, i5_30, i5_31, i5_32, r5_0, r5_5, r5_10, h5, nn]) | (simp (maxSteps := 9^7) (disch := first | with_reducible assumption | omega) only [dxB]) | (simp only [kdB]; split) | (simp only [kvB]; split))
    all_goals try rfl
  · rw [decide_eq_false q5] at h5
    rw [if_neg q5]
    by_cases q4 : ca = 4 ∨ cb = 4
    · rw [decide_eq_true q4] at h4
      by_cases q1 : ca = 1 ∨ cb = 1
      · rw [decide_eq_true q1] at h1
        rw [if_pos (show (ca = 4 ∨ cb = 4) ∧ (ca = 1 ∨ cb = 1) from ⟨q4, q1⟩)]
        simp only [deskA, ptA, DyA, A3, dl_zero, List.cons_append, List.nil_append] at *
        repeat' (first | (simp (maxSteps := 9^7) only [seval, exC, c_soft_MulAdd, apart_ip, repA_3, st_bs5, o1, i5_30, i5_31, i5_32, r5_0, r5_5, r5_10, h5, h4, h1, nn]) | (simp (maxSteps := 9^7) (disch := first | with_reducible assumption | omega) only [dxB]) | (simp only [kdB]; split) | (simp only [kvB]; split))
        all_goals try rfl
      · rw [decide_eq_false q1] at h1
        rw [if_neg (show ¬ ((ca = 4 ∨ cb = 4) ∧ (ca = 1 ∨ cb = 1)) from fun h => q1 h.2), if_pos q4, if_neg (by decide)]
        generalize addP F md 4 (!decide (na = nb)) ⟨false, 0, 0⟩ cc nc vc = S at *
        clear ad1 ad3
        simp only [deskA, ptA, DyA, A3, dl_zero, D_nil.symm, List.cons_append, List.nil_append] at *
        repeat' (first | (simp (maxSteps := 9^7) only [seval, exC, c_soft_MulAdd, apart_ip, repA_3, st_bs5, o1, i5_30, i5_31, i5_32, r5_0, r5_5, r5_10, h5, h4, h1, ad4]) | (simp (maxSteps := 9^7) (disch := first | with_reducible assumption | omega) only [dxB]) | (simp only [kdB]; split) | (simp only [kvB]; split))
        all_goals try rfl
    · rw [decide_eq_false q4] at h4
      rw [if_neg (show ¬ ((ca = 4 ∨ cb = 4) ∧ (ca = 1 ∨ cb = 1)) from fun h => q4 h.1), if_neg q4]
      by_cases q1 : ca = 1 ∨ cb = 1
      · rw [decide_eq_true q1] at h1
        rw [if_pos q1, if_neg (by decide)]
        generalize addP F md 1 (!decide (na = nb)) ⟨false, 0, 0⟩ cc nc vc = S at *
        clear ad4 ad3
        simp only [deskA, ptA, DyA, A3, dl_zero, D_nil.symm, List.cons_append, List.nil_append] at *
        repeat' (first | (simp (maxSteps := 9^7) only [seval, exC, c_soft_MulAdd, apart_ip, repA_3, st_bs5, o1, i5_30, i5_31, i5_32, r5_0, r5_5, r5_10, h5, h4, h1, ad1]) | (simp (maxSteps := 9^7) (disch := first | with_reducible assumption | omega) only [dxB]) | (simp only [kdB]; split) | (simp only [kvB]; split))
        all_goals try rfl
      · rw [decide_eq_false q1] at h1
        rw [if_neg q1, if_pos rfl]
        generalize addP F md 3 (!decide (na = nb)) s cc nc vc = S at *
        clear ad4 ad1
        simp only [deskA, ptA, DyA, A3, dl_zero, List.cons_append, List.nil_append] at *
        repeat' (first | (simp (maxSteps := 9^7) only [seval, exC, c_soft_MulAdd, apart_ip, repA_3, st_bs5, o1, i5_30, i5_31, i5_32, r5_0, r5_5, r5_10, h5, h4, h1, m1, ad3]) | (simp (maxSteps := 9^7) (disch := first | with_reducible assumption | omega) only [dxB]) | (simp only [kdB]; split) | (simp only [kvB]; split))
        all_goals try rfl
end Go.Cv
namespace Go.Cv
variable {G : Nat → Option (List AV)} {T : Tbl} {g : Nat}
section
variable {f md a b c e : Int}
end
end Go.Cv
namespace Go.Cv
variable {G : Nat → Option (List AV)} {T : Tbl} {g : Nat}
def zcl (c c' : Int) : Int := if c = 4 ∨ c' = 4 then 3 else if c = 5 ∨ c' = 5 then 4 else if c = 1 ∧ c' = 1 then 1 else 2
def sqD (F : Fm) (a b : Nat) : Dy := addD (mulD (F.vl a) (F.vl a)) (mulD (F.vl b) (F.vl b))
theorem Nz_sq (F : Fm) (a b : Nat) : Nz (sqD F a b) := Nz_add (Nz_mul _ _) (Nz_mul _ _)
end Go.Cv
namespace Go.Cv
variable {G : Nat → Option (List AV)} {T : Tbl} {g : Nat}
section
variable (x y u v : AV) (k : IntKind)
end
end Go.Cv
namespace Go.Cv
variable {G : Nat → Option (List AV)} {T : Tbl} {g : Nat}
def Fm.min (F : Fm) (w : Nat) : Nat := if F.cls w = 5 then F.nan else F.flip w
def Sim (F : Fm) (a b : Nat) : Prop := F.cls a = F.cls b ∧ mulD (F.vl a) (F.vl a) = mulD (F.vl b) (F.vl b)
theorem Sim.refl (F : Fm) (a : Nat) : Sim F a a := ⟨rfl, rfl⟩
theorem Sim.trans {F : Fm} {a b c : Nat} (h : Sim F a b) (k : Sim F b c) : Sim F a c := ⟨h.1.trans k.1, h.2.trans k.2⟩
theorem neg_mul (d : Dy) : mulD (negD d) (negD d) = mulD d d := by
  unfold negD
  split
  · rfl
  · unfold mulD; simp only; cases d.n <;> rfl
theorem mulD_z0 {a b : Dy} (h : a.m = 0 ∨ b.m = 0) : mulD a b = ⟨false, 0, 0⟩ := by
  unfold mulD
  rcases h with h | h
  · rw [h, Nat.zero_mul]; rfl
  · rw [h, Nat.mul_zero]; rfl
theorem val_enc (F : Fm) (n : Bool) {k : Nat} {u : Int} (hk0 : k ≠ 0) (hk1 : k < 2 ^ (F.fr + 1)) (hu : F.low ≤ u) (hku : u = F.low ∨ 2 ^ F.fr ≤ k) (hs : F.enc k u < F.i0) : F.val (F.enc k u + F.sgn n) = mkD n k u := by
  have hi := fm_i0 F
  obtain ⟨e1, e2⟩ := sgn_mod n (by omega : F.enc k u < F.sg)
  have hp := Nat.two_pow_pos F.fr
  rw [Nat.pow_succ] at hk1
  unfold Fm.val Fm.ex Fm.fc
  rw [e1, e2]
  rcases Nat.lt_or_ge k (2 ^ F.fr) with h | h
  · have hul : u = F.low := by
      rcases hku with q | q
      · exact q
      · omega
    have hE : F.enc k u = k := by unfold Fm.enc; rw [hul, Int.sub_self]; simp
    rw [hE, Nat.div_eq_of_lt h, if_pos rfl, Nat.mod_eq_of_lt h, hul]
  · have hE : F.enc k u = (k - 2 ^ F.fr) + 2 ^ F.fr * ((u - F.low).toNat + 1) := by
      unfold Fm.enc; rw [Nat.mul_add, Nat.mul_one, Nat.mul_comm]; omega
    have hlt : k - 2 ^ F.fr < 2 ^ F.fr := by omega
    have hd : F.enc k u / 2 ^ F.fr = (u - F.low).toNat + 1 := by
      rw [hE, Nat.add_mul_div_left _ _ hp, Nat.div_eq_of_lt hlt, Nat.zero_add]
    have hm : F.enc k u % 2 ^ F.fr = k - 2 ^ F.fr := by
      rw [hE, Nat.add_mul_mod_self_left, Nat.mod_eq_of_lt hlt]
    rw [hd, hm, if_neg (by omega), show 2 ^ F.fr + (k - 2 ^ F.fr) = k by omega]
    congr 1
    omega
theorem fit_word (F : Fm) {d : Dy} (h : F.fits d) (ho : d.m % 2 = 1) : ∃ s, s ≠ 0 ∧ s < F.i0 ∧ F.val (s + F.sgn d.n) = d := by
  obtain ⟨h0, h1, h2, h3⟩ := h
  have hF := fm_facts F
  obtain ⟨u, hu⟩ : ∃ u : Int, u = max (d.e + blen d.m - F.fr - 1) F.low := ⟨_, rfl⟩
  have hbp := blen_pos h0
  have hbk := blen_mul h0 (d.e - u).toNat
  have hk0 : d.m * 2 ^ (d.e - u).toNat ≠ 0 := by intro hc; rw [hc, blen_zero] at hbk; omega
  have hk1 : d.m * 2 ^ (d.e - u).toNat < 2 ^ (F.fr + 1) := blen_le.1 (by omega)
  have hku : u = F.low ∨ 2 ^ F.fr ≤ d.m * 2 ^ (d.e - u).toNat := by
    by_cases q : u = F.low
    · exact Or.inl q
    · right; exact lt_blen.1 (by omega)
  have hbig := enc_big F (n := d.m * 2 ^ (d.e - u).toNat) (u := u) (by omega) (by omega) hku
  have hs : F.enc (d.m * 2 ^ (d.e - u).toNat) u < F.i0 := by
    rcases Nat.lt_or_ge (F.enc (d.m * 2 ^ (d.e - u).toNat) u) F.i0 with q | q
    · exact q
    · have := hbig.2 q; omega
  refine ⟨F.enc (d.m * 2 ^ (d.e - u).toNat) u, ?_, hs, ?_⟩
  · unfold Fm.enc; omega
  · rw [val_enc F d.n hk0 hk1 (by omega) hku hs]
    have := mkD_oddp (n := d.n) (e := d.e) ho (d.e - u).toNat
    rw [show d.e - ((d.e - u).toNat : Int) = u by omega] at this
    exact this
theorem fits_val (F : Fm) {w : Nat} (hf : F.fin w) (h0 : (F.val w).m ≠ 0) : F.fits (F.val w) := by
  have hF := fm_facts F
  have hwd : F.low + F.fr + F.most - 1 = F.wide := by cases F <;> decide
  have hy : F.fc w < 2 ^ F.fr := Nat.mod_lt _ (Nat.two_pow_pos _)
  unfold Fm.fin at hf
  unfold Fm.val at h0 ⊢
  by_cases hx : F.ex w = 0
  · rw [if_pos hx] at h0 ⊢
    have hk : F.fc w ≠ 0 := by intro hc; rw [hc] at h0; exact h0 rfl
    have hb := blen_le.2 hy
    exact mkD_fits hk (by rw [Nat.pow_succ]; omega) (Int.le_refl _) (by omega)
  · rw [if_neg hx] at h0 ⊢
    have hk : 2 ^ F.fr + F.fc w ≠ 0 := by have := Nat.two_pow_pos F.fr; omega
    have hb : blen (2 ^ F.fr + F.fc w) ≤ F.fr + 1 := blen_le.2 (by rw [Nat.pow_succ]; omega)
    exact mkD_fits hk (by rw [Nat.pow_succ]; omega) (by omega) (by omega)
theorem sterbenz (F : Fm) {x y : Dy} (fx : x.m ≠ 0 → F.fits x) (fy : y.m ≠ 0 → F.fits y) (hn : x.n = y.n) (h1 : cmpD (absD x) (shD (absD y) 1) ≤ 0) (h2 : cmpD (absD y) (shD (absD x) 1) ≤ 0) (h0 : (subD x y).m ≠ 0) : F.fits (subD x y) := by
  obtain ⟨L, hL⟩ : ∃ L : Int, L = min x.e y.e := ⟨_, rfl⟩
  have lx : LoE x L := Or.inr (by omega)
  have ly : LoE y L := Or.inr (by omega)
  have sh : ∀ (d : Dy) (h : LoE d L), iv (shD (absD d) 1) L = 2 * ((d.m * 2 ^ (d.e - L).toNat : Nat) : Int) ∧ LoE (shD (absD d) 1) L := fun d h => by
    unfold shD absD
    by_cases q : d.m = 0
    · simp only [q, if_true]; exact ⟨by simp [iv], Or.inl rfl⟩
    · simp only [q, if_false]
      have hl := h.resolve_left q
      refine ⟨?_, Or.inr (by simp only; omega)⟩
      unfold iv
      simp only [Bool.false_eq_true, if_false, Int.one_mul]
      rw [show (d.e + 1 - L).toNat = (d.e - L).toNat + 1 by omega, Nat.pow_succ, ← Nat.mul_assoc]; omega
  have la : ∀ (d : Dy) (h : LoE d L), LoE (absD d) L := fun d h => h
  rw [cmp_iv (la x lx) (sh y ly).2, iv_abs, (sh y ly).1] at h1
  rw [cmp_iv (la y ly) (sh x lx).2, iv_abs, (sh x lx).1] at h2
  have hs := iv_add lx (LoE_neg ly)
  rw [iv_neg] at hs
  rw [show addD x (negD y) = subD x y from rfl] at hs
  obtain ⟨hs1, hs2⟩ := hs
  have hle := hs2.resolve_left h0
  unfold iv at hs1
  rw [hn] at hs1
  generalize hD : (subD x y).m * 2 ^ ((subD x y).e - L).toNat = D at *
  generalize hX : x.m * 2 ^ (x.e - L).toNat = X at *
  generalize hY : y.m * 2 ^ (y.e - L).toNat = Y at *
  have g1 : (X : Int) ≤ 2 * Y := by
    unfold sgI at h1; split at h1
    · omega
    · split at h1 <;> omega
  have g2 : (Y : Int) ≤ 2 * X := by
    unfold sgI at h2; split at h2
    · omega
    · split at h2 <;> omega
  have dX : D ≤ X ∧ D ≤ Y := by
    generalize (subD x y).n = p at *
    generalize y.n = q at *
    cases p <;> cases q <;> simp only [Bool.false_eq_true, if_false, if_true] at hs1 <;> omega
  have Dp : 0 < D := by rw [← hD]; exact Nat.mul_pos (Nat.pos_of_ne_zero h0) (Nat.two_pow_pos _)
  have x0 : x.m ≠ 0 := by intro hc; rw [hc, Nat.zero_mul] at hX; omega
  have y0 : y.m ≠ 0 := by intro hc; rw [hc, Nat.zero_mul] at hY; omega
  obtain ⟨_, x1, x2, x3⟩ := fx x0
  obtain ⟨_, y1, y2, y3⟩ := fy y0
  have bD := blen_mul h0 ((subD x y).e - L).toNat
  have bX := blen_mul x0 (x.e - L).toNat
  have bY := blen_mul y0 (y.e - L).toNat
  rw [hD] at bD
  rw [hX] at bX
  rw [hY] at bY
  have m1 := blen_mono dX.1
  have m2 := blen_mono dX.2
  exact ⟨h0, by omega, by omega, by omega⟩
theorem subW_fin (F : Fm) (md : Int) {a b : Nat} (fa : F.fin a) (fb : F.fin b) :
    (F.cls a = 1 ∧ F.cls b = 1 ∧ subW F md a b = (F.sgn (F.ng a), 0)) ∨ subW F md a b = sumW F md (subD (F.vl a) (F.vl b)) := by
  have ra := fin_iff.1 fa
  have rb := fin_iff.1 fb
  unfold subW addP
  rw [if_neg (show ¬ (F.cls a = 5 ∨ F.cls b = 5) by omega), if_neg (show ¬ (F.cls a = 4 ∧ F.cls b = 4 ∧ F.ng a ≠ !F.ng b) from fun h => by have := h.1; omega), if_neg (show ¬ F.cls a = 4 by omega), if_neg (show ¬ F.cls b = 4 by omega)]
  by_cases h : F.cls a = 1 ∧ F.cls b = 1 ∧ F.ng a = !F.ng b
  · left; rw [if_pos h]; exact ⟨h.1, h.2.1, rfl⟩
  · right; rw [if_neg h]; rfl
theorem sum_fit (F : Fm) {md : Int} {d : Dy} (hz : Nz d) (hf : d.m ≠ 0 → F.fits d) : ∃ w : Nat, sumW F md d = (w, 0) ∧ w < 2 * F.sg ∧ F.fin w ∧ F.val w = d := by
  have hi := fm_i0 F
  unfold sumW
  by_cases h0 : d.m = 0
  · rw [if_pos h0]
    refine ⟨F.sgn (decide (md = 5)), rfl, ?_, ?_, ?_⟩
    · unfold Fm.sgn; split <;> omega
    · have := fin_size (F := F) (s := 0) (decide (md = 5)) hi.2.1
      rwa [Nat.zero_add] at this
    · have := val_zero F (decide (md = 5))
      rw [Nat.zero_add] at this
      rw [this, hz.1 h0]
  · rw [if_neg h0]
    obtain ⟨s, s0, s1, s2⟩ := fit_word F (hf h0) (hz.2 h0)
    have hr := (round_val F md d.n s1 s0).1
    rw [s2] at hr
    refine ⟨s + F.sgn d.n, hr, ?_, fin_size d.n s1, s2⟩
    unfold Fm.sgn; split <;> omega
theorem near (F : Fm) {md : Int} {a b : Nat} (ha : a < 2 * F.sg) (hb : b < 2 * F.sg) (fa : F.fin a) (fb : F.fin b) (hn : (F.vl a).n = (F.vl b).n) (h1 : cmpD (absD (F.vl a)) (shD (absD (F.vl b)) 1) ≤ 0) (h2 : cmpD (absD (F.vl b)) (shD (absD (F.vl a)) 1) ≤ 0) :
    ∃ w : Nat, subW F md a b = (w, 0) ∧ w < 2 * F.sg ∧ F.fin w ∧ F.val w = subD (F.vl a) (F.vl b) := by
  have hi := fm_i0 F
  rcases subW_fin F md fa fb with ⟨k1, k2, h⟩ | h
  · rw [h]
    refine ⟨F.sgn (F.ng a), rfl, ?_, ?_, ?_⟩
    · unfold Fm.sgn; split <;> omega
    · have := fin_size (F := F) (s := 0) (F.ng a) hi.2.1
      rwa [Nat.zero_add] at this
    · have := val_zero F (F.ng a)
      rw [Nat.zero_add] at this
      rw [this, vl_val fa, vl_val fb, (cls_zero_w ha k1).2, (cls_zero_w hb k2).2]; rfl
  · rw [h]
    refine sum_fit F (Nz_add (Nz_vl F a) (Nz_neg (Nz_vl F b))) (sterbenz F ?_ ?_ hn h1 h2)
    · intro q; rw [vl_val fa] at q ⊢; exact fits_val F fa q
    · intro q; rw [vl_val fb] at q ⊢; exact fits_val F fb q
def P2 (k : Nat) : Int := ((2 ^ k : Nat) : Int)
theorem P2_pos (k : Nat) : 0 < P2 k := by unfold P2; have := Nat.two_pow_pos k; omega
theorem P2_dvd {i k : Nat} (h : i ≤ k) : P2 i ∣ P2 k := by
  unfold P2; exact Int.natCast_dvd_natCast.2 (Nat.pow_dvd_pow 2 h)
def bl (n : Int) : Nat := blen n.natAbs
theorem bl_le {n : Int} {k : Nat} : bl n ≤ k ↔ (n < P2 k ∧ -n < P2 k) := by
  unfold bl P2; rw [blen_le]; omega
theorem bl_ge {n : Int} (h : n ≠ 0) : P2 (bl n - 1) ≤ n ∨ P2 (bl n - 1) ≤ -n := by
  unfold bl P2; have := pow_blen_le (n := n.natAbs) (by omega); omega
theorem bl_neg (n : Int) : bl (-n) = bl n := by unfold bl; rw [Int.natAbs_neg]
theorem dvd_small {k : Nat} {x : Int} (h : P2 k ∣ x) (h1 : x < P2 k) (h2 : -x < P2 k) : x = 0 := by
  obtain ⟨q, rfl⟩ := h
  have hp := P2_pos k
  rcases Int.lt_trichotomy q 0 with hq | hq | hq
  · have := Int.mul_le_mul_of_nonneg_left (show q ≤ -1 by omega) (Int.le_of_lt hp); omega
  · rw [hq, Int.mul_zero]
  · have := Int.mul_le_mul_of_nonneg_left (show 1 ≤ q by omega) (Int.le_of_lt hp); omega
def Rep (p : Nat) (n : Int) : Prop := P2 (bl n - p) ∣ n
def Rn (p : Nat) (n r : Int) : Prop := Rep p r ∧ P2 (bl n - p) ∣ r ∧ 2 * (r - n) ≤ P2 (bl n - p) ∧ 2 * (n - r) ≤ P2 (bl n - p)
theorem Rep.neg {p : Nat} {n : Int} (h : Rep p n) : Rep p (-n) := by
  unfold Rep at h ⊢; rw [bl_neg]; exact Int.dvd_neg.2 h
theorem Rn.neg {p : Nat} {n r : Int} (h : Rn p n r) : Rn p (-n) (-r) := by
  obtain ⟨h0, h1, h2, h3⟩ := h
  unfold Rn; rw [bl_neg]
  exact ⟨h0.neg, Int.dvd_neg.2 h1, by omega, by omega⟩
theorem Rn.exact {p : Nat} {n r : Int} (h : Rn p n r) {i : Nat} (hi : P2 i ∣ n) (hk : bl n - p ≤ i) : r = n := by
  obtain ⟨_, h1, h2, h3⟩ := h
  have hp := P2_pos (bl n - p)
  have := dvd_small (Int.dvd_sub h1 (Int.dvd_trans (P2_dvd hk) hi)) (by omega) (by omega)
  omega
theorem Rn.near {p : Nat} (hp : 1 ≤ p) {n r c : Int} (h : Rn p n r) (hc : Rep p c) : r - n ≤ (c - n).natAbs ∧ n - r ≤ (c - n).natAbs := by
  have key : ∀ c, P2 (bl n - p) ∣ c → r - n ≤ (c - n).natAbs ∧ n - r ≤ (c - n).natAbs := fun c hc => by
    obtain ⟨_, h1, h2, h3⟩ := h
    by_cases q : r = c
    · subst q; omega
    · have hd := Int.dvd_sub h1 hc
      have hs : ¬ (r - c < P2 (bl n - p) ∧ -(r - c) < P2 (bl n - p)) := fun q1 => q (by have := dvd_small hd q1.1 q1.2; omega)
      omega
  by_cases q : bl n - p ≤ bl c - p
  · exact key c (Int.dvd_trans (P2_dvd q) hc)
  · have hb : bl c ≤ bl n - 1 := by omega
    have hn0 : n ≠ 0 := by rintro rfl; have : bl 0 = 0 := rfl; omega
    have hc1 := bl_le.1 hb
    have hd : P2 (bl n - p) ∣ P2 (bl n - 1) := P2_dvd (by omega)
    have k1 := key _ hd
    have k2 := key _ (Int.dvd_neg.2 hd)
    have hpp := P2_pos (bl n - 1)
    rcases bl_ge hn0 with h4 | h4 <;> omega
theorem iv_cases (d : Dy) (L : Int) : (iv d L = ((d.m * 2 ^ (d.e - L).toNat : Nat) : Int) ∧ d.n = false) ∨ (iv d L = -((d.m * 2 ^ (d.e - L).toNat : Nat) : Int) ∧ d.n = true) := by
  unfold iv; cases d.n <;> simp
def Fm.X (F : Fm) (w : Nat) : Int := iv (F.vl w) F.low
theorem LoE_vl {F : Fm} {w : Nat} (hf : F.fin w) : LoE (F.vl w) F.low := by
  by_cases h : (F.vl w).m = 0
  · exact Or.inl h
  · right; rw [vl_val hf] at h ⊢; exact (fits_val F hf h).2.2.1
theorem sgn_fin (F : Fm) (n : Bool) : F.sgn n < 2 * F.sg ∧ F.fin (F.sgn n) ∧ F.vl (F.sgn n) = ⟨false, 0, 0⟩ := by
  have hi := fm_i0 F
  have h := fin_size (F := F) (s := 0) n hi.2.1
  have h2 := val_zero F n
  rw [Nat.zero_add] at h h2
  exact ⟨by unfold Fm.sgn; split <;> omega, h, by rw [vl_val h, h2]⟩
theorem cls_val1 {F : Fm} {w : Nat} (hw : w < 2 * F.sg) (hf : F.fin w) : F.cls w = 1 ↔ (F.vl w).m = 0 := by
  rw [vl_val hf]
  constructor
  · intro h; rw [(cls_zero_w hw h).2]
  · intro h
    have h1 := fun q => val_cls hw q hf
    exact Decidable.byContradiction fun q => h1 q h
theorem mulD_m {a b : Dy} (ha : Nz a) (hb : Nz b) (h1 : a.m ≠ 0) (h2 : b.m ≠ 0) : mulD a b = ⟨a.n != b.n, a.m * b.m, a.e + b.e⟩ := by
  unfold mulD; exact mkD_odd (odd_mul (ha.2 h1) (hb.2 h2))
theorem iv_mul {a b : Dy} {K L : Int} (ha : LoE a K) (hb : LoE b L) : iv (mulD a b) (K + L) = iv a K * iv b L ∧ LoE (mulD a b) (K + L) := by
  by_cases h1 : a.m = 0
  · have : mulD a b = ⟨false, 0, 0⟩ := mulD_z0 (Or.inl h1)
    rw [this, iv_zero rfl, iv_zero h1, Int.zero_mul]; exact ⟨rfl, Or.inl rfl⟩
  · by_cases h2 : b.m = 0
    · have : mulD a b = ⟨false, 0, 0⟩ := mulD_z0 (Or.inr h2)
      rw [this, iv_zero rfl, iv_zero h2, Int.mul_zero]; exact ⟨rfl, Or.inl rfl⟩
    · have la := ha.resolve_left h1
      have lb := hb.resolve_left h2
      refine ⟨?_, LoE_mk (by omega)⟩
      unfold mulD
      rw [iv_mk (by omega), show (a.e + b.e - (K + L)).toNat = (a.e - K).toNat + (b.e - L).toNat by omega, Nat.pow_add]
      unfold iv
      have e : a.m * b.m * (2 ^ (a.e - K).toNat * 2 ^ (b.e - L).toNat) = (a.m * 2 ^ (a.e - K).toNat) * (b.m * 2 ^ (b.e - L).toNat) := by
        simp only [Nat.mul_assoc, Nat.mul_left_comm, Nat.mul_comm]
      rw [e, Int.natCast_mul]
      generalize ((a.m * 2 ^ (a.e - K).toNat : Nat) : Int) = x
      generalize ((b.m * 2 ^ (b.e - L).toNat : Nat) : Int) = y
      cases a.n <;> cases b.n <;> simp [Int.neg_mul, Int.mul_neg]
theorem quo_core (F : Fm) {md : Int} {a b : Dy} (h0 : a.m ≠ 0) (h1 : b.m ≠ 0) (hf : (quoW F md a b).2 = 0 ∨ (quoW F md a b).2 = 16) :
    ∃ (K N kk : Nat) (u : Int), F.fin (quoW F md a b).1 ∧ (quoW F md a b).1 < 2 * F.sg ∧ F.val (quoW F md a b).1 = mkD (a.n != b.n) K u ∧ u + b.e = a.e - N + kk ∧ ((quoW F md a b).2 = 16 → u ≤ (a.e + blen a.m) - (b.e + blen b.m) + 1 - F.fr) ∧
      (a.m * 2 ^ N ≤ K * b.m * 2 ^ kk + b.m * 2 ^ kk) ∧ K * b.m * 2 ^ kk ≤ a.m * 2 ^ N + b.m * 2 ^ kk ∧ ((quoW F md a b).2 = 0 → a.m * 2 ^ N = K * b.m * 2 ^ kk) := by
  have hF := fm_facts F
  have hi := fm_i0 F
  have hqb := quo_blen (k := 64) h0 h1
  unfold quoW at hf ⊢
  obtain ⟨N, hN⟩ : ∃ N, N = quoN 64 a.m b.m := ⟨_, rfl⟩
  rw [← hN] at hf hqb ⊢
  have hdm := Nat.div_add_mod (a.m * 2 ^ N) b.m
  have hml := Nat.mod_lt (a.m * 2 ^ N) (Nat.pos_of_ne_zero h1)
  have hbA : blen (a.m * 2 ^ N) = blen a.m + N := blen_mul h0 N
  obtain ⟨A, hA⟩ : ∃ A, A = a.m * 2 ^ N := ⟨_, rfl⟩
  rw [← hA] at hdm hml hbA hqb hf ⊢
  obtain ⟨Q, hQ⟩ : ∃ Q, Q = A / b.m := ⟨_, rfl⟩
  rw [← hQ] at hdm hqb hf ⊢
  have hQb : blen Q + blen b.m ≤ blen A + 1 := by
    have q0 : Q ≠ 0 := by rintro rfl; rw [blen_zero] at hqb; omega
    have e1 := pow_blen_le q0
    have e2 := pow_blen_le h1
    have e3 := Nat.mul_le_mul e2 e1
    rw [← Nat.pow_add] at e3
    have e4 := lt_pow_blen A
    have e5 : blen b.m - 1 + (blen Q - 1) < blen A := by
      refine (Nat.pow_lt_pow_iff_right (a := 2) (by decide)).1 (Nat.lt_of_le_of_lt e3 (Nat.lt_of_le_of_lt ?_ e4))
      omega
    have := blen_pos h1
    omega
  obtain ⟨E, hE⟩ : ∃ E : Int, E = a.e - b.e - (N : Nat) := ⟨_, rfl⟩
  rw [← hE] at hf ⊢
  unfold sW at hf ⊢
  obtain ⟨u, hu⟩ : ∃ u, u = F.eOf (E + blen Q) := ⟨_, rfl⟩
  have hue : u = max (E + blen Q - F.fr - 1) F.low := hu
  rw [← hu] at hf ⊢
  obtain ⟨kk, hkk⟩ : ∃ kk, kk = (u - E).toNat := ⟨_, rfl⟩
  rw [← hkk] at hf ⊢
  have k0 : 0 < kk := by omega
  -- the count of units
  obtain ⟨lost, hlost⟩ : ∃ l, l = !decide (A % b.m = 0) := ⟨_, rfl⟩
  rw [← hlost] at hf ⊢
  obtain ⟨up, hup⟩ : ∃ up : Bool, (rdN md (a.n != b.n) Q lost kk).1 = Q / 2 ^ kk + up.toNat ∧ ((rdN md (a.n != b.n) Q lost kk).2 = true → up = false ∧ Q % 2 ^ kk = 0 ∧ A % b.m = 0) := by
    refine ⟨_, rfl, fun h => ?_⟩
    simp only [rdN, Bool.and_eq_true, Bool.not_eq_true'] at h
    obtain ⟨q1, _, _⟩ := half_spec Q k0
    rw [h.1, h.2]
    refine ⟨upB_ex _ _ _, ?_, ?_⟩
    · have h2 := h.2
      simp only [moreN, Bool.or_eq_false_iff, decide_eq_false_iff_not, ne_eq, Decidable.not_not] at h2
      rw [q1, h.1, h2.2]; rfl
    · have h2 := h.2
      simp only [moreN, Bool.or_eq_false_iff] at h2
      have h3 := h2.1
      rw [hlost] at h3
      simpa using h3
  have hbd : (rdN md (a.n != b.n) Q lost kk).1 ≤ 2 ^ (F.fr + 1) := by
    rw [hup.1]
    have hb1 : blen (Q / 2 ^ kk) ≤ F.fr + 1 := by rw [blen_div]; omega
    have := blen_le.1 hb1
    cases up <;> simp <;> omega
  have hlo2 : u = F.low ∨ 2 ^ F.fr ≤ (rdN md (a.n != b.n) Q lost kk).1 := by
    by_cases q : u = F.low
    · exact Or.inl q
    · right
      have : 2 ^ F.fr ≤ Q / 2 ^ kk := lt_blen.1 (by rw [blen_div]; omega)
      rw [hup.1]; omega
  have hfine : blen (rdN md (a.n != b.n) Q lost (blen Q - F.fr - 1)).1 ≤ F.fr + 2 := by
    have hb1 : blen (Q / 2 ^ (blen Q - F.fr - 1)) ≤ F.fr + 1 := by rw [blen_div]; omega
    have h2 := blen_le.1 hb1
    have hb : ∀ b : Bool, b.toNat ≤ 1 := fun b => by cases b <;> decide
    rw [blen_le, show F.fr + 2 = (F.fr + 1) + 1 by omega, Nat.pow_succ]
    simp only [rdN]
    have := hb (upB md (a.n != b.n) (decide (Q / 2 ^ (blen Q - F.fr - 1) % 2 = 1)) (halfN Q (blen Q - F.fr - 1)) (moreN Q lost (blen Q - F.fr - 1)))
    have h3 := Nat.two_pow_pos (F.fr + 1)
    omega
  generalize hK : (rdN md (a.n != b.n) Q lost kk).1 = K at *
  generalize (rdN md (a.n != b.n) Q lost (blen Q - F.fr - 1)).1 = fine at *
  generalize (rdN md (a.n != b.n) Q lost kk).2 = ex at *
  unfold wordOf at hf ⊢
  have hbig := enc_big F (n := K) (u := u) hbd (by omega) hlo2
  by_cases ov : F.wide < blen K + u
  · rw [if_pos ov] at hf; simp only at hf; omega
  · rw [if_neg ov] at hf ⊢
    have hs : F.enc K u < F.i0 := by
      rcases Nat.lt_or_ge (F.enc K u) F.i0 with q | q
      · exact q
      · exact absurd (hbig.2 q) ov
    obtain ⟨v1, v2, v3⟩ := iv_val (F := F) (a.n != b.n) hs
    rw [magN_enc F hbd (by omega) hlo2] at v1
    have hval : F.val (F.enc K u + F.sgn (a.n != b.n)) = mkD (a.n != b.n) K u := nz_eq v3 (Nz_mk _ _ _) v2 (LoE_mk (by omega)) (by rw [v1, iv_mk (by omega)])
    -- S
    have hS1 : Q * b.m = Q / 2 ^ kk * b.m * 2 ^ kk + Q % 2 ^ kk * b.m := by
      have e := Nat.div_add_mod Q (2 ^ kk)
      conv => lhs; rw [← e]
      rw [Nat.add_mul]
      congr 1
      rw [Nat.mul_assoc, Nat.mul_comm]
    have hS2 : Q % 2 ^ kk * b.m + A % b.m < b.m * 2 ^ kk := by
      have e := Nat.mod_lt Q (Nat.two_pow_pos kk)
      have := Nat.mul_le_mul_left b.m (show Q % 2 ^ kk + 1 ≤ 2 ^ kk from e)
      rw [Nat.mul_add, Nat.mul_one, Nat.mul_comm b.m (Q % 2 ^ kk)] at this
      omega
    have hdm' : Q * b.m + A % b.m = A := by rw [Nat.mul_comm]; exact hdm
    have hKb : K * b.m * 2 ^ kk = Q / 2 ^ kk * b.m * 2 ^ kk + up.toNat * (b.m * 2 ^ kk) := by rw [hup.1, Nat.add_mul, Nat.add_mul, Nat.mul_assoc up.toNat]
    refine ⟨K, N, kk, u, fin_size _ hs, by unfold Fm.sgn; split <;> omega, hval, by omega, ?_, ?_, ?_, ?_⟩
    · intro hf
      simp only at hf
      have : ¬ ((blen fine : Int) + (E + blen Q - F.fr - 1) < F.low + F.fr + 1) := by
        intro q; rw [if_pos q] at hf; split at hf <;> omega
      omega
    · rw [← hA, hKb]
      generalize Q / 2 ^ kk * b.m * 2 ^ kk = X at *
      generalize b.m * 2 ^ kk = Y at *
      cases up <;> simp <;> omega
    · rw [← hA, hKb]
      generalize Q / 2 ^ kk * b.m * 2 ^ kk = X at *
      generalize b.m * 2 ^ kk = Y at *
      cases up <;> simp <;> omega
    · intro h
      have hx : ex = true := by
        cases ex
        · simp only [Bool.false_eq_true, if_false] at h; split at h <;> simp at h
        · rfl
      obtain ⟨x1, x2, x3⟩ := hup.2 hx
      rw [← hA, hKb, x1, ← hdm', x3, hS1, x2]; simp
theorem sW_core (F : Fm) (md : Int) (neg : Bool) {Q : Nat} (lost : Bool) (E : Int) (hq : F.fr + 2 ≤ blen Q) :
    ∃ (K kk : Nat) (u : Int), 0 < kk ∧ u = E + kk ∧ F.low ≤ u ∧ K = Q / 2 ^ kk + (upB md neg (decide (Q / 2 ^ kk % 2 = 1)) (halfN Q kk) (moreN Q lost kk)).toNat ∧ magN F (F.enc K u) = K * 2 ^ (u - F.low).toNat ∧
      ((F.i0 ≤ F.enc K u ∧ (sW F md neg Q lost E).1 = ovr F md neg) ∨ (F.enc K u < F.i0 ∧ (sW F md neg Q lost E).1 = F.enc K u + F.sgn neg)) := by
  have hF := fm_facts F
  unfold sW
  obtain ⟨u, hu⟩ : ∃ u, u = F.eOf (E + blen Q) := ⟨_, rfl⟩
  have hue : u = max (E + blen Q - F.fr - 1) F.low := hu
  rw [← hu]
  obtain ⟨kk, hkk⟩ : ∃ kk, kk = (u - E).toNat := ⟨_, rfl⟩
  rw [← hkk]
  have k0 : 0 < kk := by omega
  have hK : (rdN md neg Q lost kk).1 = Q / 2 ^ kk + (upB md neg (decide (Q / 2 ^ kk % 2 = 1)) (halfN Q kk) (moreN Q lost kk)).toNat := rfl
  have hbt : ∀ b : Bool, b.toNat ≤ 1 := fun b => by cases b <;> decide
  have hbd : (rdN md neg Q lost kk).1 ≤ 2 ^ (F.fr + 1) := by
    rw [hK]
    have hb1 : blen (Q / 2 ^ kk) ≤ F.fr + 1 := by rw [blen_div]; omega
    have := blen_le.1 hb1
    have := hbt (upB md neg (decide (Q / 2 ^ kk % 2 = 1)) (halfN Q kk) (moreN Q lost kk))
    omega
  have hlo2 : u = F.low ∨ 2 ^ F.fr ≤ (rdN md neg Q lost kk).1 := by
    by_cases q : u = F.low
    · exact Or.inl q
    · right
      have : 2 ^ F.fr ≤ Q / 2 ^ kk := lt_blen.1 (by rw [blen_div]; omega)
      rw [hK]; omega
  have hbig := enc_big F (n := (rdN md neg Q lost kk).1) (u := u) hbd (by omega) hlo2
  refine ⟨(rdN md neg Q lost kk).1, kk, u, k0, by omega, by omega, hK, magN_enc F hbd (by omega) hlo2, ?_⟩
  unfold wordOf
  by_cases ov : F.wide < blen (rdN md neg Q lost kk).1 + u
  · left; rw [if_pos ov]; exact ⟨hbig.1 ov, rfl⟩
  · right; rw [if_neg ov]
    refine ⟨?_, rfl⟩
    rcases Nat.lt_or_ge (F.enc (rdN md neg Q lost kk).1 u) F.i0 with q | q
    · exact q
    · exact absurd (hbig.2 q) ov
theorem units {K kk : Nat} {u E low L : Int} (h1 : u = E + kk) (h2 : L ≤ E) (h3 : low ≤ u) (h4 : L ≤ low) : K * 2 ^ (u - low).toNat * 2 ^ (low - L).toNat = K * 2 ^ kk * 2 ^ (E - L).toNat := by
  rw [Nat.mul_assoc, ← Nat.pow_add, Nat.mul_assoc, ← Nat.pow_add]; congr 2; omega
theorem sq_nn (x : Int) : 0 ≤ x * x := by
  rcases Int.le_total 0 x with h | h
  · exact Int.mul_nonneg h h
  · have := Int.mul_nonneg (Int.neg_nonneg.2 h) (Int.neg_nonneg.2 h)
    rwa [Int.neg_mul_neg] at this
theorem sq_le {x y : Int} (hy : 0 ≤ y) (h : x * x ≤ y * y) : x ≤ y := by
  rcases Int.lt_or_le y x with q | q
  · have := Int.mul_lt_mul_of_pos_left q (show 0 < x by omega)
    have h2 := Int.mul_le_mul_of_nonneg_right (Int.le_of_lt q) hy
    omega
  · exact q
def NB (x y n : Int) : Prop := 0 ≤ n ∧ x * x + y * y ≤ n * n
theorem NB.mono {x y a b : Int} (h : NB x y a) (hab : a ≤ b) : NB x y b :=
  ⟨Int.le_trans h.1 hab, Int.le_trans h.2 (Int.mul_le_mul hab hab h.1 (Int.le_trans h.1 hab))⟩
theorem NB.add {x y z w a b : Int} (h : NB x y a) (k : NB z w b) : NB (x + z) (y + w) (a + b) := by
  obtain ⟨a0, h1⟩ := h
  obtain ⟨b0, k1⟩ := k
  refine ⟨by omega, ?_⟩
  have e : (x * z + y * w) * (x * z + y * w) ≤ (a * b) * (a * b) := by
    have c1 : (x * z + y * w) * (x * z + y * w) + (x * w - y * z) * (x * w - y * z) = (x * x + y * y) * (z * z + w * w) := by grind
    have c2 := sq_nn (x * w - y * z)
    have c3 := Int.mul_le_mul h1 k1 (by have := sq_nn z; have := sq_nn w; omega) (by have := sq_nn a; omega)
    have c4 : a * a * (b * b) = (a * b) * (a * b) := by grind
    omega
  have f := sq_le (Int.mul_nonneg a0 b0) e
  have g : (x + z) * (x + z) + (y + w) * (y + w) = (x * x + y * y) + (z * z + w * w) + 2 * (x * z + y * w) := by grind
  have g2 : (a + b) * (a + b) = a * a + b * b + 2 * (a * b) := by grind
  omega
theorem NB.mul {x y z w a b : Int} (h : NB x y a) (k : NB z w b) : NB (x * z - y * w) (x * w + y * z) (a * b) := by
  obtain ⟨a0, h1⟩ := h
  obtain ⟨b0, k1⟩ := k
  refine ⟨Int.mul_nonneg a0 b0, ?_⟩
  have c1 : (x * z - y * w) * (x * z - y * w) + (x * w + y * z) * (x * w + y * z) = (x * x + y * y) * (z * z + w * w) := by grind
  have c3 := Int.mul_le_mul h1 k1 (by have := sq_nn z; have := sq_nn w; omega) (by have := sq_nn a; omega)
  have c4 : a * a * (b * b) = (a * b) * (a * b) := by grind
  omega
theorem NB.parts {x y x' y' a : Int} (h : NB x' y' a) (hx : x.natAbs ≤ x'.natAbs) (hy : y.natAbs ≤ y'.natAbs) : NB x y a := by
  refine ⟨h.1, Int.le_trans ?_ h.2⟩
  have s : ∀ u v : Int, u.natAbs ≤ v.natAbs → u * u ≤ v * v := fun u v q => by
    have := Nat.mul_le_mul q q
    rw [← Int.natAbs_mul_self, ← Int.natAbs_mul_self (a := v)]
    exact Int.ofNat_le.2 this
  have := s x x' hx
  have := s y y' hy
  omega
theorem sumW_lt (F : Fm) {m : Int} (hm : 1 ≤ m ∧ m ≤ 5) (d : Dy) : (sumW F m d).1 < 2 * F.sg := by
  have hi := fm_i0 F
  unfold sumW; split
  · unfold Fm.sgn; simp only; split <;> omega
  · obtain ⟨s, n, e, h1, _⟩ := rndW_key F hm.1 hm.2 d
    rw [e]; exact word_lt n h1
theorem iv_sq (F : Fm) {a b : Nat} {L : Int} (la : LoE (F.vl a) L) (lb : LoE (F.vl b) L) : iv (sqD F a b) (2 * L) = iv (F.vl a) L * iv (F.vl a) L + iv (F.vl b) L * iv (F.vl b) L := by
  obtain ⟨p1, p2⟩ := iv_mul la la
  obtain ⟨q1, q2⟩ := iv_mul lb lb
  unfold sqD
  rw [show 2 * L = L + L by omega, (iv_add p2 q2).1, p1, q1]
def tm (F : Fm) (a b : Nat) (minus : Bool) : Dy × Bool := (if minus then negD (mulD (F.vl a) (F.vl b)) else mulD (F.vl a) (F.vl b), (F.ng a != F.ng b) != minus)
def zsg (md : Int) (x y : Dy × Bool) : Bool := if x.1.m = 0 ∧ y.1.m = 0 ∧ x.2 = y.2 then x.2 else decide (md = 5)
def ptQ (F : Fm) (md : Int) (d : Dy) (n : Bool) (by' : Dy) : Nat × Nat := if d.m = 0 then (F.sgn n, 0) else quoW F md d by'
theorem Bd_prod (F : Fm) (a b : Nat) : Bd (mulD (F.vl a) (F.vl b)) 2400 := by
  have hF := fm_facts F
  by_cases h1 : (F.vl a).m = 0
  · rw [mulD_z0 (Or.inl h1)]; exact ⟨by simp only [blen_zero]; omega, by simp, by simp⟩
  · by_cases h2 : (F.vl b).m = 0
    · rw [mulD_z0 (Or.inr h2)]; exact ⟨by simp only [blen_zero]; omega, by simp, by simp⟩
    · have fa : F.fin a := by
        by_cases h : F.fin a
        · exact h
        · exfalso; apply h1; unfold Fm.vl; rw [if_neg h]
      have fb : F.fin b := by
        by_cases h : F.fin b
        · exact h
        · exfalso; apply h2; unfold Fm.vl; rw [if_neg h]
      have e1 := fits_val F fa (by rw [← vl_val fa]; exact h1)
      have e2 := fits_val F fb (by rw [← vl_val fb]; exact h2)
      rw [← vl_val fa] at e1
      rw [← vl_val fb] at e2
      obtain ⟨_, a1, a2, a3⟩ := e1
      obtain ⟨_, b1, b2, b3⟩ := e2
      have hb := blen_mulT a1 b1
      rw [mulD_m (Nz_vl F a) (Nz_vl F b) h1 h2]
      exact ⟨by simp only; omega, by simp only; omega, by simp only; omega⟩
theorem Bd_tm (F : Fm) (a b : Nat) (s : Bool) : Bd (tm F a b s).1 2400 ∧ Nz (tm F a b s).1 := by
  unfold tm; cases s
  · exact ⟨Bd_prod F a b, Nz_mul _ _⟩
  · exact ⟨(Bd_prod F a b).neg, Nz_neg (Nz_mul _ _)⟩
def oneD : Dy := ⟨false, 1, 0⟩
def Fm.one (F : Fm) : Nat := F.most / 2 * 2 ^ F.fr
theorem sgn_facts (F : Fm) (n : Bool) : F.sgn n < 2 * F.sg ∧ F.ng (F.sgn n) = n ∧ F.cls (F.sgn n) = 1 ∧ F.vl (F.sgn n) = ⟨false, 0, 0⟩ := by
  have hi := fm_i0 F
  obtain ⟨g1, g2, g3⟩ := sgn_fin F n
  have h2 := (sgn_mod (F := F) (s := 0) n (by omega)).2
  rw [Nat.zero_add] at h2
  exact ⟨g1, h2, by rw [cls_val1 g1 g2, g3], g3⟩
theorem inf_lt (F : Fm) (n : Bool) : F.inf n < 2 * F.sg := by cases F <;> cases n <;> decide
theorem zcl_fin2 (F : Fm) {a b : Nat} : (F.fin a ∧ F.fin b) ↔ zcl (F.cls a) (F.cls b) ≤ 2 := by
  have ra := cls_range F a
  have rb := cls_range F b
  rw [fin_iff, fin_iff]
  unfold zcl
  by_cases h1 : F.cls a = 4 ∨ F.cls b = 4
  · rw [if_pos h1]; omega
  · rw [if_neg h1]
    by_cases h2 : F.cls a = 5 ∨ F.cls b = 5
    · rw [if_pos h2]; omega
    · rw [if_neg h2]; split <;> omega
end Go.Cv
namespace Go.Cv
variable {G : Nat → Option (List AV)} {T : Tbl} {g : Nat}
section
variable (a1 a2 a3 a4 b1 b2 b3 b4 c1 c2 c3 c4 : AV) (k : IntKind) (h : Mem) (l : List AV)
end
end Go.Cv
namespace Go.Cv
variable {G : Nat → Option (List AV)} {T : Tbl} {g : Nat}
def tw (F : Fm) (md : Int) (x y : Dy × Bool) (b : Dy) : Nat × Nat := ptQ F md (addD x.1 y.1) (zsg md x y) b
def mulR (F : Fm) (md : Int) (a b c d : Nat) : (Nat × Nat) × (Nat × Nat) := (tw F md (tm F a c false) (tm F b d true) oneD, tw F md (tm F a d false) (tm F b c false) oneD)
def divR (F : Fm) (md : Int) (a b c d : Nat) : (Nat × Nat) × (Nat × Nat) := (tw F md (tm F a c false) (tm F b d false) (sqD F c d), tw F md (tm F b c false) (tm F a d true) (sqD F c d))
theorem sq_m0 (F : Fm) {c d : Nat} (hc : c < 2 * F.sg) (hd : d < 2 * F.sg) (h : zcl (F.cls c) (F.cls d) = 2) : (sqD F c d).m ≠ 0 := by
  have hf := zcl_fin2 F (a := c) (b := d)
  obtain ⟨fc, fd⟩ := hf.2 (by omega)
  intro h0
  obtain ⟨L, l1, l2⟩ : ∃ L : Int, LoE (F.vl c) L ∧ LoE (F.vl d) L := ⟨F.low, LoE_vl fc, LoE_vl fd⟩
  have e := iv_sq F l1 l2
  rw [iv_zero h0] at e
  have n1 := sq_nn (iv (F.vl c) L)
  have n2 := sq_nn (iv (F.vl d) L)
  have z : ∀ {w : Nat}, w < 2 * F.sg → F.fin w → LoE (F.vl w) L → iv (F.vl w) L * iv (F.vl w) L = 0 → F.cls w = 1 := fun {w} hw fw lw q => by
    have q0 : iv (F.vl w) L = 0 := by rcases Int.mul_eq_zero.1 q with q | q <;> exact q
    have := nz_eq (Nz_vl F w) (b := ⟨false, 0, 0⟩) ⟨fun _ => rfl, fun h => absurd rfl h⟩ lw (Or.inl rfl) (by rw [q0, iv_zero rfl])
    exact (cls_val1 hw fw).2 (by rw [this])
  have c1 := z hc fc l1 (by omega)
  have c2 := z hd fd l2 (by omega)
  unfold zcl at h
  rw [c1, c2] at h
  simp at h
end Go.Cv
namespace Go.Cv
variable {G : Nat → Option (List AV)} {T : Tbl} {g : Nat}
section
variable (a b c d e f : AV) (k : IntKind)
end
end Go.Cv
namespace Go.Cv
variable {G : Nat → Option (List AV)} {T : Tbl} {g : Nat}
theorem nan_lt (F : Fm) : F.nan < 2 * F.sg := by cases F <;> decide
def pl (F : Fm) (w : Nat) : Int := if F.ng w then -((w % F.sg : Nat) : Int) else ((w % F.sg : Nat) : Int)
theorem w_mod (F : Fm) {w : Nat} (hw : w < 2 * F.sg) (h5 : F.cls w ≠ 5) : w % F.sg ≤ F.i0 ∧ (F.fin w ↔ w % F.sg < F.i0) := by
  obtain ⟨h1, h2, h3, h4⟩ := w_split hw
  have hp := Nat.two_pow_pos F.fr
  have e1 : F.i0 = 2 ^ F.fr * F.most := Nat.mul_comm ..
  have hlt : F.ex w < F.most → 2 ^ F.fr * F.ex w + F.fc w < 2 ^ F.fr * F.most := fun h => by
    have := Nat.mul_le_mul_left (2 ^ F.fr) (show F.ex w + 1 ≤ F.most from h)
    rw [Nat.mul_add] at this; omega
  unfold Fm.fin
  rw [h2, e1]
  by_cases h : F.ex w < F.most
  · exact ⟨Nat.le_of_lt (hlt h), fun _ => hlt h, fun _ => h⟩
  · have he : F.ex w = F.most := by omega
    have hm0 : F.most ≠ 0 := by cases F <;> decide
    have hf : F.fc w = 0 := by
      by_cases q : F.fc w = 0
      · exact q
      · exfalso; apply h5; unfold Fm.cls; rw [if_neg (by omega), if_neg h, if_neg q]
    rw [he, hf]
    exact ⟨Nat.le_refl _, fun q => absurd q (Nat.lt_irrefl _), fun q => absurd q (Nat.lt_irrefl _)⟩
theorem pl_eq (F : Fm) {w : Nat} (hw : w < 2 * F.sg) : w = w % F.sg + F.sgn (F.ng w) := (w_split hw).1
def Near (F : Fm) (a b : Nat) : Prop := a = b ∨ (F.cls a = 1 ∧ F.cls b = 1)
theorem iv_eq0 {d : Dy} {L : Int} (hz : Nz d) (hl : LoE d L) (h : iv d L = 0) : d.m = 0 := by
  have := nz_eq hz (b := ⟨false, 0, 0⟩) ⟨fun _ => rfl, fun h => absurd rfl h⟩ hl (Or.inl rfl) (by rw [h, iv_zero rfl])
  rw [this]
theorem quo_exact (F : Fm) (md : Int) {X d b : Dy} (nX : Nz X) (nd : Nz d) (nb : Nz b) (d0 : d.m ≠ 0) (b0 : b.m ≠ 0) {K L : Int} (lX : LoE X (K + L)) (ld : LoE d K) (lb : LoE b L) (h : iv X (K + L) = iv d K * iv b L) : quoW F md X b = rndW F md d := by
  obtain ⟨m1, m2⟩ := iv_mul ld lb
  have e : X = mulD d b := nz_eq nX (Nz_mul d b) lX m2 (by rw [h, m1])
  rw [e]
  obtain ⟨n, m, x⟩ := d
  obtain ⟨n', m', x'⟩ := b
  exact quo_prod F md (nd.2 d0) (nb.2 b0)
theorem vl_round (F : Fm) (md : Int) {w : Nat} (hw : w < 2 * F.sg) (hf : F.fin w) (h0 : (F.vl w).m ≠ 0) : rndW F md (F.vl w) = (w, 0) := by
  have h5 : F.cls w ≠ 5 := by have := fin_iff.1 hf; omega
  have h1 := (w_mod F hw h5).2.1 hf
  have e := pl_eq F hw
  have n0 : w % F.sg ≠ 0 := fun q => by
    rw [q, Nat.zero_add] at e
    apply h0
    rw [e, (sgn_facts F _).2.2.2]
  have := (round_val F md (F.ng w) h1 n0).1
  rw [← e] at this
  rw [vl_val hf]; exact this
theorem mulD_one {d : Dy} (h : Nz d) : mulD d oneD = d := by
  by_cases h0 : d.m = 0
  · rw [mulD_z0 (Or.inl h0), h.1 h0]
  · unfold mulD oneD
    obtain ⟨n, m, e⟩ := d
    simp only [Bool.bne_false, Nat.mul_one, Int.add_zero]
    exact mkD_odd (h.2 h0)
theorem quo_flag0 (F : Fm) {md : Int} {a b : Dy} (na : Nz a) (h0 : a.m ≠ 0) (h1 : b.m ≠ 0) (hf : (quoW F md a b).2 = 0) : F.fin (quoW F md a b).1 ∧ (quoW F md a b).1 < 2 * F.sg ∧ a = mulD (F.vl (quoW F md a b).1) b := by
  obtain ⟨K, N, kk, u, f1, f2, f3, f4, _, _, _, f5⟩ := quo_core F h0 h1 (Or.inl hf)
  have f5 := f5 hf
  refine ⟨f1, f2, ?_⟩
  rw [vl_val f1, f3]
  have lb : LoE b b.e := Or.inr (Int.le_refl _)
  have lv : LoE (mkD (a.n != b.n) K u) (u - kk) := LoE_mk (by omega)
  obtain ⟨m1, m2⟩ := iv_mul lv lb
  have la : LoE a (u - kk + b.e) := Or.inr (by omega)
  refine nz_eq na (Nz_mul _ _) la m2 ?_
  rw [m1, iv_mk (by omega)]
  unfold iv
  rw [show (a.e - (u - kk + b.e)).toNat = N by omega, show (u - (u - (kk : Int))).toNat = kk by omega, show (b.e - b.e).toNat = 0 by omega, Nat.pow_zero, Nat.mul_one, f5]
  have e : K * b.m * 2 ^ kk = K * 2 ^ kk * b.m := by rw [Nat.mul_right_comm]
  rw [e, Int.natCast_mul (K * 2 ^ kk)]
  generalize ((K * 2 ^ kk : Nat) : Int) = x
  generalize (b.m : Int) = y
  cases a.n <;> cases b.n <;> simp [Int.neg_mul, Int.mul_neg]
theorem tm_iv (F : Fm) {a b : Nat} {L : Int} (la : LoE (F.vl a) L) (lb : LoE (F.vl b) L) (s : Bool) : LoE (tm F a b s).1 (L + L) ∧ iv (tm F a b s).1 (L + L) = if s then -(iv (F.vl a) L * iv (F.vl b) L) else iv (F.vl a) L * iv (F.vl b) L := by
  obtain ⟨m1, m2⟩ := iv_mul la lb
  unfold tm
  cases s
  · exact ⟨m2, m1⟩
  · exact ⟨LoE_neg m2, by simp only [if_true]; rw [iv_neg, m1]⟩
theorem pt_flag0 (F : Fm) {md : Int} (hm : 1 ≤ md ∧ md ≤ 5) {X : Dy} {s : Bool} (nX : Nz X) (h : (ptQ F md X s oneD).2 = 0) : F.fin (ptQ F md X s oneD).1 ∧ F.vl (ptQ F md X s oneD).1 = X := by
  unfold ptQ at h ⊢
  by_cases h0 : X.m = 0
  · simp only [if_pos h0]
    obtain ⟨_, _, q3, q4⟩ := sgn_facts F s
    exact ⟨fin_iff.2 (Or.inl q3), by rw [q4, nX.1 h0]⟩
  · rw [if_neg h0] at h
    simp only [if_neg h0]
    obtain ⟨f1, _, f3⟩ := quo_flag0 F nX h0 (show oneD.m ≠ 0 by decide) h
    exact ⟨f1, by rw [mulD_one (Nz_vl F _)] at f3; exact f3.symm⟩
theorem pt_exact (F : Fm) {md : Int} (hm : 1 ≤ md ∧ md ≤ 5) {w : Nat} (hw : w < 2 * F.sg) (hf : F.fin w) {X b : Dy} (nX : Nz X) (nb : Nz b) (hb : b.m ≠ 0) {K L : Int} (lX : LoE X (K + L)) (ld : LoE (F.vl w) K) (lb : LoE b L) (h : iv X (K + L) = iv (F.vl w) K * iv b L) (s : Bool) : (ptQ F md X s b).2 = 0 ∧ Near F (ptQ F md X s b).1 w := by
  unfold ptQ
  by_cases h0 : (F.vl w).m = 0
  · have hX : X.m = 0 := iv_eq0 nX lX (by rw [h, iv_zero h0, Int.zero_mul])
    simp only [if_pos hX]
    exact ⟨trivial, Or.inr ⟨(sgn_facts F s).2.2.1, (cls_val1 hw hf).2 h0⟩⟩
  · have hX : X.m ≠ 0 := fun q => by
      rw [iv_zero q] at h
      rcases Int.mul_eq_zero.1 h.symm with k | k
      · exact h0 (iv_eq0 (Nz_vl F w) ld k)
      · exact hb (iv_eq0 nb lb k)
    simp only [if_neg hX]
    rw [quo_exact F md nX (Nz_vl F w) nb h0 hb lX ld lb h, vl_round F md hw hf h0]
    exact ⟨rfl, Or.inl rfl⟩
theorem back (F : Fm) {md : Int} (hm : 1 ≤ md ∧ md ≤ 5) {a b c d : Nat} (ha : a < 2 * F.sg) (hb : b < 2 * F.sg) (hc : c < 2 * F.sg) (hd : d < 2 * F.sg) (fa : F.fin a) (fb : F.fin b) (hz : zcl (F.cls c) (F.cls d) = 2) (e1 : (mulR F md a b c d).1.2 = 0) (e2 : (mulR F md a b c d).2.2 = 0) :
    (F.fin (mulR F md a b c d).1.1 ∧ F.fin (mulR F md a b c d).2.1) ∧
    ((divR F md (mulR F md a b c d).1.1 (mulR F md a b c d).2.1 c d).1.2 = 0 ∧ Near F (divR F md (mulR F md a b c d).1.1 (mulR F md a b c d).2.1 c d).1.1 a) ∧
    ((divR F md (mulR F md a b c d).1.1 (mulR F md a b c d).2.1 c d).2.2 = 0 ∧ Near F (divR F md (mulR F md a b c d).1.1 (mulR F md a b c d).2.1 c d).2.1 b) := by
  obtain ⟨fc, fd⟩ := (zcl_fin2 F (a := c) (b := d)).2 (by omega)
  have hq := sq_m0 F hc hd hz
  obtain ⟨p1, v1⟩ := pt_flag0 F hm (Nz_add (Bd_tm F a c false).2 (Bd_tm F b d true).2) e1
  obtain ⟨p2, v2⟩ := pt_flag0 F hm (Nz_add (Bd_tm F a d false).2 (Bd_tm F b c false).2) e2
  have la := LoE_vl fa
  have lb := LoE_vl fb
  have lc := LoE_vl fc
  have ld := LoE_vl fd
  generalize F.low = L at *
  obtain ⟨x1, y1⟩ := tm_iv F la lc false
  obtain ⟨x2, y2⟩ := tm_iv F lb ld true
  obtain ⟨x3, y3⟩ := tm_iv F la ld false
  obtain ⟨x4, y4⟩ := tm_iv F lb lc false
  obtain ⟨i1, l1⟩ := iv_add x1 x2
  obtain ⟨i2, l2⟩ := iv_add x3 x4
  rw [y1, y2] at i1
  rw [y3, y4] at i2
  simp only [Bool.false_eq_true, if_false, if_true] at i1 i2
  have sq := iv_sq F lc ld
  have lsq : LoE (sqD F c d) (L + L) := (iv_add (iv_mul lc lc).2 (iv_mul ld ld).2).2
  rw [show 2 * L = L + L by omega] at sq
  have P : ∀ {p w : Nat} {X : Dy} {s : Bool}, F.vl p = X → LoE X (L + L) → LoE (F.vl w) L → LoE (tm F p w s).1 (L + (L + L)) ∧ iv (tm F p w s).1 (L + (L + L)) = if s then -(iv X (L + L) * iv (F.vl w) L) else iv X (L + L) * iv (F.vl w) L := fun {p w X s} hp lX lw => by
    obtain ⟨m1, m2⟩ := iv_mul lX lw
    rw [show L + L + L = L + (L + L) by omega] at m1 m2
    unfold tm
    rw [hp]
    cases s
    · exact ⟨m2, m1⟩
    · exact ⟨LoE_neg m2, by simp only [if_true]; rw [iv_neg, m1]⟩
  refine ⟨⟨p1, p2⟩, ?_, ?_⟩
  · obtain ⟨q1, r1⟩ := P (s := false) v1 l1 lc
    obtain ⟨q2, r2⟩ := P (s := false) v2 l2 ld
    obtain ⟨i3, l3⟩ := iv_add q1 q2
    refine pt_exact F hm ha fa (Nz_add (Bd_tm F _ _ _).2 (Bd_tm F _ _ _).2) (Nz_sq F c d) hq l3 la lsq ?_ _
    rw [i3, r1, r2, i1, i2, sq]
    simp only [Bool.false_eq_true, if_false]
    generalize iv (F.vl a) L = x
    generalize iv (F.vl b) L = y
    generalize iv (F.vl c) L = z
    generalize iv (F.vl d) L = w
    grind
  · obtain ⟨q1, r1⟩ := P (s := false) v2 l2 lc
    obtain ⟨q2, r2⟩ := P (s := true) v1 l1 ld
    obtain ⟨i3, l3⟩ := iv_add q1 q2
    refine pt_exact F hm hb fb (Nz_add (Bd_tm F _ _ _).2 (Bd_tm F _ _ _).2) (Nz_sq F c d) hq l3 lb lsq ?_ _
    rw [i3, r1, r2, i1, i2, sq]
    simp only [Bool.false_eq_true, if_false, if_true]
    generalize iv (F.vl a) L = x
    generalize iv (F.vl b) L = y
    generalize iv (F.vl c) L = z
    generalize iv (F.vl d) L = w
    grind
end Go.Cv
namespace Go.Cv
variable {G : Nat → Option (List AV)} {T : Tbl} {g : Nat}
section
variable (b : Nat) (k : IntKind)
end
end Go.Cv
namespace Go.Cv
theorem addW_lt (F : Fm) {md : Int} (hm : 1 ≤ md ∧ md ≤ 5) {a b : Nat} : (addW F md a b).1 < 2 * F.sg := by
  unfold addW addP
  repeat' split
  · exact nan_lt F
  · exact nan_lt F
  · exact inf_lt F _
  · exact inf_lt F _
  · exact (sgn_facts F _).1
  · exact sumW_lt F hm _
theorem mulW_lt (F : Fm) {md : Int} (hm : 1 ≤ md ∧ md ≤ 5) {a b : Nat} : (mulW2 F md a b).1 < 2 * F.sg := by
  unfold mulW2 mulP
  repeat' split
  · exact nan_lt F
  · exact nan_lt F
  · exact inf_lt F _
  · exact (sgn_facts F _).1
  · exact sumW_lt F hm _
theorem rndW_lt (F : Fm) {md : Int} (hm : 1 ≤ md ∧ md ≤ 5) (d : Dy) : (rndW F md d).1 < 2 * F.sg := by
  have z0 : (0 : Nat) < 2 * F.sg := by cases F <;> decide
  by_cases h : d.m = 0
  · unfold rndW; rw [if_pos h]; exact z0
  · have := sumW_lt F hm d
    unfold sumW at this; rw [if_neg h] at this; exact this
end Go.Cv
namespace Go.Cv
end Go.Cv
namespace Go.Cv
end Go.Cv
namespace Go.Cv
variable {G : Nat → Option (List AV)} {T : Tbl} {g : Nat}
end Go.Cv
namespace Go.Cv
variable {G : Nat → Option (List AV)} {T : Tbl} {g : Nat}
section
variable {α : Type} (bs L : List α) (v : α)
end
end Go.Cv
namespace Go.Cv
variable {G : Nat → Option (List AV)} {T : Tbl} {g : Nat}
end Go.Cv
namespace Go.Cv
variable {G : Nat → Option (List AV)} {T : Tbl} {g : Nat}
section
variable (x y z : AV) (k : IntKind)
end
end Go.Cv
namespace Go.Cv
variable {G : Nat → Option (List AV)} {T : Tbl} {g : Nat}
def Tb (d : Dy) (W E : Nat) : Prop := d.m ≠ 0 → (-(E : Int) ≤ d.e ∧ d.e + blen d.m ≤ W)
theorem Tb.mono {d : Dy} {W E W' E' : Nat} (h : Tb d W E) (h1 : W ≤ W') (h2 : E ≤ E') : Tb d W' E' := fun h0 => by have := h h0; omega
theorem isq_eq {X r : Nat} (h1 : r * r ≤ X) (h2 : X < (r + 1) * (r + 1)) : isq X = r := by
  obtain ⟨k1, k2⟩ := isq_spec X
  have a : isq X < r + 1 := Nat.lt_of_not_le fun h => absurd (Nat.le_trans (Nat.mul_le_mul h h) k1) (by omega)
  have b : r < isq X + 1 := Nat.lt_of_not_le fun h => absurd (Nat.le_trans (Nat.mul_le_mul h h) h1) (by omega)
  omega
def fk : Fm → FloatKind
  | .s => .f32
  | .d => .f64
theorem ie_f (F : Fm) : (fk F).format.fractionBits = F.fr ∧ (fk F).format.leastPlace = F.low ∧ (fk F).format.binade = 2 ^ F.fr ∧ (fk F).format.infRung = F.i0 ∧ (fk F).format.signWeight = F.sg := by cases F <;> decide
theorem word_ie (F : Fm) (n : Bool) (r : Nat) : (fk F).format.word n r = r + F.sgn n := by
  unfold Ieee.Format.word Fm.sgn
  rw [(ie_f F).2.2.2.2]
  cases n <;> simp <;> omega
def flW (F : Fm) (r : Nat) : AV := if F.cls r = 5 then .nan (fk F) else .fl (fk F) r
theorem cut_even (neg : Bool) (n : Nat) {k : Nat} (hk : 0 < k) : Ieee.Toward.even.cut neg n k = (rdN 1 neg n false k).1 := by
  obtain ⟨i, rfl⟩ : ∃ i, k = i + 1 := ⟨k - 1, by omega⟩
  unfold Ieee.Toward.cut rdN
  simp only [Nat.one_shiftLeft]
  have hlt : n < 2 ^ (n.log2 + 1) := Nat.lt_log2_self
  by_cases hc : i + 1 ≤ n.log2 + 2
  · rw [Nat.min_eq_left hc]
    congr 1
    have hp := Nat.two_pow_pos i
    have e1 : n % 2 ^ (i + 1) = n % 2 ^ i + 2 ^ i * (n / 2 ^ i % 2) := by rw [Nat.pow_succ, Nat.mod_mul]
    have e2 : 2 ^ (i + 1) = 2 ^ i * 2 := Nat.pow_succ ..
    have h2 : n / 2 ^ i % 2 < 2 := Nat.mod_lt _ (by decide)
    have h3 : n % 2 ^ i < 2 ^ i := Nat.mod_lt _ hp
    unfold upB halfN moreN
    rw [if_pos rfl, Nat.add_sub_cancel, e1, e2]
    congr 1
    generalize n / (2 ^ i * 2) = q
    generalize n / 2 ^ i % 2 = h at *
    generalize n % 2 ^ i = r at *
    generalize 2 ^ i = p at *
    rcases (show h = 0 ∨ h = 1 by omega) with rfl | rfl
    · have g1 : ¬ p * 2 < 2 * (r + p * 0) := by omega
      have g2 : ¬ p * 2 = 2 * (r + p * 0) := by omega
      simp [g1, g2]
      omega
    · by_cases hr : r = 0
      · subst hr
        have g1 : ¬ p * 2 < 2 * (0 + p * 1) := by omega
        have g2 : p * 2 = 2 * (0 + p * 1) := by omega
        have g3 : 2 * p = p * 2 := by omega
        have g4 : ¬ p * 2 < 2 * p := by omega
        by_cases hq : q % 2 = 1 <;> simp [hq, g3]
      · have g1 : p * 2 < 2 * (r + p * 1) := by omega
        have g3 : p * 2 < 2 * (r + p) := by omega
        simp [g3, hr]
  · rw [Nat.min_eq_right (by omega)]
    have e1 : 2 ^ (n.log2 + 2) = 2 ^ (n.log2 + 1) * 2 := Nat.pow_succ ..
    have hb : n < 2 ^ i := Nat.lt_of_lt_of_le hlt (Nat.pow_le_pow_right (by decide) (by omega))
    have hb2 : n < 2 ^ (i + 1) := Nat.lt_trans hb (Nat.pow_lt_pow_right (by decide) (by omega))
    rw [Nat.div_eq_of_lt (show n < 2 ^ (n.log2 + 2) by omega), Nat.mod_eq_of_lt (show n < 2 ^ (n.log2 + 2) by omega), Nat.div_eq_of_lt hb2]
    unfold upB halfN
    rw [if_pos rfl, Nat.add_sub_cancel, Nat.div_eq_of_lt hb]
    have g1 : ¬ 2 ^ (n.log2 + 2) < 2 * n := by omega
    have g2 : ¬ 2 ^ (n.log2 + 2) = 2 * n := by omega
    simp [g1, g2]
theorem near_ie (F : Fm) (neg : Bool) {m : Nat} (h0 : m ≠ 0) (e : Int) : (fk F).format.nearest neg m e = (rndW F 1 (mkD neg m e)).1 := by
  obtain ⟨f1, f2, f3, f4, f5⟩ := ie_f F
  have hd : (mkD neg m e).m ≠ 0 := fun q => by
    have := mkD_val (n := neg) h0 (Int.le_refl e)
    rw [q, Nat.zero_mul] at this
    have := Nat.mul_pos (Nat.pos_of_ne_zero h0) (Nat.two_pow_pos (e - e).toNat)
    omega
  have hn : (mkD neg m e).n = neg := mkD_n h0 e
  have htop : (mkD neg m e).e + (blen (mkD neg m e).m : Int) = e + blen m := by
    rw [mkD_pos h0]
    simp only
    have h1 := (tz_spec h0).1
    have h2 : m / 2 ^ tz m ≠ 0 := fun q => by rw [q, Nat.zero_mul] at h1; exact h0 h1
    have h3 := blen_mul h2 (tz m)
    rw [← h1] at h3
    omega
  unfold Ieee.Format.nearest
  rw [if_neg h0, f1, f2, f3, f4, word_ie]
  have hlast : max (e + (m.log2 : Int) - (F.fr : Int)) F.low = F.eOf (e + blen m) := by
    unfold Fm.eOf blen
    rw [if_neg h0]
    congr 1
    push_cast
    omega
  rw [hlast, rndW_S F 1 hd, hn, rndS_enc F hd, hn, htop]
  have hr : rnd 1 neg (mkD neg m e).m (mkD neg m e).e (F.eOf (e + blen m)) = rnd 1 neg m e (F.eOf (e + blen m)) := by
    have hle : e ≤ (mkD neg m e).e := by rw [mkD_pos h0]; simp only; omega
    rw [rnd_L 1 neg (mkD neg m e).m (L := min e (F.eOf (e + blen m) - 1)) (by omega) (by omega), rnd_L 1 neg m (L := min e (F.eOf (e + blen m) - 1)) (by omega) (by omega), mkD_val h0 (by omega)]
  rw [hr]
  have hk : Ieee.Toward.even.cut neg (m <<< (e - F.eOf (e + blen m)).toNat) (F.eOf (e + blen m) - e).toNat = (rnd 1 neg m e (F.eOf (e + blen m))).1 := by
    generalize F.eOf (e + blen m) = u
    unfold rnd
    by_cases hu : u ≤ e
    · rw [if_pos hu, show (u - e).toNat = 0 by omega, Nat.shiftLeft_eq]
      unfold Ieee.Toward.cut
      simp [Nat.mod_one]
    · rw [if_neg hu, show (e - u).toNat = 0 by omega, Nat.shiftLeft_zero]
      exact cut_even neg m (by omega)
  rw [hk]
  have ho : ovs F 1 neg = F.i0 := by unfold ovs; simp
  rw [ho]
  unfold Fm.enc
  split
  · rw [Nat.min_eq_right (by assumption)]
  · rw [Nat.min_eq_left (by omega)]
theorem not5 (F : Fm) {s : Nat} (n : Bool) (h : s ≤ F.i0) : F.cls (s + F.sgn n) ≠ 5 := by
  have hi := fm_i0 F
  have hm := (sgn_mod (F := F) (s := s) n (by omega)).1
  have h2 : F.i0 = F.most * 2 ^ F.fr := rfl
  have hp := Nat.two_pow_pos F.fr
  unfold Fm.cls Fm.ex Fm.fc
  rw [hm]
  intro hc
  by_cases h0 : s / 2 ^ F.fr = 0
  · rw [if_pos h0] at hc
    split at hc <;> revert hc <;> decide
  · rw [if_neg h0] at hc
    by_cases h1 : s / 2 ^ F.fr < F.most
    · rw [if_pos h1] at hc; exact absurd hc (by decide)
    · rw [if_neg h1] at hc
      have e := Nat.div_add_mod s (2 ^ F.fr)
      have h3 : F.most * 2 ^ F.fr ≤ s / 2 ^ F.fr * 2 ^ F.fr := Nat.mul_le_mul_right _ (by omega)
      rw [Nat.mul_comm (2 ^ F.fr)] at e
      have h4 : s % 2 ^ F.fr = 0 := by omega
      rw [if_pos h4] at hc; exact absurd hc (by decide)
theorem rnd5 (F : Fm) {m : Int} (m1 : 1 ≤ m) (m2 : m ≤ 5) (d : Dy) : F.cls (rndW F m d).1 ≠ 5 := by
  obtain ⟨s, n, h1, h2, _⟩ := rndW_key F m1 m2 d
  rw [h1]; exact not5 F n h2
theorem sum5 (F : Fm) {m : Int} (m1 : 1 ≤ m) (m2 : m ≤ 5) (d : Dy) : F.cls (sumW F m d).1 ≠ 5 := by
  unfold sumW
  split
  · rw [(sgn_facts F _).2.2.1]; decide
  · exact rnd5 F m1 m2 d
theorem nan5 (F : Fm) : F.cls F.nan = 5 := by cases F <;> decide
theorem flW_nan (F : Fm) : flW F F.nan = .nan (fk F) := by unfold flW; rw [if_pos (nan5 F)]
theorem flW_of {F : Fm} {r : Nat} (h : F.cls r ≠ 5) : flW F r = .fl (fk F) r := if_neg h
theorem sg_ng (F : Fm) {w : Nat} (hw : w < 2 * F.sg) : (w / (fk F).format.signWeight % 2 == 1) = F.ng w := by
  rw [(ie_f F).2.2.2.2]
  have hi := fm_i0 F
  unfold Fm.ng
  by_cases h : F.sg ≤ w
  · have : w / F.sg = 1 := Nat.div_eq_of_lt_le (by omega) (by omega)
    rw [this, decide_eq_true h]; rfl
  · rw [Nat.div_eq_of_lt (by omega), decide_eq_false h]; rfl
theorem read_fin (F : Fm) {w : Nat} (hw : w < 2 * F.sg) (hf : F.fin w) : ∃ m p, (fk F).format.read w = .number (F.ng w) m p ∧ F.vl w = mkD (F.ng w) m p := by
  obtain ⟨f1, f2, f3, f4, f5⟩ := ie_f F
  have hp := Nat.two_pow_pos F.fr
  have h2 : F.i0 = F.most * 2 ^ F.fr := rfl
  have hi := (w_mod F hw (by have := fin_iff.1 hf; omega)).2.1 hf
  have hs := sg_ng F hw
  unfold Ieee.Format.read
  simp only [hs]
  rw [f5, f3, f4, f2]
  rw [vl_val hf]
  unfold Fm.val Fm.ex Fm.fc
  by_cases h0 : w % F.sg < 2 ^ F.fr
  · rw [if_pos h0, if_pos (Nat.div_eq_of_lt h0), Nat.mod_eq_of_lt h0]
    exact ⟨_, _, rfl, rfl⟩
  · have h1 : 1 ≤ w % F.sg / 2 ^ F.fr := (Nat.le_div_iff_mul_le hp).2 (by omega)
    rw [if_neg h0, if_pos hi, if_neg (by omega)]
    refine ⟨_, _, rfl, ?_⟩
    congr 1
    omega
theorem read_inf (F : Fm) {w : Nat} (hw : w < 2 * F.sg) (h : F.cls w = 4) : (fk F).format.read w = .infinity (F.ng w) := by
  obtain ⟨f1, f2, f3, f4, f5⟩ := ie_f F
  have hi := fm_i0 F
  have hs := sg_ng F hw
  have hp := Nat.two_pow_pos F.fr
  have he := cls_inf_w hw h
  have hm : w % F.sg = F.i0 := by
    have h0 : ∀ b, F.inf b = F.i0 + F.sgn b := by intro b; cases F <;> cases b <;> decide
    have := h0 (F.ng w)
    have h2 := (sgn_mod (F := F) (s := F.i0) (F.ng w) (by omega)).1
    rw [← this, ← he] at h2
    exact h2
  have hb : 2 ^ F.fr ≤ F.i0 := by cases F <;> decide
  unfold Ieee.Format.read
  simp only [hs]
  rw [f5, f3, f4, hm, if_neg (by omega), if_neg (by omega), if_pos rfl]
theorem read_nan5 (F : Fm) {w : Nat} (hw : w < 2 * F.sg) (h : F.cls w = 5) : ∃ n t, (fk F).format.read w = .nan n t := by
  obtain ⟨f1, f2, f3, f4, f5⟩ := ie_f F
  have hi := fm_i0 F
  have hp := Nat.two_pow_pos F.fr
  have hb : 2 ^ F.fr ≤ F.i0 := by cases F <;> decide
  have h2 : F.i0 = F.most * 2 ^ F.fr := rfl
  have hm : F.i0 < w % F.sg := by
    rcases Nat.lt_or_ge F.i0 (w % F.sg) with q | q
    · exact q
    · have := not5 F (F.ng w) q
      rw [← pl_eq F hw] at this
      exact absurd h this
  unfold Ieee.Format.read
  simp only
  rw [f5, f3, f4, if_neg (by omega), if_neg (by omega), if_neg (by omega)]
  exact ⟨_, _, rfl⟩
theorem cls3 (F : Fm) (w : Nat) : F.cls w = 5 ∨ F.cls w = 4 ∨ F.fin w := by
  have := cls_range F w
  rw [fin_iff]; omega
theorem write_num (F : Fm) (n : Bool) (m : Nat) (e : Int) : (fk F).format.write (.number n m e) = if m = 0 then F.sgn n else (rndW F 1 (mkD n m e)).1 := by
  show (fk F).format.nearest n m e = _
  by_cases h : m = 0
  · rw [if_pos h, h]
    unfold Ieee.Format.nearest
    rw [if_pos rfl, word_ie, Nat.zero_add]
  · rw [if_neg h]; exact near_ie F n h e
theorem write_inf (F : Fm) (n : Bool) : (fk F).format.write (.infinity n) = F.inf n := by
  show (fk F).format.word n (fk F).format.infRung = _
  rw [word_ie, (ie_f F).2.2.2.1]
  cases F <;> cases n <;> decide
theorem signed_iv (n : Bool) (m : Nat) (e L : Int) (h : L ≤ e) : Ieee.signed n m (e - L).toNat = iv (mkD n m e) L := by
  rw [iv_mk h]
  unfold Ieee.signed
  rw [Nat.shiftLeft_eq]
  cases n <;> simp
theorem inf5 (F : Fm) (n : Bool) : F.cls (F.inf n) ≠ 5 := by rw [cls_inf]; decide
theorem sgn5 (F : Fm) (n : Bool) : F.cls (F.sgn n) ≠ 5 := by rw [(sgn_facts F n).2.2.1]; decide
theorem sum_num (F : Fm) (s t : Bool) (m n : Nat) (i j : Int) : ∃ q, (Ieee.Datum.sum (.number s m i) (.number t n j)).map (fk F).format.write = some q ∧
    ((iv (mkD s m i) (min i j) + iv (mkD t n j) (min i j) = 0 ∧ q = F.sgn (s && t)) ∨ (iv (mkD s m i) (min i j) + iv (mkD t n j) (min i j) ≠ 0 ∧ q = (rndW F 1 (addD (mkD s m i) (mkD t n j))).1)) := by
  have e1 := signed_iv s m i (min i j) (by omega)
  have e2 := signed_iv t n j (min i j) (by omega)
  refine ⟨_, rfl, ?_⟩
  rw [write_num, e1, e2]
  obtain ⟨a1, a2⟩ := iv_add (a := mkD s m i) (b := mkD t n j) (L := min i j) (LoE_mk (by omega)) (LoE_mk (by omega))
  generalize iv (mkD s m i) (min i j) = x at *
  generalize iv (mkD t n j) (min i j) = y at *
  by_cases h0 : x + y = 0
  · left
    rw [h0]
    simp
  · right
    refine ⟨h0, ?_⟩
    rw [if_neg (by omega), if_neg h0]
    congr 2
    refine nz_eq (L := min i j) (Nz_mk _ _ _) (Nz_add (Nz_mk _ _ _) (Nz_mk _ _ _)) (LoE_mk (Int.le_refl _)) a2 ?_
    rw [iv_mk (Int.le_refl _), a1, Int.sub_self, show ((0 : Int)).toNat = 0 from rfl, Nat.pow_zero, Nat.mul_one]
    by_cases hx : x + y < 0
    · rw [decide_eq_true hx]; simp; omega
    · rw [decide_eq_false hx]; simp; omega
theorem fin_45 {F : Fm} {w : Nat} (h : F.fin w) : F.cls w ≠ 5 ∧ F.cls w ≠ 4 := by have := fin_iff.1 h; omega
theorem mk_m0 {n : Bool} {m : Nat} {e : Int} : (mkD n m e).m = 0 ↔ m = 0 := by
  by_cases h : m = 0
  · subst h; rw [mkD_zero]
  · constructor
    · intro q
      have := mkD_val (n := n) h (Int.le_refl e)
      rw [q, Nat.zero_mul] at this
      have := Nat.mul_pos (Nat.pos_of_ne_zero h) (Nat.two_pow_pos (e - e).toNat)
      omega
    · intro q; exact absurd q h
theorem sum_dat (F : Fm) {a b : Nat} (ha : a < 2 * F.sg) (hb : b < 2 * F.sg) (t : Bool) (db : Dy) (D : Ieee.Datum)
    (hD : (F.cls b = 5 ∧ ∃ n f, D = .nan n f) ∨ (F.cls b = 4 ∧ D = .infinity t) ∨ (F.fin b ∧ ∃ n j, D = .number t n j ∧ db = mkD t n j ∧ (F.cls b = 1 ↔ n = 0))) :
    flR (fk F) ((((fk F).format.read a).sum D).map (fk F).format.write) = flW F (addP F 1 (F.cls a) (F.ng a) (F.vl a) (F.cls b) t db).1 := by
  unfold addP
  rcases cls3 F a with ca | ca | ca
  · obtain ⟨n, f, e⟩ := read_nan5 F ha ca
    rw [e, if_pos (Or.inl ca), flW_nan]; rfl
  · rw [read_inf F ha ca]
    rcases hD with ⟨cb, n, f, rfl⟩ | ⟨cb, rfl⟩ | ⟨cb, n, j, rfl, _⟩
    · rw [if_pos (Or.inr cb), flW_nan]; rfl
    · rw [if_neg (by omega)]
      by_cases h : F.ng a = t
      · rw [if_neg (fun q => q.2.2 h), if_pos ca, flW_of (inf5 F _), h]
        simp [Ieee.Datum.sum, write_inf, flR]
      · rw [if_pos ⟨ca, cb, h⟩, flW_nan]
        simp [Ieee.Datum.sum, h, flR]
    · have := fin_45 cb
      rw [if_neg (by omega), if_neg (fun q => this.2 q.2.1), if_pos ca, flW_of (inf5 F _)]
      simp [Ieee.Datum.sum, write_inf, flR]
  · obtain ⟨m, i, e, ev⟩ := read_fin F ha ca
    have fa := fin_45 ca
    rw [e]
    rcases hD with ⟨cb, n, f, rfl⟩ | ⟨cb, rfl⟩ | ⟨cb, n, j, rfl, rfl, z2⟩
    · rw [if_pos (Or.inr cb), flW_nan]; rfl
    · rw [if_neg (by omega), if_neg (fun q => fa.2 q.1), if_neg fa.2, if_pos cb, flW_of (inf5 F _)]
      simp [Ieee.Datum.sum, write_inf, flR]
    · have fb := fin_45 cb
      rw [if_neg (by omega), if_neg (fun q => fa.2 q.1), if_neg fa.2, if_neg fb.2]
      obtain ⟨q, hq, hc⟩ := sum_num F (F.ng a) t m n i j
      rw [hq, ev]
      have la : LoE (mkD (F.ng a) m i) (min i j) := LoE_mk (by omega)
      have lb : LoE (mkD t n j) (min i j) := LoE_mk (by omega)
      obtain ⟨a1, a2⟩ := iv_add la lb
      have z1 : (F.cls a = 1) ↔ m = 0 := by rw [cls_val1 ha ca, ev, mk_m0]
      have x0 : m = 0 → iv (mkD (F.ng a) m i) (min i j) = 0 := fun q => iv_zero (mk_m0.2 q) _
      have y0 : n = 0 → iv (mkD t n j) (min i j) = 0 := fun q => iv_zero (mk_m0.2 q) _
      have nz : ∀ {d : Dy} {L : Int}, d.m ≠ 0 → iv d L ≠ 0 := fun {d L} h q => by
        have hp := Nat.mul_pos (Nat.pos_of_ne_zero h) (Nat.two_pow_pos (d.e - L).toNat)
        rcases iv_cases d L with ⟨r, _⟩ | ⟨r, _⟩ <;> rw [r] at q <;> omega
      have sx : F.ng a = true → iv (mkD (F.ng a) m i) (min i j) ≤ 0 := fun q => by
        rw [iv_mk (by omega), q]; simp only [if_true, Int.neg_mul, Int.one_mul]; omega
      have sy : t = true → iv (mkD t n j) (min i j) ≤ 0 := fun q => by
        rw [iv_mk (by omega), q]; simp only [if_true, Int.neg_mul, Int.one_mul]; omega
      by_cases hz : F.cls a = 1 ∧ F.cls b = 1 ∧ F.ng a = t
      · rw [if_pos hz, flW_of (sgn5 F _)]
        rcases hc with ⟨_, hq'⟩ | ⟨h1, _⟩
        · rw [hq', hz.2.2]; simp [flR]
        · exact absurd (by rw [x0 (z1.1 hz.1), y0 (z2.1 hz.2.1)]; rfl) h1
      · rw [if_neg hz, flW_of (sum5 F (by decide) (by decide) _)]
        unfold sumW
        rcases hc with ⟨h0, hq'⟩ | ⟨h1, hq'⟩
        · have hm : (addD (mkD (F.ng a) m i) (mkD t n j)).m = 0 := Classical.byContradiction fun q => nz q (by rw [a1]; exact h0)
          rw [if_pos hm, hq']
          have : (F.ng a && t) = false := by
            cases hs : F.ng a with
            | false => rfl
            | true =>
              cases ht : t with
              | false => rfl
              | true =>
                exfalso
                have h1 := sx hs
                have h2 := sy ht
                have hx : m = 0 := Classical.byContradiction fun q => nz (fun r => q (mk_m0.1 r)) (show iv (mkD (F.ng a) m i) (min i j) = 0 by omega)
                have hy : n = 0 := Classical.byContradiction fun q => nz (fun r => q (mk_m0.1 r)) (show iv (mkD t n j) (min i j) = 0 by omega)
                exact hz ⟨z1.2 hx, z2.2 hy, by rw [hs, ht]⟩
          rw [this]
          simp [flR]
        · have hm : (addD (mkD (F.ng a) m i) (mkD t n j)).m ≠ 0 := fun q => h1 (by rw [← a1, iv_zero q])
          rw [if_neg hm, hq']
          simp [flR]
theorem dat_of (F : Fm) {b : Nat} (hb : b < 2 * F.sg) : (F.cls b = 5 ∧ ∃ n f, (fk F).format.read b = .nan n f) ∨ (F.cls b = 4 ∧ (fk F).format.read b = .infinity (F.ng b)) ∨ (F.fin b ∧ ∃ n j, (fk F).format.read b = .number (F.ng b) n j ∧ F.vl b = mkD (F.ng b) n j ∧ (F.cls b = 1 ↔ n = 0)) := by
  rcases cls3 F b with c | c | c
  · exact .inl ⟨c, read_nan5 F hb c⟩
  · exact .inr (.inl ⟨c, read_inf F hb c⟩)
  · obtain ⟨n, j, e, ev⟩ := read_fin F hb c
    exact .inr (.inr ⟨c, n, j, e, ev, by rw [cls_val1 hb c, ev, mk_m0]⟩)
theorem add_ie (F : Fm) {a b : Nat} (ha : a < 2 * F.sg) (hb : b < 2 * F.sg) : flR (fk F) ((fk F).format.add a b) = flW F (addW F 1 a b).1 :=
  sum_dat F ha hb (F.ng b) (F.vl b) _ (dat_of F hb)
theorem neg_mk (n : Bool) (m : Nat) (e : Int) : negD (mkD n m e) = mkD (!n) m e := by
  by_cases h : m = 0
  · subst h; rw [mkD_zero, mkD_zero]; rfl
  · unfold negD
    rw [if_neg (fun r => h (mk_m0.1 r)), mkD_pos h, mkD_pos h]
theorem sub_ie (F : Fm) {a b : Nat} (ha : a < 2 * F.sg) (hb : b < 2 * F.sg) : flR (fk F) ((fk F).format.sub a b) = flW F (subW F 1 a b).1 := by
  refine sum_dat F ha hb (!F.ng b) (negD (F.vl b)) _ ?_
  rcases dat_of F hb with ⟨c, n, f, e⟩ | ⟨c, e⟩ | ⟨c, n, j, e, ev, z⟩
  · rw [e]; exact .inl ⟨c, _, _, rfl⟩
  · rw [e]; exact .inr (.inl ⟨c, rfl⟩)
  · rw [e, ev, neg_mk]; exact .inr (.inr ⟨c, n, j, rfl, rfl, z⟩)
theorem mul_ie (F : Fm) {a b : Nat} (ha : a < 2 * F.sg) (hb : b < 2 * F.sg) : flR (fk F) ((fk F).format.mul a b) = flW F (mulW2 F 1 a b).1 := by
  show flR (fk F) ((((fk F).format.read a).product ((fk F).format.read b)).map (fk F).format.write) = _
  unfold mulW2 mulP
  rcases dat_of F ha with ⟨ca, n, f, e⟩ | ⟨ca, e⟩ | ⟨ca, m, i, e, ev, z1⟩ <;> rcases dat_of F hb with ⟨cb, n', f', e'⟩ | ⟨cb, e'⟩ | ⟨cb, m', i', e', ev', z2⟩ <;> rw [e, e']
  · rw [if_pos (Or.inl ca), flW_nan]; rfl
  · rw [if_pos (Or.inl ca), flW_nan]; rfl
  · rw [if_pos (Or.inl ca), flW_nan]; rfl
  · rw [if_pos (Or.inr cb), flW_nan]; rfl
  · rw [if_neg (by omega), if_neg (by omega), if_pos (Or.inl ca), flW_of (inf5 F _)]
    simp [Ieee.Datum.product, write_inf, flR]
  · have fb := fin_45 cb
    rw [if_neg (by omega)]
    by_cases h0 : m' = 0
    · rw [if_pos ⟨Or.inl ca, Or.inr (z2.2 h0)⟩, flW_nan]
      simp [Ieee.Datum.product, h0, flR]
    · have : F.cls b ≠ 1 := fun q => h0 (z2.1 q)
      rw [if_neg (by omega), if_pos (Or.inl ca), flW_of (inf5 F _)]
      simp [Ieee.Datum.product, h0, write_inf, flR]
  · rw [if_pos (Or.inr cb), flW_nan]; rfl
  · have fa := fin_45 ca
    rw [if_neg (by omega)]
    by_cases h0 : m = 0
    · rw [if_pos ⟨Or.inr cb, Or.inl (z1.2 h0)⟩, flW_nan]
      simp [Ieee.Datum.product, h0, flR]
    · have : F.cls a ≠ 1 := fun q => h0 (z1.1 q)
      rw [if_neg (by omega), if_pos (Or.inr cb), flW_of (inf5 F _)]
      simp [Ieee.Datum.product, h0, write_inf, flR]
      cases F.ng a <;> cases F.ng b <;> rfl
  · have fa := fin_45 ca
    have fb := fin_45 cb
    rw [if_neg (by omega), if_neg (by omega), if_neg (by omega)]
    have hp : flR (fk F) ((Ieee.Datum.product (.number (F.ng a) m i) (.number (F.ng b) m' i')).map (fk F).format.write) = .fl (fk F) (if m * m' = 0 then F.sgn (F.ng a ^^ F.ng b) else (rndW F 1 (mkD (F.ng a ^^ F.ng b) (m * m') (i + i'))).1) := by
      rw [← write_num]; rfl
    rw [hp]
    have hx : (F.ng a ^^ F.ng b) = (F.ng a != F.ng b) := by cases F.ng a <;> cases F.ng b <;> rfl
    by_cases h0 : m * m' = 0
    · have hc : F.cls a = 1 ∨ F.cls b = 1 := by
        rcases Nat.mul_eq_zero.1 h0 with q | q
        · exact Or.inl (z1.2 q)
        · exact Or.inr (z2.2 q)
      rw [if_pos h0, if_pos hc, flW_of (sgn5 F _), hx]
    · have hm : m ≠ 0 := fun q => h0 (by rw [q, Nat.zero_mul])
      have hm' : m' ≠ 0 := fun q => h0 (by rw [q, Nat.mul_zero])
      have hc : ¬ (F.cls a = 1 ∨ F.cls b = 1) := fun q => q.elim (fun r => hm (z1.1 r)) (fun r => hm' (z2.1 r))
      rw [if_neg h0, if_neg hc, flW_of (sum5 F (by decide) (by decide) _), ev, ev', hx]
      have e3 : mkD (F.ng a != F.ng b) (m * m') (i + i') = mulD (mkD (F.ng a) m i) (mkD (F.ng b) m' i') := by
        obtain ⟨a1, a2⟩ := iv_mul (a := mkD (F.ng a) m i) (b := mkD (F.ng b) m' i') (K := i) (L := i') (LoE_mk (Int.le_refl _)) (LoE_mk (Int.le_refl _))
        refine nz_eq (L := i + i') (Nz_mk _ _ _) (Nz_mul _ _) (LoE_mk (Int.le_refl _)) a2 ?_
        rw [a1, iv_mk (Int.le_refl _), iv_mk (Int.le_refl _), iv_mk (Int.le_refl _), Int.sub_self, Int.sub_self, Int.sub_self, show ((0 : Int)).toNat = 0 from rfl, Nat.pow_zero, Nat.mul_one, Nat.mul_one, Nat.mul_one]
        push_cast
        generalize (m : Int) = x
        generalize (m' : Int) = y
        cases F.ng a <;> cases F.ng b <;> simp [Int.mul_neg, Int.neg_mul]
      rw [e3]
      unfold sumW
      have hm0 : (mulD (mkD (F.ng a) m i) (mkD (F.ng b) m' i')).m ≠ 0 := by rw [← e3]; exact fun r => h0 (mk_m0.1 r)
      rw [if_neg hm0]
theorem blen_log {m : Nat} (h : m ≠ 0) : blen m = m.log2 + 1 := if_neg h
theorem blen_quo {A b k : Nat} (hb : b ≠ 0) (h : blen b + k ≤ blen A) : k ≤ blen (A / b) := by
  by_cases hk : k = 0
  · omega
  have hA : A ≠ 0 := by rintro rfl; rw [blen_zero] at h; omega
  have h1 := pow_blen_le hA
  have h2 : b < 2 ^ blen b := blen_le.1 (Nat.le_refl _)
  have h3 : b * 2 ^ (k - 1) ≤ A := by
    refine Nat.le_trans (Nat.le_of_lt (Nat.mul_lt_mul_of_pos_right h2 (Nat.two_pow_pos _))) ?_
    rw [← Nat.pow_add]
    exact Nat.le_trans (Nat.pow_le_pow_right (by decide) (by omega)) h1
  have h4 : 2 ^ (k - 1) ≤ A / b := (Nat.le_div_iff_mul_le (Nat.pos_of_ne_zero hb)).2 (by rw [Nat.mul_comm]; exact h3)
  rcases Nat.lt_or_ge (blen (A / b)) k with q | q
  · have := blen_le.1 (show blen (A / b) ≤ k - 1 by omega)
    omega
  · exact q
theorem near_more (F : Fm) (neg : Bool) {Q : Nat} (s : Bool) (E : Int) (h : F.fr + 2 ≤ blen Q) : (fk F).format.nearest neg (2 * Q + s.toNat) (E - 1) = (sW F 1 neg Q s E).1 := by
  have hQ : Q ≠ 0 := by rintro rfl; rw [blen_zero] at h; omega
  have hM : 2 * Q + s.toNat ≠ 0 := by omega
  have hd : (2 * Q + s.toNat) / 2 ^ 1 = Q := by cases s <;> simp <;> omega
  have hb : blen (2 * Q + s.toNat) = blen Q + 1 := by
    have := blen_div (2 * Q + s.toNat) 1
    rw [hd] at this
    have : blen (2 * Q + s.toNat) ≠ 0 := fun q => by have := blen_pos hM; omega
    omega
  have hm : decide ((2 * Q + s.toNat) % 2 ^ 1 ≠ 0) = s := by
    cases s
    · simp
    · simp
  rw [near_ie F neg hM, rndW_mk F 1 neg (E - 1) (by omega)]
  have := sW_shift F 1 neg (Q := 2 * Q + s.toNat) (j := 1) false (E - 1) (by omega)
  rw [hd, hm, Bool.false_or, show E - 1 + ((1 : Nat) : Int) = E by omega] at this
  rw [this]
theorem sW5 (F : Fm) (neg : Bool) {Q : Nat} (s : Bool) (E : Int) (h : F.fr + 2 ≤ blen Q) : F.cls (sW F 1 neg Q s E).1 ≠ 5 := by
  have hQ : Q ≠ 0 := by rintro rfl; rw [blen_zero] at h; omega
  rw [← near_more F neg s E h, near_ie F neg (by omega)]
  exact rnd5 F (by decide) (by decide) _
theorem quo_gen (F : Fm) (neg : Bool) {am bm t u more N : Nat} (hb : bm ≠ 0) (ae be : Int) (h : F.fr + 2 ≤ blen (am * 2 ^ t * 2 ^ more / (bm * 2 ^ u))) (h2 : F.fr + 2 ≤ blen (am * 2 ^ N / bm)) :
    sW F 1 neg (am * 2 ^ t * 2 ^ more / (bm * 2 ^ u)) (!decide (am * 2 ^ t * 2 ^ more % (bm * 2 ^ u) = 0)) (ae - t - (be - u) - more) = sW F 1 neg (am * 2 ^ N / bm) (!decide (am * 2 ^ N % bm = 0)) (ae - be - N) := by
  have hu := Nat.two_pow_pos u
  have hbu : bm * 2 ^ u ≠ 0 := Nat.mul_ne_zero hb (by omega)
  have l := sW_quo F 1 neg (a := am * 2 ^ t) (b := bm * 2 ^ u) (N := more) (j := N + u) (ae - t - (be - u) - more) hbu h
  have r := sW_quo F 1 neg (a := am) (b := bm) (N := N) (j := t + more) (ae - be - N) hb h2
  have e : am * 2 ^ t * 2 ^ (more + (N + u)) = am * 2 ^ (N + (t + more)) * 2 ^ u := by
    rw [Nat.mul_assoc, ← Nat.pow_add, Nat.mul_assoc, ← Nat.pow_add]; congr 2; omega
  rw [e, Nat.mul_div_mul_right _ _ hu, Nat.mul_mod_mul_right] at l
  have e2 : decide (am * 2 ^ (N + (t + more)) % bm * 2 ^ u = 0) = decide (am * 2 ^ (N + (t + more)) % bm = 0) := by
    refine decide_eq_decide.2 ⟨fun q => ?_, fun q => by rw [q, Nat.zero_mul]⟩
    rcases Nat.mul_eq_zero.1 q with q | q
    · exact q
    · omega
  rw [e2] at l
  rw [← l, ← r]
  congr 1
  push_cast
  omega
theorem split_tz {m : Nat} (h : m ≠ 0) : m = m / 2 ^ tz m * 2 ^ tz m := (tz_spec h).1
theorem div_ie (F : Fm) {a b : Nat} (ha : a < 2 * F.sg) (hb : b < 2 * F.sg) : flR (fk F) ((fk F).format.div a b) = flW F (divW2 F 1 a b).1 := by
  show flR (fk F) ((((fk F).format.read a).quotient ((fk F).format.fractionBits + 2) ((fk F).format.read b)).map (fk F).format.write) = _
  rw [(ie_f F).1]
  unfold divW2 divP
  have hx : (F.ng a ^^ F.ng b) = (F.ng a != F.ng b) := by cases F.ng a <;> cases F.ng b <;> rfl
  rcases dat_of F ha with ⟨ca, n, f, e⟩ | ⟨ca, e⟩ | ⟨ca, m, i, e, ev, z1⟩ <;> rcases dat_of F hb with ⟨cb, n', f', e'⟩ | ⟨cb, e'⟩ | ⟨cb, m', i', e', ev', z2⟩ <;> rw [e, e']
  · rw [if_pos (Or.inl ca), flW_nan]; rfl
  · rw [if_pos (Or.inl ca), flW_nan]; rfl
  · rw [if_pos (Or.inl ca), flW_nan]; rfl
  · rw [if_pos (Or.inr cb), flW_nan]; rfl
  · rw [if_neg (by omega), if_pos ⟨by omega, Or.inr ca⟩, flW_nan]; rfl
  · have fb := fin_45 cb
    rw [if_neg (by omega), if_neg (by omega), if_pos ca, flW_of (inf5 F _), ← hx]
    simp [Ieee.Datum.quotient, write_inf, flR]
  · rw [if_pos (Or.inr cb), flW_nan]; rfl
  · have fa := fin_45 ca
    rw [if_neg (by omega), if_neg (by omega), if_neg (by omega), if_neg (by omega), if_pos (Or.inr cb), flW_of (sgn5 F _), ← hx]
    simp [Ieee.Datum.quotient, write_num, flR]
  · have fa := fin_45 ca
    have fb := fin_45 cb
    rw [if_neg (by omega)]
    by_cases h0 : m' = 0
    · by_cases h1 : m = 0
      · rw [if_pos ⟨by rw [z1.2 h1, z2.2 h0], Or.inl (z1.2 h1)⟩, flW_nan]
        simp [Ieee.Datum.quotient, h0, h1, flR]
      · have ha1 : F.cls a ≠ 1 := fun q => h1 (z1.1 q)
        rw [if_neg (by omega), if_neg fa.2, if_pos (z2.2 h0), flW_of (inf5 F _), ← hx]
        simp [Ieee.Datum.quotient, h0, h1, write_inf, flR]
    · have hb1 : F.cls b ≠ 1 := fun q => h0 (z2.1 q)
      by_cases h1 : m = 0
      · have ha1 := z1.2 h1
        rw [if_neg (by omega), if_neg fa.2, if_neg hb1, if_pos (Or.inl ha1), flW_of (sgn5 F _), ← hx]
        simp [Ieee.Datum.quotient, h0, h1, write_num, flR]
      · have ha1 : F.cls a ≠ 1 := fun q => h1 (z1.1 q)
        rw [if_neg (by omega), if_neg fa.2, if_neg hb1, if_neg (by omega)]
        have hq : flR (fk F) ((Ieee.Datum.quotient (F.fr + 2) (.number (F.ng a) m i) (.number (F.ng b) m' i')).map (fk F).format.write) =
            .fl (fk F) ((fk F).format.nearest (F.ng a ^^ F.ng b) (2 * (m <<< (F.fr + 2 + m'.log2 - m.log2) / m') + (m <<< (F.fr + 2 + m'.log2 - m.log2) % m' != 0).toNat) (i - i' - (F.fr + 2 + m'.log2 - m.log2 : Nat) - 1)) := by
          simp [Ieee.Datum.quotient, h0, flR]
          rfl
        rw [hq, hx]
        generalize hmore : F.fr + 2 + m'.log2 - m.log2 = more at *
        rw [Nat.shiftLeft_eq]
        have l1 := blen_log h1
        have l2 := blen_log h0
        have hbl : F.fr + 2 ≤ blen (m * 2 ^ more / m') := blen_quo h0 (by rw [blen_mul h1]; omega)
        have hne : ∀ x : Nat, (x != 0) = !decide (x = 0) := fun x => by cases x <;> rfl
        rw [hne, near_more F _ _ _ hbl]
        have hm : (mkD (F.ng a) m i).m ≠ 0 := fun q => h1 (mk_m0.1 q)
        have hm' : (mkD (F.ng b) m' i').m ≠ 0 := fun q => h0 (mk_m0.1 q)
        have hq2 : quoW F 1 (F.vl a) (F.vl b) = sW F 1 (F.ng a != F.ng b) (m * 2 ^ more / m') (!decide (m * 2 ^ more % m' = 0)) (i - i' - more) := by
          rw [ev, ev', mkD_pos h1, mkD_pos h0]
          unfold quoW
          simp only
          have s1 := split_tz h1
          have s2 := split_tz h0
          have hmz : m / 2 ^ tz m ≠ 0 := fun q => by rw [q, Nat.zero_mul] at s1; exact h1 s1
          have hmz' : m' / 2 ^ tz m' ≠ 0 := fun q => by rw [q, Nat.zero_mul] at s2; exact h0 s2
          have hN : F.fr + 2 ≤ blen (m / 2 ^ tz m * 2 ^ quoN 64 (m / 2 ^ tz m) (m' / 2 ^ tz m') / (m' / 2 ^ tz m')) := blen_quo hmz' (by
            rw [blen_mul hmz]
            have : quoN 64 (m / 2 ^ tz m) (m' / 2 ^ tz m') = 64 + 1 + blen (m' / 2 ^ tz m') - blen (m / 2 ^ tz m) := rfl
            have := fm_fr F
            omega)
          have g := quo_gen F (F.ng a != F.ng b) (am := m / 2 ^ tz m) (bm := m' / 2 ^ tz m') (t := tz m) (u := tz m') (more := more) (N := quoN 64 (m / 2 ^ tz m) (m' / 2 ^ tz m')) hmz' (i + tz m) (i' + tz m') (by rw [← s1, ← s2]; exact hbl) hN
          rw [← s1, ← s2] at g
          rw [← g]
          congr 1
          omega
        rw [hq2]
        rw [flW_of (sW5 F _ _ _ hbl)]
theorem root_from (n : Nat) : ∀ (k r : Nat), r * r ≤ n → n < (r + 2 ^ k) * (r + 2 ^ k) → Ieee.Datum.rootFrom n k r * Ieee.Datum.rootFrom n k r ≤ n ∧ n < (Ieee.Datum.rootFrom n k r + 1) * (Ieee.Datum.rootFrom n k r + 1)
  | 0, r, h1, h2 => by simpa [Ieee.Datum.rootFrom] using And.intro h1 h2
  | k + 1, r, h1, h2 => by
    have e : (1 : Nat) <<< k = 2 ^ k := Nat.one_shiftLeft k
    rw [Ieee.Datum.rootFrom]
    simp only [e]
    have hp : 2 ^ (k + 1) = 2 ^ k + 2 ^ k := by rw [Nat.pow_succ]; omega
    split
    · next h => exact root_from n k _ h (by rw [Nat.add_assoc, ← hp]; exact h2)
    · next h => exact root_from n k _ h1 (by omega)
theorem root_whole (n : Nat) : Ieee.Datum.rootFrom n (n.log2 / 2 + 1) 0 = isq n := by
  have hlt : n < 2 ^ (n.log2 + 1) := Nat.lt_log2_self
  obtain ⟨h1, h2⟩ := root_from n (n.log2 / 2 + 1) 0 (by simp) (by
    rw [Nat.zero_add, ← Nat.pow_add]
    exact Nat.lt_of_lt_of_le hlt (Nat.pow_le_pow_right (by decide) (by omega)))
  exact (isq_eq h1 h2).symm
theorem read_small (F : Fm) {w : Nat} (hw : w < 2 * F.sg) {s : Bool} {m : Nat} {i : Int} (h : (fk F).format.read w = .number s m i) : m < 2 ^ (F.fr + 1) := by
  obtain ⟨f1, f2, f3, f4, f5⟩ := ie_f F
  have hp := Nat.two_pow_pos F.fr
  have he : 2 ^ (F.fr + 1) = 2 ^ F.fr + 2 ^ F.fr := by rw [Nat.pow_succ]; omega
  unfold Ieee.Format.read at h
  simp only at h
  rw [f5, f3] at h
  split at h
  · next q => cases h; omega
  · split at h
    · cases h
      have := Nat.mod_lt (w % F.sg) hp
      omega
    · split at h <;> cases h
theorem sqrt_ie (F : Fm) {a : Nat} (ha : a < 2 * F.sg) : flR (fk F) ((fk F).format.sqrt a) = flW F (sqrtW F 1 a).1 := by
  show flR (fk F) ((((fk F).format.read a).root ((fk F).format.fractionBits + 2)).map (fk F).format.write) = _
  rw [(ie_f F).1]
  unfold sqrtW
  rcases dat_of F ha with ⟨ca, n, f, e⟩ | ⟨ca, e⟩ | ⟨ca, m, i, e, ev, z1⟩
  · rw [e, if_pos ca, flW_nan]; rfl
  · rw [e, if_neg (by omega), if_neg (by omega)]
    by_cases hs : F.ng a = true
    · rw [if_pos hs, flW_nan]
      simp [Ieee.Datum.root, hs, flR]
    · rw [if_neg hs, if_pos ca, flW_of (inf5 F _)]
      simp [Ieee.Datum.root, hs, flR, write_inf]
  · have fa := fin_45 ca
    have hsm := read_small F ha e
    rw [e, if_neg fa.1]
    by_cases h0 : m = 0
    · rw [if_pos (z1.2 h0), flW_of (sgn5 F _)]
      simp [Ieee.Datum.root, h0, flR, write_num]
    · rw [if_neg (fun q => h0 (z1.1 q))]
      by_cases hs : F.ng a = true
      · rw [if_pos hs, flW_nan]
        simp [Ieee.Datum.root, h0, hs, flR]
      · rw [if_neg hs, if_neg fa.2]
        have hs : F.ng a = false := by simpa using hs
        rw [hs] at ev ⊢
        generalize hD : 2 * (F.fr + 2) - m.log2 = D0
        generalize hD1 : D0 + ((i - (D0 : Int)) % 2).toNat = D
        have hq : flR (fk F) ((Ieee.Datum.root (F.fr + 2) (.number false m i)).map (fk F).format.write) =
            .fl (fk F) ((fk F).format.nearest false (2 * isq (m * 2 ^ D) + (isq (m * 2 ^ D) * isq (m * 2 ^ D) != m * 2 ^ D).toNat) ((i - (D : Nat)) / 2 - 1)) := by
          simp only [Ieee.Datum.root, h0, if_false, Bool.false_eq_true, hD, hD1, Nat.shiftLeft_eq, root_whole]
          rfl
        rw [hq]
        have hF := fm_facts F
        have hF2 := fm_fr F
        have l1 := blen_log h0
        have l2 : blen m ≤ F.fr + 1 := blen_le.2 hsm
        obtain ⟨r1, r2⟩ := isq_spec (m * 2 ^ D)
        have hbl : F.fr + 2 ≤ blen (isq (m * 2 ^ D)) := by
          have hX : m * 2 ^ D ≠ 0 := Nat.mul_ne_zero h0 (by have := Nat.two_pow_pos D; omega)
          have := root_blen (k := F.fr + 1) (M := m * 2 ^ D) (by
            have h1 := pow_blen_le hX
            rw [blen_mul h0] at h1
            rw [← Nat.pow_add]
            exact Nat.le_trans (Nat.pow_le_pow_right (by decide) (by omega)) h1) r2
          omega
        have hne : ∀ x y : Nat, (x != y) = !decide (x = y) := fun x y => by
          by_cases q : x = y
          · subst q; simp
          · simp [q]
        rw [hne, near_more F _ _ _ hbl]
        have hz : tz m + 1 ≤ blen m := by
          have s1 := split_tz h0
          have h3 : m / 2 ^ tz m ≠ 0 := fun q => by rw [q, Nat.zero_mul] at s1; exact h0 s1
          have h4 := blen_mul h3 (tz m)
          rw [← s1] at h4
          have := blen_pos h3
          omega
        have hr : rootW F 1 (F.vl a) = sW F 1 false (isq (m * 2 ^ D)) (!decide (isq (m * 2 ^ D) * isq (m * 2 ^ D) = m * 2 ^ D)) ((i - (D : Nat)) / 2) := by
          rw [ev, mkD_pos h0]
          have s1 := split_tz h0
          have hsh : shN (m / 2 ^ tz m) ((tz m + D : Nat) : Int) = m * 2 ^ D := by
            unfold shN
            rw [if_pos (by omega), Int.toNat_natCast, Nat.pow_add, ← Nat.mul_assoc, ← s1]
          have hsb : shB (m / 2 ^ tz m) ((tz m + D : Nat) : Int) = false := by unfold shB; rw [if_pos (by omega)]
          have g := rootW_sh F 1 (m := m / 2 ^ tz m) (t := isq (m * 2 ^ D)) (e := i + tz m) (n := ((tz m + D : Nat) : Int)) (c := (i - (D : Nat)) / 2) (by
            unfold rootP; push_cast; omega) (by push_cast; omega) (by rw [hsh]; exact r1) (by rw [hsh]; exact r2) hbl false
          rw [hsh, hsb, Bool.false_or] at g
          exact g.symm
        rw [hr, flW_of (sW5 F _ _ _ hbl)]
def Fm.wlo : Fm → Nat
  | .s => 107
  | .d => 823
def Fm.whi : Fm → Nat
  | .s => 147
  | .d => 1223
def inW (F : Fm) (w : Nat) : Prop := F.wlo ≤ F.ex w ∧ F.ex w ≤ F.whi
instance (F : Fm) (w : Nat) : Decidable (inW F w) := inferInstanceAs (Decidable (_ ∧ _))
end Go.Cv
