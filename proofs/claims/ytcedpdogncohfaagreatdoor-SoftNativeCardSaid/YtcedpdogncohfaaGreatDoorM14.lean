/-
  A part of the proof of the statements of this seat (texts that the law's own text leans on): no condition.
-/
import Derived.Test.YtcedpdogncohfaaGreatDoorM13
import Derived.Test.YtcedpdogncohfaaGreatDoorM6
set_option linter.unusedVariables false
set_option linter.unusedSimpArgs false
namespace Go.Cv
variable {G : Nat → Option (List AV)} {T : Tbl} {g : Nat}
def nckA : AV → Option AV
  | .ptr b o => some (.ptr b o)
  | .iptr cs o => some (.iptr cs o)
  | .gptr g o => some (.gptr g o)
  | _ => none
def eqnA (neg : Bool) : AV → Option AV
  | .np => some (.bool !neg)
  | .ptr _ _ => some (.bool neg)
  | .iptr _ _ => some (.bool neg)
  | .gptr _ _ => some (.bool neg)
  | _ => none
section
variable (F : CallF) (d : Option Nat) (os : List IOper) (e : Env) (h : Heap)
theorem st_nck (x : IOpd) : evOps G F (⟨d, .nck x, none⟩ :: os) e h = kV G F (nckA (opd e x)) d os e h := by
  rw [st_pure G F d _ os e h rfl (nckA (opd e x))]
  simp only [evQ]; cases opd e x <;> rfl
theorem st_eqn (neg : Bool) (x : IOpd) : evOps G F (⟨d, .eqn neg x, none⟩ :: os) e h = kV G F (eqnA neg (opd e x)) d os e h := by
  rw [st_pure G F d _ os e h rfl (eqnA neg (opd e x))]
  simp only [evQ]; cases opd e x <;> rfl
theorem st_fbin (op : BinOp) (k : FloatKind) (x y : IOpd) : evOps G F (⟨d, .fbin op k x y, none⟩ :: os) e h = kV G F (evFl op k (opd e x) (opd e y)) d os e h := st_pure G F d _ os e h rfl _ rfl
theorem st_fcv (s k : FloatKind) (x : IOpd) : evOps G F (⟨d, .fcv s k x, none⟩ :: os) e h = kV G F (evFcv s k (opd e x)) d os e h := st_pure G F d _ os e h rfl _ rfl
end
theorem nck_p (b o : Nat) : nckA (.ptr b o) = some (.ptr b o) := rfl
theorem eqn_np : eqnA false .np = some (.bool true) := rfl
theorem eqn_p (b o : Nat) : eqnA false (.ptr b o) = some (.bool false) := rfl
theorem sn_np (g : Nat → Nat → Nat → Nat → Option AV) : snapA g .np = some .np := by simp only [snapA]
theorem sn_nf (g : Nat → Nat → Nat → Nat → Option AV) : snapA g .nf = some .nf := by simp only [snapA]
theorem sn_nan (g : Nat → Nat → Nat → Nat → Option AV) (k : FloatKind) : snapA g (.nan k) = some (.nan k) := by simp only [snapA]
theorem frz_np (h : Mem) (r : AV) (args : List AV) : frz h r (.np :: args) = frz h r args := by simp [frz, reachL, reachA]
theorem frz_nf (h : Mem) (r : AV) (args : List AV) : frz h r (.nf :: args) = frz h r args := by simp [frz, reachL, reachA]
theorem frz_nan (h : Mem) (r : AV) (k : FloatKind) (args : List AV) : frz h r (.nan k :: args) = frz h r args := by simp [frz, reachL, reachA]
theorem okc_nf : okCell .nf = true := rfl
theorem ca_nf : cellsA .nf = [.nf] := rfl
theorem ca_np : cellsA .np = [.np] := rfl
theorem fl_mul (k : FloatKind) (a b : Nat) : evFl .mul k (.fl k a) (.fl k b) = some (flR k (k.format.mul a b)) := if_pos ⟨rfl, rfl⟩
theorem fl_add (k : FloatKind) (a b : Nat) : evFl .add k (.fl k a) (.fl k b) = some (flR k (k.format.add a b)) := if_pos ⟨rfl, rfl⟩
theorem fl_sub (k : FloatKind) (a b : Nat) : evFl .sub k (.fl k a) (.fl k b) = some (flR k (k.format.sub a b)) := if_pos ⟨rfl, rfl⟩
theorem fl_quo (k : FloatKind) (a b : Nat) : evFl .quo k (.fl k a) (.fl k b) = some (flR k (k.format.div a b)) := if_pos ⟨rfl, rfl⟩
theorem fcB : type_of% (And.intro (And.intro (And.intro @st_nck @st_eqn) (And.intro @st_fbin @st_fcv)) (And.intro (And.intro (And.intro @nck_p @eqn_np) (And.intro @eqn_p @sn_np)) (And.intro (And.intro (And.intro @sn_nf @sn_nan) (And.intro @frz_np @frz_nf)) (And.intro (And.intro @frz_nan @okc_nf) (And.intro @ca_nf @ca_np))))) := And.intro (And.intro (And.intro @st_nck @st_eqn) (And.intro @st_fbin @st_fcv)) (And.intro (And.intro (And.intro @nck_p @eqn_np) (And.intro @eqn_p @sn_np)) (And.intro (And.intro (And.intro @sn_nf @sn_nan) (And.intro @frz_np @frz_nf)) (And.intro (And.intro @frz_nan @okc_nf) (And.intro @ca_nf @ca_np))))
section
variable (hL : HasL g T)
 include hL
theorem f64_of (w : Nat) : run G T 373 [.int .u64 (w : Int)] = some (.fl .f64 w) := by
  rw [run_k G T hL.math_Float64frombits]
  show kE G _ (evL G T (.prim .of64) _ _) = _
  rw [evL_prim]; rfl
theorem f64_bits (w : Nat) : run G T 374 [.fl .f64 w] = some (.int .u64 (w : Int)) := by
  rw [run_k G T hL.math_Float64bits]
  show kE G _ (evL G T (.prim .b64) _ _) = _
  rw [evL_prim]; rfl
theorem f32_of (w : Nat) : run G T 370 [.int .u32 (w : Int)] = some (.fl .f32 w) := by
  rw [run_k G T hL.math_Float32frombits]
  show kE G _ (evL G T (.prim .of32) _ _) = _
  rw [evL_prim]; rfl
theorem f32_bits (w : Nat) : run G T 371 [.fl .f32 w] = some (.int .u32 (w : Int)) := by
  rw [run_k G T hL.math_Float32bits]
  show kE G _ (evL G T (.prim .b32) _ _) = _
  rw [evL_prim]; rfl
theorem m_sqrt (w : Nat) : run G T 392 [.fl .f64 w] = some (flR .f64 (FloatKind.f64.format.sqrt w)) := by
  rw [run_k G T hL.math_sqrt]
  show kE G _ (evL G T (.prim .sqrt) _ _) = _
  rw [evL_prim]
  show kE G _ (some (Ex.norm, putE (some 9) (flR .f64 (FloatKind.f64.format.sqrt w)) (numE 0 [AV.fl FloatKind.f64 w]), Heap.nil)) = _
  cases FloatKind.f64.format.sqrt w <;> rfl
end
theorem math_Sqrt (hL : HasL g T) (hM : HasM g T) (w : Nat) : run G T 372 [.fl .f64 w] = some (flR .f64 (FloatKind.f64.format.sqrt w)) := by
  rw [run_k G T hM.math_Sqrt]
  have h1 := m_sqrt (G := G) hL w
  have h2 : ∀ g, snapA g (flR .f64 (FloatKind.f64.format.sqrt w)) = some (flR .f64 (FloatKind.f64.format.sqrt w)) := by intro g; cases FloatKind.f64.format.sqrt w <;> simp only [flR, snapA]
  generalize flR .f64 (FloatKind.f64.format.sqrt w) = r at *
  repeat' (first | (simp (maxSteps := 9^7) only [seval, exC, c_math_Sqrt, h1, h2]) | (simp (maxSteps := 9^7) (disch := first | with_reducible assumption | omega) only [dxB]) | (simp only [kdB]; split) | (simp only [kvB]; split))
end Go.Cv
namespace Go.Cv
variable {G : Nat → Option (List AV)} {T : Tbl} {g : Nat}
def oneN (F : Fm) (r : Nat) : Prop := r = F.nan ∨ F.cls r ≠ 5
theorem add_one (F : Fm) (a b : Nat) : oneN F (addW F 1 a b).1 := by
  unfold addW addP oneN
  split
  · exact Or.inl rfl
  · split
    · exact Or.inl rfl
    · split
      · exact Or.inr (inf5 F _)
      · split
        · exact Or.inr (inf5 F _)
        · split
          · exact Or.inr (sgn5 F _)
          · exact Or.inr (sum5 F (by decide) (by decide) _)
theorem sub_one (F : Fm) (a b : Nat) : oneN F (subW F 1 a b).1 := by
  unfold subW addP oneN
  split
  · exact Or.inl rfl
  · split
    · exact Or.inl rfl
    · split
      · exact Or.inr (inf5 F _)
      · split
        · exact Or.inr (inf5 F _)
        · split
          · exact Or.inr (sgn5 F _)
          · exact Or.inr (sum5 F (by decide) (by decide) _)
theorem mul_one' (F : Fm) (a b : Nat) : oneN F (mulW2 F 1 a b).1 := by
  unfold mulW2 mulP oneN
  split
  · exact Or.inl rfl
  · split
    · exact Or.inl rfl
    · split
      · exact Or.inr (inf5 F _)
      · split
        · exact Or.inr (sgn5 F _)
        · exact Or.inr (sum5 F (by decide) (by decide) _)
theorem m_ne {F : Fm} {a : Nat} (ha : a < 2 * F.sg) (h1 : F.cls a ≠ 1) (h4 : F.cls a ≠ 4) (h5 : F.cls a ≠ 5) : (F.vl a).m ≠ 0 := by
  rcases cls3 F a with q | q | q
  · exact absurd q h5
  · exact absurd q h4
  · exact fun z => h1 ((cls_val1 ha q).2 z)
theorem quoW_bl {a b : Dy} (F : Fm) (h0 : a.m ≠ 0) (h1 : b.m ≠ 0) : F.fr + 2 ≤ blen (a.m * 2 ^ quoN 64 a.m b.m / b.m) := by
  have hF := fm_facts F
  have := quo_blen (k := 64) h0 h1
  omega
theorem rootW_bl {d : Dy} (F : Fm) (h0 : d.m ≠ 0) : F.fr + 2 ≤ blen (isq (d.m * 2 ^ rootP d.e)) := by
  have hF := fm_facts F
  have hP : rootP d.e = 130 + (d.e % 2).toNat := rfl
  generalize rootP d.e = P at *
  obtain ⟨r1, r2⟩ := isq_spec (d.m * 2 ^ P)
  have h1 : 2 ^ 65 ≤ isq (d.m * 2 ^ P) := by
    rcases Nat.lt_or_ge (isq (d.m * 2 ^ P)) (2 ^ 65) with q | q
    · exfalso
      have h2 : (isq (d.m * 2 ^ P) + 1) * (isq (d.m * 2 ^ P) + 1) ≤ 2 ^ 65 * 2 ^ 65 := Nat.mul_le_mul q q
      have h3 : 1 * 2 ^ 130 ≤ d.m * 2 ^ P := Nat.mul_le_mul (by omega) (Nat.pow_le_pow_right (by decide) (by omega))
      have h4 : (2 : Nat) ^ 65 * 2 ^ 65 = 2 ^ 130 := by rw [← Nat.pow_add]
      rw [h4] at h2
      omega
    · exact q
  have := lt_blen.2 h1
  omega
theorem div_one (F : Fm) {a b : Nat} (ha : a < 2 * F.sg) (hb : b < 2 * F.sg) : oneN F (divW2 F 1 a b).1 := by
  have hF := fm_facts F
  unfold divW2 divP oneN
  split
  · exact Or.inl rfl
  · split
    · exact Or.inl rfl
    · split
      · exact Or.inr (inf5 F _)
      · split
        · exact Or.inr (inf5 F _)
        · split
          · exact Or.inr (sgn5 F _)
          · right
            unfold quoW
            refine sW5 F _ _ _ ?_
            have := quo_blen (k := 64) (m_ne ha (by omega) (by omega) (by omega)) (m_ne hb (by omega) (by omega) (by omega))
            omega
theorem sqrt_one (F : Fm) {a : Nat} (ha : a < 2 * F.sg) : oneN F (sqrtW F 1 a).1 := by
  have hF := fm_facts F
  unfold sqrtW oneN
  split
  · exact Or.inl rfl
  · split
    · exact Or.inr (sgn5 F _)
    · split
      · exact Or.inl rfl
      · split
        · exact Or.inr (inf5 F _)
        · right
          have h0 := m_ne ha (by omega) (by omega) (by omega)
          unfold rootW
          exact sW5 F _ _ _ (rootW_bl F h0)
theorem sW_lt (F : Fm) (neg : Bool) {Q : Nat} (s : Bool) (E : Int) (h : F.fr + 2 ≤ blen Q) : (sW F 1 neg Q s E).1 < 2 * F.sg := by
  have hi := fm_i0 F
  obtain ⟨K, kk, u, _, _, _, _, _, h1 | h1⟩ := sW_core F 1 neg s E h
  · rw [h1.2]
    show F.inf neg < _
    rw [inf_eq]; unfold Fm.sgn; split <;> omega
  · rw [h1.2]; unfold Fm.sgn; split <;> omega
theorem sgn_lt2 (F : Fm) (n : Bool) : F.sgn n < 2 * F.sg := (sgn_fin F n).1
theorem subW_lt (F : Fm) {md : Int} (hm : 1 ≤ md ∧ md ≤ 5) {a b : Nat} : (subW F md a b).1 < 2 * F.sg := by
  unfold subW addP
  split
  · exact nan_lt F
  · split
    · exact nan_lt F
    · split
      · exact inf_lt F _
      · split
        · exact inf_lt F _
        · split
          · exact sgn_lt2 F _
          · unfold sumW
            split
            · exact sgn_lt2 F _
            · exact rndW_lt F hm _
theorem divW_lt (F : Fm) {a b : Nat} (ha : a < 2 * F.sg) (hb : b < 2 * F.sg) : (divW2 F 1 a b).1 < 2 * F.sg := by
  unfold divW2 divP
  split
  · exact nan_lt F
  · split
    · exact nan_lt F
    · split
      · exact inf_lt F _
      · split
        · exact inf_lt F _
        · split
          · exact sgn_lt2 F _
          · unfold quoW
            exact sW_lt F _ _ _ (quoW_bl F (m_ne ha (by omega) (by omega) (by omega)) (m_ne hb (by omega) (by omega) (by omega)))
theorem sqrtW_lt (F : Fm) {a : Nat} (ha : a < 2 * F.sg) : (sqrtW F 1 a).1 < 2 * F.sg := by
  unfold sqrtW
  split
  · exact nan_lt F
  · split
    · exact sgn_lt2 F _
    · split
      · exact nan_lt F
      · split
        · exact inf_lt F _
        · unfold rootW
          exact sW_lt F _ _ _ (rootW_bl F (m_ne ha (by omega) (by omega) (by omega)))
theorem ord_self (F : Fm) {w : Nat} (hw : w < 2 * F.sg) (h : F.cls w ≠ 5) : (fk F).format.order w w = some .eq := by
  have hc : ∀ z : Int, compare z z = .eq := fun z => by simp [compare, compareOfLessAndEq]
  have hc2 : ∀ z : Nat, compare z z = .eq := fun z => by simp [compare, compareOfLessAndEq]
  show ((fk F).format.read w).order ((fk F).format.read w) = _
  rcases dat_of F hw with ⟨q, _⟩ | ⟨_, q⟩ | ⟨_, m, p, q, _⟩
  · exact absurd q h
  · rw [q]; show some (compare _ _) = _; rw [hc2]
  · rw [q]; show some (compare _ _) = _; rw [hc]
theorem ne_self (F : Fm) {w : Nat} (hw : w < 2 * F.sg) (h : F.cls w ≠ 5) : evFl .neq (fk F) (.fl (fk F) w) (.fl (fk F) w) = some (.bool false) := by
  have e : evFl .neq (fk F) (.fl (fk F) w) (.fl (fk F) w) = some (AV.bool ((fk F).format.order w w != some .eq)) := if_pos ⟨rfl, rfl⟩
  rw [e, ord_self F hw h]; rfl
theorem sn_flW (g : Nat → Nat → Nat → Nat → Option AV) (F : Fm) (r : Nat) : snapA g (flW F r) = some (flW F r) := by
  unfold flW; split <;> simp only [snapA]
theorem frz_flW (h : Mem) (v : AV) (F : Fm) (r : Nat) (args : List AV) : frz h v (flW F r :: args) = frz h v args := by
  unfold flW; split
  · exact frz_nan ..
  · exact frz_fl ..
theorem law05_wide (J : Al G T g) (hL : HasL g T) (hN : HasN g T) {r : Nat} (hr : r < 2 * Fm.d.sg) (h : oneN .d r) : run G T 408 [.int .u64 (r : Int), flW .d r] = some (.bool true) := by
  rw [run_k G T hN.law05_wide]
  have n1 := ref03_None J .d
  rcases h with rfl | h
  · rw [flW_nan]
    have e1 : evFl .neq .f64 (.nan .f64) (.nan .f64) = some (.bool true) := rfl
    generalize (Fm.d.nan : Int) = w at *
    simp only [fk, Fm.u] at *
    repeat' (first | (simp (maxSteps := 9^7) only [seval, exC, c_law05_wide, fcB, e1, n1]) | (simp (maxSteps := 9^7) (disch := first | with_reducible assumption | omega) only [dxB]) | (simp only [kdB]; split) | (simp only [kvB]; split))
  · rw [flW_of h]
    have e1 := ne_self .d hr h
    have b1 := f64_bits (G := G) hL r
    simp only [fk] at *
    repeat' (first | (simp (maxSteps := 9^7) only [seval, exC, c_law05_wide, fcB, e1, b1]) | (simp (maxSteps := 9^7) (disch := first | with_reducible assumption | omega) only [dxB]) | (simp only [kdB]; split) | (simp only [kvB]; split))
theorem law05_narrow (J : Al G T g) (hL : HasL g T) (hN : HasN g T) {r : Nat} (hr : r < 2 * Fm.s.sg) (h : oneN .s r) : run G T 409 [.int .u64 (r : Int), flW .s r] = some (.bool true) := by
  rw [run_k G T hN.law05_narrow]
  have n1 := ref03_None J .s
  rcases h with rfl | h
  · rw [flW_nan]
    have e1 : evFl .neq .f32 (.nan .f32) (.nan .f32) = some (.bool true) := rfl
    generalize (Fm.s.nan : Int) = w at *
    simp only [fk, Fm.u] at *
    repeat' (first | (simp (maxSteps := 9^7) only [seval, exC, c_law05_narrow, fcB, e1, n1]) | (simp (maxSteps := 9^7) (disch := first | with_reducible assumption | omega) only [dxB]) | (simp only [kdB]; split) | (simp only [kvB]; split))
  · rw [flW_of h]
    have e1 := ne_self .s hr h
    have b1 := f32_bits (G := G) hL r
    have w1 : IntKind.u64.wrap (r : Int) = (r : Int) := by rw [wrap_u64]; have : r < 4294967296 := hr; omega
    simp only [fk] at *
    repeat' (first | (simp (maxSteps := 9^7) only [seval, exC, c_law05_narrow, fcB, e1, b1, w1]) | (simp (maxSteps := 9^7) (disch := first | with_reducible assumption | omega) only [dxB]) | (simp only [kdB]; split) | (simp only [kvB]; split))
theorem ev_add' (F : Fm) {a b : Nat} (ha : a < 2 * F.sg) (hb : b < 2 * F.sg) : evFl .add (fk F) (.fl (fk F) a) (.fl (fk F) b) = some (flW F (addW F 1 a b).1) := by rw [fl_add, add_ie F ha hb]
theorem ev_sub' (F : Fm) {a b : Nat} (ha : a < 2 * F.sg) (hb : b < 2 * F.sg) : evFl .sub (fk F) (.fl (fk F) a) (.fl (fk F) b) = some (flW F (subW F 1 a b).1) := by rw [fl_sub, sub_ie F ha hb]
theorem ev_mul' (F : Fm) {a b : Nat} (ha : a < 2 * F.sg) (hb : b < 2 * F.sg) : evFl .mul (fk F) (.fl (fk F) a) (.fl (fk F) b) = some (flW F (mulW2 F 1 a b).1) := by rw [fl_mul, mul_ie F ha hb]
theorem ev_div' (F : Fm) {a b : Nat} (ha : a < 2 * F.sg) (hb : b < 2 * F.sg) : evFl .quo (fk F) (.fl (fk F) a) (.fl (fk F) b) = some (flW F (divW2 F 1 a b).1) := by rw [fl_quo, div_ie F ha hb]
set_option maxHeartbeats 8000000 in
theorem law05_SoftNative (J : Al G T g) (hL : HasL g T) (hM : HasM g T) (hN : HasN g T) (hK : run G T 163 [] = some (.bool true)) {a b : Nat} (ha : a < 18446744073709551616) (hb : b < 18446744073709551616) :
    run G T 407 [.int .u64 (a : Int), .int .u64 (b : Int)] = some (.bool true) := by
  rw [run_k G T hN.law05_SoftNative]
  have ka : a < 2 * Fm.d.sg := ha
  have kb : b < 2 * Fm.d.sg := hb
  have x1 := f64_of (G := G) hL a
  have x2 := f64_of (G := G) hL b
  have s1 := soft_Add J .d (md := 1) (by decide) ka kb
  have s2 := soft_Sub J .d (md := 1) (by decide) ka kb
  have s3 := soft_Mul J .d (md := 1) (by decide) ka kb
  have s4 := soft_Div J .d (md := 1) (by decide) ka kb
  have s5 := soft_Sqrt J .d (md := 1) (by decide) ka
  have e1 := ev_add' .d ka kb
  have e2 := ev_sub' .d ka kb
  have e3 := ev_mul' .d ka kb
  have e4 := ev_div' .d ka kb
  have e5 := math_Sqrt (G := G) hL hM a
  rw [show flR .f64 (FloatKind.f64.format.sqrt a) = flW .d (sqrtW .d 1 a).1 from sqrt_ie .d ka] at e5
  have q1 := law05_wide J hL hN (addW_lt .d (by decide)) (add_one .d a b)
  have q2 := law05_wide J hL hN (subW_lt .d (by decide)) (sub_one .d a b)
  have q3 := law05_wide J hL hN (mulW_lt .d (by decide)) (mul_one' .d a b)
  have q4 := law05_wide J hL hN (divW_lt .d ka kb) (div_one .d ka kb)
  have q5 := law05_wide J hL hN (sqrtW_lt .d ka) (sqrt_one .d ka)
  have z1 := fun g r => sn_flW g .d r
  have z2 := fun h v r args => frz_flW h v .d r args
  obtain ⟨c, hc⟩ : ∃ c, c = a % 4294967296 := ⟨_, rfl⟩
  obtain ⟨d, hd⟩ : ∃ d, d = b % 4294967296 := ⟨_, rfl⟩
  have lc : c < 4294967296 := by omega
  have ld : d < 4294967296 := by omega
  have m1 : (a : Int) % 4294967296 = (c : Int) := by omega
  have m2 : (b : Int) % 4294967296 = (d : Int) := by omega
  have kc : c < 2 * Fm.s.sg := lc
  have kd : d < 2 * Fm.s.sg := ld
  have y1 := f32_of (G := G) hL c
  have y2 := f32_of (G := G) hL d
  have w1 : (c : Int) % 4294967296 = (c : Int) := by omega
  have w2 : (d : Int) % 4294967296 = (d : Int) := by omega
  have t1 := soft_Add J .s (md := 1) (by decide) kc kd
  have t2 := soft_Sub J .s (md := 1) (by decide) kc kd
  have t3 := soft_Mul J .s (md := 1) (by decide) kc kd
  have t4 := soft_Div J .s (md := 1) (by decide) kc kd
  have g1 := ev_add' .s kc kd
  have g2 := ev_sub' .s kc kd
  have g3 := ev_mul' .s kc kd
  have g4 := ev_div' .s kc kd
  have p1 := law05_narrow J hL hN (addW_lt .s (by decide)) (add_one .s c d)
  have p2 := law05_narrow J hL hN (subW_lt .s (by decide)) (sub_one .s c d)
  have p3 := law05_narrow J hL hN (mulW_lt .s (by decide)) (mul_one' .s c d)
  have p4 := law05_narrow J hL hN (divW_lt .s kc kd) (div_one .s kc kd)
  have z3 := fun g r => sn_flW g .s r
  have z4 := fun h v r args => frz_flW h v .s r args
  clear ha hb ka kb kc kd lc ld hc hd
  generalize addW .d 1 a b = A1 at *
  generalize subW .d 1 a b = A2 at *
  generalize mulW2 .d 1 a b = A3 at *
  generalize divW2 .d 1 a b = A4 at *
  generalize sqrtW .d 1 a = A5 at *
  generalize addW .s 1 c d = B1 at *
  generalize subW .s 1 c d = B2 at *
  generalize mulW2 .s 1 c d = B3 at *
  generalize divW2 .s 1 c d = B4 at *
  simp only [fk, Fm.u] at *
  repeat' (first | (simp (maxSteps := 9^7) only [seval, exC, c_law05_SoftNative, fcB, x1, x2, s1, s2, s3, s4, s5, e1, e2, e3, e4, e5, q1, q2, q3, q4, q5, z1, z2, m1, m2, y1, y2, w1, w2, t1, t2, t3, t4, g1, g2, g3, g4, p1, p2, p3, p4, z3, z4, hK]) | (simp (maxSteps := 9^7) (disch := first | with_reducible assumption | omega) only [dxB]) | (simp only [kdB]; split) | (simp only [kvB]; split))
end Go.Cv
