/-
  The modulus of an exact sum of two finite numbers, rounded down, is not above the exact sum of both moduli, rounded up; the modulus of a part is not above the number's, rounded up.
-/
import Derived.Test.YtkfdfaijhcoffaaGreatDoorM8
import Derived.Test.YtkfdfaijhcoffaaGreatDoorM7
import Derived.Test.YtkfdfaijhcoffaaGreatDoorCards
import Derived.Test.YtkfdfaijhcoffaaGreatDoorTie
set_option linter.unusedVariables false
set_option linter.unusedSimpArgs false
namespace Go.Proofs.YtkfdfaijhcoffaaGreatDoor
open Go Go.Cv Go.ChangeShapes Go.WideShapes Go.ChangeAt Go.WideMaps Go.WideElems Go.RowKit

set_option maxRecDepth 100000 in
theorem modulusTriangle_lifted (os : Os) (started : os.Started) (H : Type) (enc : TypeId × Value → H) :
    ReturnsInHanded {} Tryz.checked os 5 .any (fun w args => (Rows.modulusTriangleSpec.pre enc Tryz.prog Tryz.f5 [] false w args ∧ laidMetH Tryz.prog laid1 w) ∧ sizedMet enc Tryz.prog Tryz.f5 (OpenSpec.ofChange Rows.modulusTriangleSpec) false w args)
      (Rows.modulusTriangleSpec.post enc Tryz.prog Tryz.f5 false true false false) := by
  refine returnsInHanded_of_change_and (C := Tryz.checked) (X := fun w _ => laidMetH Tryz.prog laid1 w) (fun _ _ _ hh h => h.of_heap hh) own started (by kernel_rfl) Tryz.func5
    (ChangeSpec.witness_shaped (enc := enc) (C := Tryz.checked) (os := os) (X := fun w _ => laidMetH Tryz.prog laid1 w) false (World.doorLaid Tryz.prog 400 os) #[.int .u8 0, .agg #[.int .u64 0, .int .u64 0], .agg #[.int .u64 0, .int .u64 0]] 8 rfl (World.shaped_of_RefB (by kernel_rfl) (by kernel_rfl)) (by kernel_rfl) (by kernel_rfl) (by kernel_rfl) (door_met os _)) ?_
  intro W base args ds gs before hval0 hW _ _ hL _
  have hval : ∀ (j : Nat) t v, Tryz.f5.params[j]? = some t → args[j]? = some v → Value.okWide Tryz.prog W .any base t v := hval0
  have hW' := hW
  obtain ⟨p, q, hA0, hV, _, hfz, hnd⟩ := hW
  have hA : DataW.TrodAll enc Tryz.prog W 0 (fun _ => true) true Tryz.f5.params.toList args.toList ds p := hA0
  rw [Tryz.params5] at hA hval
  obtain ⟨v0, v1, v2, d0, d1, d2, p0, p1, p2, rfl, rfl, _, h0, h1, h2⟩ := trodAll_three hA
  obtain ⟨rfl, rfl⟩ := trodVars_none hV
  obtain ⟨a0, rfl, _, _, w0⟩ := open_int Tryz.underlying22 (hval 0 22 v0 rfl rfl) h0
  obtain ⟨u1, v1', hu1, hv1, hr1⟩ := open_z (S := ⟨L0, W, fun r => r < W.heap.size, noι⟩) Tryz.underlying43 (by kernel_rfl) (by kernel_rfl) (by kernel_rfl) (by kernel_rfl) (hval 1 43 v1 rfl rfl) h1
  obtain ⟨u2, v2', hu2, hv2, hr2⟩ := open_z (S := ⟨L0, W, fun r => r < W.heap.size, noι⟩) Tryz.underlying43 (by kernel_rfl) (by kernel_rfl) (by kernel_rfl) (by kernel_rfl) (hval 2 43 v2 rfl rfl) h2
  refine law_run mixed prog_ok (f := 240) (by kernel_rfl) (law13_ModulusTriangle (hasA 0) (hasB 0) (hasC 0) (glob 0) (hasD 0) (hasE 0) (hasF 0) (hasG 0) (hasH 0) (hasJ 0) known13 (f := a0) (a := u1) (b := v1') (c := u2) (d := v2') hu1 hv1 hu2 hv2) (of_laid hL) ?_ fun W' hb => ?_
  · simp only [RelL]
    exact ⟨_, _, rfl, by simp only [Rel], _, _, rfl, hr1, _, _, rfl, hr2, rfl⟩
  · exact law_post (tb := 4) laidOut (by kernel_rfl) (by kernel_rfl) (by kernel_rfl) rfl rfl hW' hb

theorem modulusTriangle_row : Rows.ModulusTriangleSaid :=
  OpenClaim.holds_of_wide 5 Tryz.f5 rfl rfl rfl rfl rfl rfl rfl ⟨rfl, rfl, rfl, rfl, rfl⟩ rfl rfl rfl rfl rfl (by kernel_rfl) Tryz.func5 (by kernel_rfl)
    (of_decide_eq_true (by kernel_rfl)) (by unfold Func.isWrapper; first | (rw [if_pos (by decide +kernel)]; kernel_rfl) | (rw [if_neg (by decide +kernel)]; exact ⟨rfl, rfl⟩))
    (fun os started H enc _ => modulusTriangle_lifted os started H enc)

theorem modulusTriangle_holds : Rows.ModulusTriangleCardSaid :=
  Claim7.holds_tied_plain_at .later [] [.data] true (true, "269f44f366d1baee29ccd542318f08e1d0cccf87b08671c5cd5ac386936587d3") false
    modulusTriangle_row (fun _ h => by cases h) (by kernel_rfl) (fun _ h => by cases h) modulusTriangle_row_tie rfl ⟨rfl, rfl⟩ (by kernel_rfl) rfl
    (fun f fn hf hfn => by
      obtain rfl : f = 5 := Option.some.inj ((show Tryz.prog.funcNamed "cutplane/cutplanelaw13.ModulusTriangle" = some 5 by kernel_rfl).symm.trans hf) |>.symm
      obtain rfl : fn = Tryz.f5 := (Option.some.inj (Tryz.func5.symm.trans hfn)).symm
      exact ⟨by kernel_rfl, fun j t ht => by
        rw [Tryz.params5] at ht
        have h3 : t = 22 ∨ t = 43 := by
          rcases j with _ | _ | _ | j
          · left; simpa using ht.symm
          · right; simpa using ht.symm
          · right; simpa using ht.symm
          · simp at ht
        rcases h3 with rfl | rfl
        · exact (show Tryz.prog.wantsStandIn 22 = false by kernel_rfl)
        · exact (show Tryz.prog.wantsStandIn 43 = false by kernel_rfl)⟩)
    (by kernel_rfl)
#print axioms modulusTriangle_holds
end Go.Proofs.YtkfdfaijhcoffaaGreatDoor
