/-
  For every input the law ExactGauss answers true; no condition.
-/
import Derived.Test.YtabmkppfiklbaaaGreatDoorM18
import Derived.Test.YtabmkppfiklbaaaGreatDoorM17
import Derived.Test.YtabmkppfiklbaaaGreatDoorCards
import Derived.Test.YtabmkppfiklbaaaGreatDoorTie
set_option linter.unusedVariables false
set_option linter.unusedSimpArgs false
namespace Go.Proofs.YtabmkppfiklbaaaGreatDoor
open Go Go.Cv Go.ChangeShapes Go.WideShapes Go.ChangeAt Go.WideMaps Go.WideElems Go.RowKit
set_option maxRecDepth 100000 in
theorem exactGauss_lifted (os : Os) (started : os.Started) (H : Type) (enc : TypeId × Value → H) :
    ReturnsInHanded {} Tryz.checked os 10 .any (fun w args => (Rows.exactGaussSpec.pre enc Tryz.prog Tryz.f10 [] false w args ∧ laidMetH Tryz.prog laid1 w) ∧ sizedMet enc Tryz.prog Tryz.f10 (OpenSpec.ofChange Rows.exactGaussSpec) false w args)
      (Rows.exactGaussSpec.post enc Tryz.prog Tryz.f10 false true false false) := by
  refine returnsInHanded_of_change_and (C := Tryz.checked) (X := fun w _ => laidMetH Tryz.prog laid1 w) (fun _ _ _ hh h => h.of_heap hh) own started (by kernel_rfl) Tryz.func10
    (ChangeSpec.witness_shaped (enc := enc) (C := Tryz.checked) (os := os) (X := fun w _ => laidMetH Tryz.prog laid1 w) false (World.doorLaid Tryz.prog 400 os) #[.int .u8 0, .int .u8 0, .agg #[.int .i16 0, .int .i16 0, .int .i16 0, .int .i16 0, .int .i16 0, .int .i16 0]] 8 rfl (World.shaped_of_RefB (by kernel_rfl) (by kernel_rfl)) (by kernel_rfl) (by kernel_rfl) (by kernel_rfl) (door_met os _)) ?_
  intro W base args ds gs before hval0 hW _ _ hL _
  have hval : ∀ (j : Nat) t v, Tryz.f10.params[j]? = some t → args[j]? = some v → Value.okWide Tryz.prog W .any base t v := hval0
  have hW' := hW
  obtain ⟨p, q, hA0, hV, _, hfz, hnd⟩ := hW
  have hA : DataW.TrodAll enc Tryz.prog W 0 (fun _ => true) true Tryz.f10.params.toList args.toList ds p := hA0
  rw [Tryz.params10] at hA hval
  obtain ⟨v0, v1, v2, d0, d1, d2, p0, p1, p2, rfl, rfl, _, h0, h1, h2⟩ := trodAll_three hA
  obtain ⟨rfl, rfl⟩ := trodVars_none hV
  obtain ⟨a0, rfl, _, _, w0⟩ := open_int Tryz.underlying22 (hval 0 22 v0 rfl rfl) h0
  obtain ⟨a1, rfl, _, _, w1⟩ := open_int Tryz.underlying23 (hval 1 23 v1 rfl rfl) h1
  obtain ⟨x2a, x2b, x2c, x2d, x2e, x2f, ⟨hx2a, hx2b, hx2c, hx2d, hx2e, hx2f⟩, hr2⟩ := open_h6 (e := 52) (S := ⟨L0, W, fun r => r < W.heap.size, noι⟩) Tryz.underlying53 (by kernel_rfl) (by kernel_rfl) (by kernel_rfl) (hval 2 53 v2 rfl rfl) h2
  refine law_run mixed prog_ok (f := 249) (by kernel_rfl) (law12_ExactGauss (al 0) known12 (f := a0) (m := a1) (x0 := x2a) (x1 := x2b) (x2 := x2c) (x3 := x2d) (x4 := x2e) (x5 := x2f)) (of_laid hL) ?_ fun W' hb => ?_
  · simp only [RelL]
    exact ⟨_, _, rfl, by simp only [Rel], _, _, rfl, by simp only [Rel], _, _, rfl, hr2, rfl⟩
  · exact law_post (tb := 4) laidOut (by kernel_rfl) (by kernel_rfl) (by kernel_rfl) rfl rfl hW' hb
theorem exactGauss_row : Rows.ExactGaussSaid :=
  OpenClaim.holds_of_wide 10 Tryz.f10 rfl rfl rfl rfl rfl rfl rfl ⟨rfl, rfl, rfl, rfl, rfl⟩ rfl rfl rfl rfl rfl (by kernel_rfl) Tryz.func10 (by kernel_rfl)
    (of_decide_eq_true (by kernel_rfl)) (by unfold Func.isWrapper; first | (rw [if_pos (by decide +kernel)]; kernel_rfl) | (rw [if_neg (by decide +kernel)]; exact ⟨rfl, rfl⟩))
    (fun os started H enc _ => exactGauss_lifted os started H enc)
theorem exactGauss_holds : Rows.ExactGaussCardSaid :=
  Claim7.holds_tied_plain_at .later [] [.data] true (true, "759b712e0d082a6bbf39a721a9c32c87f66c5ed64b4913edd0b23d719e31c813") false
    exactGauss_row (fun _ h => by cases h) (by kernel_rfl) (fun _ h => by cases h) exactGauss_row_tie rfl ⟨rfl, rfl⟩ (by kernel_rfl) rfl
    (fun f fn hf hfn => by
      obtain rfl : f = 10 := Option.some.inj ((show Tryz.prog.funcNamed "cutplane/cutplanelaw12.ExactGauss" = some 10 by kernel_rfl).symm.trans hf) |>.symm
      obtain rfl : fn = Tryz.f10 := (Option.some.inj (Tryz.func10.symm.trans hfn)).symm
      exact ⟨by kernel_rfl, fun j t ht => by
        rw [Tryz.params10] at ht
        have h3 : t = 22 ∨ t = 23 ∨ t = 53 := by
          rcases j with _ | _ | _ | j
          · left; simpa using ht.symm
          · right; left; simpa using ht.symm
          · right; right; simpa using ht.symm
          · simp at ht
        rcases h3 with rfl | rfl | rfl
        · exact (show Tryz.prog.wantsStandIn 22 = false by kernel_rfl)
        · exact (show Tryz.prog.wantsStandIn 23 = false by kernel_rfl)
        · exact (show Tryz.prog.wantsStandIn 53 = false by kernel_rfl)⟩)
    (by kernel_rfl)
#print axioms exactGauss_holds
end Go.Proofs.YtabmkppfiklbaaaGreatDoor
