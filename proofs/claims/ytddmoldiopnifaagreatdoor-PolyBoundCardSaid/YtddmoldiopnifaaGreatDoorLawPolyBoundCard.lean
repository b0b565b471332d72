/-
  For every input the law PolyBound answers true; no condition.
-/
import Derived.Test.YtddmoldiopnifaaGreatDoorM16
import Derived.Test.YtddmoldiopnifaaGreatDoorM15
import Derived.Test.YtddmoldiopnifaaGreatDoorCards
import Derived.Test.YtddmoldiopnifaaGreatDoorTie
set_option linter.unusedVariables false
set_option linter.unusedSimpArgs false
namespace Go.Proofs.YtddmoldiopnifaaGreatDoor
open Go Go.Cv Go.ChangeShapes Go.WideShapes Go.ChangeAt Go.WideMaps Go.WideElems Go.RowKit
set_option maxRecDepth 100000 in
theorem polyBound_lifted (os : Os) (started : os.Started) (H : Type) (enc : TypeId × Value → H) :
    ReturnsInHanded {} Tryz.checked os 9 .any (fun w args => (Rows.polyBoundSpec.pre enc Tryz.prog Tryz.f9 [] false w args ∧ laidMetH Tryz.prog laid1 w) ∧ sizedMet enc Tryz.prog Tryz.f9 (OpenSpec.ofChange Rows.polyBoundSpec) false w args)
      (Rows.polyBoundSpec.post enc Tryz.prog Tryz.f9 false true false false) := by
  refine returnsInHanded_of_change_and (C := Tryz.checked) (X := fun w _ => laidMetH Tryz.prog laid1 w) (fun _ _ _ hh h => h.of_heap hh) own started (by kernel_rfl) Tryz.func9
    (ChangeSpec.witness_shaped (enc := enc) (C := Tryz.checked) (os := os) (X := fun w _ => laidMetH Tryz.prog laid1 w) false (World.doorLaid Tryz.prog 400 os) #[.int .u8 0, .slice none 0 0, .agg #[.int .u64 0, .int .u64 0]] 8 rfl (World.shaped_of_RefB (by kernel_rfl) (by kernel_rfl)) (by kernel_rfl) (by kernel_rfl) (by kernel_rfl) (door_met os _)) ?_
  intro W base args ds gs before hval0 hW _ _ hL _
  have hval : ∀ (j : Nat) t v, Tryz.f9.params[j]? = some t → args[j]? = some v → Value.okWide Tryz.prog W .any base t v := hval0
  have hW' := hW
  obtain ⟨p, q, hA0, hV, _, hfz, hnd⟩ := hW
  have hA : DataW.TrodAll enc Tryz.prog W 0 (fun _ => true) true Tryz.f9.params.toList args.toList ds p := hA0
  rw [Tryz.params9] at hA hval
  obtain ⟨v0, v1, v2, d0, d1, d2, p0, p1, p2, rfl, rfl, _, h0, h1, h2⟩ := trodAll_three hA
  obtain ⟨rfl, rfl⟩ := trodVars_none hV
  obtain ⟨a0, rfl, _, _, w0⟩ := open_int Tryz.underlying22 (hval 0 22 v0 rfl rfl) h0
  obtain ⟨z1, l1, hl1, hr1, hw1⟩ := open_zs (e := 25) (S := ⟨L0, W, fun r => r < W.heap.size, noι⟩) rfl (fun _ h => h) Tryz.underlying71 Tryz.underlying25 (by kernel_rfl) (by kernel_rfl) (by kernel_rfl) (by kernel_rfl) (hval 1 71 v1 rfl rfl) h1
  obtain ⟨u2, v2', hu2, hv2, hr2⟩ := open_z (S := ⟨L0, W, fun r => r < W.heap.size, noι⟩) Tryz.underlying25 (by kernel_rfl) (by kernel_rfl) (by kernel_rfl) (by kernel_rfl) (hval 2 25 v2 rfl rfl) h2
  refine law_run mixed prog_ok (f := 322) (by kernel_rfl) (law27_PolyBound (al 1) (hasK 1) (law27_known (al 1) (hasK 1)) (f := a0) (z := z1) (l := l1) hl1 hu2 hv2) (of_laid hL) ?_ fun W' hb => ?_
  · simp only [RelL]
    exact ⟨_, _, rfl, by simp only [Rel], _, _, rfl, hr1, _, _, rfl, hr2, rfl⟩
  · exact law_post (tb := 4) laidOut (by kernel_rfl) (by kernel_rfl) (by kernel_rfl) rfl rfl hW' hb
theorem polyBound_j1 : (Rows.polyBoundRow.inPlace == Tryz.prog.inPlace 9) = true := by kernel_rfl
theorem polyBound_j2 : (Rows.polyBoundRow.unfollowed == Tryz.prog.unfollowed 9) = true := by kernel_rfl
theorem polyBound_j3 : (Rows.polyBoundRow.recurses == Tryz.prog.recurses 9) = true := by kernel_rfl
theorem polyBound_j4 : (Rows.polyBoundRow.named == Tryz.prog.varsNamed 9) = true := by kernel_rfl
theorem polyBound_j5 : (Rows.polyBoundRow.lifted == Tryz.prog.liftsFinal) = true := by kernel_rfl
theorem polyBound_j6 : (Tryz.prog.make == some Rows.polyBoundRow.make) = true := by kernel_rfl
theorem polyBound_j7 : (Rows.polyBoundRow.plainKeys == Tryz.prog.plainKeys) = true := by kernel_rfl
theorem polyBound_jf : joinedFacts Tryz.prog 9 Tryz.f9 Rows.polyBoundSpec Rows.polyBoundRow = true := by
  unfold joinedFacts
  exact and2 (and2 (and2 (and2 (and2 (and2 (and2 (and2 (and2 (and2 (and2 (and2 (and2 (and2 (and2 (and2 (and2 (and2 (and2 (and2 (and2 (and2 (and2 (and2 (and2 (and2 (and2 (and2 (and2 (and2 (and2
    (by kernel_rfl) laidOut) jMaps) (by kernel_rfl)) (by kernel_rfl)) (by kernel_rfl)) (by kernel_rfl)) (by kernel_rfl)) (by kernel_rfl)) polyBound_j1) polyBound_j2) polyBound_j3) polyBound_j4)
    (by kernel_rfl)) (by kernel_rfl)) (by kernel_rfl)) (by kernel_rfl)) (by kernel_rfl)) (by kernel_rfl)) (by kernel_rfl)) (by kernel_rfl)) (by kernel_rfl)) polyBound_j7) (by kernel_rfl)) jHeard) jEnter)
    polyBound_j5) polyBound_j6) (by kernel_rfl)) (by kernel_rfl)) (by kernel_rfl)) (by kernel_rfl)
theorem polyBound_row : Rows.PolyBoundSaid :=
  OpenClaim.holds_of_wide 9 Tryz.f9 rfl rfl rfl rfl rfl rfl rfl ⟨rfl, rfl, rfl, rfl, rfl⟩ rfl rfl rfl rfl rfl (by kernel_rfl) Tryz.func9 polyBound_jf
    (of_decide_eq_true (by kernel_rfl)) (by unfold Func.isWrapper; first | (rw [if_pos (by decide +kernel)]; kernel_rfl) | (rw [if_neg (by decide +kernel)]; exact ⟨rfl, rfl⟩))
    (fun os started H enc _ => polyBound_lifted os started H enc)
theorem polyBound_looks : false = Tryz.prog.looks [] := by kernel_rfl
theorem polyBound_goes : false = Rows.polyBoundRow.goesBy Tryz.prog := by kernel_rfl
theorem polyBound_named : Tryz.prog.funcNamed "cutplane/cutplanelaw27.PolyBound" = some 9 := by kernel_rfl
theorem polyBound_holds : Rows.PolyBoundCardSaid :=
  Claim7.holds_tied_plain_at .later [] [.data] true (true, "b0f37cdfa2ae2fc16316a736f241ff3b5ba71204ecd29557ab30520f3bb49e40") false
    polyBound_row (fun _ h => by cases h) (by kernel_rfl) (fun _ h => by cases h) polyBound_row_tie rfl ⟨rfl, rfl⟩ (by kernel_rfl) rfl
    (fun f fn hf hfn => by
      obtain rfl : f = 9 := Option.some.inj (polyBound_named.symm.trans hf) |>.symm
      obtain rfl : fn = Tryz.f9 := (Option.some.inj (Tryz.func9.symm.trans hfn)).symm
      exact ⟨polyBound_looks, fun j t ht => by
        rw [Tryz.params9] at ht
        have h3 : t = 22 ∨ t = 25 ∨ t = 71 := by
          rcases j with _ | _ | _ | j
          · left; simpa using ht.symm
          · right; right; simpa using ht.symm
          · right; left; simpa using ht.symm
          · simp at ht
        rcases h3 with rfl | rfl | rfl
        · exact (show Tryz.prog.wantsStandIn 22 = false by kernel_rfl)
        · exact (show Tryz.prog.wantsStandIn 25 = false by kernel_rfl)
        · exact (show Tryz.prog.wantsStandIn 71 = false by kernel_rfl)⟩)
    polyBound_goes
#print axioms polyBound_holds
end Go.Proofs.YtddmoldiopnifaaGreatDoor
