/-
  The fast engine's modulus of any number in the window is at most two steps from the one that is rounded rightly, of any other it is that, for every input; no condition.
-/
import Derived.Test.YtddmoldiopnifaaGreatDoorM18
import Derived.Test.YtddmoldiopnifaaGreatDoorM17
import Derived.Test.YtddmoldiopnifaaGreatDoorCards
import Derived.Test.YtddmoldiopnifaaGreatDoorTie
set_option linter.unusedVariables false
set_option linter.unusedSimpArgs false
namespace Go.Proofs.YtddmoldiopnifaaGreatDoor
open Go Go.Cv Go.ChangeShapes Go.WideShapes Go.ChangeAt Go.WideMaps Go.WideElems Go.RowKit
set_option maxRecDepth 100000 in
theorem fastSizes_lifted (os : Os) (started : os.Started) (H : Type) (enc : TypeId × Value → H) :
    ReturnsInHanded {} Tryz.checked os 5 .any (fun w args => (Rows.fastSizesSpec.pre enc Tryz.prog Tryz.f5 [] false w args ∧ laidMetH Tryz.prog laid1 w) ∧ sizedMet enc Tryz.prog Tryz.f5 (OpenSpec.ofChange Rows.fastSizesSpec) false w args)
      (Rows.fastSizesSpec.post enc Tryz.prog Tryz.f5 false true false false) := by
  refine returnsInHanded_of_change_and (C := Tryz.checked) (X := fun w _ => laidMetH Tryz.prog laid1 w) (fun _ _ _ hh h => h.of_heap hh) own started (by kernel_rfl) Tryz.func5
    (ChangeSpec.witness_shaped (enc := enc) (C := Tryz.checked) (os := os) (X := fun w _ => laidMetH Tryz.prog laid1 w) false (World.doorLaid Tryz.prog 400 os) #[.int .u8 0, .agg #[.int .u64 0, .int .u64 0]] 8 rfl (World.shaped_of_RefB (by kernel_rfl) (by kernel_rfl)) (by kernel_rfl) (by kernel_rfl) (by kernel_rfl) (ZGT os _)) ?_
  intro W base args ds gs before hval0 hW _ hsz0 hL _
  have hval : ∀ (j : Nat) t v, Tryz.f5.params[j]? = some t → args[j]? = some v → Value.okWide Tryz.prog W .any base t v := hval0
  have hW' := hW
  obtain ⟨p, q, hA0, hV, _, hfz, hnd⟩ := hW
  have hA : DataW.TrodAll enc Tryz.prog W 0 (fun _ => true) true Tryz.f5.params.toList args.toList ds p := hA0
  rw [Tryz.params5] at hA hval
  obtain ⟨v0, v1, d0, d1, p0, p1, rfl, rfl, _, h0, h1⟩ := trodAll_two hA
  obtain ⟨rfl, rfl⟩ := trodVars_none hV
  obtain ⟨a0, rfl, _, _, w0⟩ := open_int Tryz.underlying22 (hval 0 22 v0 rfl rfl) h0
  obtain ⟨u1, v1', hu1, hv1, hr1⟩ := ZHy (S := ⟨L0, W, fun r => r < W.heap.size, noι⟩) Tryz.underlying25 (by kernel_rfl) (by kernel_rfl) (by kernel_rfl) (by kernel_rfl) (hval 1 25 v1 rfl rfl) h1
  refine ZHj mixed ZHs (f := 318) (by kernel_rfl) (Zjt (al 1) (hasM 1) (hasL 1) (f := a0) hu1 hv1) (ZHl hL) ?_ fun W' hb => ?_
  · simp only [RelL]
    exact ⟨_, _, rfl, by simp only [Rel], _, _, rfl, hr1, rfl⟩
  · exact ZGU (tb := 4) laidOut (by kernel_rfl) (by kernel_rfl) (by kernel_rfl) rfl rfl hW' hb
theorem fastSizes_j1 : (Rows.fastSizesRow.inPlace == Tryz.prog.inPlace 5) = true := by kernel_rfl
theorem fastSizes_j2 : (Rows.fastSizesRow.unfollowed == Tryz.prog.unfollowed 5) = true := by kernel_rfl
theorem fastSizes_j3 : (Rows.fastSizesRow.recurses == Tryz.prog.recurses 5) = true := by kernel_rfl
theorem fastSizes_j4 : (Rows.fastSizesRow.named == Tryz.prog.varsNamed 5) = true := by kernel_rfl
theorem fastSizes_j5 : (Rows.fastSizesRow.lifted == Tryz.prog.liftsFinal) = true := by kernel_rfl
theorem fastSizes_j6 : (Tryz.prog.make == some Rows.fastSizesRow.make) = true := by kernel_rfl
theorem fastSizes_j7 : (Rows.fastSizesRow.plainKeys == Tryz.prog.plainKeys) = true := by kernel_rfl
theorem fastSizes_jf : joinedFacts Tryz.prog 5 Tryz.f5 Rows.fastSizesSpec Rows.fastSizesRow = true := by
  unfold joinedFacts
  exact and2 (and2 (and2 (and2 (and2 (and2 (and2 (and2 (and2 (and2 (and2 (and2 (and2 (and2 (and2 (and2 (and2 (and2 (and2 (and2 (and2 (and2 (and2 (and2 (and2 (and2 (and2 (and2 (and2 (and2 (and2
    (by kernel_rfl) laidOut) jMaps) (by kernel_rfl)) (by kernel_rfl)) (by kernel_rfl)) (by kernel_rfl)) (by kernel_rfl)) (by kernel_rfl)) fastSizes_j1) fastSizes_j2) fastSizes_j3) fastSizes_j4)
    (by kernel_rfl)) (by kernel_rfl)) (by kernel_rfl)) (by kernel_rfl)) (by kernel_rfl)) (by kernel_rfl)) (by kernel_rfl)) (by kernel_rfl)) (by kernel_rfl)) fastSizes_j7) (by kernel_rfl)) jHeard) jEnter)
    fastSizes_j5) fastSizes_j6) (by kernel_rfl)) (by kernel_rfl)) (by kernel_rfl)) (by kernel_rfl)
theorem fastSizes_row : Rows.FastSizesSaid :=
  OpenClaim.holds_of_wide 5 Tryz.f5 rfl rfl rfl rfl rfl rfl rfl ⟨rfl, rfl, rfl, rfl, rfl⟩ rfl rfl rfl rfl rfl (by kernel_rfl) Tryz.func5 fastSizes_jf
    (of_decide_eq_true (by kernel_rfl)) (by unfold Func.isWrapper; first | (rw [if_pos (by decide +kernel)]; kernel_rfl) | (rw [if_neg (by decide +kernel)]; exact ⟨rfl, rfl⟩))
    (fun os started H enc _ => fastSizes_lifted os started H enc)
theorem fastSizes_looks : false = Tryz.prog.looks [] := by kernel_rfl
theorem fastSizes_goes : false = Rows.fastSizesRow.goesBy Tryz.prog := by kernel_rfl
theorem fastSizes_named : Tryz.prog.funcNamed "cutplane/cutplanelaw15.FastSizes" = some 5 := by kernel_rfl
theorem fastSizes_holds : Rows.FastSizesCardSaid :=
  Claim7.holds_tied_plain_at .later [] [.data] true (true, "b0f37cdfa2ae2fc16316a736f241ff3b5ba71204ecd29557ab30520f3bb49e40") false
    fastSizes_row (fun _ h => by cases h) (by kernel_rfl) (fun _ h => by cases h) fastSizes_row_tie rfl ⟨rfl, rfl⟩ (by kernel_rfl) rfl
    (fun f fn hf hfn => by
      obtain rfl : f = 5 := Option.some.inj (fastSizes_named.symm.trans hf) |>.symm
      obtain rfl : fn = Tryz.f5 := (Option.some.inj (Tryz.func5.symm.trans hfn)).symm
      exact ⟨fastSizes_looks, fun j t ht => by
        rw [Tryz.params5] at ht
        have h3 : t = 22 ∨ t = 25 := by
          rcases j with _ | _ | j
          · left; simpa using ht.symm
          · right; simpa using ht.symm
          · simp at ht
        rcases h3 with rfl | rfl
        · exact (show Tryz.prog.wantsStandIn 22 = false by kernel_rfl)
        · exact (show Tryz.prog.wantsStandIn 25 = false by kernel_rfl)⟩)
    fastSizes_goes
#print axioms fastSizes_holds
end Go.Proofs.YtddmoldiopnifaaGreatDoor
