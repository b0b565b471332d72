/-
  For every input the law PolyDerives answers true; no condition.
-/
import Derived.Test.YtddmoldiopnifaaGreatDoorM19
import Derived.SizedLaws
import Derived.Test.YtddmoldiopnifaaGreatDoorM18
import Derived.Test.YtddmoldiopnifaaGreatDoorCards
import Derived.Test.YtddmoldiopnifaaGreatDoorTie
set_option linter.unusedVariables false
set_option linter.unusedSimpArgs false
namespace Go.Proofs.YtddmoldiopnifaaGreatDoor
open Go Go.Cv Go.ChangeShapes Go.WideShapes Go.ChangeAt Go.WideMaps Go.WideElems Go.RowKit
set_option maxRecDepth 100000 in
theorem polyDerives_lifted (os : Os) (started : os.Started) (H : Type) (enc : TypeId × Value → H) :
    ReturnsInHanded {} Tryz.checked os 12 .any (fun w args => (Rows.polyDerivesSpec.pre enc Tryz.prog Tryz.f12 [] false w args ∧ laidMetH Tryz.prog laid1 w) ∧ sizedMet enc Tryz.prog Tryz.f12 (OpenSpec.ofChange Rows.polyDerivesSpec) false w args)
      (Rows.polyDerivesSpec.post enc Tryz.prog Tryz.f12 false true false false) := by
  refine returnsInHanded_of_change_and (C := Tryz.checked) (X := fun w _ => laidMetH Tryz.prog laid1 w) (fun _ _ _ hh h => h.of_heap hh) own started (by kernel_rfl) Tryz.func12
    (ChangeSpec.witness_shaped (enc := enc) (C := Tryz.checked) (os := os) (X := fun w _ => laidMetH Tryz.prog laid1 w) false (World.doorLaid Tryz.prog 400 os) #[.int .u8 0, .slice none 0 0] 8 rfl (World.shaped_of_RefB (by kernel_rfl) (by kernel_rfl)) (by kernel_rfl) (by kernel_rfl) (by kernel_rfl) (ZIr os _)) ?_
  intro W base args ds gs before hval0 hW _ hsz0 hL _
  have hval : ∀ (j : Nat) t v, Tryz.f12.params[j]? = some t → args[j]? = some v → Value.okWide Tryz.prog W .any base t v := hval0
  have hW' := hW
  obtain ⟨p, q, hA0, hV, _, hfz, hnd⟩ := hW
  have hA : DataW.TrodAll enc Tryz.prog W 0 (fun _ => true) true Tryz.f12.params.toList args.toList ds p := hA0
  rw [Tryz.params12] at hA hval
  obtain ⟨v0, v1, d0, d1, p0, p1, rfl, rfl, _, h0, h1⟩ := trodAll_two hA
  obtain ⟨rfl, rfl⟩ := trodVars_none hV
  obtain ⟨a0, rfl, _, _, w0⟩ := open_int Tryz.underlying22 (hval 0 22 v0 rfl rfl) h0
  obtain ⟨z1, l1, hl1, hr1, hw1⟩ := ZIQ (e := 25) (S := ⟨L0, W, fun r => r < W.heap.size, noι⟩) rfl (fun _ h => h) Tryz.underlying71 Tryz.underlying25 (by kernel_rfl) (by kernel_rfl) (by kernel_rfl) (by kernel_rfl) (hval 1 71 v1 rfl rfl) h1
  have hq1 : l1.length * 16 ≤ 140737488351232 := by
    rcases hw1 with q | ⟨es, sp, q, he⟩
    · rw [q]; decide
    · have x := sized_slice hsz0 (j := 1) (elems := es) (spare := sp) (t := 71) (by rfl) (by rw [q]; rfl) Tryz.underlying71
      have hb : Tryz.prog.bytesOf 25 = 16 := by kernel_rfl
      have x : (es.length + sp.length) * Tryz.prog.bytesOf 25 ≤ reachBytes := x
      rw [hb, Nat.add_mul] at x
      have y : reachBytes = 140737488351232 := rfl
      omega
  refine ZIG mixed ZIB (f := 325) (by kernel_rfl) (Zjm (al 1) (hasK 1) (f := a0) (z := z1) (l := l1) hl1 hq1) (ZIU hL) ?_ fun W' hb => ?_
  · simp only [RelL]
    exact ⟨_, _, rfl, by simp only [Rel], _, _, rfl, hr1, rfl⟩
  · exact ZIs (tb := 4) laidOut (by kernel_rfl) (by kernel_rfl) (by kernel_rfl) rfl rfl hW' hb
theorem polyDerives_j1 : (Rows.polyDerivesRow.inPlace == Tryz.prog.inPlace 12) = true := by kernel_rfl
theorem polyDerives_j2 : (Rows.polyDerivesRow.unfollowed == Tryz.prog.unfollowed 12) = true := by kernel_rfl
theorem polyDerives_j3 : (Rows.polyDerivesRow.recurses == Tryz.prog.recurses 12) = true := by kernel_rfl
theorem polyDerives_j4 : (Rows.polyDerivesRow.named == Tryz.prog.varsNamed 12) = true := by kernel_rfl
theorem polyDerives_j5 : (Rows.polyDerivesRow.lifted == Tryz.prog.liftsFinal) = true := by kernel_rfl
theorem polyDerives_j6 : (Tryz.prog.make == some Rows.polyDerivesRow.make) = true := by kernel_rfl
theorem polyDerives_j7 : (Rows.polyDerivesRow.plainKeys == Tryz.prog.plainKeys) = true := by kernel_rfl
theorem polyDerives_jf : joinedFacts Tryz.prog 12 Tryz.f12 Rows.polyDerivesSpec Rows.polyDerivesRow = true := by
  unfold joinedFacts
  exact and2 (and2 (and2 (and2 (and2 (and2 (and2 (and2 (and2 (and2 (and2 (and2 (and2 (and2 (and2 (and2 (and2 (and2 (and2 (and2 (and2 (and2 (and2 (and2 (and2 (and2 (and2 (and2 (and2 (and2 (and2
    (by kernel_rfl) laidOut) jMaps) (by kernel_rfl)) (by kernel_rfl)) (by kernel_rfl)) (by kernel_rfl)) (by kernel_rfl)) (by kernel_rfl)) polyDerives_j1) polyDerives_j2) polyDerives_j3) polyDerives_j4)
    (by kernel_rfl)) (by kernel_rfl)) (by kernel_rfl)) (by kernel_rfl)) (by kernel_rfl)) (by kernel_rfl)) (by kernel_rfl)) (by kernel_rfl)) (by kernel_rfl)) polyDerives_j7) (by kernel_rfl)) jHeard) jEnter)
    polyDerives_j5) polyDerives_j6) (by kernel_rfl)) (by kernel_rfl)) (by kernel_rfl)) (by kernel_rfl)
theorem polyDerives_row : Rows.PolyDerivesSaid :=
  OpenClaim.holds_of_wide 12 Tryz.f12 rfl rfl rfl rfl rfl rfl rfl ⟨rfl, rfl, rfl, rfl, rfl⟩ rfl rfl rfl rfl rfl (by kernel_rfl) Tryz.func12 polyDerives_jf
    (of_decide_eq_true (by kernel_rfl)) (by unfold Func.isWrapper; first | (rw [if_pos (by decide +kernel)]; kernel_rfl) | (rw [if_neg (by decide +kernel)]; exact ⟨rfl, rfl⟩))
    (fun os started H enc _ => polyDerives_lifted os started H enc)
theorem polyDerives_looks : false = Tryz.prog.looks [] := by kernel_rfl
theorem polyDerives_goes : false = Rows.polyDerivesRow.goesBy Tryz.prog := by kernel_rfl
theorem polyDerives_named : Tryz.prog.funcNamed "cutplane/cutplanelaw27.PolyDerives" = some 12 := by kernel_rfl
theorem polyDerives_holds : Rows.PolyDerivesCardSaid :=
  Claim7.holds_tied_plain_at .later [] [.data] true (true, "b0f37cdfa2ae2fc16316a736f241ff3b5ba71204ecd29557ab30520f3bb49e40") false
    polyDerives_row (fun _ h => by cases h) (by kernel_rfl) (fun _ h => by cases h) polyDerives_row_tie rfl ⟨rfl, rfl⟩ (by kernel_rfl) rfl
    (fun f fn hf hfn => by
      obtain rfl : f = 12 := Option.some.inj (polyDerives_named.symm.trans hf) |>.symm
      obtain rfl : fn = Tryz.f12 := (Option.some.inj (Tryz.func12.symm.trans hfn)).symm
      exact ⟨polyDerives_looks, fun j t ht => by
        rw [Tryz.params12] at ht
        have h3 : t = 22 ∨ t = 71 := by
          rcases j with _ | _ | j
          · left; simpa using ht.symm
          · right; simpa using ht.symm
          · simp at ht
        rcases h3 with rfl | rfl
        · exact (show Tryz.prog.wantsStandIn 22 = false by kernel_rfl)
        · exact (show Tryz.prog.wantsStandIn 71 = false by kernel_rfl)⟩)
    polyDerives_goes
#print axioms polyDerives_holds
end Go.Proofs.YtddmoldiopnifaaGreatDoor
