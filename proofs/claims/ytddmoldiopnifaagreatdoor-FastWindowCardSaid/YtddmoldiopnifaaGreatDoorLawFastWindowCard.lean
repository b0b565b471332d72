/-
  The window of each format, which numbers lie in it, and what an engine that is not there says are the document's, for every input; no condition.
-/
import Derived.Test.YtddmoldiopnifaaGreatDoorM18
import Derived.Test.YtddmoldiopnifaaGreatDoorM17
import Derived.Test.YtddmoldiopnifaaGreatDoorCards
import Derived.Test.YtddmoldiopnifaaGreatDoorTie
set_option linter.unusedVariables false
set_option linter.unusedSimpArgs false
namespace Go.Proofs.YtddmoldiopnifaaGreatDoor
open Go Go.Cv Go.ChangeShapes Go.WideShapes Go.ChangeAt Go.WideMaps Go.WideElems Go.RowKit
set_option maxRecDepth 100000 in
theorem fastWindow_lifted (os : Os) (started : os.Started) (H : Type) (enc : TypeId × Value → H) :
    ReturnsInHanded {} Tryz.checked os 6 .any (fun w args => (Rows.fastWindowSpec.pre enc Tryz.prog Tryz.f6 [] false w args ∧ laidMetH Tryz.prog laid1 w) ∧ sizedMet enc Tryz.prog Tryz.f6 (OpenSpec.ofChange Rows.fastWindowSpec) false w args)
      (Rows.fastWindowSpec.post enc Tryz.prog Tryz.f6 false true false false) := by
  refine returnsInHanded_of_change_and (C := Tryz.checked) (X := fun w _ => laidMetH Tryz.prog laid1 w) (fun _ _ _ hh h => h.of_heap hh) own started (by kernel_rfl) Tryz.func6
    (ChangeSpec.witness_shaped (enc := enc) (C := Tryz.checked) (os := os) (X := fun w _ => laidMetH Tryz.prog laid1 w) false (World.doorLaid Tryz.prog 400 os) #[.int .u8 0, .agg #[.int .u64 0, .int .u64 0]] 8 rfl (World.shaped_of_RefB (by kernel_rfl) (by kernel_rfl)) (by kernel_rfl) (by kernel_rfl) (by kernel_rfl) (ZHi os _)) ?_
  intro W base args ds gs before hval0 hW _ hsz0 hL _
  have hval : ∀ (j : Nat) t v, Tryz.f6.params[j]? = some t → args[j]? = some v → Value.okWide Tryz.prog W .any base t v := hval0
  have hW' := hW
  obtain ⟨p, q, hA0, hV, _, hfz, hnd⟩ := hW
  have hA : DataW.TrodAll enc Tryz.prog W 0 (fun _ => true) true Tryz.f6.params.toList args.toList ds p := hA0
  rw [Tryz.params6] at hA hval
  obtain ⟨v0, v1, d0, d1, p0, p1, rfl, rfl, _, h0, h1⟩ := trodAll_two hA
  obtain ⟨rfl, rfl⟩ := trodVars_none hV
  obtain ⟨a0, rfl, _, _, w0⟩ := open_int Tryz.underlying22 (hval 0 22 v0 rfl rfl) h0
  obtain ⟨u1, v1', hu1, hv1, hr1⟩ := ZHO (S := ⟨L0, W, fun r => r < W.heap.size, noι⟩) Tryz.underlying25 (by kernel_rfl) (by kernel_rfl) (by kernel_rfl) (by kernel_rfl) (hval 1 25 v1 rfl rfl) h1
  refine ZHB mixed ZHI (f := 319) (by kernel_rfl) (ZjT (al 1) (hasM 1) (hasL 1) (f := a0) hu1 hv1) (ZHC hL) ?_ fun W' hb => ?_
  · simp only [RelL]
    exact ⟨_, _, rfl, by simp only [Rel], _, _, rfl, hr1, rfl⟩
  · exact ZHj (tb := 4) laidOut (by kernel_rfl) (by kernel_rfl) (by kernel_rfl) rfl rfl hW' hb
theorem fastWindow_j1 : (Rows.fastWindowRow.inPlace == Tryz.prog.inPlace 6) = true := by kernel_rfl
theorem fastWindow_j2 : (Rows.fastWindowRow.unfollowed == Tryz.prog.unfollowed 6) = true := by kernel_rfl
theorem fastWindow_j3 : (Rows.fastWindowRow.recurses == Tryz.prog.recurses 6) = true := by kernel_rfl
theorem fastWindow_j4 : (Rows.fastWindowRow.named == Tryz.prog.varsNamed 6) = true := by kernel_rfl
theorem fastWindow_j5 : (Rows.fastWindowRow.lifted == Tryz.prog.liftsFinal) = true := by kernel_rfl
theorem fastWindow_j6 : (Tryz.prog.make == some Rows.fastWindowRow.make) = true := by kernel_rfl
theorem fastWindow_j7 : (Rows.fastWindowRow.plainKeys == Tryz.prog.plainKeys) = true := by kernel_rfl
theorem fastWindow_jf : joinedFacts Tryz.prog 6 Tryz.f6 Rows.fastWindowSpec Rows.fastWindowRow = true := by
  unfold joinedFacts
  exact and2 (and2 (and2 (and2 (and2 (and2 (and2 (and2 (and2 (and2 (and2 (and2 (and2 (and2 (and2 (and2 (and2 (and2 (and2 (and2 (and2 (and2 (and2 (and2 (and2 (and2 (and2 (and2 (and2 (and2 (and2
    (by kernel_rfl) laidOut) jMaps) (by kernel_rfl)) (by kernel_rfl)) (by kernel_rfl)) (by kernel_rfl)) (by kernel_rfl)) (by kernel_rfl)) fastWindow_j1) fastWindow_j2) fastWindow_j3) fastWindow_j4)
    (by kernel_rfl)) (by kernel_rfl)) (by kernel_rfl)) (by kernel_rfl)) (by kernel_rfl)) (by kernel_rfl)) (by kernel_rfl)) (by kernel_rfl)) (by kernel_rfl)) fastWindow_j7) (by kernel_rfl)) jHeard) jEnter)
    fastWindow_j5) fastWindow_j6) (by kernel_rfl)) (by kernel_rfl)) (by kernel_rfl)) (by kernel_rfl)
theorem fastWindow_row : Rows.FastWindowSaid :=
  OpenClaim.holds_of_wide 6 Tryz.f6 rfl rfl rfl rfl rfl rfl rfl ⟨rfl, rfl, rfl, rfl, rfl⟩ rfl rfl rfl rfl rfl (by kernel_rfl) Tryz.func6 fastWindow_jf
    (of_decide_eq_true (by kernel_rfl)) (by unfold Func.isWrapper; first | (rw [if_pos (by decide +kernel)]; kernel_rfl) | (rw [if_neg (by decide +kernel)]; exact ⟨rfl, rfl⟩))
    (fun os started H enc _ => fastWindow_lifted os started H enc)
theorem fastWindow_looks : false = Tryz.prog.looks [] := by kernel_rfl
theorem fastWindow_goes : false = Rows.fastWindowRow.goesBy Tryz.prog := by kernel_rfl
theorem fastWindow_named : Tryz.prog.funcNamed "cutplane/cutplanelaw15.FastWindow" = some 6 := by kernel_rfl
theorem fastWindow_holds : Rows.FastWindowCardSaid :=
  Claim7.holds_tied_plain_at .later [] [.data] true (true, "b0f37cdfa2ae2fc16316a736f241ff3b5ba71204ecd29557ab30520f3bb49e40") false
    fastWindow_row (fun _ h => by cases h) (by kernel_rfl) (fun _ h => by cases h) fastWindow_row_tie rfl ⟨rfl, rfl⟩ (by kernel_rfl) rfl
    (fun f fn hf hfn => by
      obtain rfl : f = 6 := Option.some.inj (fastWindow_named.symm.trans hf) |>.symm
      obtain rfl : fn = Tryz.f6 := (Option.some.inj (Tryz.func6.symm.trans hfn)).symm
      exact ⟨fastWindow_looks, fun j t ht => by
        rw [Tryz.params6] at ht
        have h3 : t = 22 ∨ t = 25 := by
          rcases j with _ | _ | j
          · left; simpa using ht.symm
          · right; simpa using ht.symm
          · simp at ht
        rcases h3 with rfl | rfl
        · exact (show Tryz.prog.wantsStandIn 22 = false by kernel_rfl)
        · exact (show Tryz.prog.wantsStandIn 25 = false by kernel_rfl)⟩)
    fastWindow_goes
#print axioms fastWindow_holds
end Go.Proofs.YtddmoldiopnifaaGreatDoor
