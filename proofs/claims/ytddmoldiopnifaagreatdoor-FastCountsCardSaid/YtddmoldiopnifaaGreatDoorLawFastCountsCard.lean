/-
  Whatever is asked of an engine, one call after the other, its counter is how many of the calls had an operand outside the window, and another engine's stays where it is, for every input; no condition.
-/
import Derived.Test.YtddmoldiopnifaaGreatDoorM18
import Derived.Test.YtddmoldiopnifaaGreatDoorM17
import Derived.Test.YtddmoldiopnifaaGreatDoorCards
import Derived.Test.YtddmoldiopnifaaGreatDoorTie
set_option linter.unusedVariables false
set_option linter.unusedSimpArgs false
namespace Go.Proofs.YtddmoldiopnifaaGreatDoor
open Go Go.Cv Go.ChangeShapes Go.WideShapes Go.ChangeAt Go.WideMaps Go.WideElems Go.RowKit
set_option maxRecDepth 100000 in
theorem fastCounts_lifted (os : Os) (started : os.Started) (H : Type) (enc : TypeId × Value → H) :
    ReturnsInHanded {} Tryz.checked os 7 .any (fun w args => (Rows.fastCountsSpec.pre enc Tryz.prog Tryz.f7 [] false w args ∧ laidMetH Tryz.prog laid1 w) ∧ sizedMet enc Tryz.prog Tryz.f7 (OpenSpec.ofChange Rows.fastCountsSpec) false w args)
      (Rows.fastCountsSpec.post enc Tryz.prog Tryz.f7 false true false false) := by
  refine returnsInHanded_of_change_and (C := Tryz.checked) (X := fun w _ => laidMetH Tryz.prog laid1 w) (fun _ _ _ hh h => h.of_heap hh) own started (by kernel_rfl) Tryz.func7
    (ChangeSpec.witness_shaped (enc := enc) (C := Tryz.checked) (os := os) (X := fun w _ => laidMetH Tryz.prog laid1 w) false (World.doorLaid Tryz.prog 400 os) #[.int .u8 0, .slice none 0 0] 8 rfl (World.shaped_of_RefB (by kernel_rfl) (by kernel_rfl)) (by kernel_rfl) (by kernel_rfl) (by kernel_rfl) (ZGT os _)) ?_
  intro W base args ds gs before hval0 hW _ hsz0 hL _
  have hval : ∀ (j : Nat) t v, Tryz.f7.params[j]? = some t → args[j]? = some v → Value.okWide Tryz.prog W .any base t v := hval0
  have hW' := hW
  obtain ⟨p, q, hA0, hV, _, hfz, hnd⟩ := hW
  have hA : DataW.TrodAll enc Tryz.prog W 0 (fun _ => true) true Tryz.f7.params.toList args.toList ds p := hA0
  rw [Tryz.params7] at hA hval
  obtain ⟨v0, v1, d0, d1, p0, p1, rfl, rfl, _, h0, h1⟩ := trodAll_two hA
  obtain ⟨rfl, rfl⟩ := trodVars_none hV
  obtain ⟨a0, rfl, _, _, w0⟩ := open_int Tryz.underlying22 (hval 0 22 v0 rfl rfl) h0
  obtain ⟨z1, l1, hl1, hr1⟩ := ZHo (e := 69) (S := ⟨L0, W, fun r => r < W.heap.size, noι⟩) rfl (fun _ h => h) Tryz.underlying67 Tryz.underlying69 (by kernel_rfl) (by kernel_rfl) (by kernel_rfl) (by kernel_rfl) (by kernel_rfl) (by kernel_rfl) (by kernel_rfl) (by kernel_rfl) Tryz.underlying25 Tryz.underlying25 (by kernel_rfl) (by kernel_rfl) (by kernel_rfl) (hval 1 67 v1 rfl rfl) h1
  refine ZHj mixed ZHs (f := 320) (by kernel_rfl) (ZiZ (al 1) (hasM 1) (hasL 1) (f := a0) (z := z1) (l := l1) hl1) (ZHl hL) ?_ fun W' hb => ?_
  · simp only [RelL]
    exact ⟨_, _, rfl, by simp only [Rel], _, _, rfl, hr1, rfl⟩
  · exact ZGU (tb := 4) laidOut (by kernel_rfl) (by kernel_rfl) (by kernel_rfl) rfl rfl hW' hb
theorem fastCounts_j1 : (Rows.fastCountsRow.inPlace == Tryz.prog.inPlace 7) = true := by kernel_rfl
theorem fastCounts_j2 : (Rows.fastCountsRow.unfollowed == Tryz.prog.unfollowed 7) = true := by kernel_rfl
theorem fastCounts_j3 : (Rows.fastCountsRow.recurses == Tryz.prog.recurses 7) = true := by kernel_rfl
theorem fastCounts_j4 : (Rows.fastCountsRow.named == Tryz.prog.varsNamed 7) = true := by kernel_rfl
theorem fastCounts_j5 : (Rows.fastCountsRow.lifted == Tryz.prog.liftsFinal) = true := by kernel_rfl
theorem fastCounts_j6 : (Tryz.prog.make == some Rows.fastCountsRow.make) = true := by kernel_rfl
theorem fastCounts_j7 : (Rows.fastCountsRow.plainKeys == Tryz.prog.plainKeys) = true := by kernel_rfl
theorem fastCounts_jf : joinedFacts Tryz.prog 7 Tryz.f7 Rows.fastCountsSpec Rows.fastCountsRow = true := by
  unfold joinedFacts
  exact and2 (and2 (and2 (and2 (and2 (and2 (and2 (and2 (and2 (and2 (and2 (and2 (and2 (and2 (and2 (and2 (and2 (and2 (and2 (and2 (and2 (and2 (and2 (and2 (and2 (and2 (and2 (and2 (and2 (and2 (and2
    (by kernel_rfl) laidOut) jMaps) (by kernel_rfl)) (by kernel_rfl)) (by kernel_rfl)) (by kernel_rfl)) (by kernel_rfl)) (by kernel_rfl)) fastCounts_j1) fastCounts_j2) fastCounts_j3) fastCounts_j4)
    (by kernel_rfl)) (by kernel_rfl)) (by kernel_rfl)) (by kernel_rfl)) (by kernel_rfl)) (by kernel_rfl)) (by kernel_rfl)) (by kernel_rfl)) (by kernel_rfl)) fastCounts_j7) (by kernel_rfl)) jHeard) jEnter)
    fastCounts_j5) fastCounts_j6) (by kernel_rfl)) (by kernel_rfl)) (by kernel_rfl)) (by kernel_rfl)
theorem fastCounts_row : Rows.FastCountsSaid :=
  OpenClaim.holds_of_wide 7 Tryz.f7 rfl rfl rfl rfl rfl rfl rfl ⟨rfl, rfl, rfl, rfl, rfl⟩ rfl rfl rfl rfl rfl (by kernel_rfl) Tryz.func7 fastCounts_jf
    (of_decide_eq_true (by kernel_rfl)) (by unfold Func.isWrapper; first | (rw [if_pos (by decide +kernel)]; kernel_rfl) | (rw [if_neg (by decide +kernel)]; exact ⟨rfl, rfl⟩))
    (fun os started H enc _ => fastCounts_lifted os started H enc)
theorem fastCounts_looks : false = Tryz.prog.looks [] := by kernel_rfl
theorem fastCounts_goes : false = Rows.fastCountsRow.goesBy Tryz.prog := by kernel_rfl
theorem fastCounts_named : Tryz.prog.funcNamed "cutplane/cutplanelaw15.FastCounts" = some 7 := by kernel_rfl
theorem fastCounts_holds : Rows.FastCountsCardSaid :=
  Claim7.holds_tied_plain_at .later [] [.data] true (true, "b0f37cdfa2ae2fc16316a736f241ff3b5ba71204ecd29557ab30520f3bb49e40") false
    fastCounts_row (fun _ h => by cases h) (by kernel_rfl) (fun _ h => by cases h) fastCounts_row_tie rfl ⟨rfl, rfl⟩ (by kernel_rfl) rfl
    (fun f fn hf hfn => by
      obtain rfl : f = 7 := Option.some.inj (fastCounts_named.symm.trans hf) |>.symm
      obtain rfl : fn = Tryz.f7 := (Option.some.inj (Tryz.func7.symm.trans hfn)).symm
      exact ⟨fastCounts_looks, fun j t ht => by
        rw [Tryz.params7] at ht
        have h3 : t = 22 ∨ t = 67 := by
          rcases j with _ | _ | j
          · left; simpa using ht.symm
          · right; simpa using ht.symm
          · simp at ht
        rcases h3 with rfl | rfl
        · exact (show Tryz.prog.wantsStandIn 22 = false by kernel_rfl)
        · exact (show Tryz.prog.wantsStandIn 67 = false by kernel_rfl)⟩)
    fastCounts_goes
#print axioms fastCounts_holds
end Go.Proofs.YtddmoldiopnifaaGreatDoor
