/-
  The fast engine's quotient of any two numbers in the window is finite and within 12 units of the exact one, of any others it is the exact engine's, and just then the counter moves, for every input; no condition.
-/
import Derived.Test.YtddmoldiopnifaaGreatDoorM18
import Derived.Test.YtddmoldiopnifaaGreatDoorM17
import Derived.Test.YtddmoldiopnifaaGreatDoorCards
import Derived.Test.YtddmoldiopnifaaGreatDoorTie
set_option linter.unusedVariables false
set_option linter.unusedSimpArgs false
namespace Go.Proofs.YtddmoldiopnifaaGreatDoor
open Go Go.Cv Go.ChangeShapes Go.WideShapes Go.ChangeAt Go.WideMaps Go.WideElems Go.RowKit
set_option maxRecDepth 100000 in
theorem fastQuotients_lifted (os : Os) (started : os.Started) (H : Type) (enc : TypeId × Value → H) :
    ReturnsInHanded {} Tryz.checked os 4 .any (fun w args => (Rows.fastQuotientsSpec.pre enc Tryz.prog Tryz.f4 [] false w args ∧ laidMetH Tryz.prog laid1 w) ∧ sizedMet enc Tryz.prog Tryz.f4 (OpenSpec.ofChange Rows.fastQuotientsSpec) false w args)
      (Rows.fastQuotientsSpec.post enc Tryz.prog Tryz.f4 false true false false) := by
  refine returnsInHanded_of_change_and (C := Tryz.checked) (X := fun w _ => laidMetH Tryz.prog laid1 w) (fun _ _ _ hh h => h.of_heap hh) own started (by kernel_rfl) Tryz.func4
    (ChangeSpec.witness_shaped (enc := enc) (C := Tryz.checked) (os := os) (X := fun w _ => laidMetH Tryz.prog laid1 w) false (World.doorLaid Tryz.prog 400 os) #[.int .u8 0, .agg #[.int .u64 0, .int .u64 0], .agg #[.int .u64 0, .int .u64 0]] 8 rfl (World.shaped_of_RefB (by kernel_rfl) (by kernel_rfl)) (by kernel_rfl) (by kernel_rfl) (by kernel_rfl) (ZGP os _)) ?_
  intro W base args ds gs before hval0 hW _ hsz0 hL _
  have hval : ∀ (j : Nat) t v, Tryz.f4.params[j]? = some t → args[j]? = some v → Value.okWide Tryz.prog W .any base t v := hval0
  have hW' := hW
  obtain ⟨p, q, hA0, hV, _, hfz, hnd⟩ := hW
  have hA : DataW.TrodAll enc Tryz.prog W 0 (fun _ => true) true Tryz.f4.params.toList args.toList ds p := hA0
  rw [Tryz.params4] at hA hval
  obtain ⟨v0, v1, v2, d0, d1, d2, p0, p1, p2, rfl, rfl, _, h0, h1, h2⟩ := trodAll_three hA
  obtain ⟨rfl, rfl⟩ := trodVars_none hV
  obtain ⟨a0, rfl, _, _, w0⟩ := open_int Tryz.underlying22 (hval 0 22 v0 rfl rfl) h0
  obtain ⟨u1, v1', hu1, hv1, hr1⟩ := ZHs (S := ⟨L0, W, fun r => r < W.heap.size, noι⟩) Tryz.underlying25 (by kernel_rfl) (by kernel_rfl) (by kernel_rfl) (by kernel_rfl) (hval 1 25 v1 rfl rfl) h1
  obtain ⟨u2, v2', hu2, hv2, hr2⟩ := ZHs (S := ⟨L0, W, fun r => r < W.heap.size, noι⟩) Tryz.underlying25 (by kernel_rfl) (by kernel_rfl) (by kernel_rfl) (by kernel_rfl) (hval 2 25 v2 rfl rfl) h2
  refine ZHf mixed ZHm (f := 317) (by kernel_rfl) (ZgH (al 1) (hasM 1) (hasL 1) (f := a0) hu1 hv1 hu2 hv2) (ZHg hL) ?_ fun W' hb => ?_
  · simp only [RelL]
    exact ⟨_, _, rfl, by simp only [Rel], _, _, rfl, hr1, _, _, rfl, hr2, rfl⟩
  · exact ZGQ (tb := 4) laidOut (by kernel_rfl) (by kernel_rfl) (by kernel_rfl) rfl rfl hW' hb
theorem fastQuotients_j1 : (Rows.fastQuotientsRow.inPlace == Tryz.prog.inPlace 4) = true := by kernel_rfl
theorem fastQuotients_j2 : (Rows.fastQuotientsRow.unfollowed == Tryz.prog.unfollowed 4) = true := by kernel_rfl
theorem fastQuotients_j3 : (Rows.fastQuotientsRow.recurses == Tryz.prog.recurses 4) = true := by kernel_rfl
theorem fastQuotients_j4 : (Rows.fastQuotientsRow.named == Tryz.prog.varsNamed 4) = true := by kernel_rfl
theorem fastQuotients_j5 : (Rows.fastQuotientsRow.lifted == Tryz.prog.liftsFinal) = true := by kernel_rfl
theorem fastQuotients_j6 : (Tryz.prog.make == some Rows.fastQuotientsRow.make) = true := by kernel_rfl
theorem fastQuotients_j7 : (Rows.fastQuotientsRow.plainKeys == Tryz.prog.plainKeys) = true := by kernel_rfl
theorem fastQuotients_jf : joinedFacts Tryz.prog 4 Tryz.f4 Rows.fastQuotientsSpec Rows.fastQuotientsRow = true := by
  unfold joinedFacts
  exact and2 (and2 (and2 (and2 (and2 (and2 (and2 (and2 (and2 (and2 (and2 (and2 (and2 (and2 (and2 (and2 (and2 (and2 (and2 (and2 (and2 (and2 (and2 (and2 (and2 (and2 (and2 (and2 (and2 (and2 (and2
    (by kernel_rfl) laidOut) jMaps) (by kernel_rfl)) (by kernel_rfl)) (by kernel_rfl)) (by kernel_rfl)) (by kernel_rfl)) (by kernel_rfl)) fastQuotients_j1) fastQuotients_j2) fastQuotients_j3) fastQuotients_j4)
    (by kernel_rfl)) (by kernel_rfl)) (by kernel_rfl)) (by kernel_rfl)) (by kernel_rfl)) (by kernel_rfl)) (by kernel_rfl)) (by kernel_rfl)) (by kernel_rfl)) fastQuotients_j7) (by kernel_rfl)) jHeard) jEnter)
    fastQuotients_j5) fastQuotients_j6) (by kernel_rfl)) (by kernel_rfl)) (by kernel_rfl)) (by kernel_rfl)
theorem fastQuotients_row : Rows.FastQuotientsSaid :=
  OpenClaim.holds_of_wide 4 Tryz.f4 rfl rfl rfl rfl rfl rfl rfl ⟨rfl, rfl, rfl, rfl, rfl⟩ rfl rfl rfl rfl rfl (by kernel_rfl) Tryz.func4 fastQuotients_jf
    (of_decide_eq_true (by kernel_rfl)) (by unfold Func.isWrapper; first | (rw [if_pos (by decide +kernel)]; kernel_rfl) | (rw [if_neg (by decide +kernel)]; exact ⟨rfl, rfl⟩))
    (fun os started H enc _ => fastQuotients_lifted os started H enc)
theorem fastQuotients_looks : false = Tryz.prog.looks [] := by kernel_rfl
theorem fastQuotients_goes : false = Rows.fastQuotientsRow.goesBy Tryz.prog := by kernel_rfl
theorem fastQuotients_named : Tryz.prog.funcNamed "cutplane/cutplanelaw15.FastQuotients" = some 4 := by kernel_rfl
theorem fastQuotients_holds : Rows.FastQuotientsCardSaid :=
  Claim7.holds_tied_plain_at .later [] [.data] true (true, "b0f37cdfa2ae2fc16316a736f241ff3b5ba71204ecd29557ab30520f3bb49e40") false
    fastQuotients_row (fun _ h => by cases h) (by kernel_rfl) (fun _ h => by cases h) fastQuotients_row_tie rfl ⟨rfl, rfl⟩ (by kernel_rfl) rfl
    (fun f fn hf hfn => by
      obtain rfl : f = 4 := Option.some.inj (fastQuotients_named.symm.trans hf) |>.symm
      obtain rfl : fn = Tryz.f4 := (Option.some.inj (Tryz.func4.symm.trans hfn)).symm
      exact ⟨fastQuotients_looks, fun j t ht => by
        rw [Tryz.params4] at ht
        have h3 : t = 22 ∨ t = 25 := by
          rcases j with _ | _ | _ | j
          · left; simpa using ht.symm
          · right; simpa using ht.symm
          · right; simpa using ht.symm
          · simp at ht
        rcases h3 with rfl | rfl
        · exact (show Tryz.prog.wantsStandIn 22 = false by kernel_rfl)
        · exact (show Tryz.prog.wantsStandIn 25 = false by kernel_rfl)⟩)
    fastQuotients_goes
#print axioms fastQuotients_holds
end Go.Proofs.YtddmoldiopnifaaGreatDoor
