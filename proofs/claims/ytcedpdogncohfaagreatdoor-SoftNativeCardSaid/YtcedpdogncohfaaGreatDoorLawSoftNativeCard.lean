/-
  In the mode ToEven sums, differences, products, quotients and roots of any two words are what Go's own floats come to.
-/
import Derived.Test.YtcedpdogncohfaaGreatDoorM15
import Derived.Test.YtcedpdogncohfaaGreatDoorM14
import Derived.Test.YtcedpdogncohfaaGreatDoorCards
import Derived.Test.YtcedpdogncohfaaGreatDoorTie
set_option linter.unusedVariables false
set_option linter.unusedSimpArgs false
namespace Go.Proofs.YtcedpdogncohfaaGreatDoor
open Go Go.Cv Go.ChangeShapes Go.WideShapes Go.ChangeAt Go.WideMaps Go.WideElems Go.RowKit
theorem word_of {a : Int} (h : (Lit.int .u64 a).wf = true) : ∃ k : Nat, k < 18446744073709551616 ∧ a = (k : Int) := by
  have h2 : (decide ((0 : Int) ≤ a) && decide (a ≤ 18446744073709551615)) = true := h
  simp only [Bool.and_eq_true, decide_eq_true_eq] at h2
  exact ⟨a.toNat, by omega, by omega⟩
set_option maxRecDepth 100000 in
theorem softNative_lifted (os : Os) (started : os.Started) (H : Type) (enc : TypeId × Value → H) :
    ReturnsInHanded {} Tryz.checked os 3 .any (fun w args => (Rows.softNativeSpec.pre enc Tryz.prog Tryz.f3 [] false w args ∧ laidMetH Tryz.prog laid1 w) ∧ sizedMet enc Tryz.prog Tryz.f3 (OpenSpec.ofChange Rows.softNativeSpec) false w args)
      (Rows.softNativeSpec.post enc Tryz.prog Tryz.f3 false true false false) := by
  refine returnsInHanded_of_change_and (C := Tryz.checked) (X := fun w _ => laidMetH Tryz.prog laid1 w) (fun _ _ _ hh h => h.of_heap hh) own started (by kernel_rfl) Tryz.func3
    (ChangeSpec.witness_shaped (enc := enc) (C := Tryz.checked) (os := os) (X := fun w _ => laidMetH Tryz.prog laid1 w) false (World.doorLaid Tryz.prog 400 os) #[.int .u64 0, .int .u64 0] 8 rfl (World.shaped_of_RefB (by kernel_rfl) (by kernel_rfl)) (by kernel_rfl) (by kernel_rfl) (by kernel_rfl) (door_met os _)) ?_
  intro W base args ds gs before hval0 hW _ hsz0 hL _
  have hval : ∀ (j : Nat) t v, Tryz.f3.params[j]? = some t → args[j]? = some v → Value.okWide Tryz.prog W .any base t v := hval0
  have hW' := hW
  obtain ⟨p, q, hA0, hV, _, hfz, hnd⟩ := hW
  have hA : DataW.TrodAll enc Tryz.prog W 0 (fun _ => true) true Tryz.f3.params.toList args.toList ds p := hA0
  rw [Tryz.params3] at hA hval
  obtain ⟨v0, v1, d0, d1, p0, p1, rfl, rfl, _, h0, h1⟩ := trodAll_two hA
  obtain ⟨rfl, rfl⟩ := trodVars_none hV
  obtain ⟨a0, rfl, _, _, w0⟩ := open_int Tryz.underlying22 (hval 0 22 v0 rfl rfl) h0
  obtain ⟨k0, hk0, rfl⟩ := word_of w0
  obtain ⟨a1, rfl, _, _, w1⟩ := open_int Tryz.underlying22 (hval 1 22 v1 rfl rfl) h1
  obtain ⟨k1, hk1, rfl⟩ := word_of w1
  refine law_run mixed prog_ok (f := 407) (by kernel_rfl) (law05_SoftNative (al 1) (hasL 1) (hasM 1) (hasN 1) known05b hk0 hk1) (of_laid hL) ?_ fun W' hb => ?_
  · simp only [RelL]
    exact ⟨_, _, rfl, by simp only [Rel], _, _, rfl, by simp only [Rel], rfl⟩
  · exact law_post (tb := 4) laidOut (by kernel_rfl) (by kernel_rfl) (by kernel_rfl) rfl rfl hW' hb
theorem softNative_j1 : (Rows.softNativeRow.inPlace == Tryz.prog.inPlace 3) = true := by kernel_rfl
theorem softNative_j2 : (Rows.softNativeRow.unfollowed == Tryz.prog.unfollowed 3) = true := by kernel_rfl
theorem softNative_j3 : (Rows.softNativeRow.recurses == Tryz.prog.recurses 3) = true := by kernel_rfl
theorem softNative_j4 : (Rows.softNativeRow.named == Tryz.prog.varsNamed 3) = true := by kernel_rfl
theorem softNative_j5 : (Rows.softNativeRow.lifted == Tryz.prog.liftsFinal) = true := by kernel_rfl
theorem softNative_j6 : (Tryz.prog.make == some Rows.softNativeRow.make) = true := by kernel_rfl
theorem softNative_j7 : (Rows.softNativeRow.plainKeys == Tryz.prog.plainKeys) = true := by kernel_rfl
theorem softNative_jf : joinedFacts Tryz.prog 3 Tryz.f3 Rows.softNativeSpec Rows.softNativeRow = true := by
  unfold joinedFacts
  exact and2 (and2 (and2 (and2 (and2 (and2 (and2 (and2 (and2 (and2 (and2 (and2 (and2 (and2 (and2 (and2 (and2 (and2 (and2 (and2 (and2 (and2 (and2 (and2 (and2 (and2 (and2 (and2 (and2 (and2 (and2
    (by kernel_rfl) laidOut) jMaps) (by kernel_rfl)) (by kernel_rfl)) (by kernel_rfl)) (by kernel_rfl)) (by kernel_rfl)) (by kernel_rfl)) softNative_j1) softNative_j2) softNative_j3) softNative_j4)
    (by kernel_rfl)) (by kernel_rfl)) (by kernel_rfl)) (by kernel_rfl)) (by kernel_rfl)) (by kernel_rfl)) (by kernel_rfl)) (by kernel_rfl)) (by kernel_rfl)) softNative_j7) (by kernel_rfl)) jHeard) jEnter)
    softNative_j5) softNative_j6) (by kernel_rfl)) (by kernel_rfl)) (by kernel_rfl)) (by kernel_rfl)
theorem softNative_row : Rows.SoftNativeSaid :=
  OpenClaim.holds_of_wide 3 Tryz.f3 rfl rfl rfl rfl rfl rfl rfl ⟨rfl, rfl, rfl, rfl, rfl⟩ rfl rfl rfl rfl rfl (by kernel_rfl) Tryz.func3 softNative_jf
    (of_decide_eq_true (by kernel_rfl)) (by unfold Func.isWrapper; first | (rw [if_pos (by decide +kernel)]; kernel_rfl) | (rw [if_neg (by decide +kernel)]; exact ⟨rfl, rfl⟩))
    (fun os started H enc _ => softNative_lifted os started H enc)
theorem softNative_looks : false = Tryz.prog.looks [] := by kernel_rfl
theorem softNative_goes : false = Rows.softNativeRow.goesBy Tryz.prog := by kernel_rfl
theorem softNative_named : Tryz.prog.funcNamed "cutplane/cutplanelaw05.SoftNative" = some 3 := by kernel_rfl
theorem softNative_holds : Rows.SoftNativeCardSaid :=
  Claim7.holds_tied_plain_at .later [] [.data] true (true, "9f07cfb88903ab0527a13e41ac339197be977bb033ead609619d9bdb2fcb7542") false
    softNative_row (fun _ h => by cases h) (by kernel_rfl) (fun _ h => by cases h) softNative_row_tie rfl ⟨rfl, rfl⟩ (by kernel_rfl) rfl
    (fun f fn hf hfn => by
      obtain rfl : f = 3 := Option.some.inj (softNative_named.symm.trans hf) |>.symm
      obtain rfl : fn = Tryz.f3 := (Option.some.inj (Tryz.func3.symm.trans hfn)).symm
      exact ⟨softNative_looks, fun j t ht => by
        rw [Tryz.params3] at ht
        have h3 : t = 22 := by
          rcases j with _ | _ | j
          · simpa using ht.symm
          · simpa using ht.symm
          · simp at ht
        rcases h3 with rfl
        exact (show Tryz.prog.wantsStandIn 22 = false by kernel_rfl)⟩)
    softNative_goes
#print axioms softNative_holds
end Go.Proofs.YtcedpdogncohfaaGreatDoor
