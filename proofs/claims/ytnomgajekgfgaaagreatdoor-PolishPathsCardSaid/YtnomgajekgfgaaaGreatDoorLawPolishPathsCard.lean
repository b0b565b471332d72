/-
  The path from any number, and why it ends, are the document's; the list stays, the answer is the caller's, for every input; no condition.
-/
import Derived.Test.YtnomgajekgfgaaaGreatDoorM19
import Derived.SizedLaws
import Derived.Test.YtnomgajekgfgaaaGreatDoorM18
import Derived.Test.YtnomgajekgfgaaaGreatDoorCards
import Derived.Test.YtnomgajekgfgaaaGreatDoorTie
set_option linter.unusedVariables false
set_option linter.unusedSimpArgs false
namespace Go.Proofs.YtnomgajekgfgaaaGreatDoor
open Go Go.Cv Go.ChangeShapes Go.WideShapes Go.ChangeAt Go.WideMaps Go.WideElems Go.RowKit
set_option maxRecDepth 100000 in
theorem polishPaths_lifted (os : Os) (started : os.Started) (H : Type) (enc : TypeId × Value → H) :
    ReturnsInHanded {} Tryz.checked os 3 .any (fun w args => (Rows.polishPathsSpec.pre enc Tryz.prog Tryz.f3 [] false w args ∧ laidMetH Tryz.prog laid1 w) ∧ sizedMet enc Tryz.prog Tryz.f3 (OpenSpec.ofChange Rows.polishPathsSpec) false w args)
      (Rows.polishPathsSpec.post enc Tryz.prog Tryz.f3 false true false false) := by
  refine returnsInHanded_of_change_and (C := Tryz.checked) (X := fun w _ => laidMetH Tryz.prog laid1 w) (fun _ _ _ hh h => h.of_heap hh) own started (by kernel_rfl) Tryz.func3
    (ChangeSpec.witness_shaped (enc := enc) (C := Tryz.checked) (os := os) (X := fun w _ => laidMetH Tryz.prog laid1 w) false (World.doorLaid Tryz.prog 400 os) #[.int .u8 0, .slice none 0 0, .agg #[.int .u64 0, .int .u64 0], .int .i64 0] 8 rfl (World.shaped_of_RefB (by kernel_rfl) (by kernel_rfl)) (by kernel_rfl) (by kernel_rfl) (by kernel_rfl) (ZIZ os _)) ?_
  intro W base args ds gs before hval0 hW _ hsz0 hL _
  have hval : ∀ (j : Nat) t v, Tryz.f3.params[j]? = some t → args[j]? = some v → Value.okWide Tryz.prog W .any base t v := hval0
  have hW' := hW
  obtain ⟨p, q, hA0, hV, _, hfz, hnd⟩ := hW
  have hA : DataW.TrodAll enc Tryz.prog W 0 (fun _ => true) true Tryz.f3.params.toList args.toList ds p := hA0
  rw [Tryz.params3] at hA hval
  obtain ⟨v0, v1, v2, v3, d0, d1, d2, d3, p0, p1, p2, p3, rfl, rfl, _, h0, h1, h2, h3⟩ := trodAll_four hA
  obtain ⟨rfl, rfl⟩ := trodVars_none hV
  obtain ⟨a0, rfl, _, _, w0⟩ := open_int Tryz.underlying22 (hval 0 22 v0 rfl rfl) h0
  obtain ⟨z1, l1, hl1, hr1, hw1⟩ := ZKg (e := 26) (S := ⟨L0, W, fun r => r < W.heap.size, noι⟩) rfl (fun _ h => h) Tryz.underlying23 Tryz.underlying26 (by kernel_rfl) (by kernel_rfl) (by kernel_rfl) (by kernel_rfl) (hval 1 23 v1 rfl rfl) h1
  have hq1 : l1.length * 16 ≤ 140737488351232 := by
    rcases hw1 with q | ⟨es, sp, q, he⟩
    · rw [q]; decide
    · have x := sized_slice hsz0 (j := 1) (elems := es) (spare := sp) (t := 23) (by rfl) (by rw [q]; rfl) Tryz.underlying23
      have hb : Tryz.prog.bytesOf 26 = 16 := by kernel_rfl
      have x : (es.length + sp.length) * Tryz.prog.bytesOf 26 ≤ reachBytes := x
      rw [hb, Nat.add_mul] at x
      have y : reachBytes = 140737488351232 := rfl
      omega
  obtain ⟨u2, v2', hu2, hv2, hr2⟩ := ZKw (S := ⟨L0, W, fun r => r < W.heap.size, noι⟩) Tryz.underlying26 (by kernel_rfl) (by kernel_rfl) (by kernel_rfl) (by kernel_rfl) (hval 2 26 v2 rfl rfl) h2
  obtain ⟨a3, rfl, _, _, w3⟩ := open_int Tryz.underlying3 (hval 3 3 v3 rfl rfl) h3
  refine ZJO mixed ZKk (f := 326) (by kernel_rfl) (ZjX (al 0) (hasK 0) (hasO 0) rfl (f := a0) (st := a3) (z := z1) (l := l1) hl1 hq1 hu2 hv2) (ZJX hL) ?_ fun W' hb => ?_
  · simp only [RelL]
    exact ⟨_, _, rfl, by simp only [Rel], _, _, rfl, hr1, _, _, rfl, hr2, _, _, rfl, by simp only [Rel], rfl⟩
  · exact ZJa (tb := 4) laidOut (by kernel_rfl) (by kernel_rfl) (by kernel_rfl) rfl rfl hW' hb
theorem polishPaths_j1 : (Rows.polishPathsRow.inPlace == Tryz.prog.inPlace 3) = true := by kernel_rfl
theorem polishPaths_j2 : (Rows.polishPathsRow.unfollowed == Tryz.prog.unfollowed 3) = true := by kernel_rfl
theorem polishPaths_j3 : (Rows.polishPathsRow.recurses == Tryz.prog.recurses 3) = true := by kernel_rfl
theorem polishPaths_j4 : (Rows.polishPathsRow.named == Tryz.prog.varsNamed 3) = true := by kernel_rfl
theorem polishPaths_j5 : (Rows.polishPathsRow.lifted == Tryz.prog.liftsFinal) = true := by kernel_rfl
theorem polishPaths_j6 : (Tryz.prog.make == some Rows.polishPathsRow.make) = true := by kernel_rfl
theorem polishPaths_j7 : (Rows.polishPathsRow.plainKeys == Tryz.prog.plainKeys) = true := by kernel_rfl
theorem polishPaths_jf : joinedFacts Tryz.prog 3 Tryz.f3 Rows.polishPathsSpec Rows.polishPathsRow = true := by
  unfold joinedFacts
  exact and2 (and2 (and2 (and2 (and2 (and2 (and2 (and2 (and2 (and2 (and2 (and2 (and2 (and2 (and2 (and2 (and2 (and2 (and2 (and2 (and2 (and2 (and2 (and2 (and2 (and2 (and2 (and2 (and2 (and2 (and2
    (by kernel_rfl) laidOut) jMaps) (by kernel_rfl)) (by kernel_rfl)) (by kernel_rfl)) (by kernel_rfl)) (by kernel_rfl)) (by kernel_rfl)) polishPaths_j1) polishPaths_j2) polishPaths_j3) polishPaths_j4)
    (by kernel_rfl)) (by kernel_rfl)) (by kernel_rfl)) (by kernel_rfl)) (by kernel_rfl)) (by kernel_rfl)) (by kernel_rfl)) (by kernel_rfl)) (by kernel_rfl)) polishPaths_j7) (by kernel_rfl)) jHeard) jEnter)
    polishPaths_j5) polishPaths_j6) (by kernel_rfl)) (by kernel_rfl)) (by kernel_rfl)) (by kernel_rfl)
theorem polishPaths_row : Rows.PolishPathsSaid :=
  OpenClaim.holds_of_wide 3 Tryz.f3 rfl rfl rfl rfl rfl rfl rfl ⟨rfl, rfl, rfl, rfl, rfl⟩ rfl rfl rfl rfl rfl (by kernel_rfl) Tryz.func3 polishPaths_jf
    (of_decide_eq_true (by kernel_rfl)) (by unfold Func.isWrapper; first | (rw [if_pos (by decide +kernel)]; kernel_rfl) | (rw [if_neg (by decide +kernel)]; exact ⟨rfl, rfl⟩))
    (fun os started H enc _ => polishPaths_lifted os started H enc)
theorem polishPaths_looks : false = Tryz.prog.looks [] := by kernel_rfl
theorem polishPaths_goes : false = Rows.polishPathsRow.goesBy Tryz.prog := by kernel_rfl
theorem polishPaths_named : Tryz.prog.funcNamed "cutplane/cutplanelaw28.PolishPaths" = some 3 := by kernel_rfl
theorem polishPaths_holds : Rows.PolishPathsCardSaid :=
  Claim7.holds_tied_plain_at .later [] [.data] true (true, "c82f72599308b48dd519055c29f44ece88b8f7e1172534996e6a5f0fcb48f45d") false
    polishPaths_row (fun _ h => by cases h) (by kernel_rfl) (fun _ h => by cases h) polishPaths_row_tie rfl ⟨rfl, rfl⟩ (by kernel_rfl) rfl
    (fun f fn hf hfn => by
      obtain rfl : f = 3 := Option.some.inj (polishPaths_named.symm.trans hf) |>.symm
      obtain rfl : fn = Tryz.f3 := (Option.some.inj (Tryz.func3.symm.trans hfn)).symm
      exact ⟨polishPaths_looks, fun j t ht => by
        rw [Tryz.params3] at ht
        have h3 : t = 3 ∨ t = 22 ∨ t = 23 ∨ t = 26 := by
          rcases j with _ | _ | _ | _ | j
          · right; left; simpa using ht.symm
          · right; right; left; simpa using ht.symm
          · right; right; right; simpa using ht.symm
          · left; simpa using ht.symm
          · simp at ht
        rcases h3 with rfl | rfl | rfl | rfl
        · exact (show Tryz.prog.wantsStandIn 3 = false by kernel_rfl)
        · exact (show Tryz.prog.wantsStandIn 22 = false by kernel_rfl)
        · exact (show Tryz.prog.wantsStandIn 23 = false by kernel_rfl)
        · exact (show Tryz.prog.wantsStandIn 26 = false by kernel_rfl)⟩)
    polishPaths_goes
#print axioms polishPaths_holds
end Go.Proofs.YtnomgajekgfgaaaGreatDoor
