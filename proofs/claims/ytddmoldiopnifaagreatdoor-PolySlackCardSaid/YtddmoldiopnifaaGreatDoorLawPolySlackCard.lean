/-
  The running bound of a polynomial's value is not much too great: if it is finite, it is at most 8 (n + 1) units of roundoff times the sum of all sizes, and 8 least numbers times the sum of all powers, for every input; no condition.
-/
import Derived.Test.YtddmoldiopnifaaGreatDoorM17
import Derived.SizedLaws
import Derived.Test.YtddmoldiopnifaaGreatDoorM16
import Derived.Test.YtddmoldiopnifaaGreatDoorCards
import Derived.Test.YtddmoldiopnifaaGreatDoorTie
set_option linter.unusedVariables false
set_option linter.unusedSimpArgs false
namespace Go.Proofs.YtddmoldiopnifaaGreatDoor
open Go Go.Cv Go.ChangeShapes Go.WideShapes Go.ChangeAt Go.WideMaps Go.WideElems Go.RowKit
set_option maxRecDepth 100000 in
theorem polySlack_lifted (os : Os) (started : os.Started) (H : Type) (enc : TypeId × Value → H) :
    ReturnsInHanded {} Tryz.checked os 10 .any (fun w args => (Rows.polySlackSpec.pre enc Tryz.prog Tryz.f10 [] false w args ∧ laidMetH Tryz.prog laid1 w) ∧ sizedMet enc Tryz.prog Tryz.f10 (OpenSpec.ofChange Rows.polySlackSpec) false w args)
      (Rows.polySlackSpec.post enc Tryz.prog Tryz.f10 false true false false) := by
  refine returnsInHanded_of_change_and (C := Tryz.checked) (X := fun w _ => laidMetH Tryz.prog laid1 w) (fun _ _ _ hh h => h.of_heap hh) own started (by kernel_rfl) Tryz.func10
    (ChangeSpec.witness_shaped (enc := enc) (C := Tryz.checked) (os := os) (X := fun w _ => laidMetH Tryz.prog laid1 w) false (World.doorLaid Tryz.prog 400 os) #[.int .u8 0, .slice none 0 0, .agg #[.int .u64 0, .int .u64 0]] 8 rfl (World.shaped_of_RefB (by kernel_rfl) (by kernel_rfl)) (by kernel_rfl) (by kernel_rfl) (by kernel_rfl) (ZEy os _)) ?_
  intro W base args ds gs before hval0 hW _ hsz0 hL _
  have hval : ∀ (j : Nat) t v, Tryz.f10.params[j]? = some t → args[j]? = some v → Value.okWide Tryz.prog W .any base t v := hval0
  have hW' := hW
  obtain ⟨p, q, hA0, hV, _, hfz, hnd⟩ := hW
  have hA : DataW.TrodAll enc Tryz.prog W 0 (fun _ => true) true Tryz.f10.params.toList args.toList ds p := hA0
  rw [Tryz.params10] at hA hval
  obtain ⟨v0, v1, v2, d0, d1, d2, p0, p1, p2, rfl, rfl, _, h0, h1, h2⟩ := trodAll_three hA
  obtain ⟨rfl, rfl⟩ := trodVars_none hV
  obtain ⟨a0, rfl, _, _, w0⟩ := open_int Tryz.underlying22 (hval 0 22 v0 rfl rfl) h0
  obtain ⟨z1, l1, hl1, hr1, hw1⟩ := ZFb (e := 25) (S := ⟨L0, W, fun r => r < W.heap.size, noι⟩) rfl (fun _ h => h) Tryz.underlying71 Tryz.underlying25 (by kernel_rfl) (by kernel_rfl) (by kernel_rfl) (by kernel_rfl) (hval 1 71 v1 rfl rfl) h1
  have hq1 : l1.length * 16 ≤ 140737488351232 := by
    rcases hw1 with q | ⟨es, sp, q, he⟩
    · rw [q]; decide
    · have x := sized_slice hsz0 (j := 1) (elems := es) (spare := sp) (t := 71) (by rfl) (by rw [q]; rfl) Tryz.underlying71
      have hb : Tryz.prog.bytesOf 25 = 16 := by kernel_rfl
      have x : (es.length + sp.length) * Tryz.prog.bytesOf 25 ≤ reachBytes := x
      rw [hb, Nat.add_mul] at x
      have y : reachBytes = 140737488351232 := rfl
      omega
  obtain ⟨u2, v2', hu2, hv2, hr2⟩ := ZFt (S := ⟨L0, W, fun r => r < W.heap.size, noι⟩) Tryz.underlying25 (by kernel_rfl) (by kernel_rfl) (by kernel_rfl) (by kernel_rfl) (hval 2 25 v2 rfl rfl) h2
  refine ZEY mixed ZFh (f := 323) (by kernel_rfl) (ZiK (al 1) (hasK 1) (ZmT (al 1) (hasK 1)) (f := a0) (z := z1) (l := l1) hl1 hu2 hv2) (ZEZ hL) ?_ fun W' hb => ?_
  · simp only [RelL]
    exact ⟨_, _, rfl, by simp only [Rel], _, _, rfl, hr1, _, _, rfl, hr2, rfl⟩
  · exact ZEz (tb := 4) laidOut (by kernel_rfl) (by kernel_rfl) (by kernel_rfl) rfl rfl hW' hb
theorem polySlack_j1 : (Rows.polySlackRow.inPlace == Tryz.prog.inPlace 10) = true := by kernel_rfl
theorem polySlack_j2 : (Rows.polySlackRow.unfollowed == Tryz.prog.unfollowed 10) = true := by kernel_rfl
theorem polySlack_j3 : (Rows.polySlackRow.recurses == Tryz.prog.recurses 10) = true := by kernel_rfl
theorem polySlack_j4 : (Rows.polySlackRow.named == Tryz.prog.varsNamed 10) = true := by kernel_rfl
theorem polySlack_j5 : (Rows.polySlackRow.lifted == Tryz.prog.liftsFinal) = true := by kernel_rfl
theorem polySlack_j6 : (Tryz.prog.make == some Rows.polySlackRow.make) = true := by kernel_rfl
theorem polySlack_j7 : (Rows.polySlackRow.plainKeys == Tryz.prog.plainKeys) = true := by kernel_rfl
theorem polySlack_jf : joinedFacts Tryz.prog 10 Tryz.f10 Rows.polySlackSpec Rows.polySlackRow = true := by
  unfold joinedFacts
  exact and2 (and2 (and2 (and2 (and2 (and2 (and2 (and2 (and2 (and2 (and2 (and2 (and2 (and2 (and2 (and2 (and2 (and2 (and2 (and2 (and2 (and2 (and2 (and2 (and2 (and2 (and2 (and2 (and2 (and2 (and2
    (by kernel_rfl) laidOut) jMaps) (by kernel_rfl)) (by kernel_rfl)) (by kernel_rfl)) (by kernel_rfl)) (by kernel_rfl)) (by kernel_rfl)) polySlack_j1) polySlack_j2) polySlack_j3) polySlack_j4)
    (by kernel_rfl)) (by kernel_rfl)) (by kernel_rfl)) (by kernel_rfl)) (by kernel_rfl)) (by kernel_rfl)) (by kernel_rfl)) (by kernel_rfl)) (by kernel_rfl)) polySlack_j7) (by kernel_rfl)) jHeard) jEnter)
    polySlack_j5) polySlack_j6) (by kernel_rfl)) (by kernel_rfl)) (by kernel_rfl)) (by kernel_rfl)
theorem polySlack_row : Rows.PolySlackSaid :=
  OpenClaim.holds_of_wide 10 Tryz.f10 rfl rfl rfl rfl rfl rfl rfl ⟨rfl, rfl, rfl, rfl, rfl⟩ rfl rfl rfl rfl rfl (by kernel_rfl) Tryz.func10 polySlack_jf
    (of_decide_eq_true (by kernel_rfl)) (by unfold Func.isWrapper; first | (rw [if_pos (by decide +kernel)]; kernel_rfl) | (rw [if_neg (by decide +kernel)]; exact ⟨rfl, rfl⟩))
    (fun os started H enc _ => polySlack_lifted os started H enc)
theorem polySlack_looks : false = Tryz.prog.looks [] := by kernel_rfl
theorem polySlack_goes : false = Rows.polySlackRow.goesBy Tryz.prog := by kernel_rfl
theorem polySlack_named : Tryz.prog.funcNamed "cutplane/cutplanelaw27.PolySlack" = some 10 := by kernel_rfl
theorem polySlack_holds : Rows.PolySlackCardSaid :=
  Claim7.holds_tied_plain_at .later [] [.data] true (true, "b0f37cdfa2ae2fc16316a736f241ff3b5ba71204ecd29557ab30520f3bb49e40") false
    polySlack_row (fun _ h => by cases h) (by kernel_rfl) (fun _ h => by cases h) polySlack_row_tie rfl ⟨rfl, rfl⟩ (by kernel_rfl) rfl
    (fun f fn hf hfn => by
      obtain rfl : f = 10 := Option.some.inj (polySlack_named.symm.trans hf) |>.symm
      obtain rfl : fn = Tryz.f10 := (Option.some.inj (Tryz.func10.symm.trans hfn)).symm
      exact ⟨polySlack_looks, fun j t ht => by
        rw [Tryz.params10] at ht
        have h3 : t = 22 ∨ t = 25 ∨ t = 71 := by
          rcases j with _ | _ | _ | j
          · left; simpa using ht.symm
          · right; right; simpa using ht.symm
          · right; left; simpa using ht.symm
          · simp at ht
        rcases h3 with rfl | rfl | rfl
        · exact (show Tryz.prog.wantsStandIn 22 = false by kernel_rfl)
        · exact (show Tryz.prog.wantsStandIn 25 = false by kernel_rfl)
        · exact (show Tryz.prog.wantsStandIn 71 = false by kernel_rfl)⟩)
    polySlack_goes
#print axioms polySlack_holds
end Go.Proofs.YtddmoldiopnifaaGreatDoor
