/-
  A part of the proof of the statements of this seat (texts that the law's own text leans on): no condition.
-/
import Derived.Test.YtmjcmppbmolmnaaGreatDoorM2
import Derived.Test.YtmjcmppbmolmnaaGreatDoorM5
import Derived.ProofKit
import Derived.LaidMore
import Derived.OpenShut
import Derived.Deep.Slices
import Derived.Lib.SmallJoins
import Derived.Carry
import Derived.Below
import Derived.ChangeSame
import Derived.Test.YtmjcmppbmolmnaaGreatDoorM4
import Derived.KernelRfl
import Derived.Test.YtmjcmppbmolmnaaGreatDoorProg
import Derived.Test.YtmjcmppbmolmnaaGreatDoorRows
import Derived.Test.YtmjcmppbmolmnaaGreatDoorChecked
import Derived.Stop.Joined
import Derived.SevenTiedAt
set_option linter.unusedVariables false
set_option linter.unusedSimpArgs false
/-
  From the evaluator's answer to a law's contract: arguments opened, the law's post met. No program stands in it.
-/
namespace Go.Cv
open Go Go.RowKit Go.WideShapes Go.ChangeShapes Go.WideElems Go.Deep Go.Joins

section
variable {H : Type} {enc : TypeId × Value → H} {P : Program}

theorem trodAll_stays (hl : laidOutB P = true) {W W' : World} {sp : Nat → Bool} (hb : Below W.heap.size W W') :
    ∀ {ts : List TypeId} {vs : List Value} {ds : List (DataW H)} {ps : List MemPlace}, (∀ t ∈ ts, P.readableRec t = true ∧ t < P.types.size) →
    DataW.TrodAll enc P W 0 (fun _ => true) true ts vs ds ps → (∀ p ∈ ps, p.block < W.heap.size ∧ sp p.block = true) → DataW.TrodAll enc P W' 0 sp true ts vs ds ps
  | [], vs, ds, ps, _, h, _ => by
    obtain ⟨rfl, rfl, rfl⟩ := trodAll_nil h
    rfl
  | t :: ts, vs, ds, ps, ht, h, hp => by
    obtain ⟨v, vs1, d, ds1, p, q, rfl, rfl, rfl, h1, h2⟩ := trodAll_cons h
    refine ⟨p, q, ?_, ?_, rfl⟩
    · exact Trod_stays hl (ht t (List.mem_cons_self ..)).1 (ht t (List.mem_cons_self ..)).2 h1 (fun x hx => hb.same (hp x (List.mem_append_left _ hx)).1) (fun x hx => (hp x (List.mem_append_left _ hx)).2)
    · exact trodAll_stays hl hb (fun t' h' => ht t' (List.mem_cons_of_mem _ h')) h2 (fun x hx => hp x (List.mem_append_right _ hx))

/-- A law that answers true and turns nothing that was there. -/
theorem law_post {f : Func} {s : ChangeSpec} {apart fresh handsOn again : Bool} {W W' : World} {args : Array Value} {ds gs : List (DataW H)} {before : List MemPlace} {tb : TypeId}
    (hl : laidOutB P = true) (hp : f.params.toList.all (fun t => P.readableRec t && decide (t < P.types.size)) = true) (hr : f.resultTypes = #[tb]) (ht : P.underlying tb = some .bool) (hv : s.vars = [])
    (hs : s.fn H (ds ++ gs) = { results := [.lit (.bool true)], args := ds })
    (hW : DataW.Whole enc P f.params.toList s.vars apart W args.toList ds gs before) (hb : Below W.heap.size W W') :
    s.post enc P f apart fresh handsOn again W args (.bool true) W' := by
  have hlt : ∀ p ∈ before, p.block < W.heap.size := fun p hp => hW.lt p hp
  have hts : ∀ t ∈ f.params.toList, P.readableRec t = true ∧ t < P.types.size := fun t h => by
    have := List.all_eq_true.1 hp t h
    simpa using this
  have hres : ∀ (b : Nat) (sp : Nat → Bool) (hd : Bool), DataW.TrodAll enc P W' b sp hd f.resultTypes.toList ((Value.bool true).resultList f.resultTypes.size) (s.fn H (ds ++ gs)).results [] := fun b sp hd => by
    rw [hs, hr]; exact trodAll_mk1 (shut_bool ht true)
  have hW0 := hW
  obtain ⟨p, q, hA, hV, hpq, hz, hn⟩ := hW
  rw [hv] at hV
  obtain ⟨rfl, rfl⟩ := trodVars_none hV
  rw [List.append_nil] at hpq
  subst hpq
  have hargs : ∀ sp : Nat → Bool, (∀ x ∈ before, sp x.block = true) → DataW.TrodAll enc P W' 0 sp true f.params.toList args.toList (s.fn H (ds ++ [])).args before := fun sp h => by
    rw [hs]; exact trodAll_stays hl hb hts hA (fun x hx => ⟨hlt x hx, h x hx⟩)
  have hvars : ∀ sp : Nat → Bool, DataW.TrodVars enc P W' sp s.vars (s.fn H (ds ++ [])).vars [] := fun sp => by rw [hs, hv]; rfl
  have hold : ∀ p ∈ before, (fun b => decide (b < W.heap.size)) p.block = true := fun p hp => by simpa using hlt p hp
  refine ⟨ds, [], before, [], before, [], hW0, hres _ _ _, hargs _ hold, hvars _, World.keptBut_mono (fun p hp => ⟨hp, ?_⟩) (hb.frame (· ∈ before)), fun _ => ?_⟩
  · exact Or.inr (Or.inl hp)
  · refine ⟨ok_one hr rfl (okWide_bool_mk ht true), _, _, ([] ++ before) ++ [], ⟨[] ++ before, [], trodAll_append (hargs _ (fun _ _ => rfl)) (hres _ _ _), hvars _, rfl, ?_, ?_⟩, ?_⟩
    · intro b off hp
      have hin : MemPlace.cell b off ∈ before := by simpa using hp
      rw [hb.frozen (hlt _ hin)]
      exact hz b off hin
    · intro ha
      simpa using hn ha
    · intro p hp _
      simpa using hp

end

/-- What a law's contract needs of the evaluator's answer. -/
theorem law_run {P : Program} {L : Nat → Option FuncId} {G : Nat → Option (List AV)} {T : Tbl} (hm : P.follows .mixedOrders = true) (hP : ProgOK P L T) {f : Nat} {g : FuncId} {args : List AV} (hLf : L f = some g)
    (hr : run G T f args = some (.bool true)) {W : World} (hG : Gok G ⟨L, W, fun r => r < W.heap.size, noι⟩) {us : Array Value} (hu : RelL ⟨L, W, fun r => r < W.heap.size, noι⟩ args us.toList)
    {Q : Value → World → Prop} (hQ : ∀ W', Go.RowKit.Below W.heap.size W W' → Q (.bool true) W') :
    Calls P g us W fun e W' => ∃ v, e = .returned v ∧ Q v W' := by
  have h := run_sound hm hP hLf hr W (fun r => r < W.heap.size) (fun _ h => h) hG hu
  refine h.mono ?_
  rintro e W' ⟨u, rfl, hb, hrel⟩
  simp only [Rel] at hrel
  subst hrel
  exact ⟨_, rfl, hQ W' hb⟩

/-- A row of numbers that a package's variable holds. -/
theorem gok_u8 {L : Nat → Option FuncId} {W : World} {g : Nat} {l : List Nat} (h : ∀ (j d : Nat), l[j]? = some d → W.cell? ⟨g, j, none⟩ = some (.int .u8 (d : Int))) (hl : 0 < l.length) :
    Gok (fun n => if n = g then some (l.map fun (d : Nat) => .int .u8 (d : Int)) else none) ⟨L, W, fun r => r < W.heap.size, noι⟩ := by
  intro g' cs hg
  simp only at hg
  split at hg
  · next he =>
    subst he
    cases hg
    constructor
    · have h0 := h 0 l[0] (List.getElem?_eq_getElem hl)
      show g' < W.heap.size
      unfold World.cell? at h0
      split at h0
      · next c _ _ hh => exact row_lt hh
      · cases h0
    · rw [relAt_iff]
      intro j v hj
      rw [List.getElem?_map] at hj
      cases hd : l[j]? with
      | none => rw [hd] at hj; cases hj
      | some d =>
        rw [hd] at hj
        simp only [Option.map_some, Option.some.injEq] at hj
        subst hj
        rw [Nat.zero_add]
        exact ⟨_, h j d hd, rfl, by simp only [Rel]⟩
  · cases hg

section
variable {H : Type} {enc : TypeId × Value → H} {P : Program}
/-- An array of small numbers, read as such: its cells. -/
theorem tab_u8 {w : World} {base : Nat} {sp : Nat → Bool} {held : Bool} {t e : TypeId} {fuel : Nat} {cs : Array Value} {l : List Nat} {ps : List MemPlace}
    (ht : P.underlying t = some (.array l.length e)) (he : P.underlying e = some (.int .u8)) (hc : P.cellsOf e = 1)
    (h : DataW.trod enc P w base sp held fuel t cs.toList = some (.agg (l.map fun (d : Nat) => .lit (.int .u8 (d : Int))), ps)) : ∀ (j d : Nat), l[j]? = some d → cs[j]? = some (.int .u8 (d : Int)) := by
  obtain ⟨xs, m, rfl, hx, hlen, hn, hel⟩ := DataW.trod_array ht h
  intro j d hj
  have hjl : j < l.length := (List.getElem?_eq_some_iff.1 hj).1
  have h1 := hel j hjl
  simp only [Prod.mk.injEq, DataW.agg.injEq] at hx
  have hxj : xs[j]? = some xs[j] := List.getElem?_eq_getElem (by omega)
  rw [hxj, hc, Nat.mul_one] at h1
  obtain ⟨k, e1, e2, _⟩ := DataW.trod_int he h1
  have h3 : (l.map fun (d : Nat) => (DataW.lit (.int .u8 (d : Int)) : DataW H))[j]? = (xs.map (·.1))[j]? := by rw [hx.1]
  rw [List.getElem?_map, List.getElem?_map, hj, hxj] at h3
  simp only [Option.map_some, Option.some.injEq, e2] at h3
  simp only [DataW.lit.injEq, Lit.int.injEq, true_and] at h3
  subst h3
  have h4 : (cs.toList.drop j).take 1 = [.int .u8 (d : Int)] := e1
  have h5 : cs.toList[j]? = some (.int .u8 (d : Int)) := by
    have : ((cs.toList.drop j).take 1)[0]? = some (.int .u8 (d : Int)) := by rw [h4]; rfl
    rw [List.getElem?_take] at this
    simpa using this
  simpa using h5
end
end Go.Cv

namespace Go.Cv
def glb (g : Nat) : Nat → Option (List AV) := fun n => if n = g then some (ntz32.map fun (d : Nat) => .int .u8 (d : Int)) else none
theorem glob (g : Nat) : Glob (glb g) g := if_pos rfl
end Go.Cv

namespace Go.Cv
theorem known05 : run (glb 0) (tbl 0) 163 [] = some (.bool true) := run_of (glb 0) (tbl 0) 400 (by kernel_rfl)
end Go.Cv

/-
  The program's functions are the code texts (written by a program).
-/
set_option maxRecDepth 100000
namespace Go.Proofs.YtmjcmppbmolmnaaGreatDoor
open Go Go.Cv
def tosL : List Nat := [0, 0, 0, 0, 0, 0, 213, 0, 0, 0, 175, 162, 217, 163, 0, 164, 0, 0, 0, 0, 0, 0, 0, 224, 225, 0, 151, 37, 69, 65, 0, 14, 70, 0, 0, 0, 0, 0, 0, 0, 0, 0, 176, 178, 179, 182, 177, 27, 28, 149, 230, 157, 0, 232, 233, 30, 67, 0, 16, 0, 12, 0, 38, 180, 181, 183, 0, 0, 18, 19, 156, 45, 46, 33, 31, 32, 155, 39, 102, 0, 7, 0, 0, 0, 0, 0, 0, 8, 192, 193, 194, 196, 74, 197, 54, 195, 62, 63, 73, 72, 99, 100, 101, 0, 34, 35, 10, 36, 48, 0, 26, 57, 22, 21, 0, 23, 24, 0, 42, 43, 44, 83, 84, 85, 64, 0, 25, 95, 200, 201, 202, 55, 96, 58, 204, 106, 117, 113, 86, 90, 50, 203, 66, 68, 71, 87, 205, 60, 98, 47, 75, 49, 0, 77, 78, 51, 52, 53, 56, 0, 80, 81, 82, 111, 0, 104, 59, 115, 94, 114, 89, 91, 207, 208, 88, 103, 105, 107, 108, 109, 92, 93, 97, 0, 112, 209, 116, 118, 119, 120, 121, 0, 0, 0, 0, 0, 0, 0, 0, 0, 0, 0, 0, 0, 0, 0, 0, 0, 0, 0, 0]
def lnk : List (Nat × Nat) := [(213, 6), (175, 10), (162, 11), (217, 12), (163, 13), (164, 15), (224, 23), (225, 24), (151, 26), (37, 27), (69, 28), (65, 29), (14, 31), (70, 32), (176, 42), (178, 43), (179, 44), (182, 45), (177, 46), (27, 47), (28, 48), (149, 49), (230, 50), (157, 51), (232, 53), (233, 54), (30, 55), (67, 56), (16, 58), (12, 60), (38, 62), (180, 63), (181, 64), (183, 65), (18, 68), (19, 69), (156, 70), (45, 71), (46, 72), (33, 73), (31, 74), (32, 75), (155, 76), (39, 77), (102, 78), (7, 80), (8, 87), (192, 88), (193, 89), (194, 90), (196, 91), (74, 92), (197, 93), (54, 94), (195, 95), (62, 96), (63, 97), (73, 98), (72, 99), (99, 100), (100, 101), (101, 102), (34, 104), (35, 105), (10, 106), (36, 107), (48, 108), (26, 110), (57, 111), (22, 112), (21, 113), (23, 115), (24, 116), (42, 118), (43, 119), (44, 120), (83, 121), (84, 122), (85, 123), (64, 124), (25, 126), (95, 127), (200, 128), (201, 129), (202, 130), (55, 131), (96, 132), (58, 133), (204, 134), (106, 135), (117, 136), (113, 137), (86, 138), (90, 139), (50, 140), (203, 141), (66, 142), (68, 143), (71, 144), (87, 145), (205, 146), (60, 147), (98, 148), (47, 149), (75, 150), (49, 151), (77, 153), (78, 154), (51, 155), (52, 156), (53, 157), (56, 158), (80, 160), (81, 161), (82, 162), (111, 163), (104, 165), (59, 166), (115, 167), (94, 168), (114, 169), (89, 170), (91, 171), (207, 172), (208, 173), (88, 174), (103, 175), (105, 176), (107, 177), (108, 178), (109, 179), (92, 180), (93, 181), (97, 182), (112, 184), (209, 185), (116, 186), (118, 187), (119, 188), (120, 189), (121, 190)]
def toS (g : FuncId) : Option Nat := match tosL.getD g 0 with | 0 => none | n + 1 => some (n + 1)
def lnkF (l : List (Nat × Nat)) (f : Nat) : Option FuncId := match l with | [] => none | p :: r => if p.1 = f then some p.2 else lnkF r f
def L0 (f : Nat) : Option FuncId := lnkF lnk f
def AllP (Q : Nat → Nat → Prop) : List (Nat × Nat) → Prop | [] => True | p :: l => Q p.1 p.2 ∧ AllP Q l
theorem AllP.of {Q : Nat → Nat → Prop} : ∀ {l : List (Nat × Nat)}, AllP Q l → ∀ f g, lnkF l f = some g → Q f g
  | [], _, f, g, h => by cases h
  | p :: l, ⟨h1, h2⟩, f, g, h => by
    unfold lnkF at h
    by_cases he : p.1 = f
    · rw [if_pos he] at h; cases h; subst he; exact h1
    · rw [if_neg he] at h; exact AllP.of h2 f g h
def bodyB (P : Program) (p : Nat × Nat) : Bool := match P.funcs[p.2]? with | some fn => (fn.name != "runtime.NumGoroutine") && fn.body.isSome | none => false
theorem bodies : lnk.all (bodyB Tryz.prog) = true := by kernel_rfl
theorem toB : (List.range tosL.length).all (fun g => match toS g with | some f => (L0 f == some g) | none => true) = true := by kernel_rfl
theorem lnk_mem : ∀ (l : List (Nat × Nat)) (f g : Nat), lnkF l f = some g → (f, g) ∈ l
  | [], _, _, h => by cases h
  | p :: l, f, g, h => by
    unfold lnkF at h
    by_cases he : p.1 = f
    · rw [if_pos he] at h; cases h; subst he; exact List.mem_cons_self ..
    · rw [if_neg he] at h; exact List.mem_cons_of_mem _ (lnk_mem l f g h)
theorem link_of (C : CC) (hP : C.P = Tryz.prog) (hS : C.toS = toS) : Link C L0 := by
  constructor
  · intro g f h
    rw [hS] at h
    have hb := List.all_eq_true.1 toB
    have hg : g < tosL.length := by
      rcases Nat.lt_or_ge g tosL.length with x | x
      · exact x
      · exfalso; unfold toS at h; rw [List.getD_eq_getElem?_getD, List.getElem?_eq_none x] at h; cases h
    have := hb g (List.mem_range.2 hg)
    rw [h] at this
    simpa using this
  · intro f g h
    have := List.all_eq_true.1 bodies _ (lnk_mem _ _ _ h)
    unfold bodyB at this
    rw [hP]
    cases hf : Tryz.prog.funcs[g]? with
    | none => simp [hf] at this
    | some fn => simp [hf] at this; exact ⟨fn, rfl, this.1, this.2⟩
def FnOK (f g : Nat) : Prop := ∃ (C : CC) (fn : Func) (c : Code) (fi : IFn), C.P = Tryz.prog ∧ Link C L0 ∧ Tryz.prog.funcs[g]? = some fn ∧ C.N ≤ fn.ntmps ∧ fn.body = some c ∧ tbl 0 f = some fi ∧ compC C c = some (erase fi.body) ∧ mapO (compRes Tryz.prog) fn.results.toList = some fi.res
theorem fn_mk {f g : Nat} (C : CC) (fn : Func) (fi : IFn) (h1 : C.P = Tryz.prog) (h2 : C.toS = toS) (h3 : Tryz.prog.funcs[g]? = some fn) (h4 : C.N = fn.ntmps) (h5 : tbl 0 f = some fi) (h6 : fn.body.bind (compC C) = some (erase fi.body)) (h7 : mapO (compRes Tryz.prog) fn.results.toList = some fi.res) : FnOK f g := by
  cases hb : fn.body with
  | none => rw [hb] at h6; cases h6
  | some c => rw [hb] at h6; exact ⟨C, fn, c, fi, h1, link_of C h1 h2, h3, Nat.le_of_eq h4, hb, h5, h6, h7⟩
noncomputable def cc6 : CC := { P := Tryz.prog, toS := toS, inl := fun n => List.elem n ([] : List Nat), dyn := false, N := Tryz.f6.ntmps }
theorem ok6 : FnOK 213 6 := fn_mk cc6 Tryz.f6 c_law05_SoftRoots rfl rfl Tryz.func6 rfl rfl (by kernel_rfl) (by kernel_rfl)
noncomputable def cc10 : CC := { P := Tryz.prog, toS := toS, inl := fun n => List.elem n ([] : List Nat), dyn := false, N := Tryz.f10.ntmps }
theorem ok10 : FnOK 175 10 := fn_mk cc10 Tryz.f10 c_soft_MulAdd rfl rfl Tryz.func10 rfl rfl (by kernel_rfl) (by kernel_rfl)
noncomputable def cc11 : CC := { P := Tryz.prog, toS := toS, inl := fun n => List.elem n ([] : List Nat), dyn := false, N := Tryz.f11.ntmps }
theorem ok11 : FnOK 162 11 := fn_mk cc11 Tryz.f11 c_ref05_Opens rfl rfl Tryz.func11 rfl rfl (by kernel_rfl) (by kernel_rfl)
noncomputable def cc12 : CC := { P := Tryz.prog, toS := toS, inl := fun n => List.elem n ([] : List Nat), dyn := false, N := Tryz.f12.ntmps }
theorem ok12 : FnOK 217 12 := fn_mk cc12 Tryz.f12 c_law05_is rfl rfl Tryz.func12 rfl rfl (by kernel_rfl) (by kernel_rfl)
noncomputable def cc13 : CC := { P := Tryz.prog, toS := toS, inl := fun n => List.elem n ([] : List Nat), dyn := false, N := Tryz.f13.ntmps }
theorem ok13 : FnOK 163 13 := fn_mk cc13 Tryz.f13 c_law05_known rfl rfl Tryz.func13 rfl rfl (by kernel_rfl) (by kernel_rfl)
noncomputable def cc15 : CC := { P := Tryz.prog, toS := toS, inl := fun n => List.elem n ([] : List Nat), dyn := false, N := Tryz.f15.ntmps }
theorem ok15 : FnOK 164 15 := fn_mk cc15 Tryz.f15 c_soft_Add rfl rfl Tryz.func15 rfl rfl (by kernel_rfl) (by kernel_rfl)
noncomputable def cc23 : CC := { P := Tryz.prog, toS := toS, inl := fun n => List.elem n ([] : List Nat), dyn := false, N := Tryz.f23.ntmps }
theorem ok23 : FnOK 224 23 := fn_mk cc23 Tryz.f23 c_soft_Sqrt rfl rfl Tryz.func23 rfl rfl (by kernel_rfl) (by kernel_rfl)
noncomputable def cc24 : CC := { P := Tryz.prog, toS := toS, inl := fun n => List.elem n ([] : List Nat), dyn := false, N := Tryz.f24.ntmps }
theorem ok24 : FnOK 225 24 := fn_mk cc24 Tryz.f24 c_ref05_Sqrt rfl rfl Tryz.func24 rfl rfl (by kernel_rfl) (by kernel_rfl)
noncomputable def cc26 : CC := { P := Tryz.prog, toS := toS, inl := fun n => List.elem n ([] : List Nat), dyn := false, N := Tryz.f26.ntmps }
theorem ok26 : FnOK 151 26 := fn_mk cc26 Tryz.f26 c_ref03_Value rfl rfl Tryz.func26 rfl rfl (by kernel_rfl) (by kernel_rfl)
noncomputable def cc27 : CC := { P := Tryz.prog, toS := toS, inl := fun n => List.elem n ([] : List Nat), dyn := false, N := Tryz.f27.ntmps }
theorem ok27 : FnOK 37 27 := fn_mk cc27 Tryz.f27 c_ref02_Abs rfl rfl Tryz.func27 rfl rfl (by kernel_rfl) (by kernel_rfl)
noncomputable def cc28 : CC := { P := Tryz.prog, toS := toS, inl := fun n => List.elem n ([] : List Nat), dyn := false, N := Tryz.f28.ntmps }
theorem ok28 : FnOK 69 28 := fn_mk cc28 Tryz.f28 c_ref02_Cmp rfl rfl Tryz.func28 rfl rfl (by kernel_rfl) (by kernel_rfl)
noncomputable def cc29 : CC := { P := Tryz.prog, toS := toS, inl := fun n => List.elem n ([] : List Nat), dyn := false, N := Tryz.f29.ntmps }
theorem ok29 : FnOK 65 29 := fn_mk cc29 Tryz.f29 c_ref02_Shift rfl rfl Tryz.func29 rfl rfl (by kernel_rfl) (by kernel_rfl)
noncomputable def cc31 : CC := { P := Tryz.prog, toS := toS, inl := fun n => List.elem n ([] : List Nat), dyn := false, N := Tryz.f31.ntmps }
theorem ok31 : FnOK 14 31 := fn_mk cc31 Tryz.f31 c_ref02_Same rfl rfl Tryz.func31 rfl rfl (by kernel_rfl) (by kernel_rfl)
noncomputable def cc32 : CC := { P := Tryz.prog, toS := toS, inl := fun n => List.elem n ([] : List Nat), dyn := false, N := Tryz.f32.ntmps }
theorem ok32 : FnOK 70 32 := fn_mk cc32 Tryz.f32 c_ref02_Sub rfl rfl Tryz.func32 rfl rfl (by kernel_rfl) (by kernel_rfl)
noncomputable def cc42 : CC := { P := Tryz.prog, toS := toS, inl := fun n => List.elem n ([] : List Nat), dyn := false, N := Tryz.f42.ntmps }
theorem ok42 : FnOK 176 42 := fn_mk cc42 Tryz.f42 c_soft_open rfl rfl Tryz.func42 rfl rfl (by kernel_rfl) (by kernel_rfl)
noncomputable def cc43 : CC := { P := Tryz.prog, toS := toS, inl := fun n => List.elem n ([] : List Nat), dyn := false, N := Tryz.f43.ntmps }
theorem ok43 : FnOK 178 43 := fn_mk cc43 Tryz.f43 c_soft_has rfl rfl Tryz.func43 rfl rfl (by kernel_rfl) (by kernel_rfl)
noncomputable def cc44 : CC := { P := Tryz.prog, toS := toS, inl := fun n => List.elem n ([] : List Nat), dyn := false, N := Tryz.f44.ntmps }
theorem ok44 : FnOK 179 44 := fn_mk cc44 Tryz.f44 c_soft_desk_none rfl rfl Tryz.func44 rfl rfl (by kernel_rfl) (by kernel_rfl)
noncomputable def cc45 : CC := { P := Tryz.prog, toS := toS, inl := fun n => List.elem n ([] : List Nat), dyn := false, N := Tryz.f45.ntmps }
theorem ok45 : FnOK 182 45 := fn_mk cc45 Tryz.f45 c_dyad_Mul rfl rfl Tryz.func45 rfl rfl (by kernel_rfl) (by kernel_rfl)
noncomputable def cc46 : CC := { P := Tryz.prog, toS := toS, inl := fun n => List.elem n ([] : List Nat), dyn := false, N := Tryz.f46.ntmps }
theorem ok46 : FnOK 177 46 := fn_mk cc46 Tryz.f46 c_soft_desk_add rfl rfl Tryz.func46 rfl rfl (by kernel_rfl) (by kernel_rfl)
noncomputable def cc47 : CC := { P := Tryz.prog, toS := toS, inl := fun n => List.elem n ([] : List Nat), dyn := false, N := Tryz.f47.ntmps }
theorem ok47 : FnOK 27 47 := fn_mk cc47 Tryz.f47 c_ref03_Is rfl rfl Tryz.func47 rfl rfl (by kernel_rfl) (by kernel_rfl)
noncomputable def cc48 : CC := { P := Tryz.prog, toS := toS, inl := fun n => List.elem n ([] : List Nat), dyn := false, N := Tryz.f48.ntmps }
theorem ok48 : FnOK 28 48 := fn_mk cc48 Tryz.f48 c_ref04_Is rfl rfl Tryz.func48 rfl rfl (by kernel_rfl) (by kernel_rfl)
noncomputable def cc49 : CC := { P := Tryz.prog, toS := toS, inl := fun n => List.elem n ([] : List Nat), dyn := false, N := Tryz.f49.ntmps }
theorem ok49 : FnOK 149 49 := fn_mk cc49 Tryz.f49 c_ref03_Good rfl rfl Tryz.func49 rfl rfl (by kernel_rfl) (by kernel_rfl)
noncomputable def cc50 : CC := { P := Tryz.prog, toS := toS, inl := fun n => List.elem n ([] : List Nat), dyn := false, N := Tryz.f50.ntmps }
theorem ok50 : FnOK 230 50 := fn_mk cc50 Tryz.f50 c_ref05_nan rfl rfl Tryz.func50 rfl rfl (by kernel_rfl) (by kernel_rfl)
noncomputable def cc51 : CC := { P := Tryz.prog, toS := toS, inl := fun n => List.elem n ([] : List Nat), dyn := false, N := Tryz.f51.ntmps }
theorem ok51 : FnOK 157 51 := fn_mk cc51 Tryz.f51 c_ref03_None rfl rfl Tryz.func51 rfl rfl (by kernel_rfl) (by kernel_rfl)
noncomputable def cc53 : CC := { P := Tryz.prog, toS := toS, inl := fun n => List.elem n ([] : List Nat), dyn := false, N := Tryz.f53.ntmps }
theorem ok53 : FnOK 232 53 := fn_mk cc53 Tryz.f53 c_ref05_zero rfl rfl Tryz.func53 rfl rfl (by kernel_rfl) (by kernel_rfl)
noncomputable def cc54 : CC := { P := Tryz.prog, toS := toS, inl := fun n => List.elem n ([] : List Nat), dyn := false, N := Tryz.f54.ntmps }
theorem ok54 : FnOK 233 54 := fn_mk cc54 Tryz.f54 c_ref05_neg rfl rfl Tryz.func54 rfl rfl (by kernel_rfl) (by kernel_rfl)
noncomputable def cc55 : CC := { P := Tryz.prog, toS := toS, inl := fun n => List.elem n ([] : List Nat), dyn := false, N := Tryz.f55.ntmps }
theorem ok55 : FnOK 30 55 := fn_mk cc55 Tryz.f55 c_ref03_Inf rfl rfl Tryz.func55 rfl rfl (by kernel_rfl) (by kernel_rfl)
noncomputable def cc56 : CC := { P := Tryz.prog, toS := toS, inl := fun n => List.elem n ([] : List Nat), dyn := false, N := Tryz.f56.ntmps }
theorem ok56 : FnOK 67 56 := fn_mk cc56 Tryz.f56 c_ref02_Add rfl rfl Tryz.func56 rfl rfl (by kernel_rfl) (by kernel_rfl)
noncomputable def cc58 : CC := { P := Tryz.prog, toS := toS, inl := fun n => List.elem n ([] : List Nat), dyn := false, N := Tryz.f58.ntmps }
theorem ok58 : FnOK 16 58 := fn_mk cc58 Tryz.f58 c_ref02_Sign rfl rfl Tryz.func58 rfl rfl (by kernel_rfl) (by kernel_rfl)
noncomputable def cc60 : CC := { P := Tryz.prog, toS := toS, inl := fun n => List.elem n ([] : List Nat), dyn := false, N := Tryz.f60.ntmps }
theorem ok60 : FnOK 12 60 := fn_mk cc60 Tryz.f60 c_ref04_Round rfl rfl Tryz.func60 rfl rfl (by kernel_rfl) (by kernel_rfl)
noncomputable def cc62 : CC := { P := Tryz.prog, toS := toS, inl := fun n => List.elem n ([] : List Nat), dyn := false, N := Tryz.f62.ntmps }
theorem ok62 : FnOK 38 62 := fn_mk cc62 Tryz.f62 c_ref03_Signed rfl rfl Tryz.func62 rfl rfl (by kernel_rfl) (by kernel_rfl)
noncomputable def cc63 : CC := { P := Tryz.prog, toS := toS, inl := fun n => List.elem n ([] : List Nat), dyn := false, N := Tryz.f63.ntmps }
theorem ok63 : FnOK 180 63 := fn_mk cc63 Tryz.f63 c_soft_desk_inf rfl rfl Tryz.func63 rfl rfl (by kernel_rfl) (by kernel_rfl)
noncomputable def cc64 : CC := { P := Tryz.prog, toS := toS, inl := fun n => List.elem n ([] : List Nat), dyn := false, N := Tryz.f64.ntmps }
theorem ok64 : FnOK 181 64 := fn_mk cc64 Tryz.f64 c_soft_desk_zero rfl rfl Tryz.func64 rfl rfl (by kernel_rfl) (by kernel_rfl)
noncomputable def cc65 : CC := { P := Tryz.prog, toS := toS, inl := fun n => List.elem n ([] : List Nat), dyn := false, N := Tryz.f65.ntmps }
theorem ok65 : FnOK 183 65 := fn_mk cc65 Tryz.f65 c_soft_desk_sum rfl rfl Tryz.func65 rfl rfl (by kernel_rfl) (by kernel_rfl)
noncomputable def cc68 : CC := { P := Tryz.prog, toS := toS, inl := fun n => List.elem n ([] : List Nat), dyn := false, N := Tryz.f68.ntmps }
theorem ok68 : FnOK 18 68 := fn_mk cc68 Tryz.f68 c_round_Root rfl rfl Tryz.func68 rfl rfl (by kernel_rfl) (by kernel_rfl)
noncomputable def cc69 : CC := { P := Tryz.prog, toS := toS, inl := fun n => List.elem n ([] : List Nat), dyn := false, N := Tryz.f69.ntmps }
theorem ok69 : FnOK 19 69 := fn_mk cc69 Tryz.f69 c_ref04_Root rfl rfl Tryz.func69 rfl rfl (by kernel_rfl) (by kernel_rfl)
noncomputable def cc70 : CC := { P := Tryz.prog, toS := toS, inl := fun n => List.elem n ([] : List Nat), dyn := false, N := Tryz.f70.ntmps }
theorem ok70 : FnOK 156 70 := fn_mk cc70 Tryz.f70 c_ref03_Split rfl rfl Tryz.func70 rfl rfl (by kernel_rfl) (by kernel_rfl)
noncomputable def cc71 : CC := { P := Tryz.prog, toS := toS, inl := fun n => List.elem n ([] : List Nat), dyn := false, N := Tryz.f71.ntmps }
theorem ok71 : FnOK 45 71 := fn_mk cc71 Tryz.f71 c_ref02_Form rfl rfl Tryz.func71 rfl rfl (by kernel_rfl) (by kernel_rfl)
noncomputable def cc72 : CC := { P := Tryz.prog, toS := toS, inl := fun n => List.elem n ([] : List Nat), dyn := false, N := Tryz.f72.ntmps }
theorem ok72 : FnOK 46 72 := fn_mk cc72 Tryz.f72 c_ref01_Of rfl rfl Tryz.func72 rfl rfl (by kernel_rfl) (by kernel_rfl)
noncomputable def cc73 : CC := { P := Tryz.prog, toS := toS, inl := fun n => List.elem n ([] : List Nat), dyn := false, N := Tryz.f73.ntmps }
theorem ok73 : FnOK 33 73 := fn_mk cc73 Tryz.f73 c_ref03_Low rfl rfl Tryz.func73 rfl rfl (by kernel_rfl) (by kernel_rfl)
noncomputable def cc74 : CC := { P := Tryz.prog, toS := toS, inl := fun n => List.elem n ([] : List Nat), dyn := false, N := Tryz.f74.ntmps }
theorem ok74 : FnOK 31 74 := fn_mk cc74 Tryz.f74 c_ref03_Frac rfl rfl Tryz.func74 rfl rfl (by kernel_rfl) (by kernel_rfl)
noncomputable def cc75 : CC := { P := Tryz.prog, toS := toS, inl := fun n => List.elem n ([] : List Nat), dyn := false, N := Tryz.f75.ntmps }
theorem ok75 : FnOK 32 75 := fn_mk cc75 Tryz.f75 c_ref02_Top rfl rfl Tryz.func75 rfl rfl (by kernel_rfl) (by kernel_rfl)
noncomputable def cc76 : CC := { P := Tryz.prog, toS := toS, inl := fun n => List.elem n ([] : List Nat), dyn := false, N := Tryz.f76.ntmps }
theorem ok76 : FnOK 155 76 := fn_mk cc76 Tryz.f76 c_ref03_Class rfl rfl Tryz.func76 rfl rfl (by kernel_rfl) (by kernel_rfl)
noncomputable def cc77 : CC := { P := Tryz.prog, toS := toS, inl := fun n => List.elem n ([] : List Nat), dyn := false, N := Tryz.f77.ntmps }
theorem ok77 : FnOK 39 77 := fn_mk cc77 Tryz.f77 c_ref01_Same rfl rfl Tryz.func77 rfl rfl (by kernel_rfl) (by kernel_rfl)
noncomputable def cc78 : CC := { P := Tryz.prog, toS := toS, inl := fun n => List.elem n ([] : List Nat), dyn := false, N := Tryz.f78.ntmps }
theorem ok78 : FnOK 102 78 := fn_mk cc78 Tryz.f78 c_ref02_Neg rfl rfl Tryz.func78 rfl rfl (by kernel_rfl) (by kernel_rfl)
noncomputable def cc80 : CC := { P := Tryz.prog, toS := toS, inl := fun n => List.elem n ([] : List Nat), dyn := false, N := Tryz.f80.ntmps }
theorem ok80 : FnOK 7 80 := fn_mk cc80 Tryz.f80 c_round_Round rfl rfl Tryz.func80 rfl rfl (by kernel_rfl) (by kernel_rfl)
noncomputable def cc87 : CC := { P := Tryz.prog, toS := toS, inl := fun n => List.elem n ([] : List Nat), dyn := false, N := Tryz.f87.ntmps }
theorem ok87 : FnOK 8 87 := fn_mk cc87 Tryz.f87 c_round_Over rfl rfl Tryz.func87 rfl rfl (by kernel_rfl) (by kernel_rfl)
noncomputable def cc88 : CC := { P := Tryz.prog, toS := toS, inl := fun n => List.elem n ([] : List Nat), dyn := false, N := Tryz.f88.ntmps }
theorem ok88 : FnOK 192 88 := fn_mk cc88 Tryz.f88 c_word_Split rfl rfl Tryz.func88 rfl rfl (by kernel_rfl) (by kernel_rfl)
noncomputable def cc89 : CC := { P := Tryz.prog, toS := toS, inl := fun n => List.elem n ([] : List Nat), dyn := false, N := Tryz.f89.ntmps }
theorem ok89 : FnOK 193 89 := fn_mk cc89 Tryz.f89 c_word_Class rfl rfl Tryz.func89 rfl rfl (by kernel_rfl) (by kernel_rfl)
noncomputable def cc90 : CC := { P := Tryz.prog, toS := toS, inl := fun n => List.elem n ([] : List Nat), dyn := false, N := Tryz.f90.ntmps }
theorem ok90 : FnOK 194 90 := fn_mk cc90 Tryz.f90 c_word_Value rfl rfl Tryz.func90 rfl rfl (by kernel_rfl) (by kernel_rfl)
noncomputable def cc91 : CC := { P := Tryz.prog, toS := toS, inl := fun n => List.elem n ([] : List Nat), dyn := false, N := Tryz.f91.ntmps }
theorem ok91 : FnOK 196 91 := fn_mk cc91 Tryz.f91 c_word_None rfl rfl Tryz.func91 rfl rfl (by kernel_rfl) (by kernel_rfl)
noncomputable def cc92 : CC := { P := Tryz.prog, toS := toS, inl := fun n => List.elem n ([] : List Nat), dyn := false, N := Tryz.f92.ntmps }
theorem ok92 : FnOK 74 92 := fn_mk cc92 Tryz.f92 c_dyad_both rfl rfl Tryz.func92 rfl rfl (by kernel_rfl) (by kernel_rfl)
noncomputable def cc93 : CC := { P := Tryz.prog, toS := toS, inl := fun n => List.elem n ([] : List Nat), dyn := false, N := Tryz.f93.ntmps }
theorem ok93 : FnOK 197 93 := fn_mk cc93 Tryz.f93 c_nat_Mul rfl rfl Tryz.func93 rfl rfl (by kernel_rfl) (by kernel_rfl)
noncomputable def cc94 : CC := { P := Tryz.prog, toS := toS, inl := fun n => List.elem n ([] : List Nat), dyn := false, N := Tryz.f94.ntmps }
theorem ok94 : FnOK 54 94 := fn_mk cc94 Tryz.f94 c_dyad_Make rfl rfl Tryz.func94 rfl rfl (by kernel_rfl) (by kernel_rfl)
noncomputable def cc95 : CC := { P := Tryz.prog, toS := toS, inl := fun n => List.elem n ([] : List Nat), dyn := false, N := Tryz.f95.ntmps }
theorem ok95 : FnOK 195 95 := fn_mk cc95 Tryz.f95 c_dyad_Add rfl rfl Tryz.func95 rfl rfl (by kernel_rfl) (by kernel_rfl)
noncomputable def cc96 : CC := { P := Tryz.prog, toS := toS, inl := fun n => List.elem n ([] : List Nat), dyn := false, N := Tryz.f96.ntmps }
theorem ok96 : FnOK 62 96 := fn_mk cc96 Tryz.f96 c_ref03_Join rfl rfl Tryz.func96 rfl rfl (by kernel_rfl) (by kernel_rfl)
noncomputable def cc97 : CC := { P := Tryz.prog, toS := toS, inl := fun n => List.elem n ([] : List Nat), dyn := false, N := Tryz.f97.ntmps }
theorem ok97 : FnOK 63 97 := fn_mk cc97 Tryz.f97 c_ref03_Most rfl rfl Tryz.func97 rfl rfl (by kernel_rfl) (by kernel_rfl)
noncomputable def cc98 : CC := { P := Tryz.prog, toS := toS, inl := fun n => List.elem n ([] : List Nat), dyn := false, N := Tryz.f98.ntmps }
theorem ok98 : FnOK 73 98 := fn_mk cc98 Tryz.f98 c_ref03_Sign rfl rfl Tryz.func98 rfl rfl (by kernel_rfl) (by kernel_rfl)
noncomputable def cc99 : CC := { P := Tryz.prog, toS := toS, inl := fun n => List.elem n ([] : List Nat), dyn := false, N := Tryz.f99.ntmps }
theorem ok99 : FnOK 72 99 := fn_mk cc99 Tryz.f99 c_ref01_Up rfl rfl Tryz.func99 rfl rfl (by kernel_rfl) (by kernel_rfl)
noncomputable def cc100 : CC := { P := Tryz.prog, toS := toS, inl := fun n => List.elem n ([] : List Nat), dyn := false, N := Tryz.f100.ntmps }
theorem ok100 : FnOK 99 100 := fn_mk cc100 Tryz.f100 c_ref01_Add rfl rfl Tryz.func100 rfl rfl (by kernel_rfl) (by kernel_rfl)
noncomputable def cc101 : CC := { P := Tryz.prog, toS := toS, inl := fun n => List.elem n ([] : List Nat), dyn := false, N := Tryz.f101.ntmps }
theorem ok101 : FnOK 100 101 := fn_mk cc101 Tryz.f101 c_ref01_Cmp rfl rfl Tryz.func101 rfl rfl (by kernel_rfl) (by kernel_rfl)
noncomputable def cc102 : CC := { P := Tryz.prog, toS := toS, inl := fun n => List.elem n ([] : List Nat), dyn := false, N := Tryz.f102.ntmps }
theorem ok102 : FnOK 101 102 := fn_mk cc102 Tryz.f102 c_ref01_Sub rfl rfl Tryz.func102 rfl rfl (by kernel_rfl) (by kernel_rfl)
noncomputable def cc104 : CC := { P := Tryz.prog, toS := toS, inl := fun n => List.elem n ([] : List Nat), dyn := false, N := Tryz.f104.ntmps }
theorem ok104 : FnOK 34 104 := fn_mk cc104 Tryz.f104 c_ref04_Taken rfl rfl Tryz.func104 rfl rfl (by kernel_rfl) (by kernel_rfl)
noncomputable def cc105 : CC := { P := Tryz.prog, toS := toS, inl := fun n => List.elem n ([] : List Nat), dyn := false, N := Tryz.f105.ntmps }
theorem ok105 : FnOK 35 105 := fn_mk cc105 Tryz.f105 c_ref03_Wide rfl rfl Tryz.func105 rfl rfl (by kernel_rfl) (by kernel_rfl)
noncomputable def cc106 : CC := { P := Tryz.prog, toS := toS, inl := fun n => List.elem n ([] : List Nat), dyn := false, N := Tryz.f106.ntmps }
theorem ok106 : FnOK 10 106 := fn_mk cc106 Tryz.f106 c_ref04_Over rfl rfl Tryz.func106 rfl rfl (by kernel_rfl) (by kernel_rfl)
noncomputable def cc107 : CC := { P := Tryz.prog, toS := toS, inl := fun n => List.elem n ([] : List Nat), dyn := false, N := Tryz.f107.ntmps }
theorem ok107 : FnOK 36 107 := fn_mk cc107 Tryz.f107 c_ref03_Of rfl rfl Tryz.func107 rfl rfl (by kernel_rfl) (by kernel_rfl)
noncomputable def cc108 : CC := { P := Tryz.prog, toS := toS, inl := fun n => List.elem n ([] : List Nat), dyn := false, N := Tryz.f108.ntmps }
theorem ok108 : FnOK 48 108 := fn_mk cc108 Tryz.f108 c_dyad_May rfl rfl Tryz.func108 rfl rfl (by kernel_rfl) (by kernel_rfl)
noncomputable def cc110 : CC := { P := Tryz.prog, toS := toS, inl := fun n => List.elem n ([] : List Nat), dyn := false, N := Tryz.f110.ntmps }
theorem ok110 : FnOK 26 110 := fn_mk cc110 Tryz.f110 c_word_Inf rfl rfl Tryz.func110 rfl rfl (by kernel_rfl) (by kernel_rfl)
noncomputable def cc111 : CC := { P := Tryz.prog, toS := toS, inl := fun n => List.elem n ([] : List Nat), dyn := false, N := Tryz.f111.ntmps }
theorem ok111 : FnOK 57 111 := fn_mk cc111 Tryz.f111 c_word_Zero rfl rfl Tryz.func111 rfl rfl (by kernel_rfl) (by kernel_rfl)
noncomputable def cc112 : CC := { P := Tryz.prog, toS := toS, inl := fun n => List.elem n ([] : List Nat), dyn := false, N := Tryz.f112.ntmps }
theorem ok112 : FnOK 22 112 := fn_mk cc112 Tryz.f112 c_dyad_Sign rfl rfl Tryz.func112 rfl rfl (by kernel_rfl) (by kernel_rfl)
noncomputable def cc113 : CC := { P := Tryz.prog, toS := toS, inl := fun n => List.elem n ([] : List Nat), dyn := false, N := Tryz.f113.ntmps }
theorem ok113 : FnOK 21 113 := fn_mk cc113 Tryz.f113 c_round_open rfl rfl Tryz.func113 rfl rfl (by kernel_rfl) (by kernel_rfl)
noncomputable def cc115 : CC := { P := Tryz.prog, toS := toS, inl := fun n => List.elem n ([] : List Nat), dyn := false, N := Tryz.f115.ntmps }
theorem ok115 : FnOK 23 115 := fn_mk cc115 Tryz.f115 c_round_partOf rfl rfl Tryz.func115 rfl rfl (by kernel_rfl) (by kernel_rfl)
noncomputable def cc116 : CC := { P := Tryz.prog, toS := toS, inl := fun n => List.elem n ([] : List Nat), dyn := false, N := Tryz.f116.ntmps }
theorem ok116 : FnOK 24 116 := fn_mk cc116 Tryz.f116 c_round_part_word rfl rfl Tryz.func116 rfl rfl (by kernel_rfl) (by kernel_rfl)
noncomputable def cc118 : CC := { P := Tryz.prog, toS := toS, inl := fun n => List.elem n ([] : List Nat), dyn := false, N := Tryz.f118.ntmps }
theorem ok118 : FnOK 42 118 := fn_mk cc118 Tryz.f118 c_ref04_Beyond rfl rfl Tryz.func118 rfl rfl (by kernel_rfl) (by kernel_rfl)
noncomputable def cc119 : CC := { P := Tryz.prog, toS := toS, inl := fun n => List.elem n ([] : List Nat), dyn := false, N := Tryz.f119.ntmps }
theorem ok119 : FnOK 43 119 := fn_mk cc119 Tryz.f119 c_dyad_Root rfl rfl Tryz.func119 rfl rfl (by kernel_rfl) (by kernel_rfl)
noncomputable def cc120 : CC := { P := Tryz.prog, toS := toS, inl := fun n => List.elem n ([] : List Nat), dyn := false, N := Tryz.f120.ntmps }
theorem ok120 : FnOK 44 120 := fn_mk cc120 Tryz.f120 c_ref02_Root rfl rfl Tryz.func120 rfl rfl (by kernel_rfl) (by kernel_rfl)
noncomputable def cc121 : CC := { P := Tryz.prog, toS := toS, inl := fun n => List.elem n ([] : List Nat), dyn := false, N := Tryz.f121.ntmps }
theorem ok121 : FnOK 83 121 := fn_mk cc121 Tryz.f121 c_ref01_Low rfl rfl Tryz.func121 rfl rfl (by kernel_rfl) (by kernel_rfl)
noncomputable def cc122 : CC := { P := Tryz.prog, toS := toS, inl := fun n => List.elem n ([] : List Nat), dyn := false, N := Tryz.f122.ntmps }
theorem ok122 : FnOK 84 122 := fn_mk cc122 Tryz.f122 c_ref01_Down rfl rfl Tryz.func122 rfl rfl (by kernel_rfl) (by kernel_rfl)
noncomputable def cc123 : CC := { P := Tryz.prog, toS := toS, inl := fun n => List.elem n ([] : List Nat), dyn := false, N := Tryz.f123.ntmps }
theorem ok123 : FnOK 85 123 := fn_mk cc123 Tryz.f123 c_ref01_Trim rfl rfl Tryz.func123 rfl rfl (by kernel_rfl) (by kernel_rfl)
noncomputable def cc124 : CC := { P := Tryz.prog, toS := toS, inl := fun n => List.elem n ([] : List Nat), dyn := false, N := Tryz.f124.ntmps }
theorem ok124 : FnOK 64 124 := fn_mk cc124 Tryz.f124 c_ref01_Len rfl rfl Tryz.func124 rfl rfl (by kernel_rfl) (by kernel_rfl)
noncomputable def cc126 : CC := { P := Tryz.prog, toS := toS, inl := fun n => List.elem n ([] : List Nat), dyn := false, N := Tryz.f126.ntmps }
theorem ok126 : FnOK 25 126 := fn_mk cc126 Tryz.f126 c_word_Greatest rfl rfl Tryz.func126 rfl rfl (by kernel_rfl) (by kernel_rfl)
noncomputable def cc127 : CC := { P := Tryz.prog, toS := toS, inl := fun n => List.elem n ([] : List Nat), dyn := false, N := Tryz.f127.ntmps }
theorem ok127 : FnOK 95 127 := fn_mk cc127 Tryz.f127 c_word_open rfl rfl Tryz.func127 rfl rfl (by kernel_rfl) (by kernel_rfl)
noncomputable def cc128 : CC := { P := Tryz.prog, toS := toS, inl := fun n => List.elem n ([] : List Nat), dyn := false, N := Tryz.f128.ntmps }
theorem ok128 : FnOK 200 128 := fn_mk cc128 Tryz.f128 c_word_shape_split rfl rfl Tryz.func128 rfl rfl (by kernel_rfl) (by kernel_rfl)
noncomputable def cc129 : CC := { P := Tryz.prog, toS := toS, inl := fun n => List.elem n ([] : List Nat), dyn := false, N := Tryz.f129.ntmps }
theorem ok129 : FnOK 201 129 := fn_mk cc129 Tryz.f129 c_word_shape_class rfl rfl Tryz.func129 rfl rfl (by kernel_rfl) (by kernel_rfl)
noncomputable def cc130 : CC := { P := Tryz.prog, toS := toS, inl := fun n => List.elem n ([] : List Nat), dyn := false, N := Tryz.f130.ntmps }
theorem ok130 : FnOK 202 130 := fn_mk cc130 Tryz.f130 c_word_finite rfl rfl Tryz.func130 rfl rfl (by kernel_rfl) (by kernel_rfl)
noncomputable def cc131 : CC := { P := Tryz.prog, toS := toS, inl := fun n => List.elem n ([] : List Nat), dyn := false, N := Tryz.f131.ntmps }
theorem ok131 : FnOK 55 131 := fn_mk cc131 Tryz.f131 c_nat_Of rfl rfl Tryz.func131 rfl rfl (by kernel_rfl) (by kernel_rfl)
noncomputable def cc132 : CC := { P := Tryz.prog, toS := toS, inl := fun n => List.elem n ([] : List Nat), dyn := false, N := Tryz.f132.ntmps }
theorem ok132 : FnOK 96 132 := fn_mk cc132 Tryz.f132 c_word_shape_low rfl rfl Tryz.func132 rfl rfl (by kernel_rfl) (by kernel_rfl)
noncomputable def cc133 : CC := { P := Tryz.prog, toS := toS, inl := fun n => List.elem n ([] : List Nat), dyn := false, N := Tryz.f133.ntmps }
theorem ok133 : FnOK 58 133 := fn_mk cc133 Tryz.f133 c_word_named rfl rfl Tryz.func133 rfl rfl (by kernel_rfl) (by kernel_rfl)
noncomputable def cc134 : CC := { P := Tryz.prog, toS := toS, inl := fun n => List.elem n ([] : List Nat), dyn := false, N := Tryz.f134.ntmps }
theorem ok134 : FnOK 204 134 := fn_mk cc134 Tryz.f134 c_word_shape_none rfl rfl Tryz.func134 rfl rfl (by kernel_rfl) (by kernel_rfl)
noncomputable def cc135 : CC := { P := Tryz.prog, toS := toS, inl := fun n => List.elem n ([] : List Nat), dyn := false, N := Tryz.f135.ntmps }
theorem ok135 : FnOK 106 135 := fn_mk cc135 Tryz.f135 c_nat_all rfl rfl Tryz.func135 rfl rfl (by kernel_rfl) (by kernel_rfl)
noncomputable def cc136 : CC := { P := Tryz.prog, toS := toS, inl := fun n => List.elem n ([] : List Nat), dyn := false, N := Tryz.f136.ntmps }
theorem ok136 : FnOK 117 136 := fn_mk cc136 Tryz.f136 c_nat_bound rfl rfl Tryz.func136 rfl rfl (by kernel_rfl) (by kernel_rfl)
noncomputable def cc137 : CC := { P := Tryz.prog, toS := toS, inl := fun n => List.elem n ([] : List Nat), dyn := false, N := Tryz.f137.ntmps }
theorem ok137 : FnOK 113 137 := fn_mk cc137 Tryz.f137 c_nat_mul rfl rfl Tryz.func137 rfl rfl (by kernel_rfl) (by kernel_rfl)
noncomputable def cc138 : CC := { P := Tryz.prog, toS := toS, inl := fun n => List.elem n ([] : List Nat), dyn := false, N := Tryz.f138.ntmps }
theorem ok138 : FnOK 86 138 := fn_mk cc138 Tryz.f138 c_nat_May rfl rfl Tryz.func138 rfl rfl (by kernel_rfl) (by kernel_rfl)
noncomputable def cc139 : CC := { P := Tryz.prog, toS := toS, inl := fun n => List.elem n ([] : List Nat), dyn := false, N := Tryz.f139.ntmps }
theorem ok139 : FnOK 90 139 := fn_mk cc139 Tryz.f139 c_nat_Low rfl rfl Tryz.func139 rfl rfl (by kernel_rfl) (by kernel_rfl)
noncomputable def cc140 : CC := { P := Tryz.prog, toS := toS, inl := fun n => List.elem n ([] : List Nat), dyn := false, N := Tryz.f140.ntmps }
theorem ok140 : FnOK 50 140 := fn_mk cc140 Tryz.f140 c_nat_Shift rfl rfl Tryz.func140 rfl rfl (by kernel_rfl) (by kernel_rfl)
noncomputable def cc141 : CC := { P := Tryz.prog, toS := toS, inl := fun n => List.elem n ([] : List Nat), dyn := false, N := Tryz.f141.ntmps }
theorem ok141 : FnOK 203 141 := fn_mk cc141 Tryz.f141 c_dyad_add rfl rfl Tryz.func141 rfl rfl (by kernel_rfl) (by kernel_rfl)
noncomputable def cc142 : CC := { P := Tryz.prog, toS := toS, inl := fun n => List.elem n ([] : List Nat), dyn := false, N := Tryz.f142.ntmps }
theorem ok142 : FnOK 66 142 := fn_mk cc142 Tryz.f142 c_ref02_Floor rfl rfl Tryz.func142 rfl rfl (by kernel_rfl) (by kernel_rfl)
noncomputable def cc143 : CC := { P := Tryz.prog, toS := toS, inl := fun n => List.elem n ([] : List Nat), dyn := false, N := Tryz.f143.ntmps }
theorem ok143 : FnOK 68 143 := fn_mk cc143 Tryz.f143 c_ref02_Two rfl rfl Tryz.func143 rfl rfl (by kernel_rfl) (by kernel_rfl)
noncomputable def cc144 : CC := { P := Tryz.prog, toS := toS, inl := fun n => List.elem n ([] : List Nat), dyn := false, N := Tryz.f144.ntmps }
theorem ok144 : FnOK 71 144 := fn_mk cc144 Tryz.f144 c_ref04_half rfl rfl Tryz.func144 rfl rfl (by kernel_rfl) (by kernel_rfl)
noncomputable def cc145 : CC := { P := Tryz.prog, toS := toS, inl := fun n => List.elem n ([] : List Nat), dyn := false, N := Tryz.f145.ntmps }
theorem ok145 : FnOK 87 145 := fn_mk cc145 Tryz.f145 c_dyad_inside rfl rfl Tryz.func145 rfl rfl (by kernel_rfl) (by kernel_rfl)
noncomputable def cc146 : CC := { P := Tryz.prog, toS := toS, inl := fun n => List.elem n ([] : List Nat), dyn := false, N := Tryz.f146.ntmps }
theorem ok146 : FnOK 205 146 := fn_mk cc146 Tryz.f146 c_dyad_own rfl rfl Tryz.func146 rfl rfl (by kernel_rfl) (by kernel_rfl)
noncomputable def cc147 : CC := { P := Tryz.prog, toS := toS, inl := fun n => List.elem n ([] : List Nat), dyn := false, N := Tryz.f147.ntmps }
theorem ok147 : FnOK 60 147 := fn_mk cc147 Tryz.f147 c_word_shape_inf rfl rfl Tryz.func147 rfl rfl (by kernel_rfl) (by kernel_rfl)
noncomputable def cc148 : CC := { P := Tryz.prog, toS := toS, inl := fun n => List.elem n ([] : List Nat), dyn := false, N := Tryz.f148.ntmps }
theorem ok148 : FnOK 98 148 := fn_mk cc148 Tryz.f148 c_word_Zero_1 rfl rfl Tryz.func148 rfl rfl (by kernel_rfl) (by kernel_rfl)
noncomputable def cc149 : CC := { P := Tryz.prog, toS := toS, inl := fun n => List.elem n ([] : List Nat), dyn := false, N := Tryz.f149.ntmps }
theorem ok149 : FnOK 47 149 := fn_mk cc149 Tryz.f149 c_round_formOf rfl rfl Tryz.func149 rfl rfl (by kernel_rfl) (by kernel_rfl)
noncomputable def cc150 : CC := { P := Tryz.prog, toS := toS, inl := fun n => List.elem n ([] : List Nat), dyn := false, N := Tryz.f150.ntmps }
theorem ok150 : FnOK 75 150 := fn_mk cc150 Tryz.f150 c_dyad_asked rfl rfl Tryz.func150 rfl rfl (by kernel_rfl) (by kernel_rfl)
noncomputable def cc151 : CC := { P := Tryz.prog, toS := toS, inl := fun n => List.elem n ([] : List Nat), dyn := false, N := Tryz.f151.ntmps }
theorem ok151 : FnOK 49 151 := fn_mk cc151 Tryz.f151 c_nat_Len rfl rfl Tryz.func151 rfl rfl (by kernel_rfl) (by kernel_rfl)
noncomputable def cc153 : CC := { P := Tryz.prog, toS := toS, inl := fun n => List.elem n ([] : List Nat), dyn := false, N := Tryz.f153.ntmps }
theorem ok153 : FnOK 77 153 := fn_mk cc153 Tryz.f153 c_nat_QuoRem rfl rfl Tryz.func153 rfl rfl (by kernel_rfl) (by kernel_rfl)
noncomputable def cc154 : CC := { P := Tryz.prog, toS := toS, inl := fun n => List.elem n ([] : List Nat), dyn := false, N := Tryz.f154.ntmps }
theorem ok154 : FnOK 78 154 := fn_mk cc154 Tryz.f154 c_dyad_made rfl rfl Tryz.func154 rfl rfl (by kernel_rfl) (by kernel_rfl)
noncomputable def cc155 : CC := { P := Tryz.prog, toS := toS, inl := fun n => List.elem n ([] : List Nat), dyn := false, N := Tryz.f155.ntmps }
theorem ok155 : FnOK 51 155 := fn_mk cc155 Tryz.f155 c_nat_Num rfl rfl Tryz.func155 rfl rfl (by kernel_rfl) (by kernel_rfl)
noncomputable def cc156 : CC := { P := Tryz.prog, toS := toS, inl := fun n => List.elem n ([] : List Nat), dyn := false, N := Tryz.f156.ntmps }
theorem ok156 : FnOK 52 156 := fn_mk cc156 Tryz.f156 c_round_part_units rfl rfl Tryz.func156 rfl rfl (by kernel_rfl) (by kernel_rfl)
noncomputable def cc157 : CC := { P := Tryz.prog, toS := toS, inl := fun n => List.elem n ([] : List Nat), dyn := false, N := Tryz.f157.ntmps }
theorem ok157 : FnOK 53 157 := fn_mk cc157 Tryz.f157 c_bits_Len64 rfl rfl Tryz.func157 rfl rfl (by kernel_rfl) (by kernel_rfl)
noncomputable def cc158 : CC := { P := Tryz.prog, toS := toS, inl := fun n => List.elem n ([] : List Nat), dyn := false, N := Tryz.f158.ntmps }
theorem ok158 : FnOK 56 158 := fn_mk cc158 Tryz.f158 c_word_Of rfl rfl Tryz.func158 rfl rfl (by kernel_rfl) (by kernel_rfl)
noncomputable def cc160 : CC := { P := Tryz.prog, toS := toS, inl := fun n => List.elem n ([] : List Nat), dyn := false, N := Tryz.f160.ntmps }
theorem ok160 : FnOK 80 160 := fn_mk cc160 Tryz.f160 c_ref02_Cut rfl rfl Tryz.func160 rfl rfl (by kernel_rfl) (by kernel_rfl)
noncomputable def cc161 : CC := { P := Tryz.prog, toS := toS, inl := fun n => List.elem n ([] : List Nat), dyn := false, N := Tryz.f161.ntmps }
theorem ok161 : FnOK 81 161 := fn_mk cc161 Tryz.f161 c_nat_Root rfl rfl Tryz.func161 rfl rfl (by kernel_rfl) (by kernel_rfl)
noncomputable def cc162 : CC := { P := Tryz.prog, toS := toS, inl := fun n => List.elem n ([] : List Nat), dyn := false, N := Tryz.f162.ntmps }
theorem ok162 : FnOK 82 162 := fn_mk cc162 Tryz.f162 c_ref01_Root rfl rfl Tryz.func162 rfl rfl (by kernel_rfl) (by kernel_rfl)
noncomputable def cc163 : CC := { P := Tryz.prog, toS := toS, inl := fun n => List.elem n ([] : List Nat), dyn := false, N := Tryz.f163.ntmps }
theorem ok163 : FnOK 111 163 := fn_mk cc163 Tryz.f163 c_ref01_Bit rfl rfl Tryz.func163 rfl rfl (by kernel_rfl) (by kernel_rfl)
noncomputable def cc165 : CC := { P := Tryz.prog, toS := toS, inl := fun n => List.elem n ([] : List Nat), dyn := false, N := Tryz.f165.ntmps }
theorem ok165 : FnOK 104 165 := fn_mk cc165 Tryz.f165 c_nat_Cmp rfl rfl Tryz.func165 rfl rfl (by kernel_rfl) (by kernel_rfl)
noncomputable def cc166 : CC := { P := Tryz.prog, toS := toS, inl := fun n => List.elem n ([] : List Nat), dyn := false, N := Tryz.f166.ntmps }
theorem ok166 : FnOK 59 166 := fn_mk cc166 Tryz.f166 c_word_Greatest_1 rfl rfl Tryz.func166 rfl rfl (by kernel_rfl) (by kernel_rfl)
noncomputable def cc167 : CC := { P := Tryz.prog, toS := toS, inl := fun n => List.elem n ([] : List Nat), dyn := false, N := Tryz.f167.ntmps }
theorem ok167 : FnOK 115 167 := fn_mk cc167 Tryz.f167 c_word_shapeOf rfl rfl Tryz.func167 rfl rfl (by kernel_rfl) (by kernel_rfl)
noncomputable def cc168 : CC := { P := Tryz.prog, toS := toS, inl := fun n => List.elem n ([] : List Nat), dyn := false, N := Tryz.f168.ntmps }
theorem ok168 : FnOK 94 168 := fn_mk cc168 Tryz.f168 c_nat_trim rfl rfl Tryz.func168 rfl rfl (by kernel_rfl) (by kernel_rfl)
noncomputable def cc169 : CC := { P := Tryz.prog, toS := toS, inl := fun n => List.elem n ([] : List Nat), dyn := false, N := Tryz.f169.ntmps }
theorem ok169 : FnOK 114 169 := fn_mk cc169 Tryz.f169 (c_bits_TrailingZeros32 0) rfl rfl Tryz.func169 rfl rfl (by kernel_rfl) (by kernel_rfl)
noncomputable def cc170 : CC := { P := Tryz.prog, toS := toS, inl := fun n => List.elem n ([] : List Nat), dyn := false, N := Tryz.f170.ntmps }
theorem ok170 : FnOK 89 170 := fn_mk cc170 Tryz.f170 c_nat_down rfl rfl Tryz.func170 rfl rfl (by kernel_rfl) (by kernel_rfl)
noncomputable def cc171 : CC := { P := Tryz.prog, toS := toS, inl := fun n => List.elem n ([94] : List Nat), dyn := false, N := Tryz.f171.ntmps }
theorem ok171 : FnOK 91 171 := fn_mk cc171 Tryz.f171 c_nat_up rfl rfl Tryz.func171 rfl rfl (by kernel_rfl) (by kernel_rfl)
noncomputable def cc172 : CC := { P := Tryz.prog, toS := toS, inl := fun n => List.elem n ([] : List Nat), dyn := false, N := Tryz.f172.ntmps }
theorem ok172 : FnOK 207 172 := fn_mk cc172 Tryz.f172 c_dyad_edge rfl rfl Tryz.func172 rfl rfl (by kernel_rfl) (by kernel_rfl)
noncomputable def cc173 : CC := { P := Tryz.prog, toS := toS, inl := fun n => List.elem n ([] : List Nat), dyn := false, N := Tryz.f173.ntmps }
theorem ok173 : FnOK 208 173 := fn_mk cc173 Tryz.f173 c_dyad_join rfl rfl Tryz.func173 rfl rfl (by kernel_rfl) (by kernel_rfl)
noncomputable def cc174 : CC := { P := Tryz.prog, toS := toS, inl := fun n => List.elem n ([] : List Nat), dyn := false, N := Tryz.f174.ntmps }
theorem ok174 : FnOK 88 174 := fn_mk cc174 Tryz.f174 c_bits_Len32 rfl rfl Tryz.func174 rfl rfl (by kernel_rfl) (by kernel_rfl)
noncomputable def cc175 : CC := { P := Tryz.prog, toS := toS, inl := fun n => List.elem n ([] : List Nat), dyn := false, N := Tryz.f175.ntmps }
theorem ok175 : FnOK 103 175 := fn_mk cc175 Tryz.f175 c_nat_Sub rfl rfl Tryz.func175 rfl rfl (by kernel_rfl) (by kernel_rfl)
noncomputable def cc176 : CC := { P := Tryz.prog, toS := toS, inl := fun n => List.elem n ([] : List Nat), dyn := false, N := Tryz.f176.ntmps }
theorem ok176 : FnOK 105 176 := fn_mk cc176 Tryz.f176 c_nat_Add rfl rfl Tryz.func176 rfl rfl (by kernel_rfl) (by kernel_rfl)
noncomputable def cc177 : CC := { P := Tryz.prog, toS := toS, inl := fun n => List.elem n ([] : List Nat), dyn := false, N := Tryz.f177.ntmps }
theorem ok177 : FnOK 107 177 := fn_mk cc177 Tryz.f177 c_nat_cmp rfl rfl Tryz.func177 rfl rfl (by kernel_rfl) (by kernel_rfl)
noncomputable def cc178 : CC := { P := Tryz.prog, toS := toS, inl := fun n => List.elem n ([] : List Nat), dyn := false, N := Tryz.f178.ntmps }
theorem ok178 : FnOK 108 178 := fn_mk cc178 Tryz.f178 c_nat_small rfl rfl Tryz.func178 rfl rfl (by kernel_rfl) (by kernel_rfl)
noncomputable def cc179 : CC := { P := Tryz.prog, toS := toS, inl := fun n => List.elem n ([91, 120] : List Nat), dyn := false, N := Tryz.f179.ntmps }
theorem ok179 : FnOK 109 179 := fn_mk cc179 Tryz.f179 c_nat_long rfl rfl Tryz.func179 rfl rfl (by kernel_rfl) (by kernel_rfl)
noncomputable def cc180 : CC := { P := Tryz.prog, toS := toS, inl := fun n => List.elem n ([] : List Nat), dyn := false, N := Tryz.f180.ntmps }
theorem ok180 : FnOK 92 180 := fn_mk cc180 Tryz.f180 c_round_btoi rfl rfl Tryz.func180 rfl rfl (by kernel_rfl) (by kernel_rfl)
noncomputable def cc181 : CC := { P := Tryz.prog, toS := toS, inl := fun n => List.elem n ([] : List Nat), dyn := false, N := Tryz.f181.ntmps }
theorem ok181 : FnOK 93 181 := fn_mk cc181 Tryz.f181 c_round_up rfl rfl Tryz.func181 rfl rfl (by kernel_rfl) (by kernel_rfl)
noncomputable def cc182 : CC := { P := Tryz.prog, toS := toS, inl := fun n => List.elem n ([] : List Nat), dyn := false, N := Tryz.f182.ntmps }
theorem ok182 : FnOK 97 182 := fn_mk cc182 Tryz.f182 c_word_shape_join rfl rfl Tryz.func182 rfl rfl (by kernel_rfl) (by kernel_rfl)
noncomputable def cc184 : CC := { P := Tryz.prog, toS := toS, inl := fun n => List.elem n ([] : List Nat), dyn := false, N := Tryz.f184.ntmps }
theorem ok184 : FnOK 112 184 := fn_mk cc184 Tryz.f184 c_bits_Add32 rfl rfl Tryz.func184 rfl rfl (by kernel_rfl) (by kernel_rfl)
noncomputable def cc185 : CC := { P := Tryz.prog, toS := toS, inl := fun n => List.elem n ([] : List Nat), dyn := false, N := Tryz.f185.ntmps }
theorem ok185 : FnOK 209 185 := fn_mk cc185 Tryz.f185 c_dyad_halved rfl rfl Tryz.func185 rfl rfl (by kernel_rfl) (by kernel_rfl)
noncomputable def cc186 : CC := { P := Tryz.prog, toS := toS, inl := fun n => List.elem n ([] : List Nat), dyn := false, N := Tryz.f186.ntmps }
theorem ok186 : FnOK 116 186 := fn_mk cc186 Tryz.f186 c_nat_sub rfl rfl Tryz.func186 rfl rfl (by kernel_rfl) (by kernel_rfl)
noncomputable def cc187 : CC := { P := Tryz.prog, toS := toS, inl := fun n => List.elem n ([] : List Nat), dyn := false, N := Tryz.f187.ntmps }
theorem ok187 : FnOK 118 187 := fn_mk cc187 Tryz.f187 c_bits_Div32 rfl rfl Tryz.func187 rfl rfl (by kernel_rfl) (by kernel_rfl)
noncomputable def cc188 : CC := { P := Tryz.prog, toS := toS, inl := fun n => List.elem n ([] : List Nat), dyn := false, N := Tryz.f188.ntmps }
theorem ok188 : FnOK 119 188 := fn_mk cc188 Tryz.f188 c_bits_LeadingZeros32 rfl rfl Tryz.func188 rfl rfl (by kernel_rfl) (by kernel_rfl)
noncomputable def cc189 : CC := { P := Tryz.prog, toS := toS, inl := fun n => List.elem n ([] : List Nat), dyn := false, N := Tryz.f189.ntmps }
theorem ok189 : FnOK 120 189 := fn_mk cc189 Tryz.f189 c_nat_step rfl rfl Tryz.func189 rfl rfl (by kernel_rfl) (by kernel_rfl)
noncomputable def cc190 : CC := { P := Tryz.prog, toS := toS, inl := fun n => List.elem n ([] : List Nat), dyn := false, N := Tryz.f190.ntmps }
theorem ok190 : FnOK 121 190 := fn_mk cc190 Tryz.f190 c_bits_Sub32 rfl rfl Tryz.func190 rfl rfl (by kernel_rfl) (by kernel_rfl)
theorem all_fn : AllP FnOK lnk := ⟨ok6, ok10, ok11, ok12, ok13, ok15, ok23, ok24, ok26, ok27, ok28, ok29, ok31, ok32, ok42, ok43, ok44, ok45, ok46, ok47, ok48, ok49, ok50, ok51, ok53, ok54, ok55, ok56, ok58, ok60, ok62, ok63, ok64, ok65, ok68, ok69, ok70, ok71, ok72, ok73, ok74, ok75, ok76, ok77, ok78, ok80, ok87, ok88, ok89, ok90, ok91, ok92, ok93, ok94, ok95, ok96, ok97, ok98, ok99, ok100, ok101, ok102, ok104, ok105, ok106, ok107, ok108, ok110, ok111, ok112, ok113, ok115, ok116, ok118, ok119, ok120, ok121, ok122, ok123, ok124, ok126, ok127, ok128, ok129, ok130, ok131, ok132, ok133, ok134, ok135, ok136, ok137, ok138, ok139, ok140, ok141, ok142, ok143, ok144, ok145, ok146, ok147, ok148, ok149, ok150, ok151, ok153, ok154, ok155, ok156, ok157, ok158, ok160, ok161, ok162, ok163, ok165, ok166, ok167, ok168, ok169, ok170, ok171, ok172, ok173, ok174, ok175, ok176, ok177, ok178, ok179, ok180, ok181, ok182, ok184, ok185, ok186, ok187, ok188, ok189, ok190, trivial⟩
theorem prog_ok : ProgOK Tryz.prog L0 (tbl 0) := ⟨fun f g h => AllP.of all_fn f g h⟩
theorem mixed : Tryz.prog.follows .mixedOrders = true := by kernel_rfl
end Go.Proofs.YtmjcmppbmolmnaaGreatDoor

/-
  The seat's own facts: the listed variable's cells, a start that fits.
-/
namespace Go.Proofs.YtmjcmppbmolmnaaGreatDoor
open Go Go.Cv Go.ChangeShapes Go.WideShapes Go.ChangeAt Go.WideMaps Go.WideElems Go.RowKit

theorem own : ownKnob Tryz.prog.godebug = none := by kernel_rfl
theorem laidOut : laidOutB Tryz.prog = true := by kernel_rfl
theorem gTab : Tryz.prog.globalNamed "math/bits.deBruijn32tab" = some 0 := by kernel_rfl
theorem tTab : (Tryz.prog.globals[0]?).map (·.type) = some 205 := by kernel_rfl
def laid1 : List (String × DataW Unit) := [("math/bits.deBruijn32tab", Rows.laid_math_bits_deBruijn32tab)]

theorem door_met (os : Os) (args : Array Value) : laidMetH Tryz.prog laid1 ((World.doorLaid Tryz.prog 400 os).forCall (fun _ _ => 0) ⟨#[], args, []⟩).memory :=
  laidMetH_of_parts3 (fuel := 8) (laidMet_of_run' 8 (by kernel_rfl) (by kernel_rfl)) (by kernel_rfl) (by kernel_rfl)

theorem of_laid {W : World} (h : laidMetH Tryz.prog laid1 W) : Gok (glb 0) ⟨L0, W, fun r => r < W.heap.size, noι⟩ := by
  rw [MakeChecks.laidMetH_plain _ _ _ (by kernel_rfl)] at h
  obtain ⟨ps, ⟨g0, t0, cs0, f0, p0, q0, hg0, ht0, hv0, hd0, _, _⟩, _, _⟩ := h
  obtain rfl := Option.some.inj (gTab.symm.trans hg0)
  obtain rfl := Option.some.inj (tTab.symm.trans ht0)
  have hc := tab_u8 (l := ntz32) (e := 5) (show Tryz.prog.underlying 205 = some (.array ntz32.length 5) by kernel_rfl) (show Tryz.prog.underlying 5 = some (.int .u8) by kernel_rfl) (by kernel_rfl) hd0
  exact gok_u8 (fun j d hj => by rw [World.var?_cell hg0 hv0 j]; exact hc j d hj) (by decide)
end Go.Proofs.YtmjcmppbmolmnaaGreatDoor
