/-
  A part of the proof of the statements of this seat (texts that the law's own text leans on): no condition.
-/
import Derived.Test.YtcedpdogncohfaaGreatDoorM5
import Derived.Test.YtcedpdogncohfaaGreatDoorM8
import Derived.ProofKit
import Derived.LaidMore
import Derived.OpenShut
import Derived.Deep.Slices
import Derived.Lib.SmallJoins
import Derived.Carry
import Derived.Below
import Derived.ChangeSame
import Derived.Test.YtcedpdogncohfaaGreatDoorM9
import Derived.Test.YtcedpdogncohfaaGreatDoorM7
import Derived.KernelRfl
import Derived.Test.YtcedpdogncohfaaGreatDoorProg
import Derived.Test.YtcedpdogncohfaaGreatDoorRows
import Derived.Test.YtcedpdogncohfaaGreatDoorChecked
import Derived.Stop.Joined
import Derived.SevenTiedAt
set_option linter.unusedVariables false
set_option linter.unusedSimpArgs false
namespace Go.Cv
open Go Go.RowKit Go.WideShapes Go.ChangeShapes Go.WideElems Go.Deep Go.Joins
section
variable {H : Type} {enc : TypeId × Value → H} {P : Program}
theorem trodAll_stays (hl : laidOutB P = true) {W W' : World} {sp : Nat → Bool} (hb : Below W.heap.size W W') :
    ∀ {ts : List TypeId} {vs : List Value} {ds : List (DataW H)} {ps : List MemPlace}, (∀ t ∈ ts, P.readableRec t = true ∧ t < P.types.size) →
    DataW.TrodAll enc P W 0 (fun _ => true) true ts vs ds ps → (∀ p ∈ ps, p.block < W.heap.size ∧ sp p.block = true) → DataW.TrodAll enc P W' 0 sp true ts vs ds ps
  | [], vs, ds, ps, _, h, _ => by
    obtain ⟨rfl, rfl, rfl⟩ := trodAll_nil h
    rfl
  | t :: ts, vs, ds, ps, ht, h, hp => by
    obtain ⟨v, vs1, d, ds1, p, q, rfl, rfl, rfl, h1, h2⟩ := trodAll_cons h
    refine ⟨p, q, ?_, ?_, rfl⟩
    · exact Trod_stays hl (ht t (List.mem_cons_self ..)).1 (ht t (List.mem_cons_self ..)).2 h1 (fun x hx => hb.same (hp x (List.mem_append_left _ hx)).1) (fun x hx => (hp x (List.mem_append_left _ hx)).2)
    · exact trodAll_stays hl hb (fun t' h' => ht t' (List.mem_cons_of_mem _ h')) h2 (fun x hx => hp x (List.mem_append_right _ hx))
theorem law_post {f : Func} {s : ChangeSpec} {apart fresh handsOn again : Bool} {W W' : World} {args : Array Value} {ds gs : List (DataW H)} {before : List MemPlace} {tb : TypeId}
    (hl : laidOutB P = true) (hp : f.params.toList.all (fun t => P.readableRec t && decide (t < P.types.size)) = true) (hr : f.resultTypes = #[tb]) (ht : P.underlying tb = some .bool) (hv : s.vars = [])
    (hs : s.fn H (ds ++ gs) = { results := [.lit (.bool true)], args := ds })
    (hW : DataW.Whole enc P f.params.toList s.vars apart W args.toList ds gs before) (hb : Below W.heap.size W W') :
    s.post enc P f apart fresh handsOn again W args (.bool true) W' := by
  have hlt : ∀ p ∈ before, p.block < W.heap.size := fun p hp => hW.lt p hp
  have hts : ∀ t ∈ f.params.toList, P.readableRec t = true ∧ t < P.types.size := fun t h => by
    have := List.all_eq_true.1 hp t h
    simpa using this
  have hres : ∀ (b : Nat) (sp : Nat → Bool) (hd : Bool), DataW.TrodAll enc P W' b sp hd f.resultTypes.toList ((Value.bool true).resultList f.resultTypes.size) (s.fn H (ds ++ gs)).results [] := fun b sp hd => by
    rw [hs, hr]; exact trodAll_mk1 (shut_bool ht true)
  have hW0 := hW
  obtain ⟨p, q, hA, hV, hpq, hz, hn⟩ := hW
  rw [hv] at hV
  obtain ⟨rfl, rfl⟩ := trodVars_none hV
  rw [List.append_nil] at hpq
  subst hpq
  have hargs : ∀ sp : Nat → Bool, (∀ x ∈ before, sp x.block = true) → DataW.TrodAll enc P W' 0 sp true f.params.toList args.toList (s.fn H (ds ++ [])).args before := fun sp h => by
    rw [hs]; exact trodAll_stays hl hb hts hA (fun x hx => ⟨hlt x hx, h x hx⟩)
  have hvars : ∀ sp : Nat → Bool, DataW.TrodVars enc P W' sp s.vars (s.fn H (ds ++ [])).vars [] := fun sp => by rw [hs, hv]; rfl
  have hold : ∀ p ∈ before, (fun b => decide (b < W.heap.size)) p.block = true := fun p hp => by simpa using hlt p hp
  refine ⟨ds, [], before, [], before, [], hW0, hres _ _ _, hargs _ hold, hvars _, World.keptBut_mono (fun p hp => ⟨hp, ?_⟩) (hb.frame (· ∈ before)), fun _ => ?_⟩
  · exact Or.inr (Or.inl hp)
  · refine ⟨ok_one hr rfl (okWide_bool_mk ht true), _, _, ([] ++ before) ++ [], ⟨[] ++ before, [], trodAll_append (hargs _ (fun _ _ => rfl)) (hres _ _ _), hvars _, rfl, ?_, ?_⟩, ?_⟩
    · intro b off hp
      have hin : MemPlace.cell b off ∈ before := by simpa using hp
      rw [hb.frozen (hlt _ hin)]
      exact hz b off hin
    · intro ha
      simpa using hn ha
    · intro p hp _
      simpa using hp
end
theorem law_run {P : Program} {L : Nat → Option FuncId} {G : Nat → Option (List AV)} {T : Tbl} (hm : P.follows .mixedOrders = true) (hP : ProgOK P L T) {f : Nat} {g : FuncId} {args : List AV} (hLf : L f = some g)
    (hr : run G T f args = some (.bool true)) {W : World} (hG : Gok G ⟨L, W, fun r => r < W.heap.size, noι⟩) {us : Array Value} (hu : RelL ⟨L, W, fun r => r < W.heap.size, noι⟩ args us.toList)
    {Q : Value → World → Prop} (hQ : ∀ W', Go.RowKit.Below W.heap.size W W' → Q (.bool true) W') :
    Calls P g us W fun e W' => ∃ v, e = .returned v ∧ Q v W' := by
  have h := run_sound hm hP hLf hr W (fun r => r < W.heap.size) (fun _ h => h) hG hu
  refine h.mono ?_
  rintro e W' ⟨u, rfl, hb, hrel⟩
  simp only [Rel] at hrel
  subst hrel
  exact ⟨_, rfl, hQ W' hb⟩
theorem gok_u8 {L : Nat → Option FuncId} {W : World} {g : Nat} {l : List Nat} (h : ∀ (j d : Nat), l[j]? = some d → W.cell? ⟨g, j, none⟩ = some (.int .u8 (d : Int))) (hl : 0 < l.length) :
    Gok (fun n => if n = g then some (l.map fun (d : Nat) => .int .u8 (d : Int)) else none) ⟨L, W, fun r => r < W.heap.size, noι⟩ := by
  intro g' cs hg
  simp only at hg
  split at hg
  · next he =>
    subst he
    cases hg
    constructor
    · have h0 := h 0 l[0] (List.getElem?_eq_getElem hl)
      show g' < W.heap.size
      unfold World.cell? at h0
      split at h0
      · next c _ _ hh => exact row_lt hh
      · cases h0
    · rw [relAt_iff]
      intro j v hj
      rw [List.getElem?_map] at hj
      cases hd : l[j]? with
      | none => rw [hd] at hj; cases hj
      | some d =>
        rw [hd] at hj
        simp only [Option.map_some, Option.some.injEq] at hj
        subst hj
        rw [Nat.zero_add]
        exact ⟨_, h j d hd, rfl, by simp only [Rel]⟩
  · cases hg
section
variable {H : Type} {enc : TypeId × Value → H} {P : Program}
theorem tab_u8 {w : World} {base : Nat} {sp : Nat → Bool} {held : Bool} {t e : TypeId} {fuel : Nat} {cs : Array Value} {l : List Nat} {ps : List MemPlace}
    (ht : P.underlying t = some (.array l.length e)) (he : P.underlying e = some (.int .u8)) (hc : P.cellsOf e = 1)
    (h : DataW.trod enc P w base sp held fuel t cs.toList = some (.agg (l.map fun (d : Nat) => .lit (.int .u8 (d : Int))), ps)) : ∀ (j d : Nat), l[j]? = some d → cs[j]? = some (.int .u8 (d : Int)) := by
  obtain ⟨xs, m, rfl, hx, hlen, hn, hel⟩ := DataW.trod_array ht h
  intro j d hj
  have hjl : j < l.length := (List.getElem?_eq_some_iff.1 hj).1
  have h1 := hel j hjl
  simp only [Prod.mk.injEq, DataW.agg.injEq] at hx
  have hxj : xs[j]? = some xs[j] := List.getElem?_eq_getElem (by omega)
  rw [hxj, hc, Nat.mul_one] at h1
  obtain ⟨k, e1, e2, _⟩ := DataW.trod_int he h1
  have h3 : (l.map fun (d : Nat) => (DataW.lit (.int .u8 (d : Int)) : DataW H))[j]? = (xs.map (·.1))[j]? := by rw [hx.1]
  rw [List.getElem?_map, List.getElem?_map, hj, hxj] at h3
  simp only [Option.map_some, Option.some.injEq, e2] at h3
  simp only [DataW.lit.injEq, Lit.int.injEq, true_and] at h3
  subst h3
  have h4 : (cs.toList.drop j).take 1 = [.int .u8 (d : Int)] := e1
  have h5 : cs.toList[j]? = some (.int .u8 (d : Int)) := by
    have : ((cs.toList.drop j).take 1)[0]? = some (.int .u8 (d : Int)) := by rw [h4]; rfl
    rw [List.getElem?_take] at this
    simpa using this
  simpa using h5
end
end Go.Cv
namespace Go.Cv
def glb (g : Nat) : Nat → Option (List AV) := fun n => if n = g then some (ntz32.map fun (d : Nat) => .int .u8 (d : Int)) else none
theorem glob (g : Nat) : Glob (glb g) g := if_pos rfl
theorem al (g : Nat) : Al (glb g) (tbl g) g := ⟨hasA g, hasB g, hasC g, hasD g, hasE g, hasF g, hasG g, hasH g, hasJ g, glob g⟩
end Go.Cv
namespace Go.Cv
theorem known05b : run (glb 1) (tbl 1) 163 [] = some (.bool true) := run_of (glb 1) (tbl 1) 400 (by kernel_rfl)
end Go.Cv
set_option maxRecDepth 100000
namespace Go.Proofs.YtcedpdogncohfaaGreatDoor
open Go Go.Cv
def tosL : List Nat := [0, 0, 0, 407, 373, 164, 166, 165, 221, 224, 408, 372, 370, 409, 163, 176, 177, 184, 178, 179, 180, 181, 182, 183, 15, 18, 157, 374, 392, 371, 175, 8, 192, 193, 194, 195, 48, 198, 196, 26, 57, 74, 197, 54, 22, 7, 21, 40, 23, 24, 43, 62, 63, 31, 25, 95, 200, 201, 202, 55, 96, 203, 86, 87, 205, 58, 204, 60, 98, 106, 117, 113, 90, 50, 47, 75, 49, 76, 77, 78, 51, 52, 53, 56, 81, 73, 59, 115, 94, 207, 208, 114, 89, 91, 88, 103, 104, 105, 107, 108, 109, 92, 93, 97, 112, 209, 116, 118, 119, 120, 121, 0, 0, 0, 0, 0, 0, 0, 0, 0, 0, 0, 0, 0, 0, 0, 0, 0, 0, 0, 0]
def lnk : List (Nat × Nat) := [(407, 3), (373, 4), (164, 5), (166, 6), (165, 7), (221, 8), (224, 9), (408, 10), (372, 11), (370, 12), (409, 13), (163, 14), (176, 15), (177, 16), (184, 17), (178, 18), (179, 19), (180, 20), (181, 21), (182, 22), (183, 23), (15, 24), (18, 25), (157, 26), (374, 27), (392, 28), (371, 29), (175, 30), (8, 31), (192, 32), (193, 33), (194, 34), (195, 35), (48, 36), (198, 37), (196, 38), (26, 39), (57, 40), (74, 41), (197, 42), (54, 43), (22, 44), (7, 45), (21, 46), (40, 47), (23, 48), (24, 49), (43, 50), (62, 51), (63, 52), (31, 53), (25, 54), (95, 55), (200, 56), (201, 57), (202, 58), (55, 59), (96, 60), (203, 61), (86, 62), (87, 63), (205, 64), (58, 65), (204, 66), (60, 67), (98, 68), (106, 69), (117, 70), (113, 71), (90, 72), (50, 73), (47, 74), (75, 75), (49, 76), (76, 77), (77, 78), (78, 79), (51, 80), (52, 81), (53, 82), (56, 83), (81, 84), (73, 85), (59, 86), (115, 87), (94, 88), (207, 89), (208, 90), (114, 91), (89, 92), (91, 93), (88, 94), (103, 95), (104, 96), (105, 97), (107, 98), (108, 99), (109, 100), (92, 101), (93, 102), (97, 103), (112, 104), (209, 105), (116, 106), (118, 107), (119, 108), (120, 109), (121, 110)]
def toS (g : FuncId) : Option Nat := match tosL.getD g 0 with | 0 => none | n + 1 => some (n + 1)
def lnkF (l : List (Nat × Nat)) (f : Nat) : Option FuncId := match l with | [] => none | p :: r => if p.1 = f then some p.2 else lnkF r f
def L0 (f : Nat) : Option FuncId := lnkF lnk f
def AllP (Q : Nat → Nat → Prop) : List (Nat × Nat) → Prop | [] => True | p :: l => Q p.1 p.2 ∧ AllP Q l
theorem AllP.of {Q : Nat → Nat → Prop} : ∀ {l : List (Nat × Nat)}, AllP Q l → ∀ f g, lnkF l f = some g → Q f g
  | [], _, f, g, h => by cases h
  | p :: l, ⟨h1, h2⟩, f, g, h => by
    unfold lnkF at h
    by_cases he : p.1 = f
    · rw [if_pos he] at h; cases h; subst he; exact h1
    · rw [if_neg he] at h; exact AllP.of h2 f g h
def bodyB (P : Program) (p : Nat × Nat) : Bool := match P.funcs[p.2]? with | some fn => (fn.name != "runtime.NumGoroutine") | none => false
theorem bodies : lnk.all (bodyB Tryz.prog) = true := by kernel_rfl
theorem toB : (List.range tosL.length).all (fun g => match toS g with | some f => (L0 f == some g) | none => true) = true := by kernel_rfl
theorem lnk_mem : ∀ (l : List (Nat × Nat)) (f g : Nat), lnkF l f = some g → (f, g) ∈ l
  | [], _, _, h => by cases h
  | p :: l, f, g, h => by
    unfold lnkF at h
    by_cases he : p.1 = f
    · rw [if_pos he] at h; cases h; subst he; exact List.mem_cons_self ..
    · rw [if_neg he] at h; exact List.mem_cons_of_mem _ (lnk_mem l f g h)
theorem link_of (C : CC) (hP : C.P = Tryz.prog) (hS : C.toS = toS) : Link C L0 := by
  constructor
  · intro g f h
    rw [hS] at h
    have hb := List.all_eq_true.1 toB
    have hg : g < tosL.length := by
      rcases Nat.lt_or_ge g tosL.length with x | x
      · exact x
      · exfalso; unfold toS at h; rw [List.getD_eq_getElem?_getD, List.getElem?_eq_none x] at h; cases h
    have := hb g (List.mem_range.2 hg)
    rw [h] at this
    simpa using this
  · intro f g h
    have := List.all_eq_true.1 bodies _ (lnk_mem _ _ _ h)
    unfold bodyB at this
    rw [hP]
    cases hf : Tryz.prog.funcs[g]? with
    | none => simp [hf] at this
    | some fn => simp [hf] at this; exact ⟨fn, rfl, this⟩
def FnOK (f g : Nat) : Prop := FnB Tryz.prog L0 (tbl 1) f g ∨ FnP Tryz.prog (tbl 1) f g
theorem fn_mk {f g : Nat} (C : CC) (fn : Func) (fi : IFn) (h1 : C.P = Tryz.prog) (h2 : C.toS = toS) (h3 : Tryz.prog.funcs[g]? = some fn) (h4 : C.N = fn.ntmps) (h5 : tbl 1 f = some fi) (h6 : fn.body.bind (compC C) = some (erase fi.body)) (h7 : mapO (compRes Tryz.prog) fn.results.toList = some fi.res) : FnOK f g := by
  cases hb : fn.body with
  | none => rw [hb] at h6; cases h6
  | some c => rw [hb] at h6; exact .inl ⟨C, fn, c, fi, h1, link_of C h1 h2, h3, Nat.le_of_eq h4, hb, h5, h6, h7⟩
noncomputable def C0 (n : Nat) : CC := { P := Tryz.prog, toS := toS, inl := fun n => List.elem n ([] : List Nat), dyn := false, N := n }
theorem fm {f g : Nat} (fn : Func) (fi : IFn) (h3 : Tryz.prog.funcs[g]? = some fn) (h5 : tbl 1 f = some fi := by rfl) (h6 : fn.body.bind (compC (C0 fn.ntmps)) = some (erase fi.body) := by kernel_rfl) (h7 : mapO (compRes Tryz.prog) fn.results.toList = some fi.res := by kernel_rfl) : FnOK f g := fn_mk (C0 fn.ntmps) fn fi rfl rfl h3 rfl h5 h6 h7
theorem ok3 : FnOK 407 3 := fm Tryz.f3 c_law05_SoftNative Tryz.func3
theorem ok4 : FnOK 373 4 := .inr ⟨Tryz.f4, .of64, Tryz.func4, by kernel_rfl, by kernel_rfl, by kernel_rfl, by kernel_rfl, rfl⟩
theorem ok5 : FnOK 164 5 := fm Tryz.f5 c_soft_Add Tryz.func5
theorem ok6 : FnOK 166 6 := fm Tryz.f6 c_soft_Sub Tryz.func6
theorem ok7 : FnOK 165 7 := fm Tryz.f7 c_soft_Mul Tryz.func7
theorem ok8 : FnOK 221 8 := fm Tryz.f8 c_soft_Div Tryz.func8
theorem ok9 : FnOK 224 9 := fm Tryz.f9 c_soft_Sqrt Tryz.func9
theorem ok10 : FnOK 408 10 := fm Tryz.f10 c_law05_wide Tryz.func10
theorem ok11 : FnOK 372 11 := fm Tryz.f11 c_math_Sqrt Tryz.func11
theorem ok12 : FnOK 370 12 := .inr ⟨Tryz.f12, .of32, Tryz.func12, by kernel_rfl, by kernel_rfl, by kernel_rfl, by kernel_rfl, rfl⟩
theorem ok13 : FnOK 409 13 := fm Tryz.f13 c_law05_narrow Tryz.func13
theorem ok14 : FnOK 163 14 := fm Tryz.f14 c_law05_known Tryz.func14
theorem ok15 : FnOK 176 15 := fm Tryz.f15 c_soft_open Tryz.func15
theorem ok16 : FnOK 177 16 := fm Tryz.f16 c_soft_desk_add Tryz.func16
theorem ok17 : FnOK 184 17 := fm Tryz.f17 c_dyad_Neg Tryz.func17
theorem ok18 : FnOK 178 18 := fm Tryz.f18 c_soft_has Tryz.func18
theorem ok19 : FnOK 179 19 := fm Tryz.f19 c_soft_desk_none Tryz.func19
theorem ok20 : FnOK 180 20 := fm Tryz.f20 c_soft_desk_inf Tryz.func20
theorem ok21 : FnOK 181 21 := fm Tryz.f21 c_soft_desk_zero Tryz.func21
theorem ok22 : FnOK 182 22 := fm Tryz.f22 c_dyad_Mul Tryz.func22
theorem ok23 : FnOK 183 23 := fm Tryz.f23 c_soft_desk_sum Tryz.func23
theorem ok24 : FnOK 15 24 := fm Tryz.f24 c_round_Quo Tryz.func24
theorem ok25 : FnOK 18 25 := fm Tryz.f25 c_round_Root Tryz.func25
theorem ok26 : FnOK 157 26 := fm Tryz.f26 c_ref03_None Tryz.func26
theorem ok27 : FnOK 374 27 := .inr ⟨Tryz.f27, .b64, Tryz.func27, by kernel_rfl, by kernel_rfl, by kernel_rfl, by kernel_rfl, rfl⟩
theorem ok28 : FnOK 392 28 := .inr ⟨Tryz.f28, .sqrt, Tryz.func28, by kernel_rfl, by kernel_rfl, by kernel_rfl, by kernel_rfl, rfl⟩
theorem ok29 : FnOK 371 29 := .inr ⟨Tryz.f29, .b32, Tryz.func29, by kernel_rfl, by kernel_rfl, by kernel_rfl, by kernel_rfl, rfl⟩
theorem ok30 : FnOK 175 30 := fm Tryz.f30 c_soft_MulAdd Tryz.func30
theorem ok31 : FnOK 8 31 := fm Tryz.f31 c_round_Over Tryz.func31
theorem ok32 : FnOK 192 32 := fm Tryz.f32 c_word_Split Tryz.func32
theorem ok33 : FnOK 193 33 := fm Tryz.f33 c_word_Class Tryz.func33
theorem ok34 : FnOK 194 34 := fm Tryz.f34 c_word_Value Tryz.func34
theorem ok35 : FnOK 195 35 := fm Tryz.f35 c_dyad_Add Tryz.func35
theorem ok36 : FnOK 48 36 := fm Tryz.f36 c_dyad_May Tryz.func36
theorem ok37 : FnOK 198 37 := fm Tryz.f37 c_dyad_signed Tryz.func37
theorem ok38 : FnOK 196 38 := fm Tryz.f38 c_word_None Tryz.func38
theorem ok39 : FnOK 26 39 := fm Tryz.f39 c_word_Inf Tryz.func39
theorem ok40 : FnOK 57 40 := fm Tryz.f40 c_word_Zero Tryz.func40
theorem ok41 : FnOK 74 41 := fm Tryz.f41 c_dyad_both Tryz.func41
theorem ok42 : FnOK 197 42 := fm Tryz.f42 c_nat_Mul Tryz.func42
theorem ok43 : FnOK 54 43 := fm Tryz.f43 c_dyad_Make Tryz.func43
theorem ok44 : FnOK 22 44 := fm Tryz.f44 c_dyad_Sign Tryz.func44
theorem ok45 : FnOK 7 45 := fm Tryz.f45 c_round_Round Tryz.func45
theorem ok46 : FnOK 21 46 := fm Tryz.f46 c_round_open Tryz.func46
theorem ok47 : FnOK 40 47 := fm Tryz.f47 c_dyad_Quo Tryz.func47
theorem ok48 : FnOK 23 48 := fm Tryz.f48 c_round_partOf Tryz.func48
theorem ok49 : FnOK 24 49 := fm Tryz.f49 c_round_part_word Tryz.func49
theorem ok50 : FnOK 43 50 := fm Tryz.f50 c_dyad_Root Tryz.func50
theorem ok51 : FnOK 62 51 := fm Tryz.f51 c_ref03_Join Tryz.func51
theorem ok52 : FnOK 63 52 := fm Tryz.f52 c_ref03_Most Tryz.func52
theorem ok53 : FnOK 31 53 := fm Tryz.f53 c_ref03_Frac Tryz.func53
theorem ok54 : FnOK 25 54 := fm Tryz.f54 c_word_Greatest Tryz.func54
theorem ok55 : FnOK 95 55 := fm Tryz.f55 c_word_open Tryz.func55
theorem ok56 : FnOK 200 56 := fm Tryz.f56 c_word_shape_split Tryz.func56
theorem ok57 : FnOK 201 57 := fm Tryz.f57 c_word_shape_class Tryz.func57
theorem ok58 : FnOK 202 58 := fm Tryz.f58 c_word_finite Tryz.func58
theorem ok59 : FnOK 55 59 := fm Tryz.f59 c_nat_Of Tryz.func59
theorem ok60 : FnOK 96 60 := fm Tryz.f60 c_word_shape_low Tryz.func60
theorem ok61 : FnOK 203 61 := fm Tryz.f61 c_dyad_add Tryz.func61
theorem ok62 : FnOK 86 62 := fm Tryz.f62 c_nat_May Tryz.func62
theorem ok63 : FnOK 87 63 := fm Tryz.f63 c_dyad_inside Tryz.func63
theorem ok64 : FnOK 205 64 := fm Tryz.f64 c_dyad_own Tryz.func64
theorem ok65 : FnOK 58 65 := fm Tryz.f65 c_word_named Tryz.func65
theorem ok66 : FnOK 204 66 := fm Tryz.f66 c_word_shape_none Tryz.func66
theorem ok67 : FnOK 60 67 := fm Tryz.f67 c_word_shape_inf Tryz.func67
theorem ok68 : FnOK 98 68 := fm Tryz.f68 c_word_Zero_1 Tryz.func68
theorem ok69 : FnOK 106 69 := fm Tryz.f69 c_nat_all Tryz.func69
theorem ok70 : FnOK 117 70 := fm Tryz.f70 c_nat_bound Tryz.func70
theorem ok71 : FnOK 113 71 := fm Tryz.f71 c_nat_mul Tryz.func71
theorem ok72 : FnOK 90 72 := fm Tryz.f72 c_nat_Low Tryz.func72
theorem ok73 : FnOK 50 73 := fm Tryz.f73 c_nat_Shift Tryz.func73
theorem ok74 : FnOK 47 74 := fm Tryz.f74 c_round_formOf Tryz.func74
theorem ok75 : FnOK 75 75 := fm Tryz.f75 c_dyad_asked Tryz.func75
theorem ok76 : FnOK 49 76 := fm Tryz.f76 c_nat_Len Tryz.func76
theorem ok77 : FnOK 76 77 := fm Tryz.f77 c_dyad_wide Tryz.func77
theorem ok78 : FnOK 77 78 := fm Tryz.f78 c_nat_QuoRem Tryz.func78
theorem ok79 : FnOK 78 79 := fm Tryz.f79 c_dyad_made Tryz.func79
theorem ok80 : FnOK 51 80 := fm Tryz.f80 c_nat_Num Tryz.func80
theorem ok81 : FnOK 52 81 := fm Tryz.f81 c_round_part_units Tryz.func81
theorem ok82 : FnOK 53 82 := fm Tryz.f82 c_bits_Len64 Tryz.func82
theorem ok83 : FnOK 56 83 := fm Tryz.f83 c_word_Of Tryz.func83
theorem ok84 : FnOK 81 84 := fm Tryz.f84 c_nat_Root Tryz.func84
theorem ok85 : FnOK 73 85 := fm Tryz.f85 c_ref03_Sign Tryz.func85
theorem ok86 : FnOK 59 86 := fm Tryz.f86 c_word_Greatest_1 Tryz.func86
theorem ok87 : FnOK 115 87 := fm Tryz.f87 c_word_shapeOf Tryz.func87
theorem ok88 : FnOK 94 88 := fm Tryz.f88 c_nat_trim Tryz.func88
theorem ok89 : FnOK 207 89 := fm Tryz.f89 c_dyad_edge Tryz.func89
theorem ok90 : FnOK 208 90 := fm Tryz.f90 c_dyad_join Tryz.func90
theorem ok91 : FnOK 114 91 := fm Tryz.f91 (c_bits_TrailingZeros32 1) Tryz.func91
theorem ok92 : FnOK 89 92 := fm Tryz.f92 c_nat_down Tryz.func92
noncomputable def cc93 : CC := { P := Tryz.prog, toS := toS, inl := fun n => List.elem n ([94] : List Nat), dyn := false, N := Tryz.f93.ntmps }
theorem ok93 : FnOK 91 93 := fn_mk cc93 Tryz.f93 c_nat_up rfl rfl Tryz.func93 rfl rfl (by kernel_rfl) (by kernel_rfl)
theorem ok94 : FnOK 88 94 := fm Tryz.f94 c_bits_Len32 Tryz.func94
theorem ok95 : FnOK 103 95 := fm Tryz.f95 c_nat_Sub Tryz.func95
theorem ok96 : FnOK 104 96 := fm Tryz.f96 c_nat_Cmp Tryz.func96
theorem ok97 : FnOK 105 97 := fm Tryz.f97 c_nat_Add Tryz.func97
theorem ok98 : FnOK 107 98 := fm Tryz.f98 c_nat_cmp Tryz.func98
theorem ok99 : FnOK 108 99 := fm Tryz.f99 c_nat_small Tryz.func99
noncomputable def cc100 : CC := { P := Tryz.prog, toS := toS, inl := fun n => List.elem n ([91, 120] : List Nat), dyn := false, N := Tryz.f100.ntmps }
theorem ok100 : FnOK 109 100 := fn_mk cc100 Tryz.f100 c_nat_long rfl rfl Tryz.func100 rfl rfl (by kernel_rfl) (by kernel_rfl)
theorem ok101 : FnOK 92 101 := fm Tryz.f101 c_round_btoi Tryz.func101
theorem ok102 : FnOK 93 102 := fm Tryz.f102 c_round_up Tryz.func102
theorem ok103 : FnOK 97 103 := fm Tryz.f103 c_word_shape_join Tryz.func103
theorem ok104 : FnOK 112 104 := fm Tryz.f104 c_bits_Add32 Tryz.func104
theorem ok105 : FnOK 209 105 := fm Tryz.f105 c_dyad_halved Tryz.func105
theorem ok106 : FnOK 116 106 := fm Tryz.f106 c_nat_sub Tryz.func106
theorem ok107 : FnOK 118 107 := fm Tryz.f107 c_bits_Div32 Tryz.func107
theorem ok108 : FnOK 119 108 := fm Tryz.f108 c_bits_LeadingZeros32 Tryz.func108
theorem ok109 : FnOK 120 109 := fm Tryz.f109 c_nat_step Tryz.func109
theorem ok110 : FnOK 121 110 := fm Tryz.f110 c_bits_Sub32 Tryz.func110
theorem all_fn : AllP FnOK lnk := ⟨ok3, ok4, ok5, ok6, ok7, ok8, ok9, ok10, ok11, ok12, ok13, ok14, ok15, ok16, ok17, ok18, ok19, ok20, ok21, ok22, ok23, ok24, ok25, ok26, ok27, ok28, ok29, ok30, ok31, ok32, ok33, ok34, ok35, ok36, ok37, ok38, ok39, ok40, ok41, ok42, ok43, ok44, ok45, ok46, ok47, ok48, ok49, ok50, ok51, ok52, ok53, ok54, ok55, ok56, ok57, ok58, ok59, ok60, ok61, ok62, ok63, ok64, ok65, ok66, ok67, ok68, ok69, ok70, ok71, ok72, ok73, ok74, ok75, ok76, ok77, ok78, ok79, ok80, ok81, ok82, ok83, ok84, ok85, ok86, ok87, ok88, ok89, ok90, ok91, ok92, ok93, ok94, ok95, ok96, ok97, ok98, ok99, ok100, ok101, ok102, ok103, ok104, ok105, ok106, ok107, ok108, ok109, ok110, trivial⟩
theorem prog_ok : ProgOK Tryz.prog L0 (tbl 1) := ⟨fun f g h => AllP.of all_fn f g h⟩
theorem mixed : Tryz.prog.follows .mixedOrders = true := by kernel_rfl
end Go.Proofs.YtcedpdogncohfaaGreatDoor
namespace Go.Proofs.YtcedpdogncohfaaGreatDoor
open Go Go.Cv Go.ChangeShapes Go.WideShapes Go.ChangeAt Go.WideMaps Go.WideElems Go.RowKit
theorem own : ownKnob Tryz.prog.godebug = none := by kernel_rfl
theorem laidOut : laidOutB Tryz.prog = true := by kernel_rfl
theorem gTab : Tryz.prog.globalNamed "math/bits.deBruijn32tab" = some 1 := by kernel_rfl
theorem tTab : (Tryz.prog.globals[1]?).map (·.type) = some 155 := by kernel_rfl
def laid1 : List (String × DataW Unit) := [("math/bits.deBruijn32tab", Rows.laid_math_bits_deBruijn32tab)]
theorem door_met (os : Os) (args : Array Value) : laidMetH Tryz.prog laid1 ((World.doorLaid Tryz.prog 400 os).forCall (fun _ _ => 0) ⟨#[], args, []⟩).memory :=
  laidMetH_of_parts3 (fuel := 8) (laidMet_of_run' 8 (by kernel_rfl) (by kernel_rfl)) (by kernel_rfl) (by kernel_rfl)
theorem of_laid {W : World} (h : laidMetH Tryz.prog laid1 W) : Gok (glb 1) ⟨L0, W, fun r => r < W.heap.size, noι⟩ := by
  rw [MakeChecks.laidMetH_plain _ _ _ (by kernel_rfl)] at h
  obtain ⟨ps, ⟨g0, t0, cs0, f0, p0, q0, hg0, ht0, hv0, hd0, _, _⟩, _, _⟩ := h
  obtain rfl := Option.some.inj (gTab.symm.trans hg0)
  obtain rfl := Option.some.inj (tTab.symm.trans ht0)
  have hc := tab_u8 (l := ntz32) (e := 5) (show Tryz.prog.underlying 155 = some (.array ntz32.length 5) by kernel_rfl) (show Tryz.prog.underlying 5 = some (.int .u8) by kernel_rfl) (by kernel_rfl) hd0
  exact gok_u8 (fun j d hj => by rw [World.var?_cell hg0 hv0 j]; exact hc j d hj) (by decide)
theorem and2 {a b : Bool} (h : a = true) (k : b = true) : (a && b) = true := by rw [h, k]; rfl
theorem jMaps : mapsRowed Tryz.prog = true := by kernel_rfl
theorem jHeard : Tryz.prog.stopsHeard = true := by kernel_rfl
theorem jEnter : Tryz.prog.mayEnter = true := by kernel_rfl
end Go.Proofs.YtcedpdogncohfaaGreatDoor
