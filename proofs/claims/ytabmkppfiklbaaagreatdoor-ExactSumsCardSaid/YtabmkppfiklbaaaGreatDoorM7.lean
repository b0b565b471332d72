/-
  A part of the proof of the statements of this seat (texts that the law's own text leans on): no condition.
-/
import Derived.Test.YtabmkppfiklbaaaGreatDoorM2
import Derived.Test.YtabmkppfiklbaaaGreatDoorM4
import Derived.ProofKit
import Derived.LaidMore
import Derived.OpenShut
import Derived.Deep.Slices
import Derived.Lib.SmallJoins
import Derived.Carry
import Derived.Below
import Derived.ChangeSame
import Derived.Test.YtabmkppfiklbaaaGreatDoorM3
import Derived.KernelRfl
import Derived.Test.YtabmkppfiklbaaaGreatDoorProg
import Derived.Test.YtabmkppfiklbaaaGreatDoorRows
import Derived.Test.YtabmkppfiklbaaaGreatDoorChecked
import Derived.Stop.Joined
import Derived.SevenTiedAt
set_option linter.unusedVariables false
set_option linter.unusedSimpArgs false
/-
  From the evaluator's answer to a law's contract: arguments opened, the law's post met. No program stands in it.
-/
namespace Go.Cv
open Go Go.RowKit Go.WideShapes Go.ChangeShapes Go.WideElems Go.Deep Go.Joins

section
variable {H : Type} {enc : TypeId × Value → H} {P : Program}

theorem trodAll_stays (hl : laidOutB P = true) {W W' : World} {sp : Nat → Bool} (hb : Below W.heap.size W W') :
    ∀ {ts : List TypeId} {vs : List Value} {ds : List (DataW H)} {ps : List MemPlace}, (∀ t ∈ ts, P.readableRec t = true ∧ t < P.types.size) →
    DataW.TrodAll enc P W 0 (fun _ => true) true ts vs ds ps → (∀ p ∈ ps, p.block < W.heap.size ∧ sp p.block = true) → DataW.TrodAll enc P W' 0 sp true ts vs ds ps
  | [], vs, ds, ps, _, h, _ => by
    obtain ⟨rfl, rfl, rfl⟩ := trodAll_nil h
    rfl
  | t :: ts, vs, ds, ps, ht, h, hp => by
    obtain ⟨v, vs1, d, ds1, p, q, rfl, rfl, rfl, h1, h2⟩ := trodAll_cons h
    refine ⟨p, q, ?_, ?_, rfl⟩
    · exact Trod_stays hl (ht t (List.mem_cons_self ..)).1 (ht t (List.mem_cons_self ..)).2 h1 (fun x hx => hb.same (hp x (List.mem_append_left _ hx)).1) (fun x hx => (hp x (List.mem_append_left _ hx)).2)
    · exact trodAll_stays hl hb (fun t' h' => ht t' (List.mem_cons_of_mem _ h')) h2 (fun x hx => hp x (List.mem_append_right _ hx))

/-- A law that answers true and turns nothing that was there. -/
theorem law_post {f : Func} {s : ChangeSpec} {apart fresh handsOn again : Bool} {W W' : World} {args : Array Value} {ds gs : List (DataW H)} {before : List MemPlace} {tb : TypeId}
    (hl : laidOutB P = true) (hp : f.params.toList.all (fun t => P.readableRec t && decide (t < P.types.size)) = true) (hr : f.resultTypes = #[tb]) (ht : P.underlying tb = some .bool) (hv : s.vars = [])
    (hs : s.fn H (ds ++ gs) = { results := [.lit (.bool true)], args := ds })
    (hW : DataW.Whole enc P f.params.toList s.vars apart W args.toList ds gs before) (hb : Below W.heap.size W W') :
    s.post enc P f apart fresh handsOn again W args (.bool true) W' := by
  have hlt : ∀ p ∈ before, p.block < W.heap.size := fun p hp => hW.lt p hp
  have hts : ∀ t ∈ f.params.toList, P.readableRec t = true ∧ t < P.types.size := fun t h => by
    have := List.all_eq_true.1 hp t h
    simpa using this
  have hres : ∀ (b : Nat) (sp : Nat → Bool) (hd : Bool), DataW.TrodAll enc P W' b sp hd f.resultTypes.toList ((Value.bool true).resultList f.resultTypes.size) (s.fn H (ds ++ gs)).results [] := fun b sp hd => by
    rw [hs, hr]; exact trodAll_mk1 (shut_bool ht true)
  have hW0 := hW
  obtain ⟨p, q, hA, hV, hpq, hz, hn⟩ := hW
  rw [hv] at hV
  obtain ⟨rfl, rfl⟩ := trodVars_none hV
  rw [List.append_nil] at hpq
  subst hpq
  have hargs : ∀ sp : Nat → Bool, (∀ x ∈ before, sp x.block = true) → DataW.TrodAll enc P W' 0 sp true f.params.toList args.toList (s.fn H (ds ++ [])).args before := fun sp h => by
    rw [hs]; exact trodAll_stays hl hb hts hA (fun x hx => ⟨hlt x hx, h x hx⟩)
  have hvars : ∀ sp : Nat → Bool, DataW.TrodVars enc P W' sp s.vars (s.fn H (ds ++ [])).vars [] := fun sp => by rw [hs, hv]; rfl
  have hold : ∀ p ∈ before, (fun b => decide (b < W.heap.size)) p.block = true := fun p hp => by simpa using hlt p hp
  refine ⟨ds, [], before, [], before, [], hW0, hres _ _ _, hargs _ hold, hvars _, World.keptBut_mono (fun p hp => ⟨hp, ?_⟩) (hb.frame (· ∈ before)), fun _ => ?_⟩
  · exact Or.inr (Or.inl hp)
  · refine ⟨ok_one hr rfl (okWide_bool_mk ht true), _, _, ([] ++ before) ++ [], ⟨[] ++ before, [], trodAll_append (hargs _ (fun _ _ => rfl)) (hres _ _ _), hvars _, rfl, ?_, ?_⟩, ?_⟩
    · intro b off hp
      have hin : MemPlace.cell b off ∈ before := by simpa using hp
      rw [hb.frozen (hlt _ hin)]
      exact hz b off hin
    · intro ha
      simpa using hn ha
    · intro p hp _
      simpa using hp

end

/-- What a law's contract needs of the evaluator's answer. -/
theorem law_run {P : Program} {L : Nat → Option FuncId} {G : Nat → Option (List AV)} {T : Tbl} (hm : P.follows .mixedOrders = true) (hP : ProgOK P L T) {f : Nat} {g : FuncId} {args : List AV} (hLf : L f = some g)
    (hr : run G T f args = some (.bool true)) {W : World} (hG : Gok G ⟨L, W, fun r => r < W.heap.size, noι⟩) {us : Array Value} (hu : RelL ⟨L, W, fun r => r < W.heap.size, noι⟩ args us.toList)
    {Q : Value → World → Prop} (hQ : ∀ W', Go.RowKit.Below W.heap.size W W' → Q (.bool true) W') :
    Calls P g us W fun e W' => ∃ v, e = .returned v ∧ Q v W' := by
  have h := run_sound hm hP hLf hr W (fun r => r < W.heap.size) (fun _ h => h) hG hu
  refine h.mono ?_
  rintro e W' ⟨u, rfl, hb, hrel⟩
  simp only [Rel] at hrel
  subst hrel
  exact ⟨_, rfl, hQ W' hb⟩

/-- A row of numbers that a package's variable holds. -/
theorem gok_u8 {L : Nat → Option FuncId} {W : World} {g : Nat} {l : List Nat} (h : ∀ (j d : Nat), l[j]? = some d → W.cell? ⟨g, j, none⟩ = some (.int .u8 (d : Int))) (hl : 0 < l.length) :
    Gok (fun n => if n = g then some (l.map fun (d : Nat) => .int .u8 (d : Int)) else none) ⟨L, W, fun r => r < W.heap.size, noι⟩ := by
  intro g' cs hg
  simp only at hg
  split at hg
  · next he =>
    subst he
    cases hg
    constructor
    · have h0 := h 0 l[0] (List.getElem?_eq_getElem hl)
      show g' < W.heap.size
      unfold World.cell? at h0
      split at h0
      · next c _ _ hh => exact row_lt hh
      · cases h0
    · rw [relAt_iff]
      intro j v hj
      rw [List.getElem?_map] at hj
      cases hd : l[j]? with
      | none => rw [hd] at hj; cases hj
      | some d =>
        rw [hd] at hj
        simp only [Option.map_some, Option.some.injEq] at hj
        subst hj
        rw [Nat.zero_add]
        exact ⟨_, h j d hd, rfl, by simp only [Rel]⟩
  · cases hg

section
variable {H : Type} {enc : TypeId × Value → H} {P : Program}
/-- An array of small numbers, read as such: its cells. -/
theorem tab_u8 {w : World} {base : Nat} {sp : Nat → Bool} {held : Bool} {t e : TypeId} {fuel : Nat} {cs : Array Value} {l : List Nat} {ps : List MemPlace}
    (ht : P.underlying t = some (.array l.length e)) (he : P.underlying e = some (.int .u8)) (hc : P.cellsOf e = 1)
    (h : DataW.trod enc P w base sp held fuel t cs.toList = some (.agg (l.map fun (d : Nat) => .lit (.int .u8 (d : Int))), ps)) : ∀ (j d : Nat), l[j]? = some d → cs[j]? = some (.int .u8 (d : Int)) := by
  obtain ⟨xs, m, rfl, hx, hlen, hn, hel⟩ := DataW.trod_array ht h
  intro j d hj
  have hjl : j < l.length := (List.getElem?_eq_some_iff.1 hj).1
  have h1 := hel j hjl
  simp only [Prod.mk.injEq, DataW.agg.injEq] at hx
  have hxj : xs[j]? = some xs[j] := List.getElem?_eq_getElem (by omega)
  rw [hxj, hc, Nat.mul_one] at h1
  obtain ⟨k, e1, e2, _⟩ := DataW.trod_int he h1
  have h3 : (l.map fun (d : Nat) => (DataW.lit (.int .u8 (d : Int)) : DataW H))[j]? = (xs.map (·.1))[j]? := by rw [hx.1]
  rw [List.getElem?_map, List.getElem?_map, hj, hxj] at h3
  simp only [Option.map_some, Option.some.injEq, e2] at h3
  simp only [DataW.lit.injEq, Lit.int.injEq, true_and] at h3
  subst h3
  have h4 : (cs.toList.drop j).take 1 = [.int .u8 (d : Int)] := e1
  have h5 : cs.toList[j]? = some (.int .u8 (d : Int)) := by
    have : ((cs.toList.drop j).take 1)[0]? = some (.int .u8 (d : Int)) := by rw [h4]; rfl
    rw [List.getElem?_take] at this
    simpa using this
  simpa using h5
end
end Go.Cv

/-
  A law's arguments, opened: arrays of three words, pairs of words.
-/
namespace Go.Cv
open Go Go.RowKit Go.WideShapes Go.ChangeShapes Go.WideElems Go.Deep Go.Joins
section
variable {H : Type} {enc : TypeId × Value → H} {P : Program}
theorem word_lit {a : Int} (h : (Lit.int .u64 a).wf = true) : ∃ k : Nat, k < 18446744073709551616 ∧ a = (k : Int) := by
  have h2 : (decide ((0 : Int) ≤ a) && decide (a ≤ 18446744073709551615)) = true := h
  simp only [Bool.and_eq_true, decide_eq_true_eq] at h2
  exact ⟨a.toNat, by omega, by omega⟩
theorem open_z {w : World} {S : Sc} {r : Reach} {b0 base : Nat} {held : Bool} {t : TypeId} {f0 f1 : Field} {v : Value} {d : DataW H} {p : List MemPlace}
    (hs : P.underlying t = some (.struct #[f0, f1])) (hone : oneCellFields P #[f0, f1] = true) (hC : P.cellsOf t = 2) (h0 : P.underlying f0.type = some (.int .u64)) (h1 : P.underlying f1.type = some (.int .u64))
    (hv : Value.okWide P w r b0 t v) (h : DataW.Trod enc P w base (fun _ => true) held t v d p) :
    ∃ a b : Nat, a < 18446744073709551616 ∧ b < 18446744073709551616 ∧ Rel S (.agg [.int .u64 (a : Int), .int .u64 (b : Int)]) v := by
  obtain ⟨v0, v1, y0, y1, n, rfl, _, _, k0, k1⟩ := open_agg2 hs hone hC hv h
  obtain ⟨x, hx, _, hw0⟩ := DataW.trod_int h0 k0
  obtain rfl : v0 = .int .u64 x := by simpa using hx
  obtain ⟨y, hy, _, hw1⟩ := DataW.trod_int h1 k1
  obtain rfl : v1 = .int .u64 y := by simpa using hy
  obtain ⟨a, a1, rfl⟩ := word_lit hw0
  obtain ⟨b, b1, rfl⟩ := word_lit hw1
  refine ⟨a, b, a1, b1, ?_⟩
  simp only [Rel, RelL]
  exact ⟨_, rfl, .int .u64 a, [.int .u64 b], rfl, rfl, .int .u64 b, [], rfl, rfl, rfl⟩
end
end Go.Cv

namespace Go.Cv
def glb (g : Nat) : Nat → Option (List AV) := fun n => if n = g then some (ntz32.map fun (d : Nat) => .int .u8 (d : Int)) else none
theorem glob (g : Nat) : Glob (glb g) g := if_pos rfl
end Go.Cv

namespace Go.Cv
theorem known12 : run (glb 0) (tbl 0) 255 [] = some (.bool true) := run_of (glb 0) (tbl 0) 400 (by kernel_rfl)
end Go.Cv

/-
  The program's functions are the code texts (written by a program).
-/
set_option maxRecDepth 100000
namespace Go.Proofs.YtabmkppfiklbaaaGreatDoor
open Go Go.Cv
def tosL : List Nat := [0, 0, 0, 0, 0, 0, 0, 0, 247, 0, 0, 252, 253, 254, 255, 0, 0, 0, 0, 0, 0, 0, 0, 262, 0, 263, 251, 264, 0, 0, 0, 268, 269, 270, 271, 272, 162, 185, 0, 0, 0, 0, 0, 0, 195, 278, 279, 0, 0, 0, 155, 0, 0, 0, 285, 164, 0, 0, 166, 219, 220, 286, 0, 0, 36, 289, 26, 290, 291, 292, 293, 294, 295, 296, 54, 55, 27, 28, 149, 0, 0, 0, 0, 30, 0, 45, 46, 67, 16, 38, 0, 302, 74, 203, 182, 184, 0, 156, 0, 151, 0, 63, 69, 73, 176, 177, 0, 157, 230, 231, 232, 234, 12, 233, 8, 304, 193, 0, 22, 0, 32, 35, 33, 64, 31, 72, 62, 189, 58, 60, 196, 307, 308, 309, 310, 57, 15, 194, 192, 86, 90, 50, 94, 0, 0, 102, 83, 84, 85, 99, 100, 101, 0, 0, 48, 205, 49, 207, 208, 197, 198, 0, 70, 178, 179, 180, 181, 183, 34, 10, 37, 14, 21, 25, 312, 95, 201, 313, 0, 204, 315, 98, 40, 23, 24, 202, 200, 96, 114, 89, 91, 111, 0, 0, 68, 87, 88, 103, 105, 209, 104, 106, 117, 113, 7, 65, 66, 71, 39, 47, 59, 115, 75, 76, 77, 78, 51, 52, 53, 56, 0, 107, 116, 112, 108, 109, 92, 93, 97, 121, 118, 119, 120, 0, 0, 0, 0, 0, 0, 0, 0, 0, 0, 0, 0, 0, 0, 0, 0, 0, 0, 0, 0]
def lnk : List (Nat × Nat) := [(247, 8), (252, 11), (253, 12), (254, 13), (255, 14), (262, 23), (263, 25), (251, 26), (264, 27), (268, 31), (269, 32), (270, 33), (271, 34), (272, 35), (162, 36), (185, 37), (195, 44), (278, 45), (279, 46), (155, 50), (285, 54), (164, 55), (166, 58), (219, 59), (220, 60), (286, 61), (36, 64), (289, 65), (26, 66), (290, 67), (291, 68), (292, 69), (293, 70), (294, 71), (295, 72), (296, 73), (54, 74), (55, 75), (27, 76), (28, 77), (149, 78), (30, 83), (45, 85), (46, 86), (67, 87), (16, 88), (38, 89), (302, 91), (74, 92), (203, 93), (182, 94), (184, 95), (156, 97), (151, 99), (63, 101), (69, 102), (73, 103), (176, 104), (177, 105), (157, 107), (230, 108), (231, 109), (232, 110), (234, 111), (12, 112), (233, 113), (8, 114), (304, 115), (193, 116), (22, 118), (32, 120), (35, 121), (33, 122), (64, 123), (31, 124), (72, 125), (62, 126), (189, 127), (58, 128), (60, 129), (196, 130), (307, 131), (308, 132), (309, 133), (310, 134), (57, 135), (15, 136), (194, 137), (192, 138), (86, 139), (90, 140), (50, 141), (94, 142), (102, 145), (83, 146), (84, 147), (85, 148), (99, 149), (100, 150), (101, 151), (48, 154), (205, 155), (49, 156), (207, 157), (208, 158), (197, 159), (198, 160), (70, 162), (178, 163), (179, 164), (180, 165), (181, 166), (183, 167), (34, 168), (10, 169), (37, 170), (14, 171), (21, 172), (25, 173), (312, 174), (95, 175), (201, 176), (313, 177), (204, 179), (315, 180), (98, 181), (40, 182), (23, 183), (24, 184), (202, 185), (200, 186), (96, 187), (114, 188), (89, 189), (91, 190), (111, 191), (68, 194), (87, 195), (88, 196), (103, 197), (105, 198), (209, 199), (104, 200), (106, 201), (117, 202), (113, 203), (7, 204), (65, 205), (66, 206), (71, 207), (39, 208), (47, 209), (59, 210), (115, 211), (75, 212), (76, 213), (77, 214), (78, 215), (51, 216), (52, 217), (53, 218), (56, 219), (107, 221), (116, 222), (112, 223), (108, 224), (109, 225), (92, 226), (93, 227), (97, 228), (121, 229), (118, 230), (119, 231), (120, 232)]
def toS (g : FuncId) : Option Nat := match tosL.getD g 0 with | 0 => none | n + 1 => some (n + 1)
def lnkF (l : List (Nat × Nat)) (f : Nat) : Option FuncId := match l with | [] => none | p :: r => if p.1 = f then some p.2 else lnkF r f
def L0 (f : Nat) : Option FuncId := lnkF lnk f
def AllP (Q : Nat → Nat → Prop) : List (Nat × Nat) → Prop | [] => True | p :: l => Q p.1 p.2 ∧ AllP Q l
theorem AllP.of {Q : Nat → Nat → Prop} : ∀ {l : List (Nat × Nat)}, AllP Q l → ∀ f g, lnkF l f = some g → Q f g
  | [], _, f, g, h => by cases h
  | p :: l, ⟨h1, h2⟩, f, g, h => by
    unfold lnkF at h
    by_cases he : p.1 = f
    · rw [if_pos he] at h; cases h; subst he; exact h1
    · rw [if_neg he] at h; exact AllP.of h2 f g h
def bodyB (P : Program) (p : Nat × Nat) : Bool := match P.funcs[p.2]? with | some fn => (fn.name != "runtime.NumGoroutine") && fn.body.isSome | none => false
theorem bodies : lnk.all (bodyB Tryz.prog) = true := by kernel_rfl
theorem toB : (List.range tosL.length).all (fun g => match toS g with | some f => (L0 f == some g) | none => true) = true := by kernel_rfl
theorem lnk_mem : ∀ (l : List (Nat × Nat)) (f g : Nat), lnkF l f = some g → (f, g) ∈ l
  | [], _, _, h => by cases h
  | p :: l, f, g, h => by
    unfold lnkF at h
    by_cases he : p.1 = f
    · rw [if_pos he] at h; cases h; subst he; exact List.mem_cons_self ..
    · rw [if_neg he] at h; exact List.mem_cons_of_mem _ (lnk_mem l f g h)
theorem link_of (C : CC) (hP : C.P = Tryz.prog) (hS : C.toS = toS) : Link C L0 := by
  constructor
  · intro g f h
    rw [hS] at h
    have hb := List.all_eq_true.1 toB
    have hg : g < tosL.length := by
      rcases Nat.lt_or_ge g tosL.length with x | x
      · exact x
      · exfalso; unfold toS at h; rw [List.getD_eq_getElem?_getD, List.getElem?_eq_none x] at h; cases h
    have := hb g (List.mem_range.2 hg)
    rw [h] at this
    simpa using this
  · intro f g h
    have := List.all_eq_true.1 bodies _ (lnk_mem _ _ _ h)
    unfold bodyB at this
    rw [hP]
    cases hf : Tryz.prog.funcs[g]? with
    | none => simp [hf] at this
    | some fn => simp [hf] at this; exact ⟨fn, rfl, this.1, this.2⟩
def FnOK (f g : Nat) : Prop := ∃ (C : CC) (fn : Func) (c : Code) (fi : IFn), C.P = Tryz.prog ∧ Link C L0 ∧ Tryz.prog.funcs[g]? = some fn ∧ C.N ≤ fn.ntmps ∧ fn.body = some c ∧ tbl 0 f = some fi ∧ compC C c = some (erase fi.body) ∧ mapO (compRes Tryz.prog) fn.results.toList = some fi.res
theorem fn_mk {f g : Nat} (C : CC) (fn : Func) (fi : IFn) (h1 : C.P = Tryz.prog) (h2 : C.toS = toS) (h3 : Tryz.prog.funcs[g]? = some fn) (h4 : C.N = fn.ntmps) (h5 : tbl 0 f = some fi) (h6 : fn.body.bind (compC C) = some (erase fi.body)) (h7 : mapO (compRes Tryz.prog) fn.results.toList = some fi.res) : FnOK f g := by
  cases hb : fn.body with
  | none => rw [hb] at h6; cases h6
  | some c => rw [hb] at h6; exact ⟨C, fn, c, fi, h1, link_of C h1 h2, h3, Nat.le_of_eq h4, hb, h5, h6, h7⟩
noncomputable def cc8 : CC := { P := Tryz.prog, toS := toS, inl := fun n => List.elem n ([] : List Nat), dyn := false, N := Tryz.f8.ntmps }
theorem ok8 : FnOK 247 8 := fn_mk cc8 Tryz.f8 c_law12_ExactSums rfl rfl Tryz.func8 rfl rfl (by kernel_rfl) (by kernel_rfl)
noncomputable def cc11 : CC := { P := Tryz.prog, toS := toS, inl := fun n => List.elem n ([] : List Nat), dyn := false, N := Tryz.f11.ntmps }
theorem ok11 : FnOK 252 11 := fn_mk cc11 Tryz.f11 c_exact_Mul rfl rfl Tryz.func11 rfl rfl (by kernel_rfl) (by kernel_rfl)
noncomputable def cc12 : CC := { P := Tryz.prog, toS := toS, inl := fun n => List.elem n ([] : List Nat), dyn := false, N := Tryz.f12.ntmps }
theorem ok12 : FnOK 253 12 := fn_mk cc12 Tryz.f12 c_law12_opens rfl rfl Tryz.func12 rfl rfl (by kernel_rfl) (by kernel_rfl)
noncomputable def cc13 : CC := { P := Tryz.prog, toS := toS, inl := fun n => List.elem n ([] : List Nat), dyn := false, N := Tryz.f13.ntmps }
theorem ok13 : FnOK 254 13 := fn_mk cc13 Tryz.f13 c_law12_is rfl rfl Tryz.func13 rfl rfl (by kernel_rfl) (by kernel_rfl)
noncomputable def cc14 : CC := { P := Tryz.prog, toS := toS, inl := fun n => List.elem n ([] : List Nat), dyn := false, N := Tryz.f14.ntmps }
theorem ok14 : FnOK 255 14 := fn_mk cc14 Tryz.f14 c_law12_known rfl rfl Tryz.func14 rfl rfl (by kernel_rfl) (by kernel_rfl)
noncomputable def cc23 : CC := { P := Tryz.prog, toS := toS, inl := fun n => List.elem n ([] : List Nat), dyn := false, N := Tryz.f23.ntmps }
theorem ok23 : FnOK 262 23 := fn_mk cc23 Tryz.f23 c_exact_Add rfl rfl Tryz.func23 rfl rfl (by kernel_rfl) (by kernel_rfl)
noncomputable def cc25 : CC := { P := Tryz.prog, toS := toS, inl := fun n => List.elem n ([] : List Nat), dyn := false, N := Tryz.f25.ntmps }
theorem ok25 : FnOK 263 25 := fn_mk cc25 Tryz.f25 c_exact_Sub rfl rfl Tryz.func25 rfl rfl (by kernel_rfl) (by kernel_rfl)
noncomputable def cc26 : CC := { P := Tryz.prog, toS := toS, inl := fun n => List.elem n ([] : List Nat), dyn := false, N := Tryz.f26.ntmps }
theorem ok26 : FnOK 251 26 := fn_mk cc26 Tryz.f26 c_ref12_Add rfl rfl Tryz.func26 rfl rfl (by kernel_rfl) (by kernel_rfl)
noncomputable def cc27 : CC := { P := Tryz.prog, toS := toS, inl := fun n => List.elem n ([] : List Nat), dyn := false, N := Tryz.f27.ntmps }
theorem ok27 : FnOK 264 27 := fn_mk cc27 Tryz.f27 c_ref12_Sub rfl rfl Tryz.func27 rfl rfl (by kernel_rfl) (by kernel_rfl)
noncomputable def cc31 : CC := { P := Tryz.prog, toS := toS, inl := fun n => List.elem n ([] : List Nat), dyn := false, N := Tryz.f31.ntmps }
theorem ok31 : FnOK 268 31 := fn_mk cc31 Tryz.f31 c_special_Mul rfl rfl Tryz.func31 rfl rfl (by kernel_rfl) (by kernel_rfl)
noncomputable def cc32 : CC := { P := Tryz.prog, toS := toS, inl := fun n => List.elem n ([] : List Nat), dyn := false, N := Tryz.f32.ntmps }
theorem ok32 : FnOK 269 32 := fn_mk cc32 Tryz.f32 c_exact_work_both rfl rfl Tryz.func32 rfl rfl (by kernel_rfl) (by kernel_rfl)
noncomputable def cc33 : CC := { P := Tryz.prog, toS := toS, inl := fun n => List.elem n ([] : List Nat), dyn := false, N := Tryz.f33.ntmps }
theorem ok33 : FnOK 270 33 := fn_mk cc33 Tryz.f33 c_exact_work_times rfl rfl Tryz.func33 rfl rfl (by kernel_rfl) (by kernel_rfl)
noncomputable def cc34 : CC := { P := Tryz.prog, toS := toS, inl := fun n => List.elem n ([] : List Nat), dyn := false, N := Tryz.f34.ntmps }
theorem ok34 : FnOK 271 34 := fn_mk cc34 Tryz.f34 c_exact_gaussOf rfl rfl Tryz.func34 rfl rfl (by kernel_rfl) (by kernel_rfl)
noncomputable def cc35 : CC := { P := Tryz.prog, toS := toS, inl := fun n => List.elem n ([] : List Nat), dyn := false, N := Tryz.f35.ntmps }
theorem ok35 : FnOK 272 35 := fn_mk cc35 Tryz.f35 c_dyad_Int rfl rfl Tryz.func35 rfl rfl (by kernel_rfl) (by kernel_rfl)
noncomputable def cc36 : CC := { P := Tryz.prog, toS := toS, inl := fun n => List.elem n ([] : List Nat), dyn := false, N := Tryz.f36.ntmps }
theorem ok36 : FnOK 162 36 := fn_mk cc36 Tryz.f36 c_ref05_Opens rfl rfl Tryz.func36 rfl rfl (by kernel_rfl) (by kernel_rfl)
noncomputable def cc37 : CC := { P := Tryz.prog, toS := toS, inl := fun n => List.elem n ([] : List Nat), dyn := false, N := Tryz.f37.ntmps }
theorem ok37 : FnOK 185 37 := fn_mk cc37 Tryz.f37 c_ref10_Good rfl rfl Tryz.func37 rfl rfl (by kernel_rfl) (by kernel_rfl)
noncomputable def cc44 : CC := { P := Tryz.prog, toS := toS, inl := fun n => List.elem n ([] : List Nat), dyn := false, N := Tryz.f44.ntmps }
theorem ok44 : FnOK 195 44 := fn_mk cc44 Tryz.f44 c_dyad_Add rfl rfl Tryz.func44 rfl rfl (by kernel_rfl) (by kernel_rfl)
noncomputable def cc45 : CC := { P := Tryz.prog, toS := toS, inl := fun n => List.elem n ([] : List Nat), dyn := false, N := Tryz.f45.ntmps }
theorem ok45 : FnOK 278 45 := fn_mk cc45 Tryz.f45 c_exact_num_times rfl rfl Tryz.func45 rfl rfl (by kernel_rfl) (by kernel_rfl)
noncomputable def cc46 : CC := { P := Tryz.prog, toS := toS, inl := fun n => List.elem n ([] : List Nat), dyn := false, N := Tryz.f46.ntmps }
theorem ok46 : FnOK 279 46 := fn_mk cc46 Tryz.f46 c_exact_num_minus rfl rfl Tryz.func46 rfl rfl (by kernel_rfl) (by kernel_rfl)
noncomputable def cc50 : CC := { P := Tryz.prog, toS := toS, inl := fun n => List.elem n ([] : List Nat), dyn := false, N := Tryz.f50.ntmps }
theorem ok50 : FnOK 155 50 := fn_mk cc50 Tryz.f50 c_ref03_Class rfl rfl Tryz.func50 rfl rfl (by kernel_rfl) (by kernel_rfl)
noncomputable def cc54 : CC := { P := Tryz.prog, toS := toS, inl := fun n => List.elem n ([] : List Nat), dyn := false, N := Tryz.f54.ntmps }
theorem ok54 : FnOK 285 54 := fn_mk cc54 Tryz.f54 c_exact_parts rfl rfl Tryz.func54 rfl rfl (by kernel_rfl) (by kernel_rfl)
noncomputable def cc55 : CC := { P := Tryz.prog, toS := toS, inl := fun n => List.elem n ([] : List Nat), dyn := false, N := Tryz.f55.ntmps }
theorem ok55 : FnOK 164 55 := fn_mk cc55 Tryz.f55 c_soft_Add rfl rfl Tryz.func55 rfl rfl (by kernel_rfl) (by kernel_rfl)
noncomputable def cc58 : CC := { P := Tryz.prog, toS := toS, inl := fun n => List.elem n ([] : List Nat), dyn := false, N := Tryz.f58.ntmps }
theorem ok58 : FnOK 166 58 := fn_mk cc58 Tryz.f58 c_soft_Sub rfl rfl Tryz.func58 rfl rfl (by kernel_rfl) (by kernel_rfl)
noncomputable def cc59 : CC := { P := Tryz.prog, toS := toS, inl := fun n => List.elem n ([] : List Nat), dyn := false, N := Tryz.f59.ntmps }
theorem ok59 : FnOK 219 59 := fn_mk cc59 Tryz.f59 c_ref05_Add rfl rfl Tryz.func59 rfl rfl (by kernel_rfl) (by kernel_rfl)
noncomputable def cc60 : CC := { P := Tryz.prog, toS := toS, inl := fun n => List.elem n ([] : List Nat), dyn := false, N := Tryz.f60.ntmps }
theorem ok60 : FnOK 220 60 := fn_mk cc60 Tryz.f60 c_ref05_Sub rfl rfl Tryz.func60 rfl rfl (by kernel_rfl) (by kernel_rfl)
noncomputable def cc61 : CC := { P := Tryz.prog, toS := toS, inl := fun n => List.elem n ([] : List Nat), dyn := false, N := Tryz.f61.ntmps }
theorem ok61 : FnOK 286 61 := fn_mk cc61 Tryz.f61 c_exact_open rfl rfl Tryz.func61 rfl rfl (by kernel_rfl) (by kernel_rfl)
noncomputable def cc64 : CC := { P := Tryz.prog, toS := toS, inl := fun n => List.elem n ([] : List Nat), dyn := false, N := Tryz.f64.ntmps }
theorem ok64 : FnOK 36 64 := fn_mk cc64 Tryz.f64 c_ref03_Of rfl rfl Tryz.func64 rfl rfl (by kernel_rfl) (by kernel_rfl)
noncomputable def cc65 : CC := { P := Tryz.prog, toS := toS, inl := fun n => List.elem n ([] : List Nat), dyn := false, N := Tryz.f65.ntmps }
theorem ok65 : FnOK 289 65 := fn_mk cc65 Tryz.f65 c_special_open rfl rfl Tryz.func65 rfl rfl (by kernel_rfl) (by kernel_rfl)
noncomputable def cc66 : CC := { P := Tryz.prog, toS := toS, inl := fun n => List.elem n ([] : List Nat), dyn := false, N := Tryz.f66.ntmps }
theorem ok66 : FnOK 26 66 := fn_mk cc66 Tryz.f66 c_word_Inf rfl rfl Tryz.func66 rfl rfl (by kernel_rfl) (by kernel_rfl)
noncomputable def cc67 : CC := { P := Tryz.prog, toS := toS, inl := fun n => List.elem n ([] : List Nat), dyn := false, N := Tryz.f67.ntmps }
theorem ok67 : FnOK 290 67 := fn_mk cc67 Tryz.f67 c_special_none rfl rfl Tryz.func67 rfl rfl (by kernel_rfl) (by kernel_rfl)
noncomputable def cc68 : CC := { P := Tryz.prog, toS := toS, inl := fun n => List.elem n ([] : List Nat), dyn := false, N := Tryz.f68.ntmps }
theorem ok68 : FnOK 291 68 := fn_mk cc68 Tryz.f68 c_special_boxOf rfl rfl Tryz.func68 rfl rfl (by kernel_rfl) (by kernel_rfl)
noncomputable def cc69 : CC := { P := Tryz.prog, toS := toS, inl := fun n => List.elem n ([] : List Nat), dyn := false, N := Tryz.f69.ntmps }
theorem ok69 : FnOK 292 69 := fn_mk cc69 Tryz.f69 c_special_box_times rfl rfl Tryz.func69 rfl rfl (by kernel_rfl) (by kernel_rfl)
noncomputable def cc70 : CC := { P := Tryz.prog, toS := toS, inl := fun n => List.elem n ([] : List Nat), dyn := false, N := Tryz.f70.ntmps }
theorem ok70 : FnOK 293 70 := fn_mk cc70 Tryz.f70 c_special_box_words rfl rfl Tryz.func70 rfl rfl (by kernel_rfl) (by kernel_rfl)
noncomputable def cc71 : CC := { P := Tryz.prog, toS := toS, inl := fun n => List.elem n ([] : List Nat), dyn := false, N := Tryz.f71.ntmps }
theorem ok71 : FnOK 294 71 := fn_mk cc71 Tryz.f71 c_exact_work_part rfl rfl Tryz.func71 rfl rfl (by kernel_rfl) (by kernel_rfl)
noncomputable def cc72 : CC := { P := Tryz.prog, toS := toS, inl := fun n => List.elem n ([] : List Nat), dyn := false, N := Tryz.f72.ntmps }
theorem ok72 : FnOK 295 72 := fn_mk cc72 Tryz.f72 c_exact_num_plus rfl rfl Tryz.func72 rfl rfl (by kernel_rfl) (by kernel_rfl)
noncomputable def cc73 : CC := { P := Tryz.prog, toS := toS, inl := fun n => List.elem n ([] : List Nat), dyn := false, N := Tryz.f73.ntmps }
theorem ok73 : FnOK 296 73 := fn_mk cc73 Tryz.f73 c_exact_numOf rfl rfl Tryz.func73 rfl rfl (by kernel_rfl) (by kernel_rfl)
noncomputable def cc74 : CC := { P := Tryz.prog, toS := toS, inl := fun n => List.elem n ([] : List Nat), dyn := false, N := Tryz.f74.ntmps }
theorem ok74 : FnOK 54 74 := fn_mk cc74 Tryz.f74 c_dyad_Make rfl rfl Tryz.func74 rfl rfl (by kernel_rfl) (by kernel_rfl)
noncomputable def cc75 : CC := { P := Tryz.prog, toS := toS, inl := fun n => List.elem n ([] : List Nat), dyn := false, N := Tryz.f75.ntmps }
theorem ok75 : FnOK 55 75 := fn_mk cc75 Tryz.f75 c_nat_Of rfl rfl Tryz.func75 rfl rfl (by kernel_rfl) (by kernel_rfl)
noncomputable def cc76 : CC := { P := Tryz.prog, toS := toS, inl := fun n => List.elem n ([] : List Nat), dyn := false, N := Tryz.f76.ntmps }
theorem ok76 : FnOK 27 76 := fn_mk cc76 Tryz.f76 c_ref03_Is rfl rfl Tryz.func76 rfl rfl (by kernel_rfl) (by kernel_rfl)
noncomputable def cc77 : CC := { P := Tryz.prog, toS := toS, inl := fun n => List.elem n ([] : List Nat), dyn := false, N := Tryz.f77.ntmps }
theorem ok77 : FnOK 28 77 := fn_mk cc77 Tryz.f77 c_ref04_Is rfl rfl Tryz.func77 rfl rfl (by kernel_rfl) (by kernel_rfl)
noncomputable def cc78 : CC := { P := Tryz.prog, toS := toS, inl := fun n => List.elem n ([] : List Nat), dyn := false, N := Tryz.f78.ntmps }
theorem ok78 : FnOK 149 78 := fn_mk cc78 Tryz.f78 c_ref03_Good rfl rfl Tryz.func78 rfl rfl (by kernel_rfl) (by kernel_rfl)
noncomputable def cc83 : CC := { P := Tryz.prog, toS := toS, inl := fun n => List.elem n ([] : List Nat), dyn := false, N := Tryz.f83.ntmps }
theorem ok83 : FnOK 30 83 := fn_mk cc83 Tryz.f83 c_ref03_Inf rfl rfl Tryz.func83 rfl rfl (by kernel_rfl) (by kernel_rfl)
noncomputable def cc85 : CC := { P := Tryz.prog, toS := toS, inl := fun n => List.elem n ([] : List Nat), dyn := false, N := Tryz.f85.ntmps }
theorem ok85 : FnOK 45 85 := fn_mk cc85 Tryz.f85 c_ref02_Form rfl rfl Tryz.func85 rfl rfl (by kernel_rfl) (by kernel_rfl)
noncomputable def cc86 : CC := { P := Tryz.prog, toS := toS, inl := fun n => List.elem n ([] : List Nat), dyn := false, N := Tryz.f86.ntmps }
theorem ok86 : FnOK 46 86 := fn_mk cc86 Tryz.f86 c_ref01_Of rfl rfl Tryz.func86 rfl rfl (by kernel_rfl) (by kernel_rfl)
noncomputable def cc87 : CC := { P := Tryz.prog, toS := toS, inl := fun n => List.elem n ([] : List Nat), dyn := false, N := Tryz.f87.ntmps }
theorem ok87 : FnOK 67 87 := fn_mk cc87 Tryz.f87 c_ref02_Add rfl rfl Tryz.func87 rfl rfl (by kernel_rfl) (by kernel_rfl)
noncomputable def cc88 : CC := { P := Tryz.prog, toS := toS, inl := fun n => List.elem n ([] : List Nat), dyn := false, N := Tryz.f88.ntmps }
theorem ok88 : FnOK 16 88 := fn_mk cc88 Tryz.f88 c_ref02_Sign rfl rfl Tryz.func88 rfl rfl (by kernel_rfl) (by kernel_rfl)
noncomputable def cc89 : CC := { P := Tryz.prog, toS := toS, inl := fun n => List.elem n ([] : List Nat), dyn := false, N := Tryz.f89.ntmps }
theorem ok89 : FnOK 38 89 := fn_mk cc89 Tryz.f89 c_ref03_Signed rfl rfl Tryz.func89 rfl rfl (by kernel_rfl) (by kernel_rfl)
noncomputable def cc91 : CC := { P := Tryz.prog, toS := toS, inl := fun n => List.elem n ([] : List Nat), dyn := false, N := Tryz.f91.ntmps }
theorem ok91 : FnOK 302 91 := fn_mk cc91 Tryz.f91 c_special_side_minus rfl rfl Tryz.func91 rfl rfl (by kernel_rfl) (by kernel_rfl)
noncomputable def cc92 : CC := { P := Tryz.prog, toS := toS, inl := fun n => List.elem n ([] : List Nat), dyn := false, N := Tryz.f92.ntmps }
theorem ok92 : FnOK 74 92 := fn_mk cc92 Tryz.f92 c_dyad_both rfl rfl Tryz.func92 rfl rfl (by kernel_rfl) (by kernel_rfl)
noncomputable def cc93 : CC := { P := Tryz.prog, toS := toS, inl := fun n => List.elem n ([] : List Nat), dyn := false, N := Tryz.f93.ntmps }
theorem ok93 : FnOK 203 93 := fn_mk cc93 Tryz.f93 c_dyad_add rfl rfl Tryz.func93 rfl rfl (by kernel_rfl) (by kernel_rfl)
noncomputable def cc94 : CC := { P := Tryz.prog, toS := toS, inl := fun n => List.elem n ([] : List Nat), dyn := false, N := Tryz.f94.ntmps }
theorem ok94 : FnOK 182 94 := fn_mk cc94 Tryz.f94 c_dyad_Mul rfl rfl Tryz.func94 rfl rfl (by kernel_rfl) (by kernel_rfl)
noncomputable def cc95 : CC := { P := Tryz.prog, toS := toS, inl := fun n => List.elem n ([] : List Nat), dyn := false, N := Tryz.f95.ntmps }
theorem ok95 : FnOK 184 95 := fn_mk cc95 Tryz.f95 c_dyad_Neg rfl rfl Tryz.func95 rfl rfl (by kernel_rfl) (by kernel_rfl)
noncomputable def cc97 : CC := { P := Tryz.prog, toS := toS, inl := fun n => List.elem n ([] : List Nat), dyn := false, N := Tryz.f97.ntmps }
theorem ok97 : FnOK 156 97 := fn_mk cc97 Tryz.f97 c_ref03_Split rfl rfl Tryz.func97 rfl rfl (by kernel_rfl) (by kernel_rfl)
noncomputable def cc99 : CC := { P := Tryz.prog, toS := toS, inl := fun n => List.elem n ([] : List Nat), dyn := false, N := Tryz.f99.ntmps }
theorem ok99 : FnOK 151 99 := fn_mk cc99 Tryz.f99 c_ref03_Value rfl rfl Tryz.func99 rfl rfl (by kernel_rfl) (by kernel_rfl)
noncomputable def cc101 : CC := { P := Tryz.prog, toS := toS, inl := fun n => List.elem n ([] : List Nat), dyn := false, N := Tryz.f101.ntmps }
theorem ok101 : FnOK 63 101 := fn_mk cc101 Tryz.f101 c_ref03_Most rfl rfl Tryz.func101 rfl rfl (by kernel_rfl) (by kernel_rfl)
noncomputable def cc102 : CC := { P := Tryz.prog, toS := toS, inl := fun n => List.elem n ([] : List Nat), dyn := false, N := Tryz.f102.ntmps }
theorem ok102 : FnOK 69 102 := fn_mk cc102 Tryz.f102 c_ref02_Cmp rfl rfl Tryz.func102 rfl rfl (by kernel_rfl) (by kernel_rfl)
noncomputable def cc103 : CC := { P := Tryz.prog, toS := toS, inl := fun n => List.elem n ([] : List Nat), dyn := false, N := Tryz.f103.ntmps }
theorem ok103 : FnOK 73 103 := fn_mk cc103 Tryz.f103 c_ref03_Sign rfl rfl Tryz.func103 rfl rfl (by kernel_rfl) (by kernel_rfl)
noncomputable def cc104 : CC := { P := Tryz.prog, toS := toS, inl := fun n => List.elem n ([] : List Nat), dyn := false, N := Tryz.f104.ntmps }
theorem ok104 : FnOK 176 104 := fn_mk cc104 Tryz.f104 c_soft_open rfl rfl Tryz.func104 rfl rfl (by kernel_rfl) (by kernel_rfl)
noncomputable def cc105 : CC := { P := Tryz.prog, toS := toS, inl := fun n => List.elem n ([] : List Nat), dyn := false, N := Tryz.f105.ntmps }
theorem ok105 : FnOK 177 105 := fn_mk cc105 Tryz.f105 c_soft_desk_add rfl rfl Tryz.func105 rfl rfl (by kernel_rfl) (by kernel_rfl)
noncomputable def cc107 : CC := { P := Tryz.prog, toS := toS, inl := fun n => List.elem n ([] : List Nat), dyn := false, N := Tryz.f107.ntmps }
theorem ok107 : FnOK 157 107 := fn_mk cc107 Tryz.f107 c_ref03_None rfl rfl Tryz.func107 rfl rfl (by kernel_rfl) (by kernel_rfl)
noncomputable def cc108 : CC := { P := Tryz.prog, toS := toS, inl := fun n => List.elem n ([] : List Nat), dyn := false, N := Tryz.f108.ntmps }
theorem ok108 : FnOK 230 108 := fn_mk cc108 Tryz.f108 c_ref05_nan rfl rfl Tryz.func108 rfl rfl (by kernel_rfl) (by kernel_rfl)
noncomputable def cc109 : CC := { P := Tryz.prog, toS := toS, inl := fun n => List.elem n ([] : List Nat), dyn := false, N := Tryz.f109.ntmps }
theorem ok109 : FnOK 231 109 := fn_mk cc109 Tryz.f109 c_ref05_inf rfl rfl Tryz.func109 rfl rfl (by kernel_rfl) (by kernel_rfl)
noncomputable def cc110 : CC := { P := Tryz.prog, toS := toS, inl := fun n => List.elem n ([] : List Nat), dyn := false, N := Tryz.f110.ntmps }
theorem ok110 : FnOK 232 110 := fn_mk cc110 Tryz.f110 c_ref05_zero rfl rfl Tryz.func110 rfl rfl (by kernel_rfl) (by kernel_rfl)
noncomputable def cc111 : CC := { P := Tryz.prog, toS := toS, inl := fun n => List.elem n ([] : List Nat), dyn := false, N := Tryz.f111.ntmps }
theorem ok111 : FnOK 234 111 := fn_mk cc111 Tryz.f111 c_ref05_Nothing rfl rfl Tryz.func111 rfl rfl (by kernel_rfl) (by kernel_rfl)
noncomputable def cc112 : CC := { P := Tryz.prog, toS := toS, inl := fun n => List.elem n ([] : List Nat), dyn := false, N := Tryz.f112.ntmps }
theorem ok112 : FnOK 12 112 := fn_mk cc112 Tryz.f112 c_ref04_Round rfl rfl Tryz.func112 rfl rfl (by kernel_rfl) (by kernel_rfl)
noncomputable def cc113 : CC := { P := Tryz.prog, toS := toS, inl := fun n => List.elem n ([] : List Nat), dyn := false, N := Tryz.f113.ntmps }
theorem ok113 : FnOK 233 113 := fn_mk cc113 Tryz.f113 c_ref05_neg rfl rfl Tryz.func113 rfl rfl (by kernel_rfl) (by kernel_rfl)
noncomputable def cc114 : CC := { P := Tryz.prog, toS := toS, inl := fun n => List.elem n ([] : List Nat), dyn := false, N := Tryz.f114.ntmps }
theorem ok114 : FnOK 8 114 := fn_mk cc114 Tryz.f114 c_round_Over rfl rfl Tryz.func114 rfl rfl (by kernel_rfl) (by kernel_rfl)
noncomputable def cc115 : CC := { P := Tryz.prog, toS := toS, inl := fun n => List.elem n ([] : List Nat), dyn := false, N := Tryz.f115.ntmps }
theorem ok115 : FnOK 304 115 := fn_mk cc115 Tryz.f115 c_pair_Good rfl rfl Tryz.func115 rfl rfl (by kernel_rfl) (by kernel_rfl)
noncomputable def cc116 : CC := { P := Tryz.prog, toS := toS, inl := fun n => List.elem n ([] : List Nat), dyn := false, N := Tryz.f116.ntmps }
theorem ok116 : FnOK 193 116 := fn_mk cc116 Tryz.f116 c_word_Class rfl rfl Tryz.func116 rfl rfl (by kernel_rfl) (by kernel_rfl)
noncomputable def cc118 : CC := { P := Tryz.prog, toS := toS, inl := fun n => List.elem n ([] : List Nat), dyn := false, N := Tryz.f118.ntmps }
theorem ok118 : FnOK 22 118 := fn_mk cc118 Tryz.f118 c_dyad_Sign rfl rfl Tryz.func118 rfl rfl (by kernel_rfl) (by kernel_rfl)
noncomputable def cc120 : CC := { P := Tryz.prog, toS := toS, inl := fun n => List.elem n ([] : List Nat), dyn := false, N := Tryz.f120.ntmps }
theorem ok120 : FnOK 32 120 := fn_mk cc120 Tryz.f120 c_ref02_Top rfl rfl Tryz.func120 rfl rfl (by kernel_rfl) (by kernel_rfl)
noncomputable def cc121 : CC := { P := Tryz.prog, toS := toS, inl := fun n => List.elem n ([] : List Nat), dyn := false, N := Tryz.f121.ntmps }
theorem ok121 : FnOK 35 121 := fn_mk cc121 Tryz.f121 c_ref03_Wide rfl rfl Tryz.func121 rfl rfl (by kernel_rfl) (by kernel_rfl)
noncomputable def cc122 : CC := { P := Tryz.prog, toS := toS, inl := fun n => List.elem n ([] : List Nat), dyn := false, N := Tryz.f122.ntmps }
theorem ok122 : FnOK 33 122 := fn_mk cc122 Tryz.f122 c_ref03_Low rfl rfl Tryz.func122 rfl rfl (by kernel_rfl) (by kernel_rfl)
noncomputable def cc123 : CC := { P := Tryz.prog, toS := toS, inl := fun n => List.elem n ([] : List Nat), dyn := false, N := Tryz.f123.ntmps }
theorem ok123 : FnOK 64 123 := fn_mk cc123 Tryz.f123 c_ref01_Len rfl rfl Tryz.func123 rfl rfl (by kernel_rfl) (by kernel_rfl)
noncomputable def cc124 : CC := { P := Tryz.prog, toS := toS, inl := fun n => List.elem n ([] : List Nat), dyn := false, N := Tryz.f124.ntmps }
theorem ok124 : FnOK 31 124 := fn_mk cc124 Tryz.f124 c_ref03_Frac rfl rfl Tryz.func124 rfl rfl (by kernel_rfl) (by kernel_rfl)
noncomputable def cc125 : CC := { P := Tryz.prog, toS := toS, inl := fun n => List.elem n ([] : List Nat), dyn := false, N := Tryz.f125.ntmps }
theorem ok125 : FnOK 72 125 := fn_mk cc125 Tryz.f125 c_ref01_Up rfl rfl Tryz.func125 rfl rfl (by kernel_rfl) (by kernel_rfl)
noncomputable def cc126 : CC := { P := Tryz.prog, toS := toS, inl := fun n => List.elem n ([] : List Nat), dyn := false, N := Tryz.f126.ntmps }
theorem ok126 : FnOK 62 126 := fn_mk cc126 Tryz.f126 c_ref03_Join rfl rfl Tryz.func126 rfl rfl (by kernel_rfl) (by kernel_rfl)
noncomputable def cc127 : CC := { P := Tryz.prog, toS := toS, inl := fun n => List.elem n ([] : List Nat), dyn := false, N := Tryz.f127.ntmps }
theorem ok127 : FnOK 189 127 := fn_mk cc127 Tryz.f127 c_pair_Class rfl rfl Tryz.func127 rfl rfl (by kernel_rfl) (by kernel_rfl)
noncomputable def cc128 : CC := { P := Tryz.prog, toS := toS, inl := fun n => List.elem n ([] : List Nat), dyn := false, N := Tryz.f128.ntmps }
theorem ok128 : FnOK 58 128 := fn_mk cc128 Tryz.f128 c_word_named rfl rfl Tryz.func128 rfl rfl (by kernel_rfl) (by kernel_rfl)
noncomputable def cc129 : CC := { P := Tryz.prog, toS := toS, inl := fun n => List.elem n ([] : List Nat), dyn := false, N := Tryz.f129.ntmps }
theorem ok129 : FnOK 60 129 := fn_mk cc129 Tryz.f129 c_word_shape_inf rfl rfl Tryz.func129 rfl rfl (by kernel_rfl) (by kernel_rfl)
noncomputable def cc130 : CC := { P := Tryz.prog, toS := toS, inl := fun n => List.elem n ([] : List Nat), dyn := false, N := Tryz.f130.ntmps }
theorem ok130 : FnOK 196 130 := fn_mk cc130 Tryz.f130 c_word_None rfl rfl Tryz.func130 rfl rfl (by kernel_rfl) (by kernel_rfl)
noncomputable def cc131 : CC := { P := Tryz.prog, toS := toS, inl := fun n => List.elem n ([] : List Nat), dyn := false, N := Tryz.f131.ntmps }
theorem ok131 : FnOK 307 131 := fn_mk cc131 Tryz.f131 c_special_sideOf rfl rfl Tryz.func131 rfl rfl (by kernel_rfl) (by kernel_rfl)
noncomputable def cc132 : CC := { P := Tryz.prog, toS := toS, inl := fun n => List.elem n ([] : List Nat), dyn := false, N := Tryz.f132.ntmps }
theorem ok132 : FnOK 308 132 := fn_mk cc132 Tryz.f132 c_special_side_times rfl rfl Tryz.func132 rfl rfl (by kernel_rfl) (by kernel_rfl)
noncomputable def cc133 : CC := { P := Tryz.prog, toS := toS, inl := fun n => List.elem n ([] : List Nat), dyn := false, N := Tryz.f133.ntmps }
theorem ok133 : FnOK 309 133 := fn_mk cc133 Tryz.f133 c_special_side_plus rfl rfl Tryz.func133 rfl rfl (by kernel_rfl) (by kernel_rfl)
noncomputable def cc134 : CC := { P := Tryz.prog, toS := toS, inl := fun n => List.elem n ([313] : List Nat), dyn := false, N := Tryz.f134.ntmps }
theorem ok134 : FnOK 310 134 := fn_mk cc134 Tryz.f134 c_word_Neg rfl rfl Tryz.func134 rfl rfl (by kernel_rfl) (by kernel_rfl)
noncomputable def cc135 : CC := { P := Tryz.prog, toS := toS, inl := fun n => List.elem n ([] : List Nat), dyn := false, N := Tryz.f135.ntmps }
theorem ok135 : FnOK 57 135 := fn_mk cc135 Tryz.f135 c_word_Zero rfl rfl Tryz.func135 rfl rfl (by kernel_rfl) (by kernel_rfl)
noncomputable def cc136 : CC := { P := Tryz.prog, toS := toS, inl := fun n => List.elem n ([] : List Nat), dyn := false, N := Tryz.f136.ntmps }
theorem ok136 : FnOK 15 136 := fn_mk cc136 Tryz.f136 c_round_Quo rfl rfl Tryz.func136 rfl rfl (by kernel_rfl) (by kernel_rfl)
noncomputable def cc137 : CC := { P := Tryz.prog, toS := toS, inl := fun n => List.elem n ([] : List Nat), dyn := false, N := Tryz.f137.ntmps }
theorem ok137 : FnOK 194 137 := fn_mk cc137 Tryz.f137 c_word_Value rfl rfl Tryz.func137 rfl rfl (by kernel_rfl) (by kernel_rfl)
noncomputable def cc138 : CC := { P := Tryz.prog, toS := toS, inl := fun n => List.elem n ([] : List Nat), dyn := false, N := Tryz.f138.ntmps }
theorem ok138 : FnOK 192 138 := fn_mk cc138 Tryz.f138 c_word_Split rfl rfl Tryz.func138 rfl rfl (by kernel_rfl) (by kernel_rfl)
noncomputable def cc139 : CC := { P := Tryz.prog, toS := toS, inl := fun n => List.elem n ([] : List Nat), dyn := false, N := Tryz.f139.ntmps }
theorem ok139 : FnOK 86 139 := fn_mk cc139 Tryz.f139 c_nat_May rfl rfl Tryz.func139 rfl rfl (by kernel_rfl) (by kernel_rfl)
noncomputable def cc140 : CC := { P := Tryz.prog, toS := toS, inl := fun n => List.elem n ([] : List Nat), dyn := false, N := Tryz.f140.ntmps }
theorem ok140 : FnOK 90 140 := fn_mk cc140 Tryz.f140 c_nat_Low rfl rfl Tryz.func140 rfl rfl (by kernel_rfl) (by kernel_rfl)
noncomputable def cc141 : CC := { P := Tryz.prog, toS := toS, inl := fun n => List.elem n ([] : List Nat), dyn := false, N := Tryz.f141.ntmps }
theorem ok141 : FnOK 50 141 := fn_mk cc141 Tryz.f141 c_nat_Shift rfl rfl Tryz.func141 rfl rfl (by kernel_rfl) (by kernel_rfl)
noncomputable def cc142 : CC := { P := Tryz.prog, toS := toS, inl := fun n => List.elem n ([] : List Nat), dyn := false, N := Tryz.f142.ntmps }
theorem ok142 : FnOK 94 142 := fn_mk cc142 Tryz.f142 c_nat_trim rfl rfl Tryz.func142 rfl rfl (by kernel_rfl) (by kernel_rfl)
noncomputable def cc145 : CC := { P := Tryz.prog, toS := toS, inl := fun n => List.elem n ([] : List Nat), dyn := false, N := Tryz.f145.ntmps }
theorem ok145 : FnOK 102 145 := fn_mk cc145 Tryz.f145 c_ref02_Neg rfl rfl Tryz.func145 rfl rfl (by kernel_rfl) (by kernel_rfl)
noncomputable def cc146 : CC := { P := Tryz.prog, toS := toS, inl := fun n => List.elem n ([] : List Nat), dyn := false, N := Tryz.f146.ntmps }
theorem ok146 : FnOK 83 146 := fn_mk cc146 Tryz.f146 c_ref01_Low rfl rfl Tryz.func146 rfl rfl (by kernel_rfl) (by kernel_rfl)
noncomputable def cc147 : CC := { P := Tryz.prog, toS := toS, inl := fun n => List.elem n ([] : List Nat), dyn := false, N := Tryz.f147.ntmps }
theorem ok147 : FnOK 84 147 := fn_mk cc147 Tryz.f147 c_ref01_Down rfl rfl Tryz.func147 rfl rfl (by kernel_rfl) (by kernel_rfl)
noncomputable def cc148 : CC := { P := Tryz.prog, toS := toS, inl := fun n => List.elem n ([] : List Nat), dyn := false, N := Tryz.f148.ntmps }
theorem ok148 : FnOK 85 148 := fn_mk cc148 Tryz.f148 c_ref01_Trim rfl rfl Tryz.func148 rfl rfl (by kernel_rfl) (by kernel_rfl)
noncomputable def cc149 : CC := { P := Tryz.prog, toS := toS, inl := fun n => List.elem n ([] : List Nat), dyn := false, N := Tryz.f149.ntmps }
theorem ok149 : FnOK 99 149 := fn_mk cc149 Tryz.f149 c_ref01_Add rfl rfl Tryz.func149 rfl rfl (by kernel_rfl) (by kernel_rfl)
noncomputable def cc150 : CC := { P := Tryz.prog, toS := toS, inl := fun n => List.elem n ([] : List Nat), dyn := false, N := Tryz.f150.ntmps }
theorem ok150 : FnOK 100 150 := fn_mk cc150 Tryz.f150 c_ref01_Cmp rfl rfl Tryz.func150 rfl rfl (by kernel_rfl) (by kernel_rfl)
noncomputable def cc151 : CC := { P := Tryz.prog, toS := toS, inl := fun n => List.elem n ([] : List Nat), dyn := false, N := Tryz.f151.ntmps }
theorem ok151 : FnOK 101 151 := fn_mk cc151 Tryz.f151 c_ref01_Sub rfl rfl Tryz.func151 rfl rfl (by kernel_rfl) (by kernel_rfl)
noncomputable def cc154 : CC := { P := Tryz.prog, toS := toS, inl := fun n => List.elem n ([] : List Nat), dyn := false, N := Tryz.f154.ntmps }
theorem ok154 : FnOK 48 154 := fn_mk cc154 Tryz.f154 c_dyad_May rfl rfl Tryz.func154 rfl rfl (by kernel_rfl) (by kernel_rfl)
noncomputable def cc155 : CC := { P := Tryz.prog, toS := toS, inl := fun n => List.elem n ([] : List Nat), dyn := false, N := Tryz.f155.ntmps }
theorem ok155 : FnOK 205 155 := fn_mk cc155 Tryz.f155 c_dyad_own rfl rfl Tryz.func155 rfl rfl (by kernel_rfl) (by kernel_rfl)
noncomputable def cc156 : CC := { P := Tryz.prog, toS := toS, inl := fun n => List.elem n ([] : List Nat), dyn := false, N := Tryz.f156.ntmps }
theorem ok156 : FnOK 49 156 := fn_mk cc156 Tryz.f156 c_nat_Len rfl rfl Tryz.func156 rfl rfl (by kernel_rfl) (by kernel_rfl)
noncomputable def cc157 : CC := { P := Tryz.prog, toS := toS, inl := fun n => List.elem n ([] : List Nat), dyn := false, N := Tryz.f157.ntmps }
theorem ok157 : FnOK 207 157 := fn_mk cc157 Tryz.f157 c_dyad_edge rfl rfl Tryz.func157 rfl rfl (by kernel_rfl) (by kernel_rfl)
noncomputable def cc158 : CC := { P := Tryz.prog, toS := toS, inl := fun n => List.elem n ([] : List Nat), dyn := false, N := Tryz.f158.ntmps }
theorem ok158 : FnOK 208 158 := fn_mk cc158 Tryz.f158 c_dyad_join rfl rfl Tryz.func158 rfl rfl (by kernel_rfl) (by kernel_rfl)
noncomputable def cc159 : CC := { P := Tryz.prog, toS := toS, inl := fun n => List.elem n ([] : List Nat), dyn := false, N := Tryz.f159.ntmps }
theorem ok159 : FnOK 197 159 := fn_mk cc159 Tryz.f159 c_nat_Mul rfl rfl Tryz.func159 rfl rfl (by kernel_rfl) (by kernel_rfl)
noncomputable def cc160 : CC := { P := Tryz.prog, toS := toS, inl := fun n => List.elem n ([] : List Nat), dyn := false, N := Tryz.f160.ntmps }
theorem ok160 : FnOK 198 160 := fn_mk cc160 Tryz.f160 c_dyad_signed rfl rfl Tryz.func160 rfl rfl (by kernel_rfl) (by kernel_rfl)
noncomputable def cc162 : CC := { P := Tryz.prog, toS := toS, inl := fun n => List.elem n ([] : List Nat), dyn := false, N := Tryz.f162.ntmps }
theorem ok162 : FnOK 70 162 := fn_mk cc162 Tryz.f162 c_ref02_Sub rfl rfl Tryz.func162 rfl rfl (by kernel_rfl) (by kernel_rfl)
noncomputable def cc163 : CC := { P := Tryz.prog, toS := toS, inl := fun n => List.elem n ([] : List Nat), dyn := false, N := Tryz.f163.ntmps }
theorem ok163 : FnOK 178 163 := fn_mk cc163 Tryz.f163 c_soft_has rfl rfl Tryz.func163 rfl rfl (by kernel_rfl) (by kernel_rfl)
noncomputable def cc164 : CC := { P := Tryz.prog, toS := toS, inl := fun n => List.elem n ([] : List Nat), dyn := false, N := Tryz.f164.ntmps }
theorem ok164 : FnOK 179 164 := fn_mk cc164 Tryz.f164 c_soft_desk_none rfl rfl Tryz.func164 rfl rfl (by kernel_rfl) (by kernel_rfl)
noncomputable def cc165 : CC := { P := Tryz.prog, toS := toS, inl := fun n => List.elem n ([] : List Nat), dyn := false, N := Tryz.f165.ntmps }
theorem ok165 : FnOK 180 165 := fn_mk cc165 Tryz.f165 c_soft_desk_inf rfl rfl Tryz.func165 rfl rfl (by kernel_rfl) (by kernel_rfl)
noncomputable def cc166 : CC := { P := Tryz.prog, toS := toS, inl := fun n => List.elem n ([] : List Nat), dyn := false, N := Tryz.f166.ntmps }
theorem ok166 : FnOK 181 166 := fn_mk cc166 Tryz.f166 c_soft_desk_zero rfl rfl Tryz.func166 rfl rfl (by kernel_rfl) (by kernel_rfl)
noncomputable def cc167 : CC := { P := Tryz.prog, toS := toS, inl := fun n => List.elem n ([] : List Nat), dyn := false, N := Tryz.f167.ntmps }
theorem ok167 : FnOK 183 167 := fn_mk cc167 Tryz.f167 c_soft_desk_sum rfl rfl Tryz.func167 rfl rfl (by kernel_rfl) (by kernel_rfl)
noncomputable def cc168 : CC := { P := Tryz.prog, toS := toS, inl := fun n => List.elem n ([] : List Nat), dyn := false, N := Tryz.f168.ntmps }
theorem ok168 : FnOK 34 168 := fn_mk cc168 Tryz.f168 c_ref04_Taken rfl rfl Tryz.func168 rfl rfl (by kernel_rfl) (by kernel_rfl)
noncomputable def cc169 : CC := { P := Tryz.prog, toS := toS, inl := fun n => List.elem n ([] : List Nat), dyn := false, N := Tryz.f169.ntmps }
theorem ok169 : FnOK 10 169 := fn_mk cc169 Tryz.f169 c_ref04_Over rfl rfl Tryz.func169 rfl rfl (by kernel_rfl) (by kernel_rfl)
noncomputable def cc170 : CC := { P := Tryz.prog, toS := toS, inl := fun n => List.elem n ([] : List Nat), dyn := false, N := Tryz.f170.ntmps }
theorem ok170 : FnOK 37 170 := fn_mk cc170 Tryz.f170 c_ref02_Abs rfl rfl Tryz.func170 rfl rfl (by kernel_rfl) (by kernel_rfl)
noncomputable def cc171 : CC := { P := Tryz.prog, toS := toS, inl := fun n => List.elem n ([] : List Nat), dyn := false, N := Tryz.f171.ntmps }
theorem ok171 : FnOK 14 171 := fn_mk cc171 Tryz.f171 c_ref02_Same rfl rfl Tryz.func171 rfl rfl (by kernel_rfl) (by kernel_rfl)
noncomputable def cc172 : CC := { P := Tryz.prog, toS := toS, inl := fun n => List.elem n ([] : List Nat), dyn := false, N := Tryz.f172.ntmps }
theorem ok172 : FnOK 21 172 := fn_mk cc172 Tryz.f172 c_round_open rfl rfl Tryz.func172 rfl rfl (by kernel_rfl) (by kernel_rfl)
noncomputable def cc173 : CC := { P := Tryz.prog, toS := toS, inl := fun n => List.elem n ([] : List Nat), dyn := false, N := Tryz.f173.ntmps }
theorem ok173 : FnOK 25 173 := fn_mk cc173 Tryz.f173 c_word_Greatest rfl rfl Tryz.func173 rfl rfl (by kernel_rfl) (by kernel_rfl)
noncomputable def cc174 : CC := { P := Tryz.prog, toS := toS, inl := fun n => List.elem n ([] : List Nat), dyn := false, N := Tryz.f174.ntmps }
theorem ok174 : FnOK 312 174 := fn_mk cc174 Tryz.f174 c_word_Good rfl rfl Tryz.func174 rfl rfl (by kernel_rfl) (by kernel_rfl)
noncomputable def cc175 : CC := { P := Tryz.prog, toS := toS, inl := fun n => List.elem n ([] : List Nat), dyn := false, N := Tryz.f175.ntmps }
theorem ok175 : FnOK 95 175 := fn_mk cc175 Tryz.f175 c_word_open rfl rfl Tryz.func175 rfl rfl (by kernel_rfl) (by kernel_rfl)
noncomputable def cc176 : CC := { P := Tryz.prog, toS := toS, inl := fun n => List.elem n ([] : List Nat), dyn := false, N := Tryz.f176.ntmps }
theorem ok176 : FnOK 201 176 := fn_mk cc176 Tryz.f176 c_word_shape_class rfl rfl Tryz.func176 rfl rfl (by kernel_rfl) (by kernel_rfl)
noncomputable def cc177 : CC := { P := Tryz.prog, toS := toS, inl := fun n => List.elem n ([] : List Nat), dyn := true, N := Tryz.f177.ntmps }
theorem ok177 : FnOK 313 177 := fn_mk cc177 Tryz.f177 c_word_turned rfl rfl Tryz.func177 rfl rfl (by kernel_rfl) (by kernel_rfl)
noncomputable def cc179 : CC := { P := Tryz.prog, toS := toS, inl := fun n => List.elem n ([] : List Nat), dyn := false, N := Tryz.f179.ntmps }
theorem ok179 : FnOK 204 179 := fn_mk cc179 Tryz.f179 c_word_shape_none rfl rfl Tryz.func179 rfl rfl (by kernel_rfl) (by kernel_rfl)
noncomputable def cc180 : CC := { P := Tryz.prog, toS := toS, inl := fun n => List.elem n ([] : List Nat), dyn := false, N := Tryz.f180.ntmps }
theorem ok180 : FnOK 315 180 := fn_mk cc180 Tryz.f180 c_word_Neg_1 rfl rfl Tryz.func180 rfl rfl (by kernel_rfl) (by kernel_rfl)
noncomputable def cc181 : CC := { P := Tryz.prog, toS := toS, inl := fun n => List.elem n ([] : List Nat), dyn := false, N := Tryz.f181.ntmps }
theorem ok181 : FnOK 98 181 := fn_mk cc181 Tryz.f181 c_word_Zero_1 rfl rfl Tryz.func181 rfl rfl (by kernel_rfl) (by kernel_rfl)
noncomputable def cc182 : CC := { P := Tryz.prog, toS := toS, inl := fun n => List.elem n ([] : List Nat), dyn := false, N := Tryz.f182.ntmps }
theorem ok182 : FnOK 40 182 := fn_mk cc182 Tryz.f182 c_dyad_Quo rfl rfl Tryz.func182 rfl rfl (by kernel_rfl) (by kernel_rfl)
noncomputable def cc183 : CC := { P := Tryz.prog, toS := toS, inl := fun n => List.elem n ([] : List Nat), dyn := false, N := Tryz.f183.ntmps }
theorem ok183 : FnOK 23 183 := fn_mk cc183 Tryz.f183 c_round_partOf rfl rfl Tryz.func183 rfl rfl (by kernel_rfl) (by kernel_rfl)
noncomputable def cc184 : CC := { P := Tryz.prog, toS := toS, inl := fun n => List.elem n ([] : List Nat), dyn := false, N := Tryz.f184.ntmps }
theorem ok184 : FnOK 24 184 := fn_mk cc184 Tryz.f184 c_round_part_word rfl rfl Tryz.func184 rfl rfl (by kernel_rfl) (by kernel_rfl)
noncomputable def cc185 : CC := { P := Tryz.prog, toS := toS, inl := fun n => List.elem n ([] : List Nat), dyn := false, N := Tryz.f185.ntmps }
theorem ok185 : FnOK 202 185 := fn_mk cc185 Tryz.f185 c_word_finite rfl rfl Tryz.func185 rfl rfl (by kernel_rfl) (by kernel_rfl)
noncomputable def cc186 : CC := { P := Tryz.prog, toS := toS, inl := fun n => List.elem n ([] : List Nat), dyn := false, N := Tryz.f186.ntmps }
theorem ok186 : FnOK 200 186 := fn_mk cc186 Tryz.f186 c_word_shape_split rfl rfl Tryz.func186 rfl rfl (by kernel_rfl) (by kernel_rfl)
noncomputable def cc187 : CC := { P := Tryz.prog, toS := toS, inl := fun n => List.elem n ([] : List Nat), dyn := false, N := Tryz.f187.ntmps }
theorem ok187 : FnOK 96 187 := fn_mk cc187 Tryz.f187 c_word_shape_low rfl rfl Tryz.func187 rfl rfl (by kernel_rfl) (by kernel_rfl)
noncomputable def cc188 : CC := { P := Tryz.prog, toS := toS, inl := fun n => List.elem n ([] : List Nat), dyn := false, N := Tryz.f188.ntmps }
theorem ok188 : FnOK 114 188 := fn_mk cc188 Tryz.f188 (c_bits_TrailingZeros32 0) rfl rfl Tryz.func188 rfl rfl (by kernel_rfl) (by kernel_rfl)
noncomputable def cc189 : CC := { P := Tryz.prog, toS := toS, inl := fun n => List.elem n ([] : List Nat), dyn := false, N := Tryz.f189.ntmps }
theorem ok189 : FnOK 89 189 := fn_mk cc189 Tryz.f189 c_nat_down rfl rfl Tryz.func189 rfl rfl (by kernel_rfl) (by kernel_rfl)
noncomputable def cc190 : CC := { P := Tryz.prog, toS := toS, inl := fun n => List.elem n ([94] : List Nat), dyn := false, N := Tryz.f190.ntmps }
theorem ok190 : FnOK 91 190 := fn_mk cc190 Tryz.f190 c_nat_up rfl rfl Tryz.func190 rfl rfl (by kernel_rfl) (by kernel_rfl)
noncomputable def cc191 : CC := { P := Tryz.prog, toS := toS, inl := fun n => List.elem n ([] : List Nat), dyn := false, N := Tryz.f191.ntmps }
theorem ok191 : FnOK 111 191 := fn_mk cc191 Tryz.f191 c_ref01_Bit rfl rfl Tryz.func191 rfl rfl (by kernel_rfl) (by kernel_rfl)
noncomputable def cc194 : CC := { P := Tryz.prog, toS := toS, inl := fun n => List.elem n ([] : List Nat), dyn := false, N := Tryz.f194.ntmps }
theorem ok194 : FnOK 68 194 := fn_mk cc194 Tryz.f194 c_ref02_Two rfl rfl Tryz.func194 rfl rfl (by kernel_rfl) (by kernel_rfl)
noncomputable def cc195 : CC := { P := Tryz.prog, toS := toS, inl := fun n => List.elem n ([] : List Nat), dyn := false, N := Tryz.f195.ntmps }
theorem ok195 : FnOK 87 195 := fn_mk cc195 Tryz.f195 c_dyad_inside rfl rfl Tryz.func195 rfl rfl (by kernel_rfl) (by kernel_rfl)
noncomputable def cc196 : CC := { P := Tryz.prog, toS := toS, inl := fun n => List.elem n ([] : List Nat), dyn := false, N := Tryz.f196.ntmps }
theorem ok196 : FnOK 88 196 := fn_mk cc196 Tryz.f196 c_bits_Len32 rfl rfl Tryz.func196 rfl rfl (by kernel_rfl) (by kernel_rfl)
noncomputable def cc197 : CC := { P := Tryz.prog, toS := toS, inl := fun n => List.elem n ([] : List Nat), dyn := false, N := Tryz.f197.ntmps }
theorem ok197 : FnOK 103 197 := fn_mk cc197 Tryz.f197 c_nat_Sub rfl rfl Tryz.func197 rfl rfl (by kernel_rfl) (by kernel_rfl)
noncomputable def cc198 : CC := { P := Tryz.prog, toS := toS, inl := fun n => List.elem n ([] : List Nat), dyn := false, N := Tryz.f198.ntmps }
theorem ok198 : FnOK 105 198 := fn_mk cc198 Tryz.f198 c_nat_Add rfl rfl Tryz.func198 rfl rfl (by kernel_rfl) (by kernel_rfl)
noncomputable def cc199 : CC := { P := Tryz.prog, toS := toS, inl := fun n => List.elem n ([] : List Nat), dyn := false, N := Tryz.f199.ntmps }
theorem ok199 : FnOK 209 199 := fn_mk cc199 Tryz.f199 c_dyad_halved rfl rfl Tryz.func199 rfl rfl (by kernel_rfl) (by kernel_rfl)
noncomputable def cc200 : CC := { P := Tryz.prog, toS := toS, inl := fun n => List.elem n ([] : List Nat), dyn := false, N := Tryz.f200.ntmps }
theorem ok200 : FnOK 104 200 := fn_mk cc200 Tryz.f200 c_nat_Cmp rfl rfl Tryz.func200 rfl rfl (by kernel_rfl) (by kernel_rfl)
noncomputable def cc201 : CC := { P := Tryz.prog, toS := toS, inl := fun n => List.elem n ([] : List Nat), dyn := false, N := Tryz.f201.ntmps }
theorem ok201 : FnOK 106 201 := fn_mk cc201 Tryz.f201 c_nat_all rfl rfl Tryz.func201 rfl rfl (by kernel_rfl) (by kernel_rfl)
noncomputable def cc202 : CC := { P := Tryz.prog, toS := toS, inl := fun n => List.elem n ([] : List Nat), dyn := false, N := Tryz.f202.ntmps }
theorem ok202 : FnOK 117 202 := fn_mk cc202 Tryz.f202 c_nat_bound rfl rfl Tryz.func202 rfl rfl (by kernel_rfl) (by kernel_rfl)
noncomputable def cc203 : CC := { P := Tryz.prog, toS := toS, inl := fun n => List.elem n ([] : List Nat), dyn := false, N := Tryz.f203.ntmps }
theorem ok203 : FnOK 113 203 := fn_mk cc203 Tryz.f203 c_nat_mul rfl rfl Tryz.func203 rfl rfl (by kernel_rfl) (by kernel_rfl)
noncomputable def cc204 : CC := { P := Tryz.prog, toS := toS, inl := fun n => List.elem n ([] : List Nat), dyn := false, N := Tryz.f204.ntmps }
theorem ok204 : FnOK 7 204 := fn_mk cc204 Tryz.f204 c_round_Round rfl rfl Tryz.func204 rfl rfl (by kernel_rfl) (by kernel_rfl)
noncomputable def cc205 : CC := { P := Tryz.prog, toS := toS, inl := fun n => List.elem n ([] : List Nat), dyn := false, N := Tryz.f205.ntmps }
theorem ok205 : FnOK 65 205 := fn_mk cc205 Tryz.f205 c_ref02_Shift rfl rfl Tryz.func205 rfl rfl (by kernel_rfl) (by kernel_rfl)
noncomputable def cc206 : CC := { P := Tryz.prog, toS := toS, inl := fun n => List.elem n ([] : List Nat), dyn := false, N := Tryz.f206.ntmps }
theorem ok206 : FnOK 66 206 := fn_mk cc206 Tryz.f206 c_ref02_Floor rfl rfl Tryz.func206 rfl rfl (by kernel_rfl) (by kernel_rfl)
noncomputable def cc207 : CC := { P := Tryz.prog, toS := toS, inl := fun n => List.elem n ([] : List Nat), dyn := false, N := Tryz.f207.ntmps }
theorem ok207 : FnOK 71 207 := fn_mk cc207 Tryz.f207 c_ref04_half rfl rfl Tryz.func207 rfl rfl (by kernel_rfl) (by kernel_rfl)
noncomputable def cc208 : CC := { P := Tryz.prog, toS := toS, inl := fun n => List.elem n ([] : List Nat), dyn := false, N := Tryz.f208.ntmps }
theorem ok208 : FnOK 39 208 := fn_mk cc208 Tryz.f208 c_ref01_Same rfl rfl Tryz.func208 rfl rfl (by kernel_rfl) (by kernel_rfl)
noncomputable def cc209 : CC := { P := Tryz.prog, toS := toS, inl := fun n => List.elem n ([] : List Nat), dyn := false, N := Tryz.f209.ntmps }
theorem ok209 : FnOK 47 209 := fn_mk cc209 Tryz.f209 c_round_formOf rfl rfl Tryz.func209 rfl rfl (by kernel_rfl) (by kernel_rfl)
noncomputable def cc210 : CC := { P := Tryz.prog, toS := toS, inl := fun n => List.elem n ([] : List Nat), dyn := false, N := Tryz.f210.ntmps }
theorem ok210 : FnOK 59 210 := fn_mk cc210 Tryz.f210 c_word_Greatest_1 rfl rfl Tryz.func210 rfl rfl (by kernel_rfl) (by kernel_rfl)
noncomputable def cc211 : CC := { P := Tryz.prog, toS := toS, inl := fun n => List.elem n ([] : List Nat), dyn := false, N := Tryz.f211.ntmps }
theorem ok211 : FnOK 115 211 := fn_mk cc211 Tryz.f211 c_word_shapeOf rfl rfl Tryz.func211 rfl rfl (by kernel_rfl) (by kernel_rfl)
noncomputable def cc212 : CC := { P := Tryz.prog, toS := toS, inl := fun n => List.elem n ([] : List Nat), dyn := false, N := Tryz.f212.ntmps }
theorem ok212 : FnOK 75 212 := fn_mk cc212 Tryz.f212 c_dyad_asked rfl rfl Tryz.func212 rfl rfl (by kernel_rfl) (by kernel_rfl)
noncomputable def cc213 : CC := { P := Tryz.prog, toS := toS, inl := fun n => List.elem n ([] : List Nat), dyn := false, N := Tryz.f213.ntmps }
theorem ok213 : FnOK 76 213 := fn_mk cc213 Tryz.f213 c_dyad_wide rfl rfl Tryz.func213 rfl rfl (by kernel_rfl) (by kernel_rfl)
noncomputable def cc214 : CC := { P := Tryz.prog, toS := toS, inl := fun n => List.elem n ([] : List Nat), dyn := false, N := Tryz.f214.ntmps }
theorem ok214 : FnOK 77 214 := fn_mk cc214 Tryz.f214 c_nat_QuoRem rfl rfl Tryz.func214 rfl rfl (by kernel_rfl) (by kernel_rfl)
noncomputable def cc215 : CC := { P := Tryz.prog, toS := toS, inl := fun n => List.elem n ([] : List Nat), dyn := false, N := Tryz.f215.ntmps }
theorem ok215 : FnOK 78 215 := fn_mk cc215 Tryz.f215 c_dyad_made rfl rfl Tryz.func215 rfl rfl (by kernel_rfl) (by kernel_rfl)
noncomputable def cc216 : CC := { P := Tryz.prog, toS := toS, inl := fun n => List.elem n ([] : List Nat), dyn := false, N := Tryz.f216.ntmps }
theorem ok216 : FnOK 51 216 := fn_mk cc216 Tryz.f216 c_nat_Num rfl rfl Tryz.func216 rfl rfl (by kernel_rfl) (by kernel_rfl)
noncomputable def cc217 : CC := { P := Tryz.prog, toS := toS, inl := fun n => List.elem n ([] : List Nat), dyn := false, N := Tryz.f217.ntmps }
theorem ok217 : FnOK 52 217 := fn_mk cc217 Tryz.f217 c_round_part_units rfl rfl Tryz.func217 rfl rfl (by kernel_rfl) (by kernel_rfl)
noncomputable def cc218 : CC := { P := Tryz.prog, toS := toS, inl := fun n => List.elem n ([] : List Nat), dyn := false, N := Tryz.f218.ntmps }
theorem ok218 : FnOK 53 218 := fn_mk cc218 Tryz.f218 c_bits_Len64 rfl rfl Tryz.func218 rfl rfl (by kernel_rfl) (by kernel_rfl)
noncomputable def cc219 : CC := { P := Tryz.prog, toS := toS, inl := fun n => List.elem n ([] : List Nat), dyn := false, N := Tryz.f219.ntmps }
theorem ok219 : FnOK 56 219 := fn_mk cc219 Tryz.f219 c_word_Of rfl rfl Tryz.func219 rfl rfl (by kernel_rfl) (by kernel_rfl)
noncomputable def cc221 : CC := { P := Tryz.prog, toS := toS, inl := fun n => List.elem n ([] : List Nat), dyn := false, N := Tryz.f221.ntmps }
theorem ok221 : FnOK 107 221 := fn_mk cc221 Tryz.f221 c_nat_cmp rfl rfl Tryz.func221 rfl rfl (by kernel_rfl) (by kernel_rfl)
noncomputable def cc222 : CC := { P := Tryz.prog, toS := toS, inl := fun n => List.elem n ([] : List Nat), dyn := false, N := Tryz.f222.ntmps }
theorem ok222 : FnOK 116 222 := fn_mk cc222 Tryz.f222 c_nat_sub rfl rfl Tryz.func222 rfl rfl (by kernel_rfl) (by kernel_rfl)
noncomputable def cc223 : CC := { P := Tryz.prog, toS := toS, inl := fun n => List.elem n ([] : List Nat), dyn := false, N := Tryz.f223.ntmps }
theorem ok223 : FnOK 112 223 := fn_mk cc223 Tryz.f223 c_bits_Add32 rfl rfl Tryz.func223 rfl rfl (by kernel_rfl) (by kernel_rfl)
noncomputable def cc224 : CC := { P := Tryz.prog, toS := toS, inl := fun n => List.elem n ([] : List Nat), dyn := false, N := Tryz.f224.ntmps }
theorem ok224 : FnOK 108 224 := fn_mk cc224 Tryz.f224 c_nat_small rfl rfl Tryz.func224 rfl rfl (by kernel_rfl) (by kernel_rfl)
noncomputable def cc225 : CC := { P := Tryz.prog, toS := toS, inl := fun n => List.elem n ([91, 120] : List Nat), dyn := false, N := Tryz.f225.ntmps }
theorem ok225 : FnOK 109 225 := fn_mk cc225 Tryz.f225 c_nat_long rfl rfl Tryz.func225 rfl rfl (by kernel_rfl) (by kernel_rfl)
noncomputable def cc226 : CC := { P := Tryz.prog, toS := toS, inl := fun n => List.elem n ([] : List Nat), dyn := false, N := Tryz.f226.ntmps }
theorem ok226 : FnOK 92 226 := fn_mk cc226 Tryz.f226 c_round_btoi rfl rfl Tryz.func226 rfl rfl (by kernel_rfl) (by kernel_rfl)
noncomputable def cc227 : CC := { P := Tryz.prog, toS := toS, inl := fun n => List.elem n ([] : List Nat), dyn := false, N := Tryz.f227.ntmps }
theorem ok227 : FnOK 93 227 := fn_mk cc227 Tryz.f227 c_round_up rfl rfl Tryz.func227 rfl rfl (by kernel_rfl) (by kernel_rfl)
noncomputable def cc228 : CC := { P := Tryz.prog, toS := toS, inl := fun n => List.elem n ([] : List Nat), dyn := false, N := Tryz.f228.ntmps }
theorem ok228 : FnOK 97 228 := fn_mk cc228 Tryz.f228 c_word_shape_join rfl rfl Tryz.func228 rfl rfl (by kernel_rfl) (by kernel_rfl)
noncomputable def cc229 : CC := { P := Tryz.prog, toS := toS, inl := fun n => List.elem n ([] : List Nat), dyn := false, N := Tryz.f229.ntmps }
theorem ok229 : FnOK 121 229 := fn_mk cc229 Tryz.f229 c_bits_Sub32 rfl rfl Tryz.func229 rfl rfl (by kernel_rfl) (by kernel_rfl)
noncomputable def cc230 : CC := { P := Tryz.prog, toS := toS, inl := fun n => List.elem n ([] : List Nat), dyn := false, N := Tryz.f230.ntmps }
theorem ok230 : FnOK 118 230 := fn_mk cc230 Tryz.f230 c_bits_Div32 rfl rfl Tryz.func230 rfl rfl (by kernel_rfl) (by kernel_rfl)
noncomputable def cc231 : CC := { P := Tryz.prog, toS := toS, inl := fun n => List.elem n ([] : List Nat), dyn := false, N := Tryz.f231.ntmps }
theorem ok231 : FnOK 119 231 := fn_mk cc231 Tryz.f231 c_bits_LeadingZeros32 rfl rfl Tryz.func231 rfl rfl (by kernel_rfl) (by kernel_rfl)
noncomputable def cc232 : CC := { P := Tryz.prog, toS := toS, inl := fun n => List.elem n ([] : List Nat), dyn := false, N := Tryz.f232.ntmps }
theorem ok232 : FnOK 120 232 := fn_mk cc232 Tryz.f232 c_nat_step rfl rfl Tryz.func232 rfl rfl (by kernel_rfl) (by kernel_rfl)
theorem all_fn : AllP FnOK lnk := ⟨ok8, ok11, ok12, ok13, ok14, ok23, ok25, ok26, ok27, ok31, ok32, ok33, ok34, ok35, ok36, ok37, ok44, ok45, ok46, ok50, ok54, ok55, ok58, ok59, ok60, ok61, ok64, ok65, ok66, ok67, ok68, ok69, ok70, ok71, ok72, ok73, ok74, ok75, ok76, ok77, ok78, ok83, ok85, ok86, ok87, ok88, ok89, ok91, ok92, ok93, ok94, ok95, ok97, ok99, ok101, ok102, ok103, ok104, ok105, ok107, ok108, ok109, ok110, ok111, ok112, ok113, ok114, ok115, ok116, ok118, ok120, ok121, ok122, ok123, ok124, ok125, ok126, ok127, ok128, ok129, ok130, ok131, ok132, ok133, ok134, ok135, ok136, ok137, ok138, ok139, ok140, ok141, ok142, ok145, ok146, ok147, ok148, ok149, ok150, ok151, ok154, ok155, ok156, ok157, ok158, ok159, ok160, ok162, ok163, ok164, ok165, ok166, ok167, ok168, ok169, ok170, ok171, ok172, ok173, ok174, ok175, ok176, ok177, ok179, ok180, ok181, ok182, ok183, ok184, ok185, ok186, ok187, ok188, ok189, ok190, ok191, ok194, ok195, ok196, ok197, ok198, ok199, ok200, ok201, ok202, ok203, ok204, ok205, ok206, ok207, ok208, ok209, ok210, ok211, ok212, ok213, ok214, ok215, ok216, ok217, ok218, ok219, ok221, ok222, ok223, ok224, ok225, ok226, ok227, ok228, ok229, ok230, ok231, ok232, trivial⟩
theorem prog_ok : ProgOK Tryz.prog L0 (tbl 0) := ⟨fun f g h => AllP.of all_fn f g h⟩
theorem mixed : Tryz.prog.follows .mixedOrders = true := by kernel_rfl
end Go.Proofs.YtabmkppfiklbaaaGreatDoor

/-
  The seat's own facts: the listed variable's cells, a start that fits.
-/
namespace Go.Proofs.YtabmkppfiklbaaaGreatDoor
open Go Go.Cv Go.ChangeShapes Go.WideShapes Go.ChangeAt Go.WideMaps Go.WideElems Go.RowKit

theorem own : ownKnob Tryz.prog.godebug = none := by kernel_rfl
theorem laidOut : laidOutB Tryz.prog = true := by kernel_rfl
theorem gTab : Tryz.prog.globalNamed "math/bits.deBruijn32tab" = some 0 := by kernel_rfl
theorem tTab : (Tryz.prog.globals[0]?).map (·.type) = some 256 := by kernel_rfl
def laid1 : List (String × DataW Unit) := [("math/bits.deBruijn32tab", Rows.laid_math_bits_deBruijn32tab)]

theorem door_met (os : Os) (args : Array Value) : laidMetH Tryz.prog laid1 ((World.doorLaid Tryz.prog 400 os).forCall (fun _ _ => 0) ⟨#[], args, []⟩).memory :=
  laidMetH_of_parts3 (fuel := 8) (laidMet_of_run' 8 (by kernel_rfl) (by kernel_rfl)) (by kernel_rfl) (by kernel_rfl)

theorem of_laid {W : World} (h : laidMetH Tryz.prog laid1 W) : Gok (glb 0) ⟨L0, W, fun r => r < W.heap.size, noι⟩ := by
  rw [MakeChecks.laidMetH_plain _ _ _ (by kernel_rfl)] at h
  obtain ⟨ps, ⟨g0, t0, cs0, f0, p0, q0, hg0, ht0, hv0, hd0, _, _⟩, _, _⟩ := h
  obtain rfl := Option.some.inj (gTab.symm.trans hg0)
  obtain rfl := Option.some.inj (tTab.symm.trans ht0)
  have hc := tab_u8 (l := ntz32) (e := 5) (show Tryz.prog.underlying 256 = some (.array ntz32.length 5) by kernel_rfl) (show Tryz.prog.underlying 5 = some (.int .u8) by kernel_rfl) (by kernel_rfl) hd0
  exact gok_u8 (fun j d hj => by rw [World.var?_cell hg0 hv0 j]; exact hc j d hj) (by decide)
end Go.Proofs.YtabmkppfiklbaaaGreatDoor
