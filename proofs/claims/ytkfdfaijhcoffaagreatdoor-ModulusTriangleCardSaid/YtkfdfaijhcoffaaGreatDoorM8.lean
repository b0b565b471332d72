/-
  A part of the proof of the statements of this seat (texts that the law's own text leans on): no condition.
-/
import Derived.Test.YtkfdfaijhcoffaaGreatDoorM2
import Derived.Test.YtkfdfaijhcoffaaGreatDoorM4
import Derived.ProofKit
import Derived.LaidMore
import Derived.OpenShut
import Derived.Deep.Slices
import Derived.Lib.SmallJoins
import Derived.Carry
import Derived.Below
import Derived.ChangeSame
import Derived.Test.YtkfdfaijhcoffaaGreatDoorM3
import Derived.KernelRfl
import Derived.Test.YtkfdfaijhcoffaaGreatDoorProg
import Derived.Test.YtkfdfaijhcoffaaGreatDoorRows
import Derived.Test.YtkfdfaijhcoffaaGreatDoorChecked
import Derived.Stop.Joined
import Derived.SevenTiedAt
set_option linter.unusedVariables false
set_option linter.unusedSimpArgs false
/-
  From the evaluator's answer to a law's contract: arguments opened, the law's post met. No program stands in it.
-/
namespace Go.Cv
open Go Go.RowKit Go.WideShapes Go.ChangeShapes Go.WideElems Go.Deep Go.Joins

section
variable {H : Type} {enc : TypeId × Value → H} {P : Program}

theorem trodAll_stays (hl : laidOutB P = true) {W W' : World} {sp : Nat → Bool} (hb : Below W.heap.size W W') :
    ∀ {ts : List TypeId} {vs : List Value} {ds : List (DataW H)} {ps : List MemPlace}, (∀ t ∈ ts, P.readableRec t = true ∧ t < P.types.size) →
    DataW.TrodAll enc P W 0 (fun _ => true) true ts vs ds ps → (∀ p ∈ ps, p.block < W.heap.size ∧ sp p.block = true) → DataW.TrodAll enc P W' 0 sp true ts vs ds ps
  | [], vs, ds, ps, _, h, _ => by
    obtain ⟨rfl, rfl, rfl⟩ := trodAll_nil h
    rfl
  | t :: ts, vs, ds, ps, ht, h, hp => by
    obtain ⟨v, vs1, d, ds1, p, q, rfl, rfl, rfl, h1, h2⟩ := trodAll_cons h
    refine ⟨p, q, ?_, ?_, rfl⟩
    · exact Trod_stays hl (ht t (List.mem_cons_self ..)).1 (ht t (List.mem_cons_self ..)).2 h1 (fun x hx => hb.same (hp x (List.mem_append_left _ hx)).1) (fun x hx => (hp x (List.mem_append_left _ hx)).2)
    · exact trodAll_stays hl hb (fun t' h' => ht t' (List.mem_cons_of_mem _ h')) h2 (fun x hx => hp x (List.mem_append_right _ hx))

/-- A law that answers true and turns nothing that was there. -/
theorem law_post {f : Func} {s : ChangeSpec} {apart fresh handsOn again : Bool} {W W' : World} {args : Array Value} {ds gs : List (DataW H)} {before : List MemPlace} {tb : TypeId}
    (hl : laidOutB P = true) (hp : f.params.toList.all (fun t => P.readableRec t && decide (t < P.types.size)) = true) (hr : f.resultTypes = #[tb]) (ht : P.underlying tb = some .bool) (hv : s.vars = [])
    (hs : s.fn H (ds ++ gs) = { results := [.lit (.bool true)], args := ds })
    (hW : DataW.Whole enc P f.params.toList s.vars apart W args.toList ds gs before) (hb : Below W.heap.size W W') :
    s.post enc P f apart fresh handsOn again W args (.bool true) W' := by
  have hlt : ∀ p ∈ before, p.block < W.heap.size := fun p hp => hW.lt p hp
  have hts : ∀ t ∈ f.params.toList, P.readableRec t = true ∧ t < P.types.size := fun t h => by
    have := List.all_eq_true.1 hp t h
    simpa using this
  have hres : ∀ (b : Nat) (sp : Nat → Bool) (hd : Bool), DataW.TrodAll enc P W' b sp hd f.resultTypes.toList ((Value.bool true).resultList f.resultTypes.size) (s.fn H (ds ++ gs)).results [] := fun b sp hd => by
    rw [hs, hr]; exact trodAll_mk1 (shut_bool ht true)
  have hW0 := hW
  obtain ⟨p, q, hA, hV, hpq, hz, hn⟩ := hW
  rw [hv] at hV
  obtain ⟨rfl, rfl⟩ := trodVars_none hV
  rw [List.append_nil] at hpq
  subst hpq
  have hargs : ∀ sp : Nat → Bool, (∀ x ∈ before, sp x.block = true) → DataW.TrodAll enc P W' 0 sp true f.params.toList args.toList (s.fn H (ds ++ [])).args before := fun sp h => by
    rw [hs]; exact trodAll_stays hl hb hts hA (fun x hx => ⟨hlt x hx, h x hx⟩)
  have hvars : ∀ sp : Nat → Bool, DataW.TrodVars enc P W' sp s.vars (s.fn H (ds ++ [])).vars [] := fun sp => by rw [hs, hv]; rfl
  have hold : ∀ p ∈ before, (fun b => decide (b < W.heap.size)) p.block = true := fun p hp => by simpa using hlt p hp
  refine ⟨ds, [], before, [], before, [], hW0, hres _ _ _, hargs _ hold, hvars _, World.keptBut_mono (fun p hp => ⟨hp, ?_⟩) (hb.frame (· ∈ before)), fun _ => ?_⟩
  · exact Or.inr (Or.inl hp)
  · refine ⟨ok_one hr rfl (okWide_bool_mk ht true), _, _, ([] ++ before) ++ [], ⟨[] ++ before, [], trodAll_append (hargs _ (fun _ _ => rfl)) (hres _ _ _), hvars _, rfl, ?_, ?_⟩, ?_⟩
    · intro b off hp
      have hin : MemPlace.cell b off ∈ before := by simpa using hp
      rw [hb.frozen (hlt _ hin)]
      exact hz b off hin
    · intro ha
      simpa using hn ha
    · intro p hp _
      simpa using hp

end

/-- What a law's contract needs of the evaluator's answer. -/
theorem law_run {P : Program} {L : Nat → Option FuncId} {G : Nat → Option (List AV)} {T : Tbl} (hm : P.follows .mixedOrders = true) (hP : ProgOK P L T) {f : Nat} {g : FuncId} {args : List AV} (hLf : L f = some g)
    (hr : run G T f args = some (.bool true)) {W : World} (hG : Gok G ⟨L, W, fun r => r < W.heap.size, noι⟩) {us : Array Value} (hu : RelL ⟨L, W, fun r => r < W.heap.size, noι⟩ args us.toList)
    {Q : Value → World → Prop} (hQ : ∀ W', Go.RowKit.Below W.heap.size W W' → Q (.bool true) W') :
    Calls P g us W fun e W' => ∃ v, e = .returned v ∧ Q v W' := by
  have h := run_sound hm hP hLf hr W (fun r => r < W.heap.size) (fun _ h => h) hG hu
  refine h.mono ?_
  rintro e W' ⟨u, rfl, hb, hrel⟩
  simp only [Rel] at hrel
  subst hrel
  exact ⟨_, rfl, hQ W' hb⟩

/-- A row of numbers that a package's variable holds. -/
theorem gok_u8 {L : Nat → Option FuncId} {W : World} {g : Nat} {l : List Nat} (h : ∀ (j d : Nat), l[j]? = some d → W.cell? ⟨g, j, none⟩ = some (.int .u8 (d : Int))) (hl : 0 < l.length) :
    Gok (fun n => if n = g then some (l.map fun (d : Nat) => .int .u8 (d : Int)) else none) ⟨L, W, fun r => r < W.heap.size, noι⟩ := by
  intro g' cs hg
  simp only at hg
  split at hg
  · next he =>
    subst he
    cases hg
    constructor
    · have h0 := h 0 l[0] (List.getElem?_eq_getElem hl)
      show g' < W.heap.size
      unfold World.cell? at h0
      split at h0
      · next c _ _ hh => exact row_lt hh
      · cases h0
    · rw [relAt_iff]
      intro j v hj
      rw [List.getElem?_map] at hj
      cases hd : l[j]? with
      | none => rw [hd] at hj; cases hj
      | some d =>
        rw [hd] at hj
        simp only [Option.map_some, Option.some.injEq] at hj
        subst hj
        rw [Nat.zero_add]
        exact ⟨_, h j d hd, rfl, by simp only [Rel]⟩
  · cases hg

section
variable {H : Type} {enc : TypeId × Value → H} {P : Program}
/-- An array of small numbers, read as such: its cells. -/
theorem tab_u8 {w : World} {base : Nat} {sp : Nat → Bool} {held : Bool} {t e : TypeId} {fuel : Nat} {cs : Array Value} {l : List Nat} {ps : List MemPlace}
    (ht : P.underlying t = some (.array l.length e)) (he : P.underlying e = some (.int .u8)) (hc : P.cellsOf e = 1)
    (h : DataW.trod enc P w base sp held fuel t cs.toList = some (.agg (l.map fun (d : Nat) => .lit (.int .u8 (d : Int))), ps)) : ∀ (j d : Nat), l[j]? = some d → cs[j]? = some (.int .u8 (d : Int)) := by
  obtain ⟨xs, m, rfl, hx, hlen, hn, hel⟩ := DataW.trod_array ht h
  intro j d hj
  have hjl : j < l.length := (List.getElem?_eq_some_iff.1 hj).1
  have h1 := hel j hjl
  simp only [Prod.mk.injEq, DataW.agg.injEq] at hx
  have hxj : xs[j]? = some xs[j] := List.getElem?_eq_getElem (by omega)
  rw [hxj, hc, Nat.mul_one] at h1
  obtain ⟨k, e1, e2, _⟩ := DataW.trod_int he h1
  have h3 : (l.map fun (d : Nat) => (DataW.lit (.int .u8 (d : Int)) : DataW H))[j]? = (xs.map (·.1))[j]? := by rw [hx.1]
  rw [List.getElem?_map, List.getElem?_map, hj, hxj] at h3
  simp only [Option.map_some, Option.some.injEq, e2] at h3
  simp only [DataW.lit.injEq, Lit.int.injEq, true_and] at h3
  subst h3
  have h4 : (cs.toList.drop j).take 1 = [.int .u8 (d : Int)] := e1
  have h5 : cs.toList[j]? = some (.int .u8 (d : Int)) := by
    have : ((cs.toList.drop j).take 1)[0]? = some (.int .u8 (d : Int)) := by rw [h4]; rfl
    rw [List.getElem?_take] at this
    simpa using this
  simpa using h5
end
end Go.Cv

/-
  A law's arguments, opened: arrays of three words, pairs of words.
-/
namespace Go.Cv
open Go Go.RowKit Go.WideShapes Go.ChangeShapes Go.WideElems Go.Deep Go.Joins
section
variable {H : Type} {enc : TypeId × Value → H} {P : Program}
theorem word_lit {a : Int} (h : (Lit.int .u64 a).wf = true) : ∃ k : Nat, k < 18446744073709551616 ∧ a = (k : Int) := by
  have h2 : (decide ((0 : Int) ≤ a) && decide (a ≤ 18446744073709551615)) = true := h
  simp only [Bool.and_eq_true, decide_eq_true_eq] at h2
  exact ⟨a.toNat, by omega, by omega⟩
theorem open_z {w : World} {S : Sc} {r : Reach} {b0 base : Nat} {held : Bool} {t : TypeId} {f0 f1 : Field} {v : Value} {d : DataW H} {p : List MemPlace}
    (hs : P.underlying t = some (.struct #[f0, f1])) (hone : oneCellFields P #[f0, f1] = true) (hC : P.cellsOf t = 2) (h0 : P.underlying f0.type = some (.int .u64)) (h1 : P.underlying f1.type = some (.int .u64))
    (hv : Value.okWide P w r b0 t v) (h : DataW.Trod enc P w base (fun _ => true) held t v d p) :
    ∃ a b : Nat, a < 18446744073709551616 ∧ b < 18446744073709551616 ∧ Rel S (.agg [.int .u64 (a : Int), .int .u64 (b : Int)]) v := by
  obtain ⟨v0, v1, y0, y1, n, rfl, _, _, k0, k1⟩ := open_agg2 hs hone hC hv h
  obtain ⟨x, hx, _, hw0⟩ := DataW.trod_int h0 k0
  obtain rfl : v0 = .int .u64 x := by simpa using hx
  obtain ⟨y, hy, _, hw1⟩ := DataW.trod_int h1 k1
  obtain rfl : v1 = .int .u64 y := by simpa using hy
  obtain ⟨a, a1, rfl⟩ := word_lit hw0
  obtain ⟨b, b1, rfl⟩ := word_lit hw1
  refine ⟨a, b, a1, b1, ?_⟩
  simp only [Rel, RelL]
  exact ⟨_, rfl, .int .u64 a, [.int .u64 b], rfl, rfl, .int .u64 b, [], rfl, rfl, rfl⟩
end
end Go.Cv

namespace Go.Cv
def glb (g : Nat) : Nat → Option (List AV) := fun n => if n = g then some (ntz32.map fun (d : Nat) => .int .u8 (d : Int)) else none
theorem glob (g : Nat) : Glob (glb g) g := if_pos rfl
end Go.Cv

namespace Go.Cv
theorem known13 : run (glb 0) (tbl 0) 168 [] = some (.bool true) := run_of (glb 0) (tbl 0) 400 (by kernel_rfl)
end Go.Cv

/-
  The program's functions are the code texts (written by a program).
-/
set_option maxRecDepth 100000
namespace Go.Proofs.YtkfdfaijhcoffaaGreatDoor
open Go Go.Cv
def tosL : List Nat := [0, 0, 0, 0, 0, 240, 0, 0, 0, 0, 0, 0, 0, 0, 0, 0, 0, 0, 151, 0, 33, 38, 73, 0, 14, 67, 0, 0, 167, 250, 168, 169, 251, 155, 69, 37, 162, 0, 150, 70, 0, 0, 0, 0, 0, 0, 0, 0, 0, 0, 0, 0, 0, 0, 0, 0, 0, 0, 45, 0, 156, 46, 31, 0, 0, 0, 0, 0, 182, 0, 0, 39, 72, 99, 100, 101, 0, 185, 186, 18, 219, 63, 16, 32, 27, 28, 149, 0, 102, 0, 0, 0, 0, 0, 0, 0, 0, 0, 0, 0, 195, 0, 0, 0, 0, 0, 0, 0, 0, 0, 0, 0, 0, 0, 0, 36, 83, 84, 85, 8, 0, 193, 194, 196, 26, 57, 74, 197, 54, 22, 0, 48, 0, 189, 191, 21, 43, 23, 24, 230, 157, 231, 232, 234, 12, 64, 0, 0, 0, 0, 0, 0, 0, 0, 0, 55, 0, 0, 0, 0, 30, 0, 0, 0, 203, 0, 0, 0, 0, 0, 0, 0, 35, 62, 111, 25, 95, 200, 201, 202, 96, 58, 204, 60, 98, 106, 117, 113, 86, 90, 50, 87, 205, 47, 75, 49, 81, 78, 51, 52, 53, 56, 34, 10, 0, 77, 0, 0, 0, 0, 94, 0, 0, 0, 0, 207, 208, 0, 0, 0, 59, 115, 114, 89, 91, 88, 112, 107, 92, 93, 97, 65, 66, 68, 71, 103, 104, 105, 108, 109, 0, 0, 0, 209, 116, 118, 119, 120, 0, 121, 0, 0, 0, 0, 0, 0, 0, 0, 0, 0, 0, 0, 0, 0, 0, 0, 0, 0, 0, 0]
def lnk : List (Nat × Nat) := [(240, 5), (151, 18), (33, 20), (38, 21), (73, 22), (14, 24), (67, 25), (167, 28), (250, 29), (168, 30), (169, 31), (251, 32), (155, 33), (69, 34), (37, 35), (162, 36), (150, 38), (70, 39), (45, 58), (156, 60), (46, 61), (31, 62), (182, 68), (39, 71), (72, 72), (99, 73), (100, 74), (101, 75), (185, 77), (186, 78), (18, 79), (219, 80), (63, 81), (16, 82), (32, 83), (27, 84), (28, 85), (149, 86), (102, 88), (195, 100), (36, 115), (83, 116), (84, 117), (85, 118), (8, 119), (193, 121), (194, 122), (196, 123), (26, 124), (57, 125), (74, 126), (197, 127), (54, 128), (22, 129), (48, 131), (189, 133), (191, 134), (21, 135), (43, 136), (23, 137), (24, 138), (230, 139), (157, 140), (231, 141), (232, 142), (234, 143), (12, 144), (64, 145), (55, 155), (30, 160), (203, 164), (35, 172), (62, 173), (111, 174), (25, 175), (95, 176), (200, 177), (201, 178), (202, 179), (96, 180), (58, 181), (204, 182), (60, 183), (98, 184), (106, 185), (117, 186), (113, 187), (86, 188), (90, 189), (50, 190), (87, 191), (205, 192), (47, 193), (75, 194), (49, 195), (81, 196), (78, 197), (51, 198), (52, 199), (53, 200), (56, 201), (34, 202), (10, 203), (77, 205), (94, 210), (207, 215), (208, 216), (59, 220), (115, 221), (114, 222), (89, 223), (91, 224), (88, 225), (112, 226), (107, 227), (92, 228), (93, 229), (97, 230), (65, 231), (66, 232), (68, 233), (71, 234), (103, 235), (104, 236), (105, 237), (108, 238), (109, 239), (209, 243), (116, 244), (118, 245), (119, 246), (120, 247), (121, 249)]
def toS (g : FuncId) : Option Nat := match tosL.getD g 0 with | 0 => none | n + 1 => some (n + 1)
def lnkF (l : List (Nat × Nat)) (f : Nat) : Option FuncId := match l with | [] => none | p :: r => if p.1 = f then some p.2 else lnkF r f
def L0 (f : Nat) : Option FuncId := lnkF lnk f
def AllP (Q : Nat → Nat → Prop) : List (Nat × Nat) → Prop | [] => True | p :: l => Q p.1 p.2 ∧ AllP Q l
theorem AllP.of {Q : Nat → Nat → Prop} : ∀ {l : List (Nat × Nat)}, AllP Q l → ∀ f g, lnkF l f = some g → Q f g
  | [], _, f, g, h => by cases h
  | p :: l, ⟨h1, h2⟩, f, g, h => by
    unfold lnkF at h
    by_cases he : p.1 = f
    · rw [if_pos he] at h; cases h; subst he; exact h1
    · rw [if_neg he] at h; exact AllP.of h2 f g h
def bodyB (P : Program) (p : Nat × Nat) : Bool := match P.funcs[p.2]? with | some fn => (fn.name != "runtime.NumGoroutine") && fn.body.isSome | none => false
theorem bodies : lnk.all (bodyB Tryz.prog) = true := by kernel_rfl
theorem toB : (List.range tosL.length).all (fun g => match toS g with | some f => (L0 f == some g) | none => true) = true := by kernel_rfl
theorem lnk_mem : ∀ (l : List (Nat × Nat)) (f g : Nat), lnkF l f = some g → (f, g) ∈ l
  | [], _, _, h => by cases h
  | p :: l, f, g, h => by
    unfold lnkF at h
    by_cases he : p.1 = f
    · rw [if_pos he] at h; cases h; subst he; exact List.mem_cons_self ..
    · rw [if_neg he] at h; exact List.mem_cons_of_mem _ (lnk_mem l f g h)
theorem link_of (C : CC) (hP : C.P = Tryz.prog) (hS : C.toS = toS) : Link C L0 := by
  constructor
  · intro g f h
    rw [hS] at h
    have hb := List.all_eq_true.1 toB
    have hg : g < tosL.length := by
      rcases Nat.lt_or_ge g tosL.length with x | x
      · exact x
      · exfalso; unfold toS at h; rw [List.getD_eq_getElem?_getD, List.getElem?_eq_none x] at h; cases h
    have := hb g (List.mem_range.2 hg)
    rw [h] at this
    simpa using this
  · intro f g h
    have := List.all_eq_true.1 bodies _ (lnk_mem _ _ _ h)
    unfold bodyB at this
    rw [hP]
    cases hf : Tryz.prog.funcs[g]? with
    | none => simp [hf] at this
    | some fn => simp [hf] at this; exact ⟨fn, rfl, this.1, this.2⟩
def FnOK (f g : Nat) : Prop := ∃ (C : CC) (fn : Func) (c : Code) (fi : IFn), C.P = Tryz.prog ∧ Link C L0 ∧ Tryz.prog.funcs[g]? = some fn ∧ C.N ≤ fn.ntmps ∧ fn.body = some c ∧ tbl 0 f = some fi ∧ compC C c = some (erase fi.body) ∧ mapO (compRes Tryz.prog) fn.results.toList = some fi.res
theorem fn_mk {f g : Nat} (C : CC) (fn : Func) (fi : IFn) (h1 : C.P = Tryz.prog) (h2 : C.toS = toS) (h3 : Tryz.prog.funcs[g]? = some fn) (h4 : C.N = fn.ntmps) (h5 : tbl 0 f = some fi) (h6 : fn.body.bind (compC C) = some (erase fi.body)) (h7 : mapO (compRes Tryz.prog) fn.results.toList = some fi.res) : FnOK f g := by
  cases hb : fn.body with
  | none => rw [hb] at h6; cases h6
  | some c => rw [hb] at h6; exact ⟨C, fn, c, fi, h1, link_of C h1 h2, h3, Nat.le_of_eq h4, hb, h5, h6, h7⟩
noncomputable def cc5 : CC := { P := Tryz.prog, toS := toS, inl := fun n => List.elem n ([] : List Nat), dyn := false, N := Tryz.f5.ntmps }
theorem ok5 : FnOK 240 5 := fn_mk cc5 Tryz.f5 c_law13_ModulusTriangle rfl rfl Tryz.func5 rfl rfl (by kernel_rfl) (by kernel_rfl)
noncomputable def cc18 : CC := { P := Tryz.prog, toS := toS, inl := fun n => List.elem n ([] : List Nat), dyn := false, N := Tryz.f18.ntmps }
theorem ok18 : FnOK 151 18 := fn_mk cc18 Tryz.f18 c_ref03_Value rfl rfl Tryz.func18 rfl rfl (by kernel_rfl) (by kernel_rfl)
noncomputable def cc20 : CC := { P := Tryz.prog, toS := toS, inl := fun n => List.elem n ([] : List Nat), dyn := false, N := Tryz.f20.ntmps }
theorem ok20 : FnOK 33 20 := fn_mk cc20 Tryz.f20 c_ref03_Low rfl rfl Tryz.func20 rfl rfl (by kernel_rfl) (by kernel_rfl)
noncomputable def cc21 : CC := { P := Tryz.prog, toS := toS, inl := fun n => List.elem n ([] : List Nat), dyn := false, N := Tryz.f21.ntmps }
theorem ok21 : FnOK 38 21 := fn_mk cc21 Tryz.f21 c_ref03_Signed rfl rfl Tryz.func21 rfl rfl (by kernel_rfl) (by kernel_rfl)
noncomputable def cc22 : CC := { P := Tryz.prog, toS := toS, inl := fun n => List.elem n ([] : List Nat), dyn := false, N := Tryz.f22.ntmps }
theorem ok22 : FnOK 73 22 := fn_mk cc22 Tryz.f22 c_ref03_Sign rfl rfl Tryz.func22 rfl rfl (by kernel_rfl) (by kernel_rfl)
noncomputable def cc24 : CC := { P := Tryz.prog, toS := toS, inl := fun n => List.elem n ([] : List Nat), dyn := false, N := Tryz.f24.ntmps }
theorem ok24 : FnOK 14 24 := fn_mk cc24 Tryz.f24 c_ref02_Same rfl rfl Tryz.func24 rfl rfl (by kernel_rfl) (by kernel_rfl)
noncomputable def cc25 : CC := { P := Tryz.prog, toS := toS, inl := fun n => List.elem n ([] : List Nat), dyn := false, N := Tryz.f25.ntmps }
theorem ok25 : FnOK 67 25 := fn_mk cc25 Tryz.f25 c_ref02_Add rfl rfl Tryz.func25 rfl rfl (by kernel_rfl) (by kernel_rfl)
noncomputable def cc28 : CC := { P := Tryz.prog, toS := toS, inl := fun n => List.elem n ([] : List Nat), dyn := false, N := Tryz.f28.ntmps }
theorem ok28 : FnOK 167 28 := fn_mk cc28 Tryz.f28 c_law13_opens rfl rfl Tryz.func28 rfl rfl (by kernel_rfl) (by kernel_rfl)
noncomputable def cc29 : CC := { P := Tryz.prog, toS := toS, inl := fun n => List.elem n ([] : List Nat), dyn := false, N := Tryz.f29.ntmps }
theorem ok29 : FnOK 250 29 := fn_mk cc29 Tryz.f29 c_ref10_Finite rfl rfl Tryz.func29 rfl rfl (by kernel_rfl) (by kernel_rfl)
noncomputable def cc30 : CC := { P := Tryz.prog, toS := toS, inl := fun n => List.elem n ([] : List Nat), dyn := false, N := Tryz.f30.ntmps }
theorem ok30 : FnOK 168 30 := fn_mk cc30 Tryz.f30 c_law13_known rfl rfl Tryz.func30 rfl rfl (by kernel_rfl) (by kernel_rfl)
noncomputable def cc31 : CC := { P := Tryz.prog, toS := toS, inl := fun n => List.elem n ([] : List Nat), dyn := false, N := Tryz.f31.ntmps }
theorem ok31 : FnOK 169 31 := fn_mk cc31 Tryz.f31 c_modulus_Abs rfl rfl Tryz.func31 rfl rfl (by kernel_rfl) (by kernel_rfl)
noncomputable def cc32 : CC := { P := Tryz.prog, toS := toS, inl := fun n => List.elem n ([] : List Nat), dyn := false, N := Tryz.f32.ntmps }
theorem ok32 : FnOK 251 32 := fn_mk cc32 Tryz.f32 c_ref12_Add rfl rfl Tryz.func32 rfl rfl (by kernel_rfl) (by kernel_rfl)
noncomputable def cc33 : CC := { P := Tryz.prog, toS := toS, inl := fun n => List.elem n ([] : List Nat), dyn := false, N := Tryz.f33.ntmps }
theorem ok33 : FnOK 155 33 := fn_mk cc33 Tryz.f33 c_ref03_Class rfl rfl Tryz.func33 rfl rfl (by kernel_rfl) (by kernel_rfl)
noncomputable def cc34 : CC := { P := Tryz.prog, toS := toS, inl := fun n => List.elem n ([] : List Nat), dyn := false, N := Tryz.f34.ntmps }
theorem ok34 : FnOK 69 34 := fn_mk cc34 Tryz.f34 c_ref02_Cmp rfl rfl Tryz.func34 rfl rfl (by kernel_rfl) (by kernel_rfl)
noncomputable def cc35 : CC := { P := Tryz.prog, toS := toS, inl := fun n => List.elem n ([] : List Nat), dyn := false, N := Tryz.f35.ntmps }
theorem ok35 : FnOK 37 35 := fn_mk cc35 Tryz.f35 c_ref02_Abs rfl rfl Tryz.func35 rfl rfl (by kernel_rfl) (by kernel_rfl)
noncomputable def cc36 : CC := { P := Tryz.prog, toS := toS, inl := fun n => List.elem n ([] : List Nat), dyn := false, N := Tryz.f36.ntmps }
theorem ok36 : FnOK 162 36 := fn_mk cc36 Tryz.f36 c_ref05_Opens rfl rfl Tryz.func36 rfl rfl (by kernel_rfl) (by kernel_rfl)
noncomputable def cc38 : CC := { P := Tryz.prog, toS := toS, inl := fun n => List.elem n ([] : List Nat), dyn := false, N := Tryz.f38.ntmps }
theorem ok38 : FnOK 150 38 := fn_mk cc38 Tryz.f38 c_ref03_Finite rfl rfl Tryz.func38 rfl rfl (by kernel_rfl) (by kernel_rfl)
noncomputable def cc39 : CC := { P := Tryz.prog, toS := toS, inl := fun n => List.elem n ([] : List Nat), dyn := false, N := Tryz.f39.ntmps }
theorem ok39 : FnOK 70 39 := fn_mk cc39 Tryz.f39 c_ref02_Sub rfl rfl Tryz.func39 rfl rfl (by kernel_rfl) (by kernel_rfl)
noncomputable def cc58 : CC := { P := Tryz.prog, toS := toS, inl := fun n => List.elem n ([] : List Nat), dyn := false, N := Tryz.f58.ntmps }
theorem ok58 : FnOK 45 58 := fn_mk cc58 Tryz.f58 c_ref02_Form rfl rfl Tryz.func58 rfl rfl (by kernel_rfl) (by kernel_rfl)
noncomputable def cc60 : CC := { P := Tryz.prog, toS := toS, inl := fun n => List.elem n ([] : List Nat), dyn := false, N := Tryz.f60.ntmps }
theorem ok60 : FnOK 156 60 := fn_mk cc60 Tryz.f60 c_ref03_Split rfl rfl Tryz.func60 rfl rfl (by kernel_rfl) (by kernel_rfl)
noncomputable def cc61 : CC := { P := Tryz.prog, toS := toS, inl := fun n => List.elem n ([] : List Nat), dyn := false, N := Tryz.f61.ntmps }
theorem ok61 : FnOK 46 61 := fn_mk cc61 Tryz.f61 c_ref01_Of rfl rfl Tryz.func61 rfl rfl (by kernel_rfl) (by kernel_rfl)
noncomputable def cc62 : CC := { P := Tryz.prog, toS := toS, inl := fun n => List.elem n ([] : List Nat), dyn := false, N := Tryz.f62.ntmps }
theorem ok62 : FnOK 31 62 := fn_mk cc62 Tryz.f62 c_ref03_Frac rfl rfl Tryz.func62 rfl rfl (by kernel_rfl) (by kernel_rfl)
noncomputable def cc68 : CC := { P := Tryz.prog, toS := toS, inl := fun n => List.elem n ([] : List Nat), dyn := false, N := Tryz.f68.ntmps }
theorem ok68 : FnOK 182 68 := fn_mk cc68 Tryz.f68 c_dyad_Mul rfl rfl Tryz.func68 rfl rfl (by kernel_rfl) (by kernel_rfl)
noncomputable def cc71 : CC := { P := Tryz.prog, toS := toS, inl := fun n => List.elem n ([] : List Nat), dyn := false, N := Tryz.f71.ntmps }
theorem ok71 : FnOK 39 71 := fn_mk cc71 Tryz.f71 c_ref01_Same rfl rfl Tryz.func71 rfl rfl (by kernel_rfl) (by kernel_rfl)
noncomputable def cc72 : CC := { P := Tryz.prog, toS := toS, inl := fun n => List.elem n ([] : List Nat), dyn := false, N := Tryz.f72.ntmps }
theorem ok72 : FnOK 72 72 := fn_mk cc72 Tryz.f72 c_ref01_Up rfl rfl Tryz.func72 rfl rfl (by kernel_rfl) (by kernel_rfl)
noncomputable def cc73 : CC := { P := Tryz.prog, toS := toS, inl := fun n => List.elem n ([] : List Nat), dyn := false, N := Tryz.f73.ntmps }
theorem ok73 : FnOK 99 73 := fn_mk cc73 Tryz.f73 c_ref01_Add rfl rfl Tryz.func73 rfl rfl (by kernel_rfl) (by kernel_rfl)
noncomputable def cc74 : CC := { P := Tryz.prog, toS := toS, inl := fun n => List.elem n ([] : List Nat), dyn := false, N := Tryz.f74.ntmps }
theorem ok74 : FnOK 100 74 := fn_mk cc74 Tryz.f74 c_ref01_Cmp rfl rfl Tryz.func74 rfl rfl (by kernel_rfl) (by kernel_rfl)
noncomputable def cc75 : CC := { P := Tryz.prog, toS := toS, inl := fun n => List.elem n ([] : List Nat), dyn := false, N := Tryz.f75.ntmps }
theorem ok75 : FnOK 101 75 := fn_mk cc75 Tryz.f75 c_ref01_Sub rfl rfl Tryz.func75 rfl rfl (by kernel_rfl) (by kernel_rfl)
noncomputable def cc77 : CC := { P := Tryz.prog, toS := toS, inl := fun n => List.elem n ([] : List Nat), dyn := false, N := Tryz.f77.ntmps }
theorem ok77 : FnOK 185 77 := fn_mk cc77 Tryz.f77 c_ref10_Good rfl rfl Tryz.func77 rfl rfl (by kernel_rfl) (by kernel_rfl)
noncomputable def cc78 : CC := { P := Tryz.prog, toS := toS, inl := fun n => List.elem n ([] : List Nat), dyn := false, N := Tryz.f78.ntmps }
theorem ok78 : FnOK 186 78 := fn_mk cc78 Tryz.f78 c_modulus_told rfl rfl Tryz.func78 rfl rfl (by kernel_rfl) (by kernel_rfl)
noncomputable def cc79 : CC := { P := Tryz.prog, toS := toS, inl := fun n => List.elem n ([] : List Nat), dyn := false, N := Tryz.f79.ntmps }
theorem ok79 : FnOK 18 79 := fn_mk cc79 Tryz.f79 c_round_Root rfl rfl Tryz.func79 rfl rfl (by kernel_rfl) (by kernel_rfl)
noncomputable def cc80 : CC := { P := Tryz.prog, toS := toS, inl := fun n => List.elem n ([] : List Nat), dyn := false, N := Tryz.f80.ntmps }
theorem ok80 : FnOK 219 80 := fn_mk cc80 Tryz.f80 c_ref05_Add rfl rfl Tryz.func80 rfl rfl (by kernel_rfl) (by kernel_rfl)
noncomputable def cc81 : CC := { P := Tryz.prog, toS := toS, inl := fun n => List.elem n ([] : List Nat), dyn := false, N := Tryz.f81.ntmps }
theorem ok81 : FnOK 63 81 := fn_mk cc81 Tryz.f81 c_ref03_Most rfl rfl Tryz.func81 rfl rfl (by kernel_rfl) (by kernel_rfl)
noncomputable def cc82 : CC := { P := Tryz.prog, toS := toS, inl := fun n => List.elem n ([] : List Nat), dyn := false, N := Tryz.f82.ntmps }
theorem ok82 : FnOK 16 82 := fn_mk cc82 Tryz.f82 c_ref02_Sign rfl rfl Tryz.func82 rfl rfl (by kernel_rfl) (by kernel_rfl)
noncomputable def cc83 : CC := { P := Tryz.prog, toS := toS, inl := fun n => List.elem n ([] : List Nat), dyn := false, N := Tryz.f83.ntmps }
theorem ok83 : FnOK 32 83 := fn_mk cc83 Tryz.f83 c_ref02_Top rfl rfl Tryz.func83 rfl rfl (by kernel_rfl) (by kernel_rfl)
noncomputable def cc84 : CC := { P := Tryz.prog, toS := toS, inl := fun n => List.elem n ([] : List Nat), dyn := false, N := Tryz.f84.ntmps }
theorem ok84 : FnOK 27 84 := fn_mk cc84 Tryz.f84 c_ref03_Is rfl rfl Tryz.func84 rfl rfl (by kernel_rfl) (by kernel_rfl)
noncomputable def cc85 : CC := { P := Tryz.prog, toS := toS, inl := fun n => List.elem n ([] : List Nat), dyn := false, N := Tryz.f85.ntmps }
theorem ok85 : FnOK 28 85 := fn_mk cc85 Tryz.f85 c_ref04_Is rfl rfl Tryz.func85 rfl rfl (by kernel_rfl) (by kernel_rfl)
noncomputable def cc86 : CC := { P := Tryz.prog, toS := toS, inl := fun n => List.elem n ([] : List Nat), dyn := false, N := Tryz.f86.ntmps }
theorem ok86 : FnOK 149 86 := fn_mk cc86 Tryz.f86 c_ref03_Good rfl rfl Tryz.func86 rfl rfl (by kernel_rfl) (by kernel_rfl)
noncomputable def cc88 : CC := { P := Tryz.prog, toS := toS, inl := fun n => List.elem n ([] : List Nat), dyn := false, N := Tryz.f88.ntmps }
theorem ok88 : FnOK 102 88 := fn_mk cc88 Tryz.f88 c_ref02_Neg rfl rfl Tryz.func88 rfl rfl (by kernel_rfl) (by kernel_rfl)
noncomputable def cc100 : CC := { P := Tryz.prog, toS := toS, inl := fun n => List.elem n ([] : List Nat), dyn := false, N := Tryz.f100.ntmps }
theorem ok100 : FnOK 195 100 := fn_mk cc100 Tryz.f100 c_dyad_Add rfl rfl Tryz.func100 rfl rfl (by kernel_rfl) (by kernel_rfl)
noncomputable def cc115 : CC := { P := Tryz.prog, toS := toS, inl := fun n => List.elem n ([] : List Nat), dyn := false, N := Tryz.f115.ntmps }
theorem ok115 : FnOK 36 115 := fn_mk cc115 Tryz.f115 c_ref03_Of rfl rfl Tryz.func115 rfl rfl (by kernel_rfl) (by kernel_rfl)
noncomputable def cc116 : CC := { P := Tryz.prog, toS := toS, inl := fun n => List.elem n ([] : List Nat), dyn := false, N := Tryz.f116.ntmps }
theorem ok116 : FnOK 83 116 := fn_mk cc116 Tryz.f116 c_ref01_Low rfl rfl Tryz.func116 rfl rfl (by kernel_rfl) (by kernel_rfl)
noncomputable def cc117 : CC := { P := Tryz.prog, toS := toS, inl := fun n => List.elem n ([] : List Nat), dyn := false, N := Tryz.f117.ntmps }
theorem ok117 : FnOK 84 117 := fn_mk cc117 Tryz.f117 c_ref01_Down rfl rfl Tryz.func117 rfl rfl (by kernel_rfl) (by kernel_rfl)
noncomputable def cc118 : CC := { P := Tryz.prog, toS := toS, inl := fun n => List.elem n ([] : List Nat), dyn := false, N := Tryz.f118.ntmps }
theorem ok118 : FnOK 85 118 := fn_mk cc118 Tryz.f118 c_ref01_Trim rfl rfl Tryz.func118 rfl rfl (by kernel_rfl) (by kernel_rfl)
noncomputable def cc119 : CC := { P := Tryz.prog, toS := toS, inl := fun n => List.elem n ([] : List Nat), dyn := false, N := Tryz.f119.ntmps }
theorem ok119 : FnOK 8 119 := fn_mk cc119 Tryz.f119 c_round_Over rfl rfl Tryz.func119 rfl rfl (by kernel_rfl) (by kernel_rfl)
noncomputable def cc121 : CC := { P := Tryz.prog, toS := toS, inl := fun n => List.elem n ([] : List Nat), dyn := false, N := Tryz.f121.ntmps }
theorem ok121 : FnOK 193 121 := fn_mk cc121 Tryz.f121 c_word_Class rfl rfl Tryz.func121 rfl rfl (by kernel_rfl) (by kernel_rfl)
noncomputable def cc122 : CC := { P := Tryz.prog, toS := toS, inl := fun n => List.elem n ([] : List Nat), dyn := false, N := Tryz.f122.ntmps }
theorem ok122 : FnOK 194 122 := fn_mk cc122 Tryz.f122 c_word_Value rfl rfl Tryz.func122 rfl rfl (by kernel_rfl) (by kernel_rfl)
noncomputable def cc123 : CC := { P := Tryz.prog, toS := toS, inl := fun n => List.elem n ([] : List Nat), dyn := false, N := Tryz.f123.ntmps }
theorem ok123 : FnOK 196 123 := fn_mk cc123 Tryz.f123 c_word_None rfl rfl Tryz.func123 rfl rfl (by kernel_rfl) (by kernel_rfl)
noncomputable def cc124 : CC := { P := Tryz.prog, toS := toS, inl := fun n => List.elem n ([] : List Nat), dyn := false, N := Tryz.f124.ntmps }
theorem ok124 : FnOK 26 124 := fn_mk cc124 Tryz.f124 c_word_Inf rfl rfl Tryz.func124 rfl rfl (by kernel_rfl) (by kernel_rfl)
noncomputable def cc125 : CC := { P := Tryz.prog, toS := toS, inl := fun n => List.elem n ([] : List Nat), dyn := false, N := Tryz.f125.ntmps }
theorem ok125 : FnOK 57 125 := fn_mk cc125 Tryz.f125 c_word_Zero rfl rfl Tryz.func125 rfl rfl (by kernel_rfl) (by kernel_rfl)
noncomputable def cc126 : CC := { P := Tryz.prog, toS := toS, inl := fun n => List.elem n ([] : List Nat), dyn := false, N := Tryz.f126.ntmps }
theorem ok126 : FnOK 74 126 := fn_mk cc126 Tryz.f126 c_dyad_both rfl rfl Tryz.func126 rfl rfl (by kernel_rfl) (by kernel_rfl)
noncomputable def cc127 : CC := { P := Tryz.prog, toS := toS, inl := fun n => List.elem n ([] : List Nat), dyn := false, N := Tryz.f127.ntmps }
theorem ok127 : FnOK 197 127 := fn_mk cc127 Tryz.f127 c_nat_Mul rfl rfl Tryz.func127 rfl rfl (by kernel_rfl) (by kernel_rfl)
noncomputable def cc128 : CC := { P := Tryz.prog, toS := toS, inl := fun n => List.elem n ([] : List Nat), dyn := false, N := Tryz.f128.ntmps }
theorem ok128 : FnOK 54 128 := fn_mk cc128 Tryz.f128 c_dyad_Make rfl rfl Tryz.func128 rfl rfl (by kernel_rfl) (by kernel_rfl)
noncomputable def cc129 : CC := { P := Tryz.prog, toS := toS, inl := fun n => List.elem n ([] : List Nat), dyn := false, N := Tryz.f129.ntmps }
theorem ok129 : FnOK 22 129 := fn_mk cc129 Tryz.f129 c_dyad_Sign rfl rfl Tryz.func129 rfl rfl (by kernel_rfl) (by kernel_rfl)
noncomputable def cc131 : CC := { P := Tryz.prog, toS := toS, inl := fun n => List.elem n ([] : List Nat), dyn := false, N := Tryz.f131.ntmps }
theorem ok131 : FnOK 48 131 := fn_mk cc131 Tryz.f131 c_dyad_May rfl rfl Tryz.func131 rfl rfl (by kernel_rfl) (by kernel_rfl)
noncomputable def cc133 : CC := { P := Tryz.prog, toS := toS, inl := fun n => List.elem n ([] : List Nat), dyn := false, N := Tryz.f133.ntmps }
theorem ok133 : FnOK 189 133 := fn_mk cc133 Tryz.f133 c_pair_Class rfl rfl Tryz.func133 rfl rfl (by kernel_rfl) (by kernel_rfl)
noncomputable def cc134 : CC := { P := Tryz.prog, toS := toS, inl := fun n => List.elem n ([] : List Nat), dyn := false, N := Tryz.f134.ntmps }
theorem ok134 : FnOK 191 134 := fn_mk cc134 Tryz.f134 c_modulus_square rfl rfl Tryz.func134 rfl rfl (by kernel_rfl) (by kernel_rfl)
noncomputable def cc135 : CC := { P := Tryz.prog, toS := toS, inl := fun n => List.elem n ([] : List Nat), dyn := false, N := Tryz.f135.ntmps }
theorem ok135 : FnOK 21 135 := fn_mk cc135 Tryz.f135 c_round_open rfl rfl Tryz.func135 rfl rfl (by kernel_rfl) (by kernel_rfl)
noncomputable def cc136 : CC := { P := Tryz.prog, toS := toS, inl := fun n => List.elem n ([] : List Nat), dyn := false, N := Tryz.f136.ntmps }
theorem ok136 : FnOK 43 136 := fn_mk cc136 Tryz.f136 c_dyad_Root rfl rfl Tryz.func136 rfl rfl (by kernel_rfl) (by kernel_rfl)
noncomputable def cc137 : CC := { P := Tryz.prog, toS := toS, inl := fun n => List.elem n ([] : List Nat), dyn := false, N := Tryz.f137.ntmps }
theorem ok137 : FnOK 23 137 := fn_mk cc137 Tryz.f137 c_round_partOf rfl rfl Tryz.func137 rfl rfl (by kernel_rfl) (by kernel_rfl)
noncomputable def cc138 : CC := { P := Tryz.prog, toS := toS, inl := fun n => List.elem n ([] : List Nat), dyn := false, N := Tryz.f138.ntmps }
theorem ok138 : FnOK 24 138 := fn_mk cc138 Tryz.f138 c_round_part_word rfl rfl Tryz.func138 rfl rfl (by kernel_rfl) (by kernel_rfl)
noncomputable def cc139 : CC := { P := Tryz.prog, toS := toS, inl := fun n => List.elem n ([] : List Nat), dyn := false, N := Tryz.f139.ntmps }
theorem ok139 : FnOK 230 139 := fn_mk cc139 Tryz.f139 c_ref05_nan rfl rfl Tryz.func139 rfl rfl (by kernel_rfl) (by kernel_rfl)
noncomputable def cc140 : CC := { P := Tryz.prog, toS := toS, inl := fun n => List.elem n ([] : List Nat), dyn := false, N := Tryz.f140.ntmps }
theorem ok140 : FnOK 157 140 := fn_mk cc140 Tryz.f140 c_ref03_None rfl rfl Tryz.func140 rfl rfl (by kernel_rfl) (by kernel_rfl)
noncomputable def cc141 : CC := { P := Tryz.prog, toS := toS, inl := fun n => List.elem n ([] : List Nat), dyn := false, N := Tryz.f141.ntmps }
theorem ok141 : FnOK 231 141 := fn_mk cc141 Tryz.f141 c_ref05_inf rfl rfl Tryz.func141 rfl rfl (by kernel_rfl) (by kernel_rfl)
noncomputable def cc142 : CC := { P := Tryz.prog, toS := toS, inl := fun n => List.elem n ([] : List Nat), dyn := false, N := Tryz.f142.ntmps }
theorem ok142 : FnOK 232 142 := fn_mk cc142 Tryz.f142 c_ref05_zero rfl rfl Tryz.func142 rfl rfl (by kernel_rfl) (by kernel_rfl)
noncomputable def cc143 : CC := { P := Tryz.prog, toS := toS, inl := fun n => List.elem n ([] : List Nat), dyn := false, N := Tryz.f143.ntmps }
theorem ok143 : FnOK 234 143 := fn_mk cc143 Tryz.f143 c_ref05_Nothing rfl rfl Tryz.func143 rfl rfl (by kernel_rfl) (by kernel_rfl)
noncomputable def cc144 : CC := { P := Tryz.prog, toS := toS, inl := fun n => List.elem n ([] : List Nat), dyn := false, N := Tryz.f144.ntmps }
theorem ok144 : FnOK 12 144 := fn_mk cc144 Tryz.f144 c_ref04_Round rfl rfl Tryz.func144 rfl rfl (by kernel_rfl) (by kernel_rfl)
noncomputable def cc145 : CC := { P := Tryz.prog, toS := toS, inl := fun n => List.elem n ([] : List Nat), dyn := false, N := Tryz.f145.ntmps }
theorem ok145 : FnOK 64 145 := fn_mk cc145 Tryz.f145 c_ref01_Len rfl rfl Tryz.func145 rfl rfl (by kernel_rfl) (by kernel_rfl)
noncomputable def cc155 : CC := { P := Tryz.prog, toS := toS, inl := fun n => List.elem n ([] : List Nat), dyn := false, N := Tryz.f155.ntmps }
theorem ok155 : FnOK 55 155 := fn_mk cc155 Tryz.f155 c_nat_Of rfl rfl Tryz.func155 rfl rfl (by kernel_rfl) (by kernel_rfl)
noncomputable def cc160 : CC := { P := Tryz.prog, toS := toS, inl := fun n => List.elem n ([] : List Nat), dyn := false, N := Tryz.f160.ntmps }
theorem ok160 : FnOK 30 160 := fn_mk cc160 Tryz.f160 c_ref03_Inf rfl rfl Tryz.func160 rfl rfl (by kernel_rfl) (by kernel_rfl)
noncomputable def cc164 : CC := { P := Tryz.prog, toS := toS, inl := fun n => List.elem n ([] : List Nat), dyn := false, N := Tryz.f164.ntmps }
theorem ok164 : FnOK 203 164 := fn_mk cc164 Tryz.f164 c_dyad_add rfl rfl Tryz.func164 rfl rfl (by kernel_rfl) (by kernel_rfl)
noncomputable def cc172 : CC := { P := Tryz.prog, toS := toS, inl := fun n => List.elem n ([] : List Nat), dyn := false, N := Tryz.f172.ntmps }
theorem ok172 : FnOK 35 172 := fn_mk cc172 Tryz.f172 c_ref03_Wide rfl rfl Tryz.func172 rfl rfl (by kernel_rfl) (by kernel_rfl)
noncomputable def cc173 : CC := { P := Tryz.prog, toS := toS, inl := fun n => List.elem n ([] : List Nat), dyn := false, N := Tryz.f173.ntmps }
theorem ok173 : FnOK 62 173 := fn_mk cc173 Tryz.f173 c_ref03_Join rfl rfl Tryz.func173 rfl rfl (by kernel_rfl) (by kernel_rfl)
noncomputable def cc174 : CC := { P := Tryz.prog, toS := toS, inl := fun n => List.elem n ([] : List Nat), dyn := false, N := Tryz.f174.ntmps }
theorem ok174 : FnOK 111 174 := fn_mk cc174 Tryz.f174 c_ref01_Bit rfl rfl Tryz.func174 rfl rfl (by kernel_rfl) (by kernel_rfl)
noncomputable def cc175 : CC := { P := Tryz.prog, toS := toS, inl := fun n => List.elem n ([] : List Nat), dyn := false, N := Tryz.f175.ntmps }
theorem ok175 : FnOK 25 175 := fn_mk cc175 Tryz.f175 c_word_Greatest rfl rfl Tryz.func175 rfl rfl (by kernel_rfl) (by kernel_rfl)
noncomputable def cc176 : CC := { P := Tryz.prog, toS := toS, inl := fun n => List.elem n ([] : List Nat), dyn := false, N := Tryz.f176.ntmps }
theorem ok176 : FnOK 95 176 := fn_mk cc176 Tryz.f176 c_word_open rfl rfl Tryz.func176 rfl rfl (by kernel_rfl) (by kernel_rfl)
noncomputable def cc177 : CC := { P := Tryz.prog, toS := toS, inl := fun n => List.elem n ([] : List Nat), dyn := false, N := Tryz.f177.ntmps }
theorem ok177 : FnOK 200 177 := fn_mk cc177 Tryz.f177 c_word_shape_split rfl rfl Tryz.func177 rfl rfl (by kernel_rfl) (by kernel_rfl)
noncomputable def cc178 : CC := { P := Tryz.prog, toS := toS, inl := fun n => List.elem n ([] : List Nat), dyn := false, N := Tryz.f178.ntmps }
theorem ok178 : FnOK 201 178 := fn_mk cc178 Tryz.f178 c_word_shape_class rfl rfl Tryz.func178 rfl rfl (by kernel_rfl) (by kernel_rfl)
noncomputable def cc179 : CC := { P := Tryz.prog, toS := toS, inl := fun n => List.elem n ([] : List Nat), dyn := false, N := Tryz.f179.ntmps }
theorem ok179 : FnOK 202 179 := fn_mk cc179 Tryz.f179 c_word_finite rfl rfl Tryz.func179 rfl rfl (by kernel_rfl) (by kernel_rfl)
noncomputable def cc180 : CC := { P := Tryz.prog, toS := toS, inl := fun n => List.elem n ([] : List Nat), dyn := false, N := Tryz.f180.ntmps }
theorem ok180 : FnOK 96 180 := fn_mk cc180 Tryz.f180 c_word_shape_low rfl rfl Tryz.func180 rfl rfl (by kernel_rfl) (by kernel_rfl)
noncomputable def cc181 : CC := { P := Tryz.prog, toS := toS, inl := fun n => List.elem n ([] : List Nat), dyn := false, N := Tryz.f181.ntmps }
theorem ok181 : FnOK 58 181 := fn_mk cc181 Tryz.f181 c_word_named rfl rfl Tryz.func181 rfl rfl (by kernel_rfl) (by kernel_rfl)
noncomputable def cc182 : CC := { P := Tryz.prog, toS := toS, inl := fun n => List.elem n ([] : List Nat), dyn := false, N := Tryz.f182.ntmps }
theorem ok182 : FnOK 204 182 := fn_mk cc182 Tryz.f182 c_word_shape_none rfl rfl Tryz.func182 rfl rfl (by kernel_rfl) (by kernel_rfl)
noncomputable def cc183 : CC := { P := Tryz.prog, toS := toS, inl := fun n => List.elem n ([] : List Nat), dyn := false, N := Tryz.f183.ntmps }
theorem ok183 : FnOK 60 183 := fn_mk cc183 Tryz.f183 c_word_shape_inf rfl rfl Tryz.func183 rfl rfl (by kernel_rfl) (by kernel_rfl)
noncomputable def cc184 : CC := { P := Tryz.prog, toS := toS, inl := fun n => List.elem n ([] : List Nat), dyn := false, N := Tryz.f184.ntmps }
theorem ok184 : FnOK 98 184 := fn_mk cc184 Tryz.f184 c_word_Zero_1 rfl rfl Tryz.func184 rfl rfl (by kernel_rfl) (by kernel_rfl)
noncomputable def cc185 : CC := { P := Tryz.prog, toS := toS, inl := fun n => List.elem n ([] : List Nat), dyn := false, N := Tryz.f185.ntmps }
theorem ok185 : FnOK 106 185 := fn_mk cc185 Tryz.f185 c_nat_all rfl rfl Tryz.func185 rfl rfl (by kernel_rfl) (by kernel_rfl)
noncomputable def cc186 : CC := { P := Tryz.prog, toS := toS, inl := fun n => List.elem n ([] : List Nat), dyn := false, N := Tryz.f186.ntmps }
theorem ok186 : FnOK 117 186 := fn_mk cc186 Tryz.f186 c_nat_bound rfl rfl Tryz.func186 rfl rfl (by kernel_rfl) (by kernel_rfl)
noncomputable def cc187 : CC := { P := Tryz.prog, toS := toS, inl := fun n => List.elem n ([] : List Nat), dyn := false, N := Tryz.f187.ntmps }
theorem ok187 : FnOK 113 187 := fn_mk cc187 Tryz.f187 c_nat_mul rfl rfl Tryz.func187 rfl rfl (by kernel_rfl) (by kernel_rfl)
noncomputable def cc188 : CC := { P := Tryz.prog, toS := toS, inl := fun n => List.elem n ([] : List Nat), dyn := false, N := Tryz.f188.ntmps }
theorem ok188 : FnOK 86 188 := fn_mk cc188 Tryz.f188 c_nat_May rfl rfl Tryz.func188 rfl rfl (by kernel_rfl) (by kernel_rfl)
noncomputable def cc189 : CC := { P := Tryz.prog, toS := toS, inl := fun n => List.elem n ([] : List Nat), dyn := false, N := Tryz.f189.ntmps }
theorem ok189 : FnOK 90 189 := fn_mk cc189 Tryz.f189 c_nat_Low rfl rfl Tryz.func189 rfl rfl (by kernel_rfl) (by kernel_rfl)
noncomputable def cc190 : CC := { P := Tryz.prog, toS := toS, inl := fun n => List.elem n ([] : List Nat), dyn := false, N := Tryz.f190.ntmps }
theorem ok190 : FnOK 50 190 := fn_mk cc190 Tryz.f190 c_nat_Shift rfl rfl Tryz.func190 rfl rfl (by kernel_rfl) (by kernel_rfl)
noncomputable def cc191 : CC := { P := Tryz.prog, toS := toS, inl := fun n => List.elem n ([] : List Nat), dyn := false, N := Tryz.f191.ntmps }
theorem ok191 : FnOK 87 191 := fn_mk cc191 Tryz.f191 c_dyad_inside rfl rfl Tryz.func191 rfl rfl (by kernel_rfl) (by kernel_rfl)
noncomputable def cc192 : CC := { P := Tryz.prog, toS := toS, inl := fun n => List.elem n ([] : List Nat), dyn := false, N := Tryz.f192.ntmps }
theorem ok192 : FnOK 205 192 := fn_mk cc192 Tryz.f192 c_dyad_own rfl rfl Tryz.func192 rfl rfl (by kernel_rfl) (by kernel_rfl)
noncomputable def cc193 : CC := { P := Tryz.prog, toS := toS, inl := fun n => List.elem n ([] : List Nat), dyn := false, N := Tryz.f193.ntmps }
theorem ok193 : FnOK 47 193 := fn_mk cc193 Tryz.f193 c_round_formOf rfl rfl Tryz.func193 rfl rfl (by kernel_rfl) (by kernel_rfl)
noncomputable def cc194 : CC := { P := Tryz.prog, toS := toS, inl := fun n => List.elem n ([] : List Nat), dyn := false, N := Tryz.f194.ntmps }
theorem ok194 : FnOK 75 194 := fn_mk cc194 Tryz.f194 c_dyad_asked rfl rfl Tryz.func194 rfl rfl (by kernel_rfl) (by kernel_rfl)
noncomputable def cc195 : CC := { P := Tryz.prog, toS := toS, inl := fun n => List.elem n ([] : List Nat), dyn := false, N := Tryz.f195.ntmps }
theorem ok195 : FnOK 49 195 := fn_mk cc195 Tryz.f195 c_nat_Len rfl rfl Tryz.func195 rfl rfl (by kernel_rfl) (by kernel_rfl)
noncomputable def cc196 : CC := { P := Tryz.prog, toS := toS, inl := fun n => List.elem n ([] : List Nat), dyn := false, N := Tryz.f196.ntmps }
theorem ok196 : FnOK 81 196 := fn_mk cc196 Tryz.f196 c_nat_Root rfl rfl Tryz.func196 rfl rfl (by kernel_rfl) (by kernel_rfl)
noncomputable def cc197 : CC := { P := Tryz.prog, toS := toS, inl := fun n => List.elem n ([] : List Nat), dyn := false, N := Tryz.f197.ntmps }
theorem ok197 : FnOK 78 197 := fn_mk cc197 Tryz.f197 c_dyad_made rfl rfl Tryz.func197 rfl rfl (by kernel_rfl) (by kernel_rfl)
noncomputable def cc198 : CC := { P := Tryz.prog, toS := toS, inl := fun n => List.elem n ([] : List Nat), dyn := false, N := Tryz.f198.ntmps }
theorem ok198 : FnOK 51 198 := fn_mk cc198 Tryz.f198 c_nat_Num rfl rfl Tryz.func198 rfl rfl (by kernel_rfl) (by kernel_rfl)
noncomputable def cc199 : CC := { P := Tryz.prog, toS := toS, inl := fun n => List.elem n ([] : List Nat), dyn := false, N := Tryz.f199.ntmps }
theorem ok199 : FnOK 52 199 := fn_mk cc199 Tryz.f199 c_round_part_units rfl rfl Tryz.func199 rfl rfl (by kernel_rfl) (by kernel_rfl)
noncomputable def cc200 : CC := { P := Tryz.prog, toS := toS, inl := fun n => List.elem n ([] : List Nat), dyn := false, N := Tryz.f200.ntmps }
theorem ok200 : FnOK 53 200 := fn_mk cc200 Tryz.f200 c_bits_Len64 rfl rfl Tryz.func200 rfl rfl (by kernel_rfl) (by kernel_rfl)
noncomputable def cc201 : CC := { P := Tryz.prog, toS := toS, inl := fun n => List.elem n ([] : List Nat), dyn := false, N := Tryz.f201.ntmps }
theorem ok201 : FnOK 56 201 := fn_mk cc201 Tryz.f201 c_word_Of rfl rfl Tryz.func201 rfl rfl (by kernel_rfl) (by kernel_rfl)
noncomputable def cc202 : CC := { P := Tryz.prog, toS := toS, inl := fun n => List.elem n ([] : List Nat), dyn := false, N := Tryz.f202.ntmps }
theorem ok202 : FnOK 34 202 := fn_mk cc202 Tryz.f202 c_ref04_Taken rfl rfl Tryz.func202 rfl rfl (by kernel_rfl) (by kernel_rfl)
noncomputable def cc203 : CC := { P := Tryz.prog, toS := toS, inl := fun n => List.elem n ([] : List Nat), dyn := false, N := Tryz.f203.ntmps }
theorem ok203 : FnOK 10 203 := fn_mk cc203 Tryz.f203 c_ref04_Over rfl rfl Tryz.func203 rfl rfl (by kernel_rfl) (by kernel_rfl)
noncomputable def cc205 : CC := { P := Tryz.prog, toS := toS, inl := fun n => List.elem n ([] : List Nat), dyn := false, N := Tryz.f205.ntmps }
theorem ok205 : FnOK 77 205 := fn_mk cc205 Tryz.f205 c_nat_QuoRem rfl rfl Tryz.func205 rfl rfl (by kernel_rfl) (by kernel_rfl)
noncomputable def cc210 : CC := { P := Tryz.prog, toS := toS, inl := fun n => List.elem n ([] : List Nat), dyn := false, N := Tryz.f210.ntmps }
theorem ok210 : FnOK 94 210 := fn_mk cc210 Tryz.f210 c_nat_trim rfl rfl Tryz.func210 rfl rfl (by kernel_rfl) (by kernel_rfl)
noncomputable def cc215 : CC := { P := Tryz.prog, toS := toS, inl := fun n => List.elem n ([] : List Nat), dyn := false, N := Tryz.f215.ntmps }
theorem ok215 : FnOK 207 215 := fn_mk cc215 Tryz.f215 c_dyad_edge rfl rfl Tryz.func215 rfl rfl (by kernel_rfl) (by kernel_rfl)
noncomputable def cc216 : CC := { P := Tryz.prog, toS := toS, inl := fun n => List.elem n ([] : List Nat), dyn := false, N := Tryz.f216.ntmps }
theorem ok216 : FnOK 208 216 := fn_mk cc216 Tryz.f216 c_dyad_join rfl rfl Tryz.func216 rfl rfl (by kernel_rfl) (by kernel_rfl)
noncomputable def cc220 : CC := { P := Tryz.prog, toS := toS, inl := fun n => List.elem n ([] : List Nat), dyn := false, N := Tryz.f220.ntmps }
theorem ok220 : FnOK 59 220 := fn_mk cc220 Tryz.f220 c_word_Greatest_1 rfl rfl Tryz.func220 rfl rfl (by kernel_rfl) (by kernel_rfl)
noncomputable def cc221 : CC := { P := Tryz.prog, toS := toS, inl := fun n => List.elem n ([] : List Nat), dyn := false, N := Tryz.f221.ntmps }
theorem ok221 : FnOK 115 221 := fn_mk cc221 Tryz.f221 c_word_shapeOf rfl rfl Tryz.func221 rfl rfl (by kernel_rfl) (by kernel_rfl)
noncomputable def cc222 : CC := { P := Tryz.prog, toS := toS, inl := fun n => List.elem n ([] : List Nat), dyn := false, N := Tryz.f222.ntmps }
theorem ok222 : FnOK 114 222 := fn_mk cc222 Tryz.f222 (c_bits_TrailingZeros32 0) rfl rfl Tryz.func222 rfl rfl (by kernel_rfl) (by kernel_rfl)
noncomputable def cc223 : CC := { P := Tryz.prog, toS := toS, inl := fun n => List.elem n ([] : List Nat), dyn := false, N := Tryz.f223.ntmps }
theorem ok223 : FnOK 89 223 := fn_mk cc223 Tryz.f223 c_nat_down rfl rfl Tryz.func223 rfl rfl (by kernel_rfl) (by kernel_rfl)
noncomputable def cc224 : CC := { P := Tryz.prog, toS := toS, inl := fun n => List.elem n ([94] : List Nat), dyn := false, N := Tryz.f224.ntmps }
theorem ok224 : FnOK 91 224 := fn_mk cc224 Tryz.f224 c_nat_up rfl rfl Tryz.func224 rfl rfl (by kernel_rfl) (by kernel_rfl)
noncomputable def cc225 : CC := { P := Tryz.prog, toS := toS, inl := fun n => List.elem n ([] : List Nat), dyn := false, N := Tryz.f225.ntmps }
theorem ok225 : FnOK 88 225 := fn_mk cc225 Tryz.f225 c_bits_Len32 rfl rfl Tryz.func225 rfl rfl (by kernel_rfl) (by kernel_rfl)
noncomputable def cc226 : CC := { P := Tryz.prog, toS := toS, inl := fun n => List.elem n ([] : List Nat), dyn := false, N := Tryz.f226.ntmps }
theorem ok226 : FnOK 112 226 := fn_mk cc226 Tryz.f226 c_bits_Add32 rfl rfl Tryz.func226 rfl rfl (by kernel_rfl) (by kernel_rfl)
noncomputable def cc227 : CC := { P := Tryz.prog, toS := toS, inl := fun n => List.elem n ([] : List Nat), dyn := false, N := Tryz.f227.ntmps }
theorem ok227 : FnOK 107 227 := fn_mk cc227 Tryz.f227 c_nat_cmp rfl rfl Tryz.func227 rfl rfl (by kernel_rfl) (by kernel_rfl)
noncomputable def cc228 : CC := { P := Tryz.prog, toS := toS, inl := fun n => List.elem n ([] : List Nat), dyn := false, N := Tryz.f228.ntmps }
theorem ok228 : FnOK 92 228 := fn_mk cc228 Tryz.f228 c_round_btoi rfl rfl Tryz.func228 rfl rfl (by kernel_rfl) (by kernel_rfl)
noncomputable def cc229 : CC := { P := Tryz.prog, toS := toS, inl := fun n => List.elem n ([] : List Nat), dyn := false, N := Tryz.f229.ntmps }
theorem ok229 : FnOK 93 229 := fn_mk cc229 Tryz.f229 c_round_up rfl rfl Tryz.func229 rfl rfl (by kernel_rfl) (by kernel_rfl)
noncomputable def cc230 : CC := { P := Tryz.prog, toS := toS, inl := fun n => List.elem n ([] : List Nat), dyn := false, N := Tryz.f230.ntmps }
theorem ok230 : FnOK 97 230 := fn_mk cc230 Tryz.f230 c_word_shape_join rfl rfl Tryz.func230 rfl rfl (by kernel_rfl) (by kernel_rfl)
noncomputable def cc231 : CC := { P := Tryz.prog, toS := toS, inl := fun n => List.elem n ([] : List Nat), dyn := false, N := Tryz.f231.ntmps }
theorem ok231 : FnOK 65 231 := fn_mk cc231 Tryz.f231 c_ref02_Shift rfl rfl Tryz.func231 rfl rfl (by kernel_rfl) (by kernel_rfl)
noncomputable def cc232 : CC := { P := Tryz.prog, toS := toS, inl := fun n => List.elem n ([] : List Nat), dyn := false, N := Tryz.f232.ntmps }
theorem ok232 : FnOK 66 232 := fn_mk cc232 Tryz.f232 c_ref02_Floor rfl rfl Tryz.func232 rfl rfl (by kernel_rfl) (by kernel_rfl)
noncomputable def cc233 : CC := { P := Tryz.prog, toS := toS, inl := fun n => List.elem n ([] : List Nat), dyn := false, N := Tryz.f233.ntmps }
theorem ok233 : FnOK 68 233 := fn_mk cc233 Tryz.f233 c_ref02_Two rfl rfl Tryz.func233 rfl rfl (by kernel_rfl) (by kernel_rfl)
noncomputable def cc234 : CC := { P := Tryz.prog, toS := toS, inl := fun n => List.elem n ([] : List Nat), dyn := false, N := Tryz.f234.ntmps }
theorem ok234 : FnOK 71 234 := fn_mk cc234 Tryz.f234 c_ref04_half rfl rfl Tryz.func234 rfl rfl (by kernel_rfl) (by kernel_rfl)
noncomputable def cc235 : CC := { P := Tryz.prog, toS := toS, inl := fun n => List.elem n ([] : List Nat), dyn := false, N := Tryz.f235.ntmps }
theorem ok235 : FnOK 103 235 := fn_mk cc235 Tryz.f235 c_nat_Sub rfl rfl Tryz.func235 rfl rfl (by kernel_rfl) (by kernel_rfl)
noncomputable def cc236 : CC := { P := Tryz.prog, toS := toS, inl := fun n => List.elem n ([] : List Nat), dyn := false, N := Tryz.f236.ntmps }
theorem ok236 : FnOK 104 236 := fn_mk cc236 Tryz.f236 c_nat_Cmp rfl rfl Tryz.func236 rfl rfl (by kernel_rfl) (by kernel_rfl)
noncomputable def cc237 : CC := { P := Tryz.prog, toS := toS, inl := fun n => List.elem n ([] : List Nat), dyn := false, N := Tryz.f237.ntmps }
theorem ok237 : FnOK 105 237 := fn_mk cc237 Tryz.f237 c_nat_Add rfl rfl Tryz.func237 rfl rfl (by kernel_rfl) (by kernel_rfl)
noncomputable def cc238 : CC := { P := Tryz.prog, toS := toS, inl := fun n => List.elem n ([] : List Nat), dyn := false, N := Tryz.f238.ntmps }
theorem ok238 : FnOK 108 238 := fn_mk cc238 Tryz.f238 c_nat_small rfl rfl Tryz.func238 rfl rfl (by kernel_rfl) (by kernel_rfl)
noncomputable def cc239 : CC := { P := Tryz.prog, toS := toS, inl := fun n => List.elem n ([91, 120] : List Nat), dyn := false, N := Tryz.f239.ntmps }
theorem ok239 : FnOK 109 239 := fn_mk cc239 Tryz.f239 c_nat_long rfl rfl Tryz.func239 rfl rfl (by kernel_rfl) (by kernel_rfl)
noncomputable def cc243 : CC := { P := Tryz.prog, toS := toS, inl := fun n => List.elem n ([] : List Nat), dyn := false, N := Tryz.f243.ntmps }
theorem ok243 : FnOK 209 243 := fn_mk cc243 Tryz.f243 c_dyad_halved rfl rfl Tryz.func243 rfl rfl (by kernel_rfl) (by kernel_rfl)
noncomputable def cc244 : CC := { P := Tryz.prog, toS := toS, inl := fun n => List.elem n ([] : List Nat), dyn := false, N := Tryz.f244.ntmps }
theorem ok244 : FnOK 116 244 := fn_mk cc244 Tryz.f244 c_nat_sub rfl rfl Tryz.func244 rfl rfl (by kernel_rfl) (by kernel_rfl)
noncomputable def cc245 : CC := { P := Tryz.prog, toS := toS, inl := fun n => List.elem n ([] : List Nat), dyn := false, N := Tryz.f245.ntmps }
theorem ok245 : FnOK 118 245 := fn_mk cc245 Tryz.f245 c_bits_Div32 rfl rfl Tryz.func245 rfl rfl (by kernel_rfl) (by kernel_rfl)
noncomputable def cc246 : CC := { P := Tryz.prog, toS := toS, inl := fun n => List.elem n ([] : List Nat), dyn := false, N := Tryz.f246.ntmps }
theorem ok246 : FnOK 119 246 := fn_mk cc246 Tryz.f246 c_bits_LeadingZeros32 rfl rfl Tryz.func246 rfl rfl (by kernel_rfl) (by kernel_rfl)
noncomputable def cc247 : CC := { P := Tryz.prog, toS := toS, inl := fun n => List.elem n ([] : List Nat), dyn := false, N := Tryz.f247.ntmps }
theorem ok247 : FnOK 120 247 := fn_mk cc247 Tryz.f247 c_nat_step rfl rfl Tryz.func247 rfl rfl (by kernel_rfl) (by kernel_rfl)
noncomputable def cc249 : CC := { P := Tryz.prog, toS := toS, inl := fun n => List.elem n ([] : List Nat), dyn := false, N := Tryz.f249.ntmps }
theorem ok249 : FnOK 121 249 := fn_mk cc249 Tryz.f249 c_bits_Sub32 rfl rfl Tryz.func249 rfl rfl (by kernel_rfl) (by kernel_rfl)
theorem all_fn : AllP FnOK lnk := ⟨ok5, ok18, ok20, ok21, ok22, ok24, ok25, ok28, ok29, ok30, ok31, ok32, ok33, ok34, ok35, ok36, ok38, ok39, ok58, ok60, ok61, ok62, ok68, ok71, ok72, ok73, ok74, ok75, ok77, ok78, ok79, ok80, ok81, ok82, ok83, ok84, ok85, ok86, ok88, ok100, ok115, ok116, ok117, ok118, ok119, ok121, ok122, ok123, ok124, ok125, ok126, ok127, ok128, ok129, ok131, ok133, ok134, ok135, ok136, ok137, ok138, ok139, ok140, ok141, ok142, ok143, ok144, ok145, ok155, ok160, ok164, ok172, ok173, ok174, ok175, ok176, ok177, ok178, ok179, ok180, ok181, ok182, ok183, ok184, ok185, ok186, ok187, ok188, ok189, ok190, ok191, ok192, ok193, ok194, ok195, ok196, ok197, ok198, ok199, ok200, ok201, ok202, ok203, ok205, ok210, ok215, ok216, ok220, ok221, ok222, ok223, ok224, ok225, ok226, ok227, ok228, ok229, ok230, ok231, ok232, ok233, ok234, ok235, ok236, ok237, ok238, ok239, ok243, ok244, ok245, ok246, ok247, ok249, trivial⟩
theorem prog_ok : ProgOK Tryz.prog L0 (tbl 0) := ⟨fun f g h => AllP.of all_fn f g h⟩
theorem mixed : Tryz.prog.follows .mixedOrders = true := by kernel_rfl
end Go.Proofs.YtkfdfaijhcoffaaGreatDoor

/-
  The seat's own facts: the listed variable's cells, a start that fits.
-/
namespace Go.Proofs.YtkfdfaijhcoffaaGreatDoor
open Go Go.Cv Go.ChangeShapes Go.WideShapes Go.ChangeAt Go.WideMaps Go.WideElems Go.RowKit

theorem own : ownKnob Tryz.prog.godebug = none := by kernel_rfl
theorem laidOut : laidOutB Tryz.prog = true := by kernel_rfl
theorem gTab : Tryz.prog.globalNamed "math/bits.deBruijn32tab" = some 0 := by kernel_rfl
theorem tTab : (Tryz.prog.globals[0]?).map (·.type) = some 272 := by kernel_rfl
def laid1 : List (String × DataW Unit) := [("math/bits.deBruijn32tab", Rows.laid_math_bits_deBruijn32tab)]

theorem door_met (os : Os) (args : Array Value) : laidMetH Tryz.prog laid1 ((World.doorLaid Tryz.prog 400 os).forCall (fun _ _ => 0) ⟨#[], args, []⟩).memory :=
  laidMetH_of_parts3 (fuel := 8) (laidMet_of_run' 8 (by kernel_rfl) (by kernel_rfl)) (by kernel_rfl) (by kernel_rfl)

theorem of_laid {W : World} (h : laidMetH Tryz.prog laid1 W) : Gok (glb 0) ⟨L0, W, fun r => r < W.heap.size, noι⟩ := by
  rw [MakeChecks.laidMetH_plain _ _ _ (by kernel_rfl)] at h
  obtain ⟨ps, ⟨g0, t0, cs0, f0, p0, q0, hg0, ht0, hv0, hd0, _, _⟩, _, _⟩ := h
  obtain rfl := Option.some.inj (gTab.symm.trans hg0)
  obtain rfl := Option.some.inj (tTab.symm.trans ht0)
  have hc := tab_u8 (l := ntz32) (e := 5) (show Tryz.prog.underlying 272 = some (.array ntz32.length 5) by kernel_rfl) (show Tryz.prog.underlying 5 = some (.int .u8) by kernel_rfl) (by kernel_rfl) hd0
  exact gok_u8 (fun j d hj => by rw [World.var?_cell hg0 hv0 j]; exact hc j d hj) (by decide)
end Go.Proofs.YtkfdfaijhcoffaaGreatDoor
