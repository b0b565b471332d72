/-
  A part of the proof of the statements of this seat (texts that the law's own text leans on): no condition.
-/
import Derived.Test.YtmjcmppbmolmnaaDoorM2
import Derived.Test.YtmjcmppbmolmnaaDoorM4
import Derived.ProofKit
import Derived.LaidMore
import Derived.OpenShut
import Derived.Deep.Slices
import Derived.Lib.SmallJoins
import Derived.Carry
import Derived.Below
import Derived.ChangeSame
import Derived.Test.YtmjcmppbmolmnaaDoorM3
import Derived.KernelRfl
import Derived.Test.YtmjcmppbmolmnaaDoorProg
import Derived.Test.YtmjcmppbmolmnaaDoorRows
import Derived.Test.YtmjcmppbmolmnaaDoorChecked
import Derived.Stop.Joined
import Derived.SevenTiedAt
set_option linter.unusedVariables false
set_option linter.unusedSimpArgs false
/-
  From the evaluator's answer to a law's contract: arguments opened, the law's post met. No program stands in it.
-/
namespace Go.Cv
open Go Go.RowKit Go.WideShapes Go.ChangeShapes Go.WideElems Go.Deep Go.Joins

section
variable {H : Type} {enc : TypeId × Value → H} {P : Program}

theorem trodAll_stays (hl : laidOutB P = true) {W W' : World} {sp : Nat → Bool} (hb : Below W.heap.size W W') :
    ∀ {ts : List TypeId} {vs : List Value} {ds : List (DataW H)} {ps : List MemPlace}, (∀ t ∈ ts, P.readableRec t = true ∧ t < P.types.size) →
    DataW.TrodAll enc P W 0 (fun _ => true) true ts vs ds ps → (∀ p ∈ ps, p.block < W.heap.size ∧ sp p.block = true) → DataW.TrodAll enc P W' 0 sp true ts vs ds ps
  | [], vs, ds, ps, _, h, _ => by
    obtain ⟨rfl, rfl, rfl⟩ := trodAll_nil h
    rfl
  | t :: ts, vs, ds, ps, ht, h, hp => by
    obtain ⟨v, vs1, d, ds1, p, q, rfl, rfl, rfl, h1, h2⟩ := trodAll_cons h
    refine ⟨p, q, ?_, ?_, rfl⟩
    · exact Trod_stays hl (ht t (List.mem_cons_self ..)).1 (ht t (List.mem_cons_self ..)).2 h1 (fun x hx => hb.same (hp x (List.mem_append_left _ hx)).1) (fun x hx => (hp x (List.mem_append_left _ hx)).2)
    · exact trodAll_stays hl hb (fun t' h' => ht t' (List.mem_cons_of_mem _ h')) h2 (fun x hx => hp x (List.mem_append_right _ hx))

/-- A law that answers true and turns nothing that was there. -/
theorem law_post {f : Func} {s : ChangeSpec} {apart fresh handsOn again : Bool} {W W' : World} {args : Array Value} {ds gs : List (DataW H)} {before : List MemPlace} {tb : TypeId}
    (hl : laidOutB P = true) (hp : f.params.toList.all (fun t => P.readableRec t && decide (t < P.types.size)) = true) (hr : f.resultTypes = #[tb]) (ht : P.underlying tb = some .bool) (hv : s.vars = [])
    (hs : s.fn H (ds ++ gs) = { results := [.lit (.bool true)], args := ds })
    (hW : DataW.Whole enc P f.params.toList s.vars apart W args.toList ds gs before) (hb : Below W.heap.size W W') :
    s.post enc P f apart fresh handsOn again W args (.bool true) W' := by
  have hlt : ∀ p ∈ before, p.block < W.heap.size := fun p hp => hW.lt p hp
  have hts : ∀ t ∈ f.params.toList, P.readableRec t = true ∧ t < P.types.size := fun t h => by
    have := List.all_eq_true.1 hp t h
    simpa using this
  have hres : ∀ (b : Nat) (sp : Nat → Bool) (hd : Bool), DataW.TrodAll enc P W' b sp hd f.resultTypes.toList ((Value.bool true).resultList f.resultTypes.size) (s.fn H (ds ++ gs)).results [] := fun b sp hd => by
    rw [hs, hr]; exact trodAll_mk1 (shut_bool ht true)
  have hW0 := hW
  obtain ⟨p, q, hA, hV, hpq, hz, hn⟩ := hW
  rw [hv] at hV
  obtain ⟨rfl, rfl⟩ := trodVars_none hV
  rw [List.append_nil] at hpq
  subst hpq
  have hargs : ∀ sp : Nat → Bool, (∀ x ∈ before, sp x.block = true) → DataW.TrodAll enc P W' 0 sp true f.params.toList args.toList (s.fn H (ds ++ [])).args before := fun sp h => by
    rw [hs]; exact trodAll_stays hl hb hts hA (fun x hx => ⟨hlt x hx, h x hx⟩)
  have hvars : ∀ sp : Nat → Bool, DataW.TrodVars enc P W' sp s.vars (s.fn H (ds ++ [])).vars [] := fun sp => by rw [hs, hv]; rfl
  have hold : ∀ p ∈ before, (fun b => decide (b < W.heap.size)) p.block = true := fun p hp => by simpa using hlt p hp
  refine ⟨ds, [], before, [], before, [], hW0, hres _ _ _, hargs _ hold, hvars _, World.keptBut_mono (fun p hp => ⟨hp, ?_⟩) (hb.frame (· ∈ before)), fun _ => ?_⟩
  · exact Or.inr (Or.inl hp)
  · refine ⟨ok_one hr rfl (okWide_bool_mk ht true), _, _, ([] ++ before) ++ [], ⟨[] ++ before, [], trodAll_append (hargs _ (fun _ _ => rfl)) (hres _ _ _), hvars _, rfl, ?_, ?_⟩, ?_⟩
    · intro b off hp
      have hin : MemPlace.cell b off ∈ before := by simpa using hp
      rw [hb.frozen (hlt _ hin)]
      exact hz b off hin
    · intro ha
      simpa using hn ha
    · intro p hp _
      simpa using hp

end

/-- What a law's contract needs of the evaluator's answer. -/
theorem law_run {P : Program} {L : Nat → Option FuncId} {G : Nat → Option (List AV)} {T : Tbl} (hm : P.follows .mixedOrders = true) (hP : ProgOK P L T) {f : Nat} {g : FuncId} {args : List AV} (hLf : L f = some g)
    (hr : run G T f args = some (.bool true)) {W : World} (hG : Gok G ⟨L, W, fun r => r < W.heap.size, noι⟩) {us : Array Value} (hu : RelL ⟨L, W, fun r => r < W.heap.size, noι⟩ args us.toList)
    {Q : Value → World → Prop} (hQ : ∀ W', Go.RowKit.Below W.heap.size W W' → Q (.bool true) W') :
    Calls P g us W fun e W' => ∃ v, e = .returned v ∧ Q v W' := by
  have h := run_sound hm hP hLf hr W (fun r => r < W.heap.size) (fun _ h => h) hG hu
  refine h.mono ?_
  rintro e W' ⟨u, rfl, hb, hrel⟩
  simp only [Rel] at hrel
  subst hrel
  exact ⟨_, rfl, hQ W' hb⟩

/-- A row of numbers that a package's variable holds. -/
theorem gok_u8 {L : Nat → Option FuncId} {W : World} {g : Nat} {l : List Nat} (h : ∀ (j d : Nat), l[j]? = some d → W.cell? ⟨g, j, none⟩ = some (.int .u8 (d : Int))) (hl : 0 < l.length) :
    Gok (fun n => if n = g then some (l.map fun (d : Nat) => .int .u8 (d : Int)) else none) ⟨L, W, fun r => r < W.heap.size, noι⟩ := by
  intro g' cs hg
  simp only at hg
  split at hg
  · next he =>
    subst he
    cases hg
    constructor
    · have h0 := h 0 l[0] (List.getElem?_eq_getElem hl)
      show g' < W.heap.size
      unfold World.cell? at h0
      split at h0
      · next c _ _ hh => exact row_lt hh
      · cases h0
    · rw [relAt_iff]
      intro j v hj
      rw [List.getElem?_map] at hj
      cases hd : l[j]? with
      | none => rw [hd] at hj; cases hj
      | some d =>
        rw [hd] at hj
        simp only [Option.map_some, Option.some.injEq] at hj
        subst hj
        rw [Nat.zero_add]
        exact ⟨_, h j d hd, rfl, by simp only [Rel]⟩
  · cases hg

section
variable {H : Type} {enc : TypeId × Value → H} {P : Program}
/-- An array of small numbers, read as such: its cells. -/
theorem tab_u8 {w : World} {base : Nat} {sp : Nat → Bool} {held : Bool} {t e : TypeId} {fuel : Nat} {cs : Array Value} {l : List Nat} {ps : List MemPlace}
    (ht : P.underlying t = some (.array l.length e)) (he : P.underlying e = some (.int .u8)) (hc : P.cellsOf e = 1)
    (h : DataW.trod enc P w base sp held fuel t cs.toList = some (.agg (l.map fun (d : Nat) => .lit (.int .u8 (d : Int))), ps)) : ∀ (j d : Nat), l[j]? = some d → cs[j]? = some (.int .u8 (d : Int)) := by
  obtain ⟨xs, m, rfl, hx, hlen, hn, hel⟩ := DataW.trod_array ht h
  intro j d hj
  have hjl : j < l.length := (List.getElem?_eq_some_iff.1 hj).1
  have h1 := hel j hjl
  simp only [Prod.mk.injEq, DataW.agg.injEq] at hx
  have hxj : xs[j]? = some xs[j] := List.getElem?_eq_getElem (by omega)
  rw [hxj, hc, Nat.mul_one] at h1
  obtain ⟨k, e1, e2, _⟩ := DataW.trod_int he h1
  have h3 : (l.map fun (d : Nat) => (DataW.lit (.int .u8 (d : Int)) : DataW H))[j]? = (xs.map (·.1))[j]? := by rw [hx.1]
  rw [List.getElem?_map, List.getElem?_map, hj, hxj] at h3
  simp only [Option.map_some, Option.some.injEq, e2] at h3
  simp only [DataW.lit.injEq, Lit.int.injEq, true_and] at h3
  subst h3
  have h4 : (cs.toList.drop j).take 1 = [.int .u8 (d : Int)] := e1
  have h5 : cs.toList[j]? = some (.int .u8 (d : Int)) := by
    have : ((cs.toList.drop j).take 1)[0]? = some (.int .u8 (d : Int)) := by rw [h4]; rfl
    rw [List.getElem?_take] at this
    simpa using this
  simpa using h5
end
end Go.Cv

/-
  A law's arguments, opened: arrays of three words, pairs of words.
-/
namespace Go.Cv
open Go Go.RowKit Go.WideShapes Go.ChangeShapes Go.WideElems Go.Deep Go.Joins
section
variable {H : Type} {enc : TypeId × Value → H} {P : Program}
theorem word_lit {a : Int} (h : (Lit.int .u64 a).wf = true) : ∃ k : Nat, k < 18446744073709551616 ∧ a = (k : Int) := by
  have h2 : (decide ((0 : Int) ≤ a) && decide (a ≤ 18446744073709551615)) = true := h
  simp only [Bool.and_eq_true, decide_eq_true_eq] at h2
  exact ⟨a.toNat, by omega, by omega⟩
theorem open_z {w : World} {S : Sc} {r : Reach} {b0 base : Nat} {held : Bool} {t : TypeId} {f0 f1 : Field} {v : Value} {d : DataW H} {p : List MemPlace}
    (hs : P.underlying t = some (.struct #[f0, f1])) (hone : oneCellFields P #[f0, f1] = true) (hC : P.cellsOf t = 2) (h0 : P.underlying f0.type = some (.int .u64)) (h1 : P.underlying f1.type = some (.int .u64))
    (hv : Value.okWide P w r b0 t v) (h : DataW.Trod enc P w base (fun _ => true) held t v d p) :
    ∃ a b : Nat, a < 18446744073709551616 ∧ b < 18446744073709551616 ∧ Rel S (.agg [.int .u64 (a : Int), .int .u64 (b : Int)]) v := by
  obtain ⟨v0, v1, y0, y1, n, rfl, _, _, k0, k1⟩ := open_agg2 hs hone hC hv h
  obtain ⟨x, hx, _, hw0⟩ := DataW.trod_int h0 k0
  obtain rfl : v0 = .int .u64 x := by simpa using hx
  obtain ⟨y, hy, _, hw1⟩ := DataW.trod_int h1 k1
  obtain rfl : v1 = .int .u64 y := by simpa using hy
  obtain ⟨a, a1, rfl⟩ := word_lit hw0
  obtain ⟨b, b1, rfl⟩ := word_lit hw1
  refine ⟨a, b, a1, b1, ?_⟩
  simp only [Rel, RelL]
  exact ⟨_, rfl, .int .u64 a, [.int .u64 b], rfl, rfl, .int .u64 b, [], rfl, rfl, rfl⟩
end
end Go.Cv

namespace Go.Cv
def glb (g : Nat) : Nat → Option (List AV) := fun n => if n = g then some (ntz32.map fun (d : Nat) => .int .u8 (d : Int)) else none
theorem glob (g : Nat) : Glob (glb g) g := if_pos rfl
end Go.Cv

namespace Go.Cv
theorem known13 : run (glb 0) (tbl 0) 168 [] = some (.bool true) := run_of (glb 0) (tbl 0) 400 (by kernel_rfl)
end Go.Cv

/-
  The program's functions are the code texts (written by a program).
-/
set_option maxRecDepth 100000
namespace Go.Proofs.YtmjcmppbmolmnaaDoor
open Go Go.Cv
def tosL : List Nat := [0, 0, 0, 0, 160, 161, 162, 0, 0, 0, 155, 38, 73, 0, 167, 168, 169, 170, 171, 172, 173, 174, 157, 27, 28, 149, 0, 0, 0, 0, 0, 0, 0, 182, 0, 156, 63, 0, 185, 186, 18, 187, 188, 7, 189, 190, 191, 62, 31, 8, 0, 193, 194, 195, 196, 26, 57, 74, 197, 54, 22, 48, 0, 21, 43, 23, 24, 199, 25, 95, 200, 201, 202, 55, 96, 203, 58, 204, 60, 98, 106, 117, 113, 86, 90, 50, 87, 205, 47, 75, 49, 81, 78, 51, 52, 53, 56, 206, 104, 59, 115, 94, 207, 208, 114, 89, 91, 88, 77, 112, 107, 92, 93, 97, 103, 105, 209, 108, 109, 116, 118, 119, 120, 121, 0, 0, 0, 0, 0, 0, 0, 0, 0, 0, 0, 0, 0, 0, 0, 0, 0, 0, 0, 0]
def lnk : List (Nat × Nat) := [(160, 4), (161, 5), (162, 6), (155, 10), (38, 11), (73, 12), (167, 14), (168, 15), (169, 16), (170, 17), (171, 18), (172, 19), (173, 20), (174, 21), (157, 22), (27, 23), (28, 24), (149, 25), (182, 33), (156, 35), (63, 36), (185, 38), (186, 39), (18, 40), (187, 41), (188, 42), (7, 43), (189, 44), (190, 45), (191, 46), (62, 47), (31, 48), (8, 49), (193, 51), (194, 52), (195, 53), (196, 54), (26, 55), (57, 56), (74, 57), (197, 58), (54, 59), (22, 60), (48, 61), (21, 63), (43, 64), (23, 65), (24, 66), (199, 67), (25, 68), (95, 69), (200, 70), (201, 71), (202, 72), (55, 73), (96, 74), (203, 75), (58, 76), (204, 77), (60, 78), (98, 79), (106, 80), (117, 81), (113, 82), (86, 83), (90, 84), (50, 85), (87, 86), (205, 87), (47, 88), (75, 89), (49, 90), (81, 91), (78, 92), (51, 93), (52, 94), (53, 95), (56, 96), (206, 97), (104, 98), (59, 99), (115, 100), (94, 101), (207, 102), (208, 103), (114, 104), (89, 105), (91, 106), (88, 107), (77, 108), (112, 109), (107, 110), (92, 111), (93, 112), (97, 113), (103, 114), (105, 115), (209, 116), (108, 117), (109, 118), (116, 119), (118, 120), (119, 121), (120, 122), (121, 123)]
def toS (g : FuncId) : Option Nat := match tosL.getD g 0 with | 0 => none | n + 1 => some (n + 1)
def lnkF (l : List (Nat × Nat)) (f : Nat) : Option FuncId := match l with | [] => none | p :: r => if p.1 = f then some p.2 else lnkF r f
def L0 (f : Nat) : Option FuncId := lnkF lnk f
def AllP (Q : Nat → Nat → Prop) : List (Nat × Nat) → Prop | [] => True | p :: l => Q p.1 p.2 ∧ AllP Q l
theorem AllP.of {Q : Nat → Nat → Prop} : ∀ {l : List (Nat × Nat)}, AllP Q l → ∀ f g, lnkF l f = some g → Q f g
  | [], _, f, g, h => by cases h
  | p :: l, ⟨h1, h2⟩, f, g, h => by
    unfold lnkF at h
    by_cases he : p.1 = f
    · rw [if_pos he] at h; cases h; subst he; exact h1
    · rw [if_neg he] at h; exact AllP.of h2 f g h
def bodyB (P : Program) (p : Nat × Nat) : Bool := match P.funcs[p.2]? with | some fn => (fn.name != "runtime.NumGoroutine") && fn.body.isSome | none => false
theorem bodies : lnk.all (bodyB Tryd.prog) = true := by kernel_rfl
theorem toB : (List.range tosL.length).all (fun g => match toS g with | some f => (L0 f == some g) | none => true) = true := by kernel_rfl
theorem lnk_mem : ∀ (l : List (Nat × Nat)) (f g : Nat), lnkF l f = some g → (f, g) ∈ l
  | [], _, _, h => by cases h
  | p :: l, f, g, h => by
    unfold lnkF at h
    by_cases he : p.1 = f
    · rw [if_pos he] at h; cases h; subst he; exact List.mem_cons_self ..
    · rw [if_neg he] at h; exact List.mem_cons_of_mem _ (lnk_mem l f g h)
theorem link_of (C : CC) (hP : C.P = Tryd.prog) (hS : C.toS = toS) : Link C L0 := by
  constructor
  · intro g f h
    rw [hS] at h
    have hb := List.all_eq_true.1 toB
    have hg : g < tosL.length := by
      rcases Nat.lt_or_ge g tosL.length with x | x
      · exact x
      · exfalso; unfold toS at h; rw [List.getD_eq_getElem?_getD, List.getElem?_eq_none x] at h; cases h
    have := hb g (List.mem_range.2 hg)
    rw [h] at this
    simpa using this
  · intro f g h
    have := List.all_eq_true.1 bodies _ (lnk_mem _ _ _ h)
    unfold bodyB at this
    rw [hP]
    cases hf : Tryd.prog.funcs[g]? with
    | none => simp [hf] at this
    | some fn => simp [hf] at this; exact ⟨fn, rfl, this.1, this.2⟩
def FnOK (f g : Nat) : Prop := ∃ (C : CC) (fn : Func) (c : Code) (fi : IFn), C.P = Tryd.prog ∧ Link C L0 ∧ Tryd.prog.funcs[g]? = some fn ∧ C.N ≤ fn.ntmps ∧ fn.body = some c ∧ tbl 0 f = some fi ∧ compC C c = some (erase fi.body) ∧ mapO (compRes Tryd.prog) fn.results.toList = some fi.res
theorem fn_mk {f g : Nat} (C : CC) (fn : Func) (fi : IFn) (h1 : C.P = Tryd.prog) (h2 : C.toS = toS) (h3 : Tryd.prog.funcs[g]? = some fn) (h4 : C.N = fn.ntmps) (h5 : tbl 0 f = some fi) (h6 : fn.body.bind (compC C) = some (erase fi.body)) (h7 : mapO (compRes Tryd.prog) fn.results.toList = some fi.res) : FnOK f g := by
  cases hb : fn.body with
  | none => rw [hb] at h6; cases h6
  | some c => rw [hb] at h6; exact ⟨C, fn, c, fi, h1, link_of C h1 h2, h3, Nat.le_of_eq h4, hb, h5, h6, h7⟩
noncomputable def cc4 : CC := { P := Tryd.prog, toS := toS, inl := fun n => List.elem n ([] : List Nat), dyn := false, N := Tryd.f4.ntmps }
theorem ok4 : FnOK 160 4 := fn_mk cc4 Tryd.f4 c_law13_ModulusTurns rfl rfl Tryd.func4 rfl rfl (by kernel_rfl) (by kernel_rfl)
noncomputable def cc5 : CC := { P := Tryd.prog, toS := toS, inl := fun n => List.elem n ([] : List Nat), dyn := false, N := Tryd.f5.ntmps }
theorem ok5 : FnOK 161 5 := fn_mk cc5 Tryd.f5 c_law13_ModulusGoes rfl rfl Tryd.func5 rfl rfl (by kernel_rfl) (by kernel_rfl)
noncomputable def cc6 : CC := { P := Tryd.prog, toS := toS, inl := fun n => List.elem n ([] : List Nat), dyn := false, N := Tryd.f6.ntmps }
theorem ok6 : FnOK 162 6 := fn_mk cc6 Tryd.f6 c_ref05_Opens rfl rfl Tryd.func6 rfl rfl (by kernel_rfl) (by kernel_rfl)
noncomputable def cc10 : CC := { P := Tryd.prog, toS := toS, inl := fun n => List.elem n ([] : List Nat), dyn := false, N := Tryd.f10.ntmps }
theorem ok10 : FnOK 155 10 := fn_mk cc10 Tryd.f10 c_ref03_Class rfl rfl Tryd.func10 rfl rfl (by kernel_rfl) (by kernel_rfl)
noncomputable def cc11 : CC := { P := Tryd.prog, toS := toS, inl := fun n => List.elem n ([] : List Nat), dyn := false, N := Tryd.f11.ntmps }
theorem ok11 : FnOK 38 11 := fn_mk cc11 Tryd.f11 c_ref03_Signed rfl rfl Tryd.func11 rfl rfl (by kernel_rfl) (by kernel_rfl)
noncomputable def cc12 : CC := { P := Tryd.prog, toS := toS, inl := fun n => List.elem n ([] : List Nat), dyn := false, N := Tryd.f12.ntmps }
theorem ok12 : FnOK 73 12 := fn_mk cc12 Tryd.f12 c_ref03_Sign rfl rfl Tryd.func12 rfl rfl (by kernel_rfl) (by kernel_rfl)
noncomputable def cc14 : CC := { P := Tryd.prog, toS := toS, inl := fun n => List.elem n ([] : List Nat), dyn := false, N := Tryd.f14.ntmps }
theorem ok14 : FnOK 167 14 := fn_mk cc14 Tryd.f14 c_law13_opens rfl rfl Tryd.func14 rfl rfl (by kernel_rfl) (by kernel_rfl)
noncomputable def cc15 : CC := { P := Tryd.prog, toS := toS, inl := fun n => List.elem n ([] : List Nat), dyn := false, N := Tryd.f15.ntmps }
theorem ok15 : FnOK 168 15 := fn_mk cc15 Tryd.f15 c_law13_known rfl rfl Tryd.func15 rfl rfl (by kernel_rfl) (by kernel_rfl)
noncomputable def cc16 : CC := { P := Tryd.prog, toS := toS, inl := fun n => List.elem n ([] : List Nat), dyn := false, N := Tryd.f16.ntmps }
theorem ok16 : FnOK 169 16 := fn_mk cc16 Tryd.f16 c_modulus_Abs rfl rfl Tryd.func16 rfl rfl (by kernel_rfl) (by kernel_rfl)
noncomputable def cc17 : CC := { P := Tryd.prog, toS := toS, inl := fun n => List.elem n ([] : List Nat), dyn := false, N := Tryd.f17.ntmps }
theorem ok17 : FnOK 170 17 := fn_mk cc17 Tryd.f17 c_ref10_Turn rfl rfl Tryd.func17 rfl rfl (by kernel_rfl) (by kernel_rfl)
noncomputable def cc18 : CC := { P := Tryd.prog, toS := toS, inl := fun n => List.elem n ([] : List Nat), dyn := false, N := Tryd.f18.ntmps }
theorem ok18 : FnOK 171 18 := fn_mk cc18 Tryd.f18 c_modulus_Norm rfl rfl Tryd.func18 rfl rfl (by kernel_rfl) (by kernel_rfl)
noncomputable def cc19 : CC := { P := Tryd.prog, toS := toS, inl := fun n => List.elem n ([] : List Nat), dyn := false, N := Tryd.f19.ntmps }
theorem ok19 : FnOK 172 19 := fn_mk cc19 Tryd.f19 c_ref10_Conj rfl rfl Tryd.func19 rfl rfl (by kernel_rfl) (by kernel_rfl)
noncomputable def cc20 : CC := { P := Tryd.prog, toS := toS, inl := fun n => List.elem n ([] : List Nat), dyn := false, N := Tryd.f20.ntmps }
theorem ok20 : FnOK 173 20 := fn_mk cc20 Tryd.f20 c_ref03_Canon rfl rfl Tryd.func20 rfl rfl (by kernel_rfl) (by kernel_rfl)
noncomputable def cc21 : CC := { P := Tryd.prog, toS := toS, inl := fun n => List.elem n ([] : List Nat), dyn := false, N := Tryd.f21.ntmps }
theorem ok21 : FnOK 174 21 := fn_mk cc21 Tryd.f21 c_modulus_Cmp rfl rfl Tryd.func21 rfl rfl (by kernel_rfl) (by kernel_rfl)
noncomputable def cc22 : CC := { P := Tryd.prog, toS := toS, inl := fun n => List.elem n ([] : List Nat), dyn := false, N := Tryd.f22.ntmps }
theorem ok22 : FnOK 157 22 := fn_mk cc22 Tryd.f22 c_ref03_None rfl rfl Tryd.func22 rfl rfl (by kernel_rfl) (by kernel_rfl)
noncomputable def cc23 : CC := { P := Tryd.prog, toS := toS, inl := fun n => List.elem n ([] : List Nat), dyn := false, N := Tryd.f23.ntmps }
theorem ok23 : FnOK 27 23 := fn_mk cc23 Tryd.f23 c_ref03_Is rfl rfl Tryd.func23 rfl rfl (by kernel_rfl) (by kernel_rfl)
noncomputable def cc24 : CC := { P := Tryd.prog, toS := toS, inl := fun n => List.elem n ([] : List Nat), dyn := false, N := Tryd.f24.ntmps }
theorem ok24 : FnOK 28 24 := fn_mk cc24 Tryd.f24 c_ref04_Is rfl rfl Tryd.func24 rfl rfl (by kernel_rfl) (by kernel_rfl)
noncomputable def cc25 : CC := { P := Tryd.prog, toS := toS, inl := fun n => List.elem n ([] : List Nat), dyn := false, N := Tryd.f25.ntmps }
theorem ok25 : FnOK 149 25 := fn_mk cc25 Tryd.f25 c_ref03_Good rfl rfl Tryd.func25 rfl rfl (by kernel_rfl) (by kernel_rfl)
noncomputable def cc33 : CC := { P := Tryd.prog, toS := toS, inl := fun n => List.elem n ([] : List Nat), dyn := false, N := Tryd.f33.ntmps }
theorem ok33 : FnOK 182 33 := fn_mk cc33 Tryd.f33 c_dyad_Mul rfl rfl Tryd.func33 rfl rfl (by kernel_rfl) (by kernel_rfl)
noncomputable def cc35 : CC := { P := Tryd.prog, toS := toS, inl := fun n => List.elem n ([] : List Nat), dyn := false, N := Tryd.f35.ntmps }
theorem ok35 : FnOK 156 35 := fn_mk cc35 Tryd.f35 c_ref03_Split rfl rfl Tryd.func35 rfl rfl (by kernel_rfl) (by kernel_rfl)
noncomputable def cc36 : CC := { P := Tryd.prog, toS := toS, inl := fun n => List.elem n ([] : List Nat), dyn := false, N := Tryd.f36.ntmps }
theorem ok36 : FnOK 63 36 := fn_mk cc36 Tryd.f36 c_ref03_Most rfl rfl Tryd.func36 rfl rfl (by kernel_rfl) (by kernel_rfl)
noncomputable def cc38 : CC := { P := Tryd.prog, toS := toS, inl := fun n => List.elem n ([] : List Nat), dyn := false, N := Tryd.f38.ntmps }
theorem ok38 : FnOK 185 38 := fn_mk cc38 Tryd.f38 c_ref10_Good rfl rfl Tryd.func38 rfl rfl (by kernel_rfl) (by kernel_rfl)
noncomputable def cc39 : CC := { P := Tryd.prog, toS := toS, inl := fun n => List.elem n ([] : List Nat), dyn := false, N := Tryd.f39.ntmps }
theorem ok39 : FnOK 186 39 := fn_mk cc39 Tryd.f39 c_modulus_told rfl rfl Tryd.func39 rfl rfl (by kernel_rfl) (by kernel_rfl)
noncomputable def cc40 : CC := { P := Tryd.prog, toS := toS, inl := fun n => List.elem n ([] : List Nat), dyn := false, N := Tryd.f40.ntmps }
theorem ok40 : FnOK 18 40 := fn_mk cc40 Tryd.f40 c_round_Root rfl rfl Tryd.func40 rfl rfl (by kernel_rfl) (by kernel_rfl)
noncomputable def cc41 : CC := { P := Tryd.prog, toS := toS, inl := fun n => List.elem n ([] : List Nat), dyn := false, N := Tryd.f41.ntmps }
theorem ok41 : FnOK 187 41 := fn_mk cc41 Tryd.f41 c_ref10_Canon rfl rfl Tryd.func41 rfl rfl (by kernel_rfl) (by kernel_rfl)
noncomputable def cc42 : CC := { P := Tryd.prog, toS := toS, inl := fun n => List.elem n ([] : List Nat), dyn := false, N := Tryd.f42.ntmps }
theorem ok42 : FnOK 188 42 := fn_mk cc42 Tryd.f42 c_ref10_Minus rfl rfl Tryd.func42 rfl rfl (by kernel_rfl) (by kernel_rfl)
noncomputable def cc43 : CC := { P := Tryd.prog, toS := toS, inl := fun n => List.elem n ([] : List Nat), dyn := false, N := Tryd.f43.ntmps }
theorem ok43 : FnOK 7 43 := fn_mk cc43 Tryd.f43 c_round_Round rfl rfl Tryd.func43 rfl rfl (by kernel_rfl) (by kernel_rfl)
noncomputable def cc44 : CC := { P := Tryd.prog, toS := toS, inl := fun n => List.elem n ([] : List Nat), dyn := false, N := Tryd.f44.ntmps }
theorem ok44 : FnOK 189 44 := fn_mk cc44 Tryd.f44 c_pair_Class rfl rfl Tryd.func44 rfl rfl (by kernel_rfl) (by kernel_rfl)
noncomputable def cc45 : CC := { P := Tryd.prog, toS := toS, inl := fun n => List.elem n ([] : List Nat), dyn := false, N := Tryd.f45.ntmps }
theorem ok45 : FnOK 190 45 := fn_mk cc45 Tryd.f45 c_dyad_Cmp rfl rfl Tryd.func45 rfl rfl (by kernel_rfl) (by kernel_rfl)
noncomputable def cc46 : CC := { P := Tryd.prog, toS := toS, inl := fun n => List.elem n ([] : List Nat), dyn := false, N := Tryd.f46.ntmps }
theorem ok46 : FnOK 191 46 := fn_mk cc46 Tryd.f46 c_modulus_square rfl rfl Tryd.func46 rfl rfl (by kernel_rfl) (by kernel_rfl)
noncomputable def cc47 : CC := { P := Tryd.prog, toS := toS, inl := fun n => List.elem n ([] : List Nat), dyn := false, N := Tryd.f47.ntmps }
theorem ok47 : FnOK 62 47 := fn_mk cc47 Tryd.f47 c_ref03_Join rfl rfl Tryd.func47 rfl rfl (by kernel_rfl) (by kernel_rfl)
noncomputable def cc48 : CC := { P := Tryd.prog, toS := toS, inl := fun n => List.elem n ([] : List Nat), dyn := false, N := Tryd.f48.ntmps }
theorem ok48 : FnOK 31 48 := fn_mk cc48 Tryd.f48 c_ref03_Frac rfl rfl Tryd.func48 rfl rfl (by kernel_rfl) (by kernel_rfl)
noncomputable def cc49 : CC := { P := Tryd.prog, toS := toS, inl := fun n => List.elem n ([] : List Nat), dyn := false, N := Tryd.f49.ntmps }
theorem ok49 : FnOK 8 49 := fn_mk cc49 Tryd.f49 c_round_Over rfl rfl Tryd.func49 rfl rfl (by kernel_rfl) (by kernel_rfl)
noncomputable def cc51 : CC := { P := Tryd.prog, toS := toS, inl := fun n => List.elem n ([] : List Nat), dyn := false, N := Tryd.f51.ntmps }
theorem ok51 : FnOK 193 51 := fn_mk cc51 Tryd.f51 c_word_Class rfl rfl Tryd.func51 rfl rfl (by kernel_rfl) (by kernel_rfl)
noncomputable def cc52 : CC := { P := Tryd.prog, toS := toS, inl := fun n => List.elem n ([] : List Nat), dyn := false, N := Tryd.f52.ntmps }
theorem ok52 : FnOK 194 52 := fn_mk cc52 Tryd.f52 c_word_Value rfl rfl Tryd.func52 rfl rfl (by kernel_rfl) (by kernel_rfl)
noncomputable def cc53 : CC := { P := Tryd.prog, toS := toS, inl := fun n => List.elem n ([] : List Nat), dyn := false, N := Tryd.f53.ntmps }
theorem ok53 : FnOK 195 53 := fn_mk cc53 Tryd.f53 c_dyad_Add rfl rfl Tryd.func53 rfl rfl (by kernel_rfl) (by kernel_rfl)
noncomputable def cc54 : CC := { P := Tryd.prog, toS := toS, inl := fun n => List.elem n ([] : List Nat), dyn := false, N := Tryd.f54.ntmps }
theorem ok54 : FnOK 196 54 := fn_mk cc54 Tryd.f54 c_word_None rfl rfl Tryd.func54 rfl rfl (by kernel_rfl) (by kernel_rfl)
noncomputable def cc55 : CC := { P := Tryd.prog, toS := toS, inl := fun n => List.elem n ([] : List Nat), dyn := false, N := Tryd.f55.ntmps }
theorem ok55 : FnOK 26 55 := fn_mk cc55 Tryd.f55 c_word_Inf rfl rfl Tryd.func55 rfl rfl (by kernel_rfl) (by kernel_rfl)
noncomputable def cc56 : CC := { P := Tryd.prog, toS := toS, inl := fun n => List.elem n ([] : List Nat), dyn := false, N := Tryd.f56.ntmps }
theorem ok56 : FnOK 57 56 := fn_mk cc56 Tryd.f56 c_word_Zero rfl rfl Tryd.func56 rfl rfl (by kernel_rfl) (by kernel_rfl)
noncomputable def cc57 : CC := { P := Tryd.prog, toS := toS, inl := fun n => List.elem n ([] : List Nat), dyn := false, N := Tryd.f57.ntmps }
theorem ok57 : FnOK 74 57 := fn_mk cc57 Tryd.f57 c_dyad_both rfl rfl Tryd.func57 rfl rfl (by kernel_rfl) (by kernel_rfl)
noncomputable def cc58 : CC := { P := Tryd.prog, toS := toS, inl := fun n => List.elem n ([] : List Nat), dyn := false, N := Tryd.f58.ntmps }
theorem ok58 : FnOK 197 58 := fn_mk cc58 Tryd.f58 c_nat_Mul rfl rfl Tryd.func58 rfl rfl (by kernel_rfl) (by kernel_rfl)
noncomputable def cc59 : CC := { P := Tryd.prog, toS := toS, inl := fun n => List.elem n ([] : List Nat), dyn := false, N := Tryd.f59.ntmps }
theorem ok59 : FnOK 54 59 := fn_mk cc59 Tryd.f59 c_dyad_Make rfl rfl Tryd.func59 rfl rfl (by kernel_rfl) (by kernel_rfl)
noncomputable def cc60 : CC := { P := Tryd.prog, toS := toS, inl := fun n => List.elem n ([] : List Nat), dyn := false, N := Tryd.f60.ntmps }
theorem ok60 : FnOK 22 60 := fn_mk cc60 Tryd.f60 c_dyad_Sign rfl rfl Tryd.func60 rfl rfl (by kernel_rfl) (by kernel_rfl)
noncomputable def cc61 : CC := { P := Tryd.prog, toS := toS, inl := fun n => List.elem n ([] : List Nat), dyn := false, N := Tryd.f61.ntmps }
theorem ok61 : FnOK 48 61 := fn_mk cc61 Tryd.f61 c_dyad_May rfl rfl Tryd.func61 rfl rfl (by kernel_rfl) (by kernel_rfl)
noncomputable def cc63 : CC := { P := Tryd.prog, toS := toS, inl := fun n => List.elem n ([] : List Nat), dyn := false, N := Tryd.f63.ntmps }
theorem ok63 : FnOK 21 63 := fn_mk cc63 Tryd.f63 c_round_open rfl rfl Tryd.func63 rfl rfl (by kernel_rfl) (by kernel_rfl)
noncomputable def cc64 : CC := { P := Tryd.prog, toS := toS, inl := fun n => List.elem n ([] : List Nat), dyn := false, N := Tryd.f64.ntmps }
theorem ok64 : FnOK 43 64 := fn_mk cc64 Tryd.f64 c_dyad_Root rfl rfl Tryd.func64 rfl rfl (by kernel_rfl) (by kernel_rfl)
noncomputable def cc65 : CC := { P := Tryd.prog, toS := toS, inl := fun n => List.elem n ([] : List Nat), dyn := false, N := Tryd.f65.ntmps }
theorem ok65 : FnOK 23 65 := fn_mk cc65 Tryd.f65 c_round_partOf rfl rfl Tryd.func65 rfl rfl (by kernel_rfl) (by kernel_rfl)
noncomputable def cc66 : CC := { P := Tryd.prog, toS := toS, inl := fun n => List.elem n ([] : List Nat), dyn := false, N := Tryd.f66.ntmps }
theorem ok66 : FnOK 24 66 := fn_mk cc66 Tryd.f66 c_round_part_word rfl rfl Tryd.func66 rfl rfl (by kernel_rfl) (by kernel_rfl)
noncomputable def cc67 : CC := { P := Tryd.prog, toS := toS, inl := fun n => List.elem n ([] : List Nat), dyn := false, N := Tryd.f67.ntmps }
theorem ok67 : FnOK 199 67 := fn_mk cc67 Tryd.f67 c_dyad_sizes rfl rfl Tryd.func67 rfl rfl (by kernel_rfl) (by kernel_rfl)
noncomputable def cc68 : CC := { P := Tryd.prog, toS := toS, inl := fun n => List.elem n ([] : List Nat), dyn := false, N := Tryd.f68.ntmps }
theorem ok68 : FnOK 25 68 := fn_mk cc68 Tryd.f68 c_word_Greatest rfl rfl Tryd.func68 rfl rfl (by kernel_rfl) (by kernel_rfl)
noncomputable def cc69 : CC := { P := Tryd.prog, toS := toS, inl := fun n => List.elem n ([] : List Nat), dyn := false, N := Tryd.f69.ntmps }
theorem ok69 : FnOK 95 69 := fn_mk cc69 Tryd.f69 c_word_open rfl rfl Tryd.func69 rfl rfl (by kernel_rfl) (by kernel_rfl)
noncomputable def cc70 : CC := { P := Tryd.prog, toS := toS, inl := fun n => List.elem n ([] : List Nat), dyn := false, N := Tryd.f70.ntmps }
theorem ok70 : FnOK 200 70 := fn_mk cc70 Tryd.f70 c_word_shape_split rfl rfl Tryd.func70 rfl rfl (by kernel_rfl) (by kernel_rfl)
noncomputable def cc71 : CC := { P := Tryd.prog, toS := toS, inl := fun n => List.elem n ([] : List Nat), dyn := false, N := Tryd.f71.ntmps }
theorem ok71 : FnOK 201 71 := fn_mk cc71 Tryd.f71 c_word_shape_class rfl rfl Tryd.func71 rfl rfl (by kernel_rfl) (by kernel_rfl)
noncomputable def cc72 : CC := { P := Tryd.prog, toS := toS, inl := fun n => List.elem n ([] : List Nat), dyn := false, N := Tryd.f72.ntmps }
theorem ok72 : FnOK 202 72 := fn_mk cc72 Tryd.f72 c_word_finite rfl rfl Tryd.func72 rfl rfl (by kernel_rfl) (by kernel_rfl)
noncomputable def cc73 : CC := { P := Tryd.prog, toS := toS, inl := fun n => List.elem n ([] : List Nat), dyn := false, N := Tryd.f73.ntmps }
theorem ok73 : FnOK 55 73 := fn_mk cc73 Tryd.f73 c_nat_Of rfl rfl Tryd.func73 rfl rfl (by kernel_rfl) (by kernel_rfl)
noncomputable def cc74 : CC := { P := Tryd.prog, toS := toS, inl := fun n => List.elem n ([] : List Nat), dyn := false, N := Tryd.f74.ntmps }
theorem ok74 : FnOK 96 74 := fn_mk cc74 Tryd.f74 c_word_shape_low rfl rfl Tryd.func74 rfl rfl (by kernel_rfl) (by kernel_rfl)
noncomputable def cc75 : CC := { P := Tryd.prog, toS := toS, inl := fun n => List.elem n ([] : List Nat), dyn := false, N := Tryd.f75.ntmps }
theorem ok75 : FnOK 203 75 := fn_mk cc75 Tryd.f75 c_dyad_add rfl rfl Tryd.func75 rfl rfl (by kernel_rfl) (by kernel_rfl)
noncomputable def cc76 : CC := { P := Tryd.prog, toS := toS, inl := fun n => List.elem n ([] : List Nat), dyn := false, N := Tryd.f76.ntmps }
theorem ok76 : FnOK 58 76 := fn_mk cc76 Tryd.f76 c_word_named rfl rfl Tryd.func76 rfl rfl (by kernel_rfl) (by kernel_rfl)
noncomputable def cc77 : CC := { P := Tryd.prog, toS := toS, inl := fun n => List.elem n ([] : List Nat), dyn := false, N := Tryd.f77.ntmps }
theorem ok77 : FnOK 204 77 := fn_mk cc77 Tryd.f77 c_word_shape_none rfl rfl Tryd.func77 rfl rfl (by kernel_rfl) (by kernel_rfl)
noncomputable def cc78 : CC := { P := Tryd.prog, toS := toS, inl := fun n => List.elem n ([] : List Nat), dyn := false, N := Tryd.f78.ntmps }
theorem ok78 : FnOK 60 78 := fn_mk cc78 Tryd.f78 c_word_shape_inf rfl rfl Tryd.func78 rfl rfl (by kernel_rfl) (by kernel_rfl)
noncomputable def cc79 : CC := { P := Tryd.prog, toS := toS, inl := fun n => List.elem n ([] : List Nat), dyn := false, N := Tryd.f79.ntmps }
theorem ok79 : FnOK 98 79 := fn_mk cc79 Tryd.f79 c_word_Zero_1 rfl rfl Tryd.func79 rfl rfl (by kernel_rfl) (by kernel_rfl)
noncomputable def cc80 : CC := { P := Tryd.prog, toS := toS, inl := fun n => List.elem n ([] : List Nat), dyn := false, N := Tryd.f80.ntmps }
theorem ok80 : FnOK 106 80 := fn_mk cc80 Tryd.f80 c_nat_all rfl rfl Tryd.func80 rfl rfl (by kernel_rfl) (by kernel_rfl)
noncomputable def cc81 : CC := { P := Tryd.prog, toS := toS, inl := fun n => List.elem n ([] : List Nat), dyn := false, N := Tryd.f81.ntmps }
theorem ok81 : FnOK 117 81 := fn_mk cc81 Tryd.f81 c_nat_bound rfl rfl Tryd.func81 rfl rfl (by kernel_rfl) (by kernel_rfl)
noncomputable def cc82 : CC := { P := Tryd.prog, toS := toS, inl := fun n => List.elem n ([] : List Nat), dyn := false, N := Tryd.f82.ntmps }
theorem ok82 : FnOK 113 82 := fn_mk cc82 Tryd.f82 c_nat_mul rfl rfl Tryd.func82 rfl rfl (by kernel_rfl) (by kernel_rfl)
noncomputable def cc83 : CC := { P := Tryd.prog, toS := toS, inl := fun n => List.elem n ([] : List Nat), dyn := false, N := Tryd.f83.ntmps }
theorem ok83 : FnOK 86 83 := fn_mk cc83 Tryd.f83 c_nat_May rfl rfl Tryd.func83 rfl rfl (by kernel_rfl) (by kernel_rfl)
noncomputable def cc84 : CC := { P := Tryd.prog, toS := toS, inl := fun n => List.elem n ([] : List Nat), dyn := false, N := Tryd.f84.ntmps }
theorem ok84 : FnOK 90 84 := fn_mk cc84 Tryd.f84 c_nat_Low rfl rfl Tryd.func84 rfl rfl (by kernel_rfl) (by kernel_rfl)
noncomputable def cc85 : CC := { P := Tryd.prog, toS := toS, inl := fun n => List.elem n ([] : List Nat), dyn := false, N := Tryd.f85.ntmps }
theorem ok85 : FnOK 50 85 := fn_mk cc85 Tryd.f85 c_nat_Shift rfl rfl Tryd.func85 rfl rfl (by kernel_rfl) (by kernel_rfl)
noncomputable def cc86 : CC := { P := Tryd.prog, toS := toS, inl := fun n => List.elem n ([] : List Nat), dyn := false, N := Tryd.f86.ntmps }
theorem ok86 : FnOK 87 86 := fn_mk cc86 Tryd.f86 c_dyad_inside rfl rfl Tryd.func86 rfl rfl (by kernel_rfl) (by kernel_rfl)
noncomputable def cc87 : CC := { P := Tryd.prog, toS := toS, inl := fun n => List.elem n ([] : List Nat), dyn := false, N := Tryd.f87.ntmps }
theorem ok87 : FnOK 205 87 := fn_mk cc87 Tryd.f87 c_dyad_own rfl rfl Tryd.func87 rfl rfl (by kernel_rfl) (by kernel_rfl)
noncomputable def cc88 : CC := { P := Tryd.prog, toS := toS, inl := fun n => List.elem n ([] : List Nat), dyn := false, N := Tryd.f88.ntmps }
theorem ok88 : FnOK 47 88 := fn_mk cc88 Tryd.f88 c_round_formOf rfl rfl Tryd.func88 rfl rfl (by kernel_rfl) (by kernel_rfl)
noncomputable def cc89 : CC := { P := Tryd.prog, toS := toS, inl := fun n => List.elem n ([] : List Nat), dyn := false, N := Tryd.f89.ntmps }
theorem ok89 : FnOK 75 89 := fn_mk cc89 Tryd.f89 c_dyad_asked rfl rfl Tryd.func89 rfl rfl (by kernel_rfl) (by kernel_rfl)
noncomputable def cc90 : CC := { P := Tryd.prog, toS := toS, inl := fun n => List.elem n ([] : List Nat), dyn := false, N := Tryd.f90.ntmps }
theorem ok90 : FnOK 49 90 := fn_mk cc90 Tryd.f90 c_nat_Len rfl rfl Tryd.func90 rfl rfl (by kernel_rfl) (by kernel_rfl)
noncomputable def cc91 : CC := { P := Tryd.prog, toS := toS, inl := fun n => List.elem n ([] : List Nat), dyn := false, N := Tryd.f91.ntmps }
theorem ok91 : FnOK 81 91 := fn_mk cc91 Tryd.f91 c_nat_Root rfl rfl Tryd.func91 rfl rfl (by kernel_rfl) (by kernel_rfl)
noncomputable def cc92 : CC := { P := Tryd.prog, toS := toS, inl := fun n => List.elem n ([] : List Nat), dyn := false, N := Tryd.f92.ntmps }
theorem ok92 : FnOK 78 92 := fn_mk cc92 Tryd.f92 c_dyad_made rfl rfl Tryd.func92 rfl rfl (by kernel_rfl) (by kernel_rfl)
noncomputable def cc93 : CC := { P := Tryd.prog, toS := toS, inl := fun n => List.elem n ([] : List Nat), dyn := false, N := Tryd.f93.ntmps }
theorem ok93 : FnOK 51 93 := fn_mk cc93 Tryd.f93 c_nat_Num rfl rfl Tryd.func93 rfl rfl (by kernel_rfl) (by kernel_rfl)
noncomputable def cc94 : CC := { P := Tryd.prog, toS := toS, inl := fun n => List.elem n ([] : List Nat), dyn := false, N := Tryd.f94.ntmps }
theorem ok94 : FnOK 52 94 := fn_mk cc94 Tryd.f94 c_round_part_units rfl rfl Tryd.func94 rfl rfl (by kernel_rfl) (by kernel_rfl)
noncomputable def cc95 : CC := { P := Tryd.prog, toS := toS, inl := fun n => List.elem n ([] : List Nat), dyn := false, N := Tryd.f95.ntmps }
theorem ok95 : FnOK 53 95 := fn_mk cc95 Tryd.f95 c_bits_Len64 rfl rfl Tryd.func95 rfl rfl (by kernel_rfl) (by kernel_rfl)
noncomputable def cc96 : CC := { P := Tryd.prog, toS := toS, inl := fun n => List.elem n ([] : List Nat), dyn := false, N := Tryd.f96.ntmps }
theorem ok96 : FnOK 56 96 := fn_mk cc96 Tryd.f96 c_word_Of rfl rfl Tryd.func96 rfl rfl (by kernel_rfl) (by kernel_rfl)
noncomputable def cc97 : CC := { P := Tryd.prog, toS := toS, inl := fun n => List.elem n ([] : List Nat), dyn := false, N := Tryd.f97.ntmps }
theorem ok97 : FnOK 206 97 := fn_mk cc97 Tryd.f97 c_dyad_Top rfl rfl Tryd.func97 rfl rfl (by kernel_rfl) (by kernel_rfl)
noncomputable def cc98 : CC := { P := Tryd.prog, toS := toS, inl := fun n => List.elem n ([] : List Nat), dyn := false, N := Tryd.f98.ntmps }
theorem ok98 : FnOK 104 98 := fn_mk cc98 Tryd.f98 c_nat_Cmp rfl rfl Tryd.func98 rfl rfl (by kernel_rfl) (by kernel_rfl)
noncomputable def cc99 : CC := { P := Tryd.prog, toS := toS, inl := fun n => List.elem n ([] : List Nat), dyn := false, N := Tryd.f99.ntmps }
theorem ok99 : FnOK 59 99 := fn_mk cc99 Tryd.f99 c_word_Greatest_1 rfl rfl Tryd.func99 rfl rfl (by kernel_rfl) (by kernel_rfl)
noncomputable def cc100 : CC := { P := Tryd.prog, toS := toS, inl := fun n => List.elem n ([] : List Nat), dyn := false, N := Tryd.f100.ntmps }
theorem ok100 : FnOK 115 100 := fn_mk cc100 Tryd.f100 c_word_shapeOf rfl rfl Tryd.func100 rfl rfl (by kernel_rfl) (by kernel_rfl)
noncomputable def cc101 : CC := { P := Tryd.prog, toS := toS, inl := fun n => List.elem n ([] : List Nat), dyn := false, N := Tryd.f101.ntmps }
theorem ok101 : FnOK 94 101 := fn_mk cc101 Tryd.f101 c_nat_trim rfl rfl Tryd.func101 rfl rfl (by kernel_rfl) (by kernel_rfl)
noncomputable def cc102 : CC := { P := Tryd.prog, toS := toS, inl := fun n => List.elem n ([] : List Nat), dyn := false, N := Tryd.f102.ntmps }
theorem ok102 : FnOK 207 102 := fn_mk cc102 Tryd.f102 c_dyad_edge rfl rfl Tryd.func102 rfl rfl (by kernel_rfl) (by kernel_rfl)
noncomputable def cc103 : CC := { P := Tryd.prog, toS := toS, inl := fun n => List.elem n ([] : List Nat), dyn := false, N := Tryd.f103.ntmps }
theorem ok103 : FnOK 208 103 := fn_mk cc103 Tryd.f103 c_dyad_join rfl rfl Tryd.func103 rfl rfl (by kernel_rfl) (by kernel_rfl)
noncomputable def cc104 : CC := { P := Tryd.prog, toS := toS, inl := fun n => List.elem n ([] : List Nat), dyn := false, N := Tryd.f104.ntmps }
theorem ok104 : FnOK 114 104 := fn_mk cc104 Tryd.f104 (c_bits_TrailingZeros32 0) rfl rfl Tryd.func104 rfl rfl (by kernel_rfl) (by kernel_rfl)
noncomputable def cc105 : CC := { P := Tryd.prog, toS := toS, inl := fun n => List.elem n ([] : List Nat), dyn := false, N := Tryd.f105.ntmps }
theorem ok105 : FnOK 89 105 := fn_mk cc105 Tryd.f105 c_nat_down rfl rfl Tryd.func105 rfl rfl (by kernel_rfl) (by kernel_rfl)
noncomputable def cc106 : CC := { P := Tryd.prog, toS := toS, inl := fun n => List.elem n ([94] : List Nat), dyn := false, N := Tryd.f106.ntmps }
theorem ok106 : FnOK 91 106 := fn_mk cc106 Tryd.f106 c_nat_up rfl rfl Tryd.func106 rfl rfl (by kernel_rfl) (by kernel_rfl)
noncomputable def cc107 : CC := { P := Tryd.prog, toS := toS, inl := fun n => List.elem n ([] : List Nat), dyn := false, N := Tryd.f107.ntmps }
theorem ok107 : FnOK 88 107 := fn_mk cc107 Tryd.f107 c_bits_Len32 rfl rfl Tryd.func107 rfl rfl (by kernel_rfl) (by kernel_rfl)
noncomputable def cc108 : CC := { P := Tryd.prog, toS := toS, inl := fun n => List.elem n ([] : List Nat), dyn := false, N := Tryd.f108.ntmps }
theorem ok108 : FnOK 77 108 := fn_mk cc108 Tryd.f108 c_nat_QuoRem rfl rfl Tryd.func108 rfl rfl (by kernel_rfl) (by kernel_rfl)
noncomputable def cc109 : CC := { P := Tryd.prog, toS := toS, inl := fun n => List.elem n ([] : List Nat), dyn := false, N := Tryd.f109.ntmps }
theorem ok109 : FnOK 112 109 := fn_mk cc109 Tryd.f109 c_bits_Add32 rfl rfl Tryd.func109 rfl rfl (by kernel_rfl) (by kernel_rfl)
noncomputable def cc110 : CC := { P := Tryd.prog, toS := toS, inl := fun n => List.elem n ([] : List Nat), dyn := false, N := Tryd.f110.ntmps }
theorem ok110 : FnOK 107 110 := fn_mk cc110 Tryd.f110 c_nat_cmp rfl rfl Tryd.func110 rfl rfl (by kernel_rfl) (by kernel_rfl)
noncomputable def cc111 : CC := { P := Tryd.prog, toS := toS, inl := fun n => List.elem n ([] : List Nat), dyn := false, N := Tryd.f111.ntmps }
theorem ok111 : FnOK 92 111 := fn_mk cc111 Tryd.f111 c_round_btoi rfl rfl Tryd.func111 rfl rfl (by kernel_rfl) (by kernel_rfl)
noncomputable def cc112 : CC := { P := Tryd.prog, toS := toS, inl := fun n => List.elem n ([] : List Nat), dyn := false, N := Tryd.f112.ntmps }
theorem ok112 : FnOK 93 112 := fn_mk cc112 Tryd.f112 c_round_up rfl rfl Tryd.func112 rfl rfl (by kernel_rfl) (by kernel_rfl)
noncomputable def cc113 : CC := { P := Tryd.prog, toS := toS, inl := fun n => List.elem n ([] : List Nat), dyn := false, N := Tryd.f113.ntmps }
theorem ok113 : FnOK 97 113 := fn_mk cc113 Tryd.f113 c_word_shape_join rfl rfl Tryd.func113 rfl rfl (by kernel_rfl) (by kernel_rfl)
noncomputable def cc114 : CC := { P := Tryd.prog, toS := toS, inl := fun n => List.elem n ([] : List Nat), dyn := false, N := Tryd.f114.ntmps }
theorem ok114 : FnOK 103 114 := fn_mk cc114 Tryd.f114 c_nat_Sub rfl rfl Tryd.func114 rfl rfl (by kernel_rfl) (by kernel_rfl)
noncomputable def cc115 : CC := { P := Tryd.prog, toS := toS, inl := fun n => List.elem n ([] : List Nat), dyn := false, N := Tryd.f115.ntmps }
theorem ok115 : FnOK 105 115 := fn_mk cc115 Tryd.f115 c_nat_Add rfl rfl Tryd.func115 rfl rfl (by kernel_rfl) (by kernel_rfl)
noncomputable def cc116 : CC := { P := Tryd.prog, toS := toS, inl := fun n => List.elem n ([] : List Nat), dyn := false, N := Tryd.f116.ntmps }
theorem ok116 : FnOK 209 116 := fn_mk cc116 Tryd.f116 c_dyad_halved rfl rfl Tryd.func116 rfl rfl (by kernel_rfl) (by kernel_rfl)
noncomputable def cc117 : CC := { P := Tryd.prog, toS := toS, inl := fun n => List.elem n ([] : List Nat), dyn := false, N := Tryd.f117.ntmps }
theorem ok117 : FnOK 108 117 := fn_mk cc117 Tryd.f117 c_nat_small rfl rfl Tryd.func117 rfl rfl (by kernel_rfl) (by kernel_rfl)
noncomputable def cc118 : CC := { P := Tryd.prog, toS := toS, inl := fun n => List.elem n ([91, 120] : List Nat), dyn := false, N := Tryd.f118.ntmps }
theorem ok118 : FnOK 109 118 := fn_mk cc118 Tryd.f118 c_nat_long rfl rfl Tryd.func118 rfl rfl (by kernel_rfl) (by kernel_rfl)
noncomputable def cc119 : CC := { P := Tryd.prog, toS := toS, inl := fun n => List.elem n ([] : List Nat), dyn := false, N := Tryd.f119.ntmps }
theorem ok119 : FnOK 116 119 := fn_mk cc119 Tryd.f119 c_nat_sub rfl rfl Tryd.func119 rfl rfl (by kernel_rfl) (by kernel_rfl)
noncomputable def cc120 : CC := { P := Tryd.prog, toS := toS, inl := fun n => List.elem n ([] : List Nat), dyn := false, N := Tryd.f120.ntmps }
theorem ok120 : FnOK 118 120 := fn_mk cc120 Tryd.f120 c_bits_Div32 rfl rfl Tryd.func120 rfl rfl (by kernel_rfl) (by kernel_rfl)
noncomputable def cc121 : CC := { P := Tryd.prog, toS := toS, inl := fun n => List.elem n ([] : List Nat), dyn := false, N := Tryd.f121.ntmps }
theorem ok121 : FnOK 119 121 := fn_mk cc121 Tryd.f121 c_bits_LeadingZeros32 rfl rfl Tryd.func121 rfl rfl (by kernel_rfl) (by kernel_rfl)
noncomputable def cc122 : CC := { P := Tryd.prog, toS := toS, inl := fun n => List.elem n ([] : List Nat), dyn := false, N := Tryd.f122.ntmps }
theorem ok122 : FnOK 120 122 := fn_mk cc122 Tryd.f122 c_nat_step rfl rfl Tryd.func122 rfl rfl (by kernel_rfl) (by kernel_rfl)
noncomputable def cc123 : CC := { P := Tryd.prog, toS := toS, inl := fun n => List.elem n ([] : List Nat), dyn := false, N := Tryd.f123.ntmps }
theorem ok123 : FnOK 121 123 := fn_mk cc123 Tryd.f123 c_bits_Sub32 rfl rfl Tryd.func123 rfl rfl (by kernel_rfl) (by kernel_rfl)
theorem all_fn : AllP FnOK lnk := ⟨ok4, ok5, ok6, ok10, ok11, ok12, ok14, ok15, ok16, ok17, ok18, ok19, ok20, ok21, ok22, ok23, ok24, ok25, ok33, ok35, ok36, ok38, ok39, ok40, ok41, ok42, ok43, ok44, ok45, ok46, ok47, ok48, ok49, ok51, ok52, ok53, ok54, ok55, ok56, ok57, ok58, ok59, ok60, ok61, ok63, ok64, ok65, ok66, ok67, ok68, ok69, ok70, ok71, ok72, ok73, ok74, ok75, ok76, ok77, ok78, ok79, ok80, ok81, ok82, ok83, ok84, ok85, ok86, ok87, ok88, ok89, ok90, ok91, ok92, ok93, ok94, ok95, ok96, ok97, ok98, ok99, ok100, ok101, ok102, ok103, ok104, ok105, ok106, ok107, ok108, ok109, ok110, ok111, ok112, ok113, ok114, ok115, ok116, ok117, ok118, ok119, ok120, ok121, ok122, ok123, trivial⟩
theorem prog_ok : ProgOK Tryd.prog L0 (tbl 0) := ⟨fun f g h => AllP.of all_fn f g h⟩
theorem mixed : Tryd.prog.follows .mixedOrders = true := by kernel_rfl
end Go.Proofs.YtmjcmppbmolmnaaDoor

/-
  The seat's own facts: the listed variable's cells, a start that fits.
-/
namespace Go.Proofs.YtmjcmppbmolmnaaDoor
open Go Go.Cv Go.ChangeShapes Go.WideShapes Go.ChangeAt Go.WideMaps Go.WideElems Go.RowKit

theorem own : ownKnob Tryd.prog.godebug = none := by kernel_rfl
theorem laidOut : laidOutB Tryd.prog = true := by kernel_rfl
theorem gTab : Tryd.prog.globalNamed "math/bits.deBruijn32tab" = some 0 := by kernel_rfl
theorem tTab : (Tryd.prog.globals[0]?).map (·.type) = some 167 := by kernel_rfl
def laid1 : List (String × DataW Unit) := [("math/bits.deBruijn32tab", Rows.laid_math_bits_deBruijn32tab)]

theorem door_met (os : Os) (args : Array Value) : laidMetH Tryd.prog laid1 ((World.doorLaid Tryd.prog 400 os).forCall (fun _ _ => 0) ⟨#[], args, []⟩).memory :=
  laidMetH_of_parts3 (fuel := 8) (laidMet_of_run' 8 (by kernel_rfl) (by kernel_rfl)) (by kernel_rfl) (by kernel_rfl)

theorem of_laid {W : World} (h : laidMetH Tryd.prog laid1 W) : Gok (glb 0) ⟨L0, W, fun r => r < W.heap.size, noι⟩ := by
  rw [MakeChecks.laidMetH_plain _ _ _ (by kernel_rfl)] at h
  obtain ⟨ps, ⟨g0, t0, cs0, f0, p0, q0, hg0, ht0, hv0, hd0, _, _⟩, _, _⟩ := h
  obtain rfl := Option.some.inj (gTab.symm.trans hg0)
  obtain rfl := Option.some.inj (tTab.symm.trans ht0)
  have hc := tab_u8 (l := ntz32) (e := 5) (show Tryd.prog.underlying 167 = some (.array ntz32.length 5) by kernel_rfl) (show Tryd.prog.underlying 5 = some (.int .u8) by kernel_rfl) (by kernel_rfl) hd0
  exact gok_u8 (fun j d hj => by rw [World.var?_cell hg0 hv0 j]; exact hc j d hj) (by decide)
end Go.Proofs.YtmjcmppbmolmnaaDoor
