/-
  A part of the proof of the statements of this seat (texts that the law's own text leans on): no condition.
-/
import Derived.Test.YthhmfdmdhbbehaaGreatDoorM2
import Derived.Test.YthhmfdmdhbbehaaGreatDoorM5
import Derived.ProofKit
import Derived.LaidMore
import Derived.OpenShut
import Derived.Deep.Slices
import Derived.Lib.SmallJoins
import Derived.Carry
import Derived.Below
import Derived.ChangeSame
import Derived.Test.YthhmfdmdhbbehaaGreatDoorM4
import Derived.KernelRfl
import Derived.Test.YthhmfdmdhbbehaaGreatDoorProg
import Derived.Test.YthhmfdmdhbbehaaGreatDoorRows
import Derived.Test.YthhmfdmdhbbehaaGreatDoorChecked
import Derived.Stop.Joined
import Derived.SevenTiedAt
set_option linter.unusedVariables false
set_option linter.unusedSimpArgs false
/-
  From the evaluator's answer to a law's contract: arguments opened, the law's post met. No program stands in it.
-/
namespace Go.Cv
open Go Go.RowKit Go.WideShapes Go.ChangeShapes Go.WideElems Go.Deep Go.Joins

section
variable {H : Type} {enc : TypeId × Value → H} {P : Program}

theorem trodAll_stays (hl : laidOutB P = true) {W W' : World} {sp : Nat → Bool} (hb : Below W.heap.size W W') :
    ∀ {ts : List TypeId} {vs : List Value} {ds : List (DataW H)} {ps : List MemPlace}, (∀ t ∈ ts, P.readableRec t = true ∧ t < P.types.size) →
    DataW.TrodAll enc P W 0 (fun _ => true) true ts vs ds ps → (∀ p ∈ ps, p.block < W.heap.size ∧ sp p.block = true) → DataW.TrodAll enc P W' 0 sp true ts vs ds ps
  | [], vs, ds, ps, _, h, _ => by
    obtain ⟨rfl, rfl, rfl⟩ := trodAll_nil h
    rfl
  | t :: ts, vs, ds, ps, ht, h, hp => by
    obtain ⟨v, vs1, d, ds1, p, q, rfl, rfl, rfl, h1, h2⟩ := trodAll_cons h
    refine ⟨p, q, ?_, ?_, rfl⟩
    · exact Trod_stays hl (ht t (List.mem_cons_self ..)).1 (ht t (List.mem_cons_self ..)).2 h1 (fun x hx => hb.same (hp x (List.mem_append_left _ hx)).1) (fun x hx => (hp x (List.mem_append_left _ hx)).2)
    · exact trodAll_stays hl hb (fun t' h' => ht t' (List.mem_cons_of_mem _ h')) h2 (fun x hx => hp x (List.mem_append_right _ hx))

/-- A law that answers true and turns nothing that was there. -/
theorem law_post {f : Func} {s : ChangeSpec} {apart fresh handsOn again : Bool} {W W' : World} {args : Array Value} {ds gs : List (DataW H)} {before : List MemPlace} {tb : TypeId}
    (hl : laidOutB P = true) (hp : f.params.toList.all (fun t => P.readableRec t && decide (t < P.types.size)) = true) (hr : f.resultTypes = #[tb]) (ht : P.underlying tb = some .bool) (hv : s.vars = [])
    (hs : s.fn H (ds ++ gs) = { results := [.lit (.bool true)], args := ds })
    (hW : DataW.Whole enc P f.params.toList s.vars apart W args.toList ds gs before) (hb : Below W.heap.size W W') :
    s.post enc P f apart fresh handsOn again W args (.bool true) W' := by
  have hlt : ∀ p ∈ before, p.block < W.heap.size := fun p hp => hW.lt p hp
  have hts : ∀ t ∈ f.params.toList, P.readableRec t = true ∧ t < P.types.size := fun t h => by
    have := List.all_eq_true.1 hp t h
    simpa using this
  have hres : ∀ (b : Nat) (sp : Nat → Bool) (hd : Bool), DataW.TrodAll enc P W' b sp hd f.resultTypes.toList ((Value.bool true).resultList f.resultTypes.size) (s.fn H (ds ++ gs)).results [] := fun b sp hd => by
    rw [hs, hr]; exact trodAll_mk1 (shut_bool ht true)
  have hW0 := hW
  obtain ⟨p, q, hA, hV, hpq, hz, hn⟩ := hW
  rw [hv] at hV
  obtain ⟨rfl, rfl⟩ := trodVars_none hV
  rw [List.append_nil] at hpq
  subst hpq
  have hargs : ∀ sp : Nat → Bool, (∀ x ∈ before, sp x.block = true) → DataW.TrodAll enc P W' 0 sp true f.params.toList args.toList (s.fn H (ds ++ [])).args before := fun sp h => by
    rw [hs]; exact trodAll_stays hl hb hts hA (fun x hx => ⟨hlt x hx, h x hx⟩)
  have hvars : ∀ sp : Nat → Bool, DataW.TrodVars enc P W' sp s.vars (s.fn H (ds ++ [])).vars [] := fun sp => by rw [hs, hv]; rfl
  have hold : ∀ p ∈ before, (fun b => decide (b < W.heap.size)) p.block = true := fun p hp => by simpa using hlt p hp
  refine ⟨ds, [], before, [], before, [], hW0, hres _ _ _, hargs _ hold, hvars _, World.keptBut_mono (fun p hp => ⟨hp, ?_⟩) (hb.frame (· ∈ before)), fun _ => ?_⟩
  · exact Or.inr (Or.inl hp)
  · refine ⟨ok_one hr rfl (okWide_bool_mk ht true), _, _, ([] ++ before) ++ [], ⟨[] ++ before, [], trodAll_append (hargs _ (fun _ _ => rfl)) (hres _ _ _), hvars _, rfl, ?_, ?_⟩, ?_⟩
    · intro b off hp
      have hin : MemPlace.cell b off ∈ before := by simpa using hp
      rw [hb.frozen (hlt _ hin)]
      exact hz b off hin
    · intro ha
      simpa using hn ha
    · intro p hp _
      simpa using hp

/-! ### arguments -/
def numV : Value → Nat
  | .int _ n => n.toNat
  | _ => 0
theorem spot_none {w : World} {a : Addr} {v : Value} (h : w.cell? (a.add 0) = some v) : a = ⟨a.block, a.off, none⟩ := by
  obtain ⟨b, o, s⟩ := a
  cases s with
  | none => rfl
  | some s =>
    exfalso
    unfold World.cell? Addr.add at h
    simp only [if_true] at h
    split at h
    · simp at h
    · cases h

theorem open_u32s {w : World} {S : Sc} (hw : S.w = w) (hro : ∀ r, r < w.heap.size → S.ro r) {base : Nat} {held : Bool} {t e : TypeId} {fuel : Nat} {v : Value} {x : DataW H × List MemPlace}
    (ht : P.underlying t = some (.slice e)) (he : P.underlying e = some (.int .u32)) (hc : P.cellsOf e = 1) (h : DataW.trod enc P w base (fun _ => true) held fuel t [v] = some x) :
    ∃ z l, Dg l ∧ l.length ≤ maxLen ∧ Rel S (D z l) v := by
  rcases open_slice1 ht hc h with ⟨hcs, _⟩ | ⟨a, len, cap, m, n, V, Dd, Pl, hcs, hb, hl, hm, hmm, _, hx⟩
  · obtain rfl : v = .slice none 0 0 := by simpa using hcs
    refine ⟨true, [], Dg.nil, Nat.zero_le _, ?_⟩
    show Rel S .nil _
    simp only [Rel]
  · obtain rfl : v = .slice (some a) len cap := by simpa using hcs
    simp only [if_true] at hmm
    subst hmm
    have hV : ∀ i, i < m → ∃ n : Int, V i = .int .u32 n ∧ 0 ≤ n ∧ n ≤ 4294967295 := fun i hi => by
      obtain ⟨n', h1, _, h3⟩ := DataW.trod_int he (hx i hi).2
      refine ⟨n', by simpa using h1, ?_⟩
      have h4 : (decide ((0 : Int) ≤ n') && decide (n' ≤ 4294967295)) = true := h3
      simpa using h4
    have hlen : ((List.range len).map fun i => numV (V i)).length = len := by simp
    refine ⟨false, (List.range len).map fun i => numV (V i), ?_, by rw [hlen]; omega, ?_⟩
    · intro d hd
      obtain ⟨i, hi, rfl⟩ := List.mem_map.1 hd
      obtain ⟨n', h1, h2, h3⟩ := hV i (by have := List.mem_range.1 hi; omega)
      rw [h1]; simp only [numV]; omega
    · rw [D_false, hlen]
      simp only [Rel]
      refine ⟨some a, m, rfl, hl, ?_⟩
      by_cases h0 : len = 0
      · left; subst h0; rfl
      · right
        have c0 := (hx 0 (by omega)).1
        have ha := spot_none c0
        refine ⟨a.block, a.off, by rw [← ha], hro _ ?_, ?_⟩
        · unfold World.cell? at c0
          split at c0
          · next c _ _ hh => 
            have hab : (a.add 0).block = a.block := by unfold Addr.add; rfl
            rw [hab] at hh
            exact row_lt hh
          · cases c0
        · rw [relAt_iff]
          intro j u hj
          simp only [cells, List.getElem?_map] at hj
          rcases Nat.lt_or_ge j len with hjl | hjl
          · rw [List.getElem?_range hjl] at hj
            simp only [Option.map_some, Option.some.injEq] at hj
            obtain ⟨n', h1, h2, h3⟩ := hV j (by omega)
            have hc1 := (hx j (by omega)).1
            rw [ha, add_none, h1] at hc1
            refine ⟨.int .u32 n', by rw [← hw] at hc1; exact hc1, rfl, ?_⟩
            subst hj
            rw [h1]
            simp only [numV, Rel]
            rw [Int.toNat_of_nonneg h2]
          · rw [List.getElem?_eq_none (by simpa using hjl)] at hj
            cases hj

/-- A sign, digits, an exponent: a struct by value. -/
theorem open_dyad {w : World} {S : Sc} (hw : S.w = w) (hro : ∀ r, r < w.heap.size → S.ro r) {r : Reach} {b0 base : Nat} {held : Bool} {t e : TypeId} {f0 f1 f2 : Field} {v : Value} {d : DataW H} {p : List MemPlace}
    (hs : P.underlying t = some (.struct #[f0, f1, f2])) (hone : oneCellFields P #[f0, f1, f2] = true) (hC : P.cellsOf t = 3)
    (h0 : P.underlying f0.type = some .bool) (h1 : P.underlying f1.type = some (.slice e)) (he : P.underlying e = some (.int .u32)) (hc : P.cellsOf e = 1) (h2 : P.underlying f2.type = some (.int .i64))
    (hv : Value.okWide P w r b0 t v) (h : DataW.Trod enc P w base (fun _ => true) held t v d p) :
    ∃ n z l x, Dg l ∧ l.length ≤ maxLen ∧ -9223372036854775808 ≤ x ∧ x ≤ 9223372036854775807 ∧ Rel S (.agg [.bool n, D z l, .int .i64 x]) v := by
  obtain ⟨v0, v1, v2, y0, y1, y2, n, rfl, _, _, k0, k1, k2⟩ := open_agg3 hs hone hC hv h
  obtain ⟨b, hb, _⟩ := DataW.trod_bool h0 k0
  obtain rfl : v0 = .bool b := by simpa using hb
  obtain ⟨z, l, hd, hl, hr⟩ := open_u32s hw hro h1 he hc k1
  obtain ⟨x, hx, _, hwf⟩ := DataW.trod_int h2 k2
  obtain rfl : v2 = .int .i64 x := by simpa using hx
  have hwf2 : (decide ((-9223372036854775808 : Int) ≤ x) && decide (x ≤ 9223372036854775807)) = true := hwf
  simp only [Bool.and_eq_true, decide_eq_true_eq] at hwf2
  refine ⟨b, z, l, x, hd, hl, hwf2.1, hwf2.2, ?_⟩
  simp only [Rel, RelL]
  exact ⟨#[.bool b, v1, .int .i64 x], rfl, .bool b, [v1, .int .i64 x], rfl, rfl, v1, [.int .i64 x], rfl, hr, .int .i64 x, [], rfl, rfl, rfl⟩
end

/-- What a law's contract needs of the evaluator's answer. -/
theorem law_run {P : Program} {L : Nat → Option FuncId} {G : Nat → Option (List AV)} {T : Tbl} (hm : P.follows .mixedOrders = true) (hP : ProgOK P L T) {f : Nat} {g : FuncId} {args : List AV} (hLf : L f = some g)
    (hr : run G T f args = some (.bool true)) {W : World} (hG : Gok G ⟨L, W, fun r => r < W.heap.size, noι⟩) {us : Array Value} (hu : RelL ⟨L, W, fun r => r < W.heap.size, noι⟩ args us.toList)
    {Q : Value → World → Prop} (hQ : ∀ W', Go.RowKit.Below W.heap.size W W' → Q (.bool true) W') :
    Calls P g us W fun e W' => ∃ v, e = .returned v ∧ Q v W' := by
  have h := run_sound hm hP hLf hr W (fun r => r < W.heap.size) (fun _ h => h) hG hu
  refine h.mono ?_
  rintro e W' ⟨u, rfl, hb, hrel⟩
  simp only [Rel] at hrel
  subst hrel
  exact ⟨_, rfl, hQ W' hb⟩

/-- A row of numbers that a package's variable holds. -/
theorem gok_u8 {L : Nat → Option FuncId} {W : World} {g : Nat} {l : List Nat} (h : ∀ (j d : Nat), l[j]? = some d → W.cell? ⟨g, j, none⟩ = some (.int .u8 (d : Int))) (hl : 0 < l.length) :
    Gok (fun n => if n = g then some (l.map fun (d : Nat) => .int .u8 (d : Int)) else none) ⟨L, W, fun r => r < W.heap.size, noι⟩ := by
  intro g' cs hg
  simp only at hg
  split at hg
  · next he =>
    subst he
    cases hg
    constructor
    · have h0 := h 0 l[0] (List.getElem?_eq_getElem hl)
      show g' < W.heap.size
      unfold World.cell? at h0
      split at h0
      · next c _ _ hh => exact row_lt hh
      · cases h0
    · rw [relAt_iff]
      intro j v hj
      rw [List.getElem?_map] at hj
      cases hd : l[j]? with
      | none => rw [hd] at hj; cases hj
      | some d =>
        rw [hd] at hj
        simp only [Option.map_some, Option.some.injEq] at hj
        subst hj
        rw [Nat.zero_add]
        exact ⟨_, h j d hd, rfl, by simp only [Rel]⟩
  · cases hg

section
variable {H : Type} {enc : TypeId × Value → H} {P : Program}
/-- An array of small numbers, read as such: its cells. -/
theorem tab_u8 {w : World} {base : Nat} {sp : Nat → Bool} {held : Bool} {t e : TypeId} {fuel : Nat} {cs : Array Value} {l : List Nat} {ps : List MemPlace}
    (ht : P.underlying t = some (.array l.length e)) (he : P.underlying e = some (.int .u8)) (hc : P.cellsOf e = 1)
    (h : DataW.trod enc P w base sp held fuel t cs.toList = some (.agg (l.map fun (d : Nat) => .lit (.int .u8 (d : Int))), ps)) : ∀ (j d : Nat), l[j]? = some d → cs[j]? = some (.int .u8 (d : Int)) := by
  obtain ⟨xs, m, rfl, hx, hlen, hn, hel⟩ := DataW.trod_array ht h
  intro j d hj
  have hjl : j < l.length := (List.getElem?_eq_some_iff.1 hj).1
  have h1 := hel j hjl
  simp only [Prod.mk.injEq, DataW.agg.injEq] at hx
  have hxj : xs[j]? = some xs[j] := List.getElem?_eq_getElem (by omega)
  rw [hxj, hc, Nat.mul_one] at h1
  obtain ⟨k, e1, e2, _⟩ := DataW.trod_int he h1
  have h3 : (l.map fun (d : Nat) => (DataW.lit (.int .u8 (d : Int)) : DataW H))[j]? = (xs.map (·.1))[j]? := by rw [hx.1]
  rw [List.getElem?_map, List.getElem?_map, hj, hxj] at h3
  simp only [Option.map_some, Option.some.injEq, e2] at h3
  simp only [DataW.lit.injEq, Lit.int.injEq, true_and] at h3
  subst h3
  have h4 : (cs.toList.drop j).take 1 = [.int .u8 (d : Int)] := e1
  have h5 : cs.toList[j]? = some (.int .u8 (d : Int)) := by
    have : ((cs.toList.drop j).take 1)[0]? = some (.int .u8 (d : Int)) := by rw [h4]; rfl
    rw [List.getElem?_take] at this
    simpa using this
  simpa using h5
end
end Go.Cv

namespace Go.Cv
def glb (g : Nat) : Nat → Option (List AV) := fun n => if n = g then some (ntz32.map fun (d : Nat) => .int .u8 (d : Int)) else none
theorem glob (g : Nat) : Glob (glb g) g := if_pos rfl
theorem known04 : run (glb 0) (tbl 0) 5 [] = some (.bool true) := run_of (glb 0) (tbl 0) 400 (by kernel_rfl)
#print axioms known04
end Go.Cv

/-
  The program's functions are the code texts (written by a program).
-/
set_option maxRecDepth 100000
namespace Go.Proofs.YthhmfdmdhbbehaaGreatDoor
open Go Go.Cv
def tosL : List Nat := [0, 0, 0, 1, 2, 3, 4, 5, 6, 7, 8, 9, 10, 11, 12, 13, 14, 15, 16, 17, 18, 19, 20, 21, 22, 23, 24, 25, 26, 27, 28, 29, 30, 31, 32, 33, 34, 35, 36, 37, 38, 39, 40, 41, 42, 43, 44, 45, 46, 47, 48, 49, 50, 51, 52, 53, 54, 55, 56, 57, 58, 59, 60, 61, 62, 63, 64, 65, 66, 67, 68, 69, 70, 71, 72, 73, 74, 75, 76, 77, 78, 79, 80, 81, 82, 83, 84, 85, 86, 87, 88, 89, 90, 91, 92, 93, 94, 95, 96, 97, 98, 99, 100, 101, 102, 103, 104, 105, 106, 107, 108, 109, 110, 111, 112, 113, 114, 115, 116, 117, 118, 119, 120, 121, 0, 0, 0, 0, 0, 0, 0, 0, 0, 0, 0, 0, 0, 0, 0, 0, 0, 0, 0, 0]
def lnk : List (Nat × Nat) := [(1, 3), (2, 4), (3, 5), (4, 6), (5, 7), (6, 8), (7, 9), (8, 10), (9, 11), (10, 12), (11, 13), (12, 14), (13, 15), (14, 16), (15, 17), (16, 18), (17, 19), (18, 20), (19, 21), (20, 22), (21, 23), (22, 24), (23, 25), (24, 26), (25, 27), (26, 28), (27, 29), (28, 30), (29, 31), (30, 32), (31, 33), (32, 34), (33, 35), (34, 36), (35, 37), (36, 38), (37, 39), (38, 40), (39, 41), (40, 42), (41, 43), (42, 44), (43, 45), (44, 46), (45, 47), (46, 48), (47, 49), (48, 50), (49, 51), (50, 52), (51, 53), (52, 54), (53, 55), (54, 56), (55, 57), (56, 58), (57, 59), (58, 60), (59, 61), (60, 62), (61, 63), (62, 64), (63, 65), (64, 66), (65, 67), (66, 68), (67, 69), (68, 70), (69, 71), (70, 72), (71, 73), (72, 74), (73, 75), (74, 76), (75, 77), (76, 78), (77, 79), (78, 80), (79, 81), (80, 82), (81, 83), (82, 84), (83, 85), (84, 86), (85, 87), (86, 88), (87, 89), (88, 90), (89, 91), (90, 92), (91, 93), (92, 94), (93, 95), (94, 96), (95, 97), (96, 98), (97, 99), (98, 100), (99, 101), (100, 102), (101, 103), (102, 104), (103, 105), (104, 106), (105, 107), (106, 108), (107, 109), (108, 110), (109, 111), (110, 112), (111, 113), (112, 114), (113, 115), (114, 116), (115, 117), (116, 118), (117, 119), (118, 120), (119, 121), (120, 122), (121, 123)]
def toS (g : FuncId) : Option Nat := match tosL.getD g 0 with | 0 => none | n + 1 => some (n + 1)
def lnkF (l : List (Nat × Nat)) (f : Nat) : Option FuncId := match l with | [] => none | p :: r => if p.1 = f then some p.2 else lnkF r f
def L0 (f : Nat) : Option FuncId := lnkF lnk f
def AllP (Q : Nat → Nat → Prop) : List (Nat × Nat) → Prop | [] => True | p :: l => Q p.1 p.2 ∧ AllP Q l
theorem AllP.of {Q : Nat → Nat → Prop} : ∀ {l : List (Nat × Nat)}, AllP Q l → ∀ f g, lnkF l f = some g → Q f g
  | [], _, f, g, h => by cases h
  | p :: l, ⟨h1, h2⟩, f, g, h => by
    unfold lnkF at h
    by_cases he : p.1 = f
    · rw [if_pos he] at h; cases h; subst he; exact h1
    · rw [if_neg he] at h; exact AllP.of h2 f g h
def bodyB (P : Program) (p : Nat × Nat) : Bool := match P.funcs[p.2]? with | some fn => (fn.name != "runtime.NumGoroutine") && fn.body.isSome | none => false
theorem bodies : lnk.all (bodyB Tryz.prog) = true := by kernel_rfl
theorem toB : (List.range tosL.length).all (fun g => match toS g with | some f => (L0 f == some g) | none => true) = true := by kernel_rfl
theorem lnk_mem : ∀ (l : List (Nat × Nat)) (f g : Nat), lnkF l f = some g → (f, g) ∈ l
  | [], _, _, h => by cases h
  | p :: l, f, g, h => by
    unfold lnkF at h
    by_cases he : p.1 = f
    · rw [if_pos he] at h; cases h; subst he; exact List.mem_cons_self ..
    · rw [if_neg he] at h; exact List.mem_cons_of_mem _ (lnk_mem l f g h)
theorem link_of (C : CC) (hP : C.P = Tryz.prog) (hS : C.toS = toS) : Link C L0 := by
  constructor
  · intro g f h
    rw [hS] at h
    have hb := List.all_eq_true.1 toB
    have hg : g < tosL.length := by
      rcases Nat.lt_or_ge g tosL.length with x | x
      · exact x
      · exfalso; unfold toS at h; rw [List.getD_eq_getElem?_getD, List.getElem?_eq_none x] at h; cases h
    have := hb g (List.mem_range.2 hg)
    rw [h] at this
    simpa using this
  · intro f g h
    have := List.all_eq_true.1 bodies _ (lnk_mem _ _ _ h)
    unfold bodyB at this
    rw [hP]
    cases hf : Tryz.prog.funcs[g]? with
    | none => simp [hf] at this
    | some fn => simp [hf] at this; exact ⟨fn, rfl, this.1, this.2⟩
def FnOK (f g : Nat) : Prop := ∃ (C : CC) (fn : Func) (c : Code) (fi : IFn), C.P = Tryz.prog ∧ Link C L0 ∧ Tryz.prog.funcs[g]? = some fn ∧ C.N ≤ fn.ntmps ∧ fn.body = some c ∧ tbl 0 f = some fi ∧ compC C c = some (erase fi.body) ∧ mapO (compRes Tryz.prog) fn.results.toList = some fi.res
theorem fn_mk {f g : Nat} (C : CC) (fn : Func) (fi : IFn) (h1 : C.P = Tryz.prog) (h2 : C.toS = toS) (h3 : Tryz.prog.funcs[g]? = some fn) (h4 : C.N = fn.ntmps) (h5 : tbl 0 f = some fi) (h6 : fn.body.bind (compC C) = some (erase fi.body)) (h7 : mapO (compRes Tryz.prog) fn.results.toList = some fi.res) : FnOK f g := by
  cases hb : fn.body with
  | none => rw [hb] at h6; cases h6
  | some c => rw [hb] at h6; exact ⟨C, fn, c, fi, h1, link_of C h1 h2, h3, Nat.le_of_eq h4, hb, h5, h6, h7⟩
noncomputable def cc3 : CC := { P := Tryz.prog, toS := toS, inl := fun n => List.elem n ([] : List Nat), dyn := false, N := Tryz.f3.ntmps }
theorem ok3 : FnOK 1 3 := fn_mk cc3 Tryz.f3 c_law04_RoundExact rfl rfl Tryz.func3 rfl rfl (by kernel_rfl) (by kernel_rfl)
noncomputable def cc4 : CC := { P := Tryz.prog, toS := toS, inl := fun n => List.elem n ([] : List Nat), dyn := false, N := Tryz.f4.ntmps }
theorem ok4 : FnOK 2 4 := fn_mk cc4 Tryz.f4 c_law04_RoundQuotients rfl rfl Tryz.func4 rfl rfl (by kernel_rfl) (by kernel_rfl)
noncomputable def cc5 : CC := { P := Tryz.prog, toS := toS, inl := fun n => List.elem n ([] : List Nat), dyn := false, N := Tryz.f5.ntmps }
theorem ok5 : FnOK 3 5 := fn_mk cc5 Tryz.f5 c_law04_RoundRoots rfl rfl Tryz.func5 rfl rfl (by kernel_rfl) (by kernel_rfl)
noncomputable def cc6 : CC := { P := Tryz.prog, toS := toS, inl := fun n => List.elem n ([] : List Nat), dyn := false, N := Tryz.f6.ntmps }
theorem ok6 : FnOK 4 6 := fn_mk cc6 Tryz.f6 c_law04_long rfl rfl Tryz.func6 rfl rfl (by kernel_rfl) (by kernel_rfl)
noncomputable def cc7 : CC := { P := Tryz.prog, toS := toS, inl := fun n => List.elem n ([] : List Nat), dyn := false, N := Tryz.f7.ntmps }
theorem ok7 : FnOK 5 7 := fn_mk cc7 Tryz.f7 c_law04_known rfl rfl Tryz.func7 rfl rfl (by kernel_rfl) (by kernel_rfl)
noncomputable def cc8 : CC := { P := Tryz.prog, toS := toS, inl := fun n => List.elem n ([] : List Nat), dyn := false, N := Tryz.f8.ntmps }
theorem ok8 : FnOK 6 8 := fn_mk cc8 Tryz.f8 c_law04_lent rfl rfl Tryz.func8 rfl rfl (by kernel_rfl) (by kernel_rfl)
noncomputable def cc9 : CC := { P := Tryz.prog, toS := toS, inl := fun n => List.elem n ([] : List Nat), dyn := false, N := Tryz.f9.ntmps }
theorem ok9 : FnOK 7 9 := fn_mk cc9 Tryz.f9 c_round_Round rfl rfl Tryz.func9 rfl rfl (by kernel_rfl) (by kernel_rfl)
noncomputable def cc10 : CC := { P := Tryz.prog, toS := toS, inl := fun n => List.elem n ([] : List Nat), dyn := false, N := Tryz.f10.ntmps }
theorem ok10 : FnOK 8 10 := fn_mk cc10 Tryz.f10 c_round_Over rfl rfl Tryz.func10 rfl rfl (by kernel_rfl) (by kernel_rfl)
noncomputable def cc11 : CC := { P := Tryz.prog, toS := toS, inl := fun n => List.elem n ([] : List Nat), dyn := false, N := Tryz.f11.ntmps }
theorem ok11 : FnOK 9 11 := fn_mk cc11 Tryz.f11 c_law04_opens rfl rfl Tryz.func11 rfl rfl (by kernel_rfl) (by kernel_rfl)
noncomputable def cc12 : CC := { P := Tryz.prog, toS := toS, inl := fun n => List.elem n ([] : List Nat), dyn := false, N := Tryz.f12.ntmps }
theorem ok12 : FnOK 10 12 := fn_mk cc12 Tryz.f12 c_ref04_Over rfl rfl Tryz.func12 rfl rfl (by kernel_rfl) (by kernel_rfl)
noncomputable def cc13 : CC := { P := Tryz.prog, toS := toS, inl := fun n => List.elem n ([] : List Nat), dyn := false, N := Tryz.f13.ntmps }
theorem ok13 : FnOK 11 13 := fn_mk cc13 Tryz.f13 c_law04_refused rfl rfl Tryz.func13 rfl rfl (by kernel_rfl) (by kernel_rfl)
noncomputable def cc14 : CC := { P := Tryz.prog, toS := toS, inl := fun n => List.elem n ([] : List Nat), dyn := false, N := Tryz.f14.ntmps }
theorem ok14 : FnOK 12 14 := fn_mk cc14 Tryz.f14 c_ref04_Round rfl rfl Tryz.func14 rfl rfl (by kernel_rfl) (by kernel_rfl)
noncomputable def cc15 : CC := { P := Tryz.prog, toS := toS, inl := fun n => List.elem n ([] : List Nat), dyn := false, N := Tryz.f15.ntmps }
theorem ok15 : FnOK 13 15 := fn_mk cc15 Tryz.f15 c_law04_told rfl rfl Tryz.func15 rfl rfl (by kernel_rfl) (by kernel_rfl)
noncomputable def cc16 : CC := { P := Tryz.prog, toS := toS, inl := fun n => List.elem n ([] : List Nat), dyn := false, N := Tryz.f16.ntmps }
theorem ok16 : FnOK 14 16 := fn_mk cc16 Tryz.f16 c_ref02_Same rfl rfl Tryz.func16 rfl rfl (by kernel_rfl) (by kernel_rfl)
noncomputable def cc17 : CC := { P := Tryz.prog, toS := toS, inl := fun n => List.elem n ([] : List Nat), dyn := false, N := Tryz.f17.ntmps }
theorem ok17 : FnOK 15 17 := fn_mk cc17 Tryz.f17 c_round_Quo rfl rfl Tryz.func17 rfl rfl (by kernel_rfl) (by kernel_rfl)
noncomputable def cc18 : CC := { P := Tryz.prog, toS := toS, inl := fun n => List.elem n ([] : List Nat), dyn := false, N := Tryz.f18.ntmps }
theorem ok18 : FnOK 16 18 := fn_mk cc18 Tryz.f18 c_ref02_Sign rfl rfl Tryz.func18 rfl rfl (by kernel_rfl) (by kernel_rfl)
noncomputable def cc19 : CC := { P := Tryz.prog, toS := toS, inl := fun n => List.elem n ([] : List Nat), dyn := false, N := Tryz.f19.ntmps }
theorem ok19 : FnOK 17 19 := fn_mk cc19 Tryz.f19 c_ref04_Quo rfl rfl Tryz.func19 rfl rfl (by kernel_rfl) (by kernel_rfl)
noncomputable def cc20 : CC := { P := Tryz.prog, toS := toS, inl := fun n => List.elem n ([] : List Nat), dyn := false, N := Tryz.f20.ntmps }
theorem ok20 : FnOK 18 20 := fn_mk cc20 Tryz.f20 c_round_Root rfl rfl Tryz.func20 rfl rfl (by kernel_rfl) (by kernel_rfl)
noncomputable def cc21 : CC := { P := Tryz.prog, toS := toS, inl := fun n => List.elem n ([] : List Nat), dyn := false, N := Tryz.f21.ntmps }
theorem ok21 : FnOK 19 21 := fn_mk cc21 Tryz.f21 c_ref04_Root rfl rfl Tryz.func21 rfl rfl (by kernel_rfl) (by kernel_rfl)
noncomputable def cc22 : CC := { P := Tryz.prog, toS := toS, inl := fun n => List.elem n ([] : List Nat), dyn := false, N := Tryz.f22.ntmps }
theorem ok22 : FnOK 20 22 := fn_mk cc22 Tryz.f22 c_ref02_Int rfl rfl Tryz.func22 rfl rfl (by kernel_rfl) (by kernel_rfl)
noncomputable def cc23 : CC := { P := Tryz.prog, toS := toS, inl := fun n => List.elem n ([] : List Nat), dyn := false, N := Tryz.f23.ntmps }
theorem ok23 : FnOK 21 23 := fn_mk cc23 Tryz.f23 c_round_open rfl rfl Tryz.func23 rfl rfl (by kernel_rfl) (by kernel_rfl)
noncomputable def cc24 : CC := { P := Tryz.prog, toS := toS, inl := fun n => List.elem n ([] : List Nat), dyn := false, N := Tryz.f24.ntmps }
theorem ok24 : FnOK 22 24 := fn_mk cc24 Tryz.f24 c_dyad_Sign rfl rfl Tryz.func24 rfl rfl (by kernel_rfl) (by kernel_rfl)
noncomputable def cc25 : CC := { P := Tryz.prog, toS := toS, inl := fun n => List.elem n ([] : List Nat), dyn := false, N := Tryz.f25.ntmps }
theorem ok25 : FnOK 23 25 := fn_mk cc25 Tryz.f25 c_round_partOf rfl rfl Tryz.func25 rfl rfl (by kernel_rfl) (by kernel_rfl)
noncomputable def cc26 : CC := { P := Tryz.prog, toS := toS, inl := fun n => List.elem n ([] : List Nat), dyn := false, N := Tryz.f26.ntmps }
theorem ok26 : FnOK 24 26 := fn_mk cc26 Tryz.f26 c_round_part_word rfl rfl Tryz.func26 rfl rfl (by kernel_rfl) (by kernel_rfl)
noncomputable def cc27 : CC := { P := Tryz.prog, toS := toS, inl := fun n => List.elem n ([] : List Nat), dyn := false, N := Tryz.f27.ntmps }
theorem ok27 : FnOK 25 27 := fn_mk cc27 Tryz.f27 c_word_Greatest rfl rfl Tryz.func27 rfl rfl (by kernel_rfl) (by kernel_rfl)
noncomputable def cc28 : CC := { P := Tryz.prog, toS := toS, inl := fun n => List.elem n ([] : List Nat), dyn := false, N := Tryz.f28.ntmps }
theorem ok28 : FnOK 26 28 := fn_mk cc28 Tryz.f28 c_word_Inf rfl rfl Tryz.func28 rfl rfl (by kernel_rfl) (by kernel_rfl)
noncomputable def cc29 : CC := { P := Tryz.prog, toS := toS, inl := fun n => List.elem n ([] : List Nat), dyn := false, N := Tryz.f29.ntmps }
theorem ok29 : FnOK 27 29 := fn_mk cc29 Tryz.f29 c_ref03_Is rfl rfl Tryz.func29 rfl rfl (by kernel_rfl) (by kernel_rfl)
noncomputable def cc30 : CC := { P := Tryz.prog, toS := toS, inl := fun n => List.elem n ([] : List Nat), dyn := false, N := Tryz.f30.ntmps }
theorem ok30 : FnOK 28 30 := fn_mk cc30 Tryz.f30 c_ref04_Is rfl rfl Tryz.func30 rfl rfl (by kernel_rfl) (by kernel_rfl)
noncomputable def cc31 : CC := { P := Tryz.prog, toS := toS, inl := fun n => List.elem n ([] : List Nat), dyn := false, N := Tryz.f31.ntmps }
theorem ok31 : FnOK 29 31 := fn_mk cc31 Tryz.f31 c_ref02_May rfl rfl Tryz.func31 rfl rfl (by kernel_rfl) (by kernel_rfl)
noncomputable def cc32 : CC := { P := Tryz.prog, toS := toS, inl := fun n => List.elem n ([] : List Nat), dyn := false, N := Tryz.f32.ntmps }
theorem ok32 : FnOK 30 32 := fn_mk cc32 Tryz.f32 c_ref03_Inf rfl rfl Tryz.func32 rfl rfl (by kernel_rfl) (by kernel_rfl)
noncomputable def cc33 : CC := { P := Tryz.prog, toS := toS, inl := fun n => List.elem n ([] : List Nat), dyn := false, N := Tryz.f33.ntmps }
theorem ok33 : FnOK 31 33 := fn_mk cc33 Tryz.f33 c_ref03_Frac rfl rfl Tryz.func33 rfl rfl (by kernel_rfl) (by kernel_rfl)
noncomputable def cc34 : CC := { P := Tryz.prog, toS := toS, inl := fun n => List.elem n ([] : List Nat), dyn := false, N := Tryz.f34.ntmps }
theorem ok34 : FnOK 32 34 := fn_mk cc34 Tryz.f34 c_ref02_Top rfl rfl Tryz.func34 rfl rfl (by kernel_rfl) (by kernel_rfl)
noncomputable def cc35 : CC := { P := Tryz.prog, toS := toS, inl := fun n => List.elem n ([] : List Nat), dyn := false, N := Tryz.f35.ntmps }
theorem ok35 : FnOK 33 35 := fn_mk cc35 Tryz.f35 c_ref03_Low rfl rfl Tryz.func35 rfl rfl (by kernel_rfl) (by kernel_rfl)
noncomputable def cc36 : CC := { P := Tryz.prog, toS := toS, inl := fun n => List.elem n ([] : List Nat), dyn := false, N := Tryz.f36.ntmps }
theorem ok36 : FnOK 34 36 := fn_mk cc36 Tryz.f36 c_ref04_Taken rfl rfl Tryz.func36 rfl rfl (by kernel_rfl) (by kernel_rfl)
noncomputable def cc37 : CC := { P := Tryz.prog, toS := toS, inl := fun n => List.elem n ([] : List Nat), dyn := false, N := Tryz.f37.ntmps }
theorem ok37 : FnOK 35 37 := fn_mk cc37 Tryz.f37 c_ref03_Wide rfl rfl Tryz.func37 rfl rfl (by kernel_rfl) (by kernel_rfl)
noncomputable def cc38 : CC := { P := Tryz.prog, toS := toS, inl := fun n => List.elem n ([] : List Nat), dyn := false, N := Tryz.f38.ntmps }
theorem ok38 : FnOK 36 38 := fn_mk cc38 Tryz.f38 c_ref03_Of rfl rfl Tryz.func38 rfl rfl (by kernel_rfl) (by kernel_rfl)
noncomputable def cc39 : CC := { P := Tryz.prog, toS := toS, inl := fun n => List.elem n ([] : List Nat), dyn := false, N := Tryz.f39.ntmps }
theorem ok39 : FnOK 37 39 := fn_mk cc39 Tryz.f39 c_ref02_Abs rfl rfl Tryz.func39 rfl rfl (by kernel_rfl) (by kernel_rfl)
noncomputable def cc40 : CC := { P := Tryz.prog, toS := toS, inl := fun n => List.elem n ([] : List Nat), dyn := false, N := Tryz.f40.ntmps }
theorem ok40 : FnOK 38 40 := fn_mk cc40 Tryz.f40 c_ref03_Signed rfl rfl Tryz.func40 rfl rfl (by kernel_rfl) (by kernel_rfl)
noncomputable def cc41 : CC := { P := Tryz.prog, toS := toS, inl := fun n => List.elem n ([] : List Nat), dyn := false, N := Tryz.f41.ntmps }
theorem ok41 : FnOK 39 41 := fn_mk cc41 Tryz.f41 c_ref01_Same rfl rfl Tryz.func41 rfl rfl (by kernel_rfl) (by kernel_rfl)
noncomputable def cc42 : CC := { P := Tryz.prog, toS := toS, inl := fun n => List.elem n ([] : List Nat), dyn := false, N := Tryz.f42.ntmps }
theorem ok42 : FnOK 40 42 := fn_mk cc42 Tryz.f42 c_dyad_Quo rfl rfl Tryz.func42 rfl rfl (by kernel_rfl) (by kernel_rfl)
noncomputable def cc43 : CC := { P := Tryz.prog, toS := toS, inl := fun n => List.elem n ([] : List Nat), dyn := false, N := Tryz.f43.ntmps }
theorem ok43 : FnOK 41 43 := fn_mk cc43 Tryz.f43 c_ref02_Quo rfl rfl Tryz.func43 rfl rfl (by kernel_rfl) (by kernel_rfl)
noncomputable def cc44 : CC := { P := Tryz.prog, toS := toS, inl := fun n => List.elem n ([] : List Nat), dyn := false, N := Tryz.f44.ntmps }
theorem ok44 : FnOK 42 44 := fn_mk cc44 Tryz.f44 c_ref04_Beyond rfl rfl Tryz.func44 rfl rfl (by kernel_rfl) (by kernel_rfl)
noncomputable def cc45 : CC := { P := Tryz.prog, toS := toS, inl := fun n => List.elem n ([] : List Nat), dyn := false, N := Tryz.f45.ntmps }
theorem ok45 : FnOK 43 45 := fn_mk cc45 Tryz.f45 c_dyad_Root rfl rfl Tryz.func45 rfl rfl (by kernel_rfl) (by kernel_rfl)
noncomputable def cc46 : CC := { P := Tryz.prog, toS := toS, inl := fun n => List.elem n ([] : List Nat), dyn := false, N := Tryz.f46.ntmps }
theorem ok46 : FnOK 44 46 := fn_mk cc46 Tryz.f46 c_ref02_Root rfl rfl Tryz.func46 rfl rfl (by kernel_rfl) (by kernel_rfl)
noncomputable def cc47 : CC := { P := Tryz.prog, toS := toS, inl := fun n => List.elem n ([] : List Nat), dyn := false, N := Tryz.f47.ntmps }
theorem ok47 : FnOK 45 47 := fn_mk cc47 Tryz.f47 c_ref02_Form rfl rfl Tryz.func47 rfl rfl (by kernel_rfl) (by kernel_rfl)
noncomputable def cc48 : CC := { P := Tryz.prog, toS := toS, inl := fun n => List.elem n ([] : List Nat), dyn := false, N := Tryz.f48.ntmps }
theorem ok48 : FnOK 46 48 := fn_mk cc48 Tryz.f48 c_ref01_Of rfl rfl Tryz.func48 rfl rfl (by kernel_rfl) (by kernel_rfl)
noncomputable def cc49 : CC := { P := Tryz.prog, toS := toS, inl := fun n => List.elem n ([] : List Nat), dyn := false, N := Tryz.f49.ntmps }
theorem ok49 : FnOK 47 49 := fn_mk cc49 Tryz.f49 c_round_formOf rfl rfl Tryz.func49 rfl rfl (by kernel_rfl) (by kernel_rfl)
noncomputable def cc50 : CC := { P := Tryz.prog, toS := toS, inl := fun n => List.elem n ([] : List Nat), dyn := false, N := Tryz.f50.ntmps }
theorem ok50 : FnOK 48 50 := fn_mk cc50 Tryz.f50 c_dyad_May rfl rfl Tryz.func50 rfl rfl (by kernel_rfl) (by kernel_rfl)
noncomputable def cc51 : CC := { P := Tryz.prog, toS := toS, inl := fun n => List.elem n ([] : List Nat), dyn := false, N := Tryz.f51.ntmps }
theorem ok51 : FnOK 49 51 := fn_mk cc51 Tryz.f51 c_nat_Len rfl rfl Tryz.func51 rfl rfl (by kernel_rfl) (by kernel_rfl)
noncomputable def cc52 : CC := { P := Tryz.prog, toS := toS, inl := fun n => List.elem n ([] : List Nat), dyn := false, N := Tryz.f52.ntmps }
theorem ok52 : FnOK 50 52 := fn_mk cc52 Tryz.f52 c_nat_Shift rfl rfl Tryz.func52 rfl rfl (by kernel_rfl) (by kernel_rfl)
noncomputable def cc53 : CC := { P := Tryz.prog, toS := toS, inl := fun n => List.elem n ([] : List Nat), dyn := false, N := Tryz.f53.ntmps }
theorem ok53 : FnOK 51 53 := fn_mk cc53 Tryz.f53 c_nat_Num rfl rfl Tryz.func53 rfl rfl (by kernel_rfl) (by kernel_rfl)
noncomputable def cc54 : CC := { P := Tryz.prog, toS := toS, inl := fun n => List.elem n ([] : List Nat), dyn := false, N := Tryz.f54.ntmps }
theorem ok54 : FnOK 52 54 := fn_mk cc54 Tryz.f54 c_round_part_units rfl rfl Tryz.func54 rfl rfl (by kernel_rfl) (by kernel_rfl)
noncomputable def cc55 : CC := { P := Tryz.prog, toS := toS, inl := fun n => List.elem n ([] : List Nat), dyn := false, N := Tryz.f55.ntmps }
theorem ok55 : FnOK 53 55 := fn_mk cc55 Tryz.f55 c_bits_Len64 rfl rfl Tryz.func55 rfl rfl (by kernel_rfl) (by kernel_rfl)
noncomputable def cc56 : CC := { P := Tryz.prog, toS := toS, inl := fun n => List.elem n ([] : List Nat), dyn := false, N := Tryz.f56.ntmps }
theorem ok56 : FnOK 54 56 := fn_mk cc56 Tryz.f56 c_dyad_Make rfl rfl Tryz.func56 rfl rfl (by kernel_rfl) (by kernel_rfl)
noncomputable def cc57 : CC := { P := Tryz.prog, toS := toS, inl := fun n => List.elem n ([] : List Nat), dyn := false, N := Tryz.f57.ntmps }
theorem ok57 : FnOK 55 57 := fn_mk cc57 Tryz.f57 c_nat_Of rfl rfl Tryz.func57 rfl rfl (by kernel_rfl) (by kernel_rfl)
noncomputable def cc58 : CC := { P := Tryz.prog, toS := toS, inl := fun n => List.elem n ([] : List Nat), dyn := false, N := Tryz.f58.ntmps }
theorem ok58 : FnOK 56 58 := fn_mk cc58 Tryz.f58 c_word_Of rfl rfl Tryz.func58 rfl rfl (by kernel_rfl) (by kernel_rfl)
noncomputable def cc59 : CC := { P := Tryz.prog, toS := toS, inl := fun n => List.elem n ([] : List Nat), dyn := false, N := Tryz.f59.ntmps }
theorem ok59 : FnOK 57 59 := fn_mk cc59 Tryz.f59 c_word_Zero rfl rfl Tryz.func59 rfl rfl (by kernel_rfl) (by kernel_rfl)
noncomputable def cc60 : CC := { P := Tryz.prog, toS := toS, inl := fun n => List.elem n ([] : List Nat), dyn := false, N := Tryz.f60.ntmps }
theorem ok60 : FnOK 58 60 := fn_mk cc60 Tryz.f60 c_word_named rfl rfl Tryz.func60 rfl rfl (by kernel_rfl) (by kernel_rfl)
noncomputable def cc61 : CC := { P := Tryz.prog, toS := toS, inl := fun n => List.elem n ([] : List Nat), dyn := false, N := Tryz.f61.ntmps }
theorem ok61 : FnOK 59 61 := fn_mk cc61 Tryz.f61 c_word_Greatest_1 rfl rfl Tryz.func61 rfl rfl (by kernel_rfl) (by kernel_rfl)
noncomputable def cc62 : CC := { P := Tryz.prog, toS := toS, inl := fun n => List.elem n ([] : List Nat), dyn := false, N := Tryz.f62.ntmps }
theorem ok62 : FnOK 60 62 := fn_mk cc62 Tryz.f62 c_word_shape_inf rfl rfl Tryz.func62 rfl rfl (by kernel_rfl) (by kernel_rfl)
noncomputable def cc63 : CC := { P := Tryz.prog, toS := toS, inl := fun n => List.elem n ([] : List Nat), dyn := false, N := Tryz.f63.ntmps }
theorem ok63 : FnOK 61 63 := fn_mk cc63 Tryz.f63 c_ref01_May rfl rfl Tryz.func63 rfl rfl (by kernel_rfl) (by kernel_rfl)
noncomputable def cc64 : CC := { P := Tryz.prog, toS := toS, inl := fun n => List.elem n ([] : List Nat), dyn := false, N := Tryz.f64.ntmps }
theorem ok64 : FnOK 62 64 := fn_mk cc64 Tryz.f64 c_ref03_Join rfl rfl Tryz.func64 rfl rfl (by kernel_rfl) (by kernel_rfl)
noncomputable def cc65 : CC := { P := Tryz.prog, toS := toS, inl := fun n => List.elem n ([] : List Nat), dyn := false, N := Tryz.f65.ntmps }
theorem ok65 : FnOK 63 65 := fn_mk cc65 Tryz.f65 c_ref03_Most rfl rfl Tryz.func65 rfl rfl (by kernel_rfl) (by kernel_rfl)
noncomputable def cc66 : CC := { P := Tryz.prog, toS := toS, inl := fun n => List.elem n ([] : List Nat), dyn := false, N := Tryz.f66.ntmps }
theorem ok66 : FnOK 64 66 := fn_mk cc66 Tryz.f66 c_ref01_Len rfl rfl Tryz.func66 rfl rfl (by kernel_rfl) (by kernel_rfl)
noncomputable def cc67 : CC := { P := Tryz.prog, toS := toS, inl := fun n => List.elem n ([] : List Nat), dyn := false, N := Tryz.f67.ntmps }
theorem ok67 : FnOK 65 67 := fn_mk cc67 Tryz.f67 c_ref02_Shift rfl rfl Tryz.func67 rfl rfl (by kernel_rfl) (by kernel_rfl)
noncomputable def cc68 : CC := { P := Tryz.prog, toS := toS, inl := fun n => List.elem n ([] : List Nat), dyn := false, N := Tryz.f68.ntmps }
theorem ok68 : FnOK 66 68 := fn_mk cc68 Tryz.f68 c_ref02_Floor rfl rfl Tryz.func68 rfl rfl (by kernel_rfl) (by kernel_rfl)
noncomputable def cc69 : CC := { P := Tryz.prog, toS := toS, inl := fun n => List.elem n ([] : List Nat), dyn := false, N := Tryz.f69.ntmps }
theorem ok69 : FnOK 67 69 := fn_mk cc69 Tryz.f69 c_ref02_Add rfl rfl Tryz.func69 rfl rfl (by kernel_rfl) (by kernel_rfl)
noncomputable def cc70 : CC := { P := Tryz.prog, toS := toS, inl := fun n => List.elem n ([] : List Nat), dyn := false, N := Tryz.f70.ntmps }
theorem ok70 : FnOK 68 70 := fn_mk cc70 Tryz.f70 c_ref02_Two rfl rfl Tryz.func70 rfl rfl (by kernel_rfl) (by kernel_rfl)
noncomputable def cc71 : CC := { P := Tryz.prog, toS := toS, inl := fun n => List.elem n ([] : List Nat), dyn := false, N := Tryz.f71.ntmps }
theorem ok71 : FnOK 69 71 := fn_mk cc71 Tryz.f71 c_ref02_Cmp rfl rfl Tryz.func71 rfl rfl (by kernel_rfl) (by kernel_rfl)
noncomputable def cc72 : CC := { P := Tryz.prog, toS := toS, inl := fun n => List.elem n ([] : List Nat), dyn := false, N := Tryz.f72.ntmps }
theorem ok72 : FnOK 70 72 := fn_mk cc72 Tryz.f72 c_ref02_Sub rfl rfl Tryz.func72 rfl rfl (by kernel_rfl) (by kernel_rfl)
noncomputable def cc73 : CC := { P := Tryz.prog, toS := toS, inl := fun n => List.elem n ([] : List Nat), dyn := false, N := Tryz.f73.ntmps }
theorem ok73 : FnOK 71 73 := fn_mk cc73 Tryz.f73 c_ref04_half rfl rfl Tryz.func73 rfl rfl (by kernel_rfl) (by kernel_rfl)
noncomputable def cc74 : CC := { P := Tryz.prog, toS := toS, inl := fun n => List.elem n ([] : List Nat), dyn := false, N := Tryz.f74.ntmps }
theorem ok74 : FnOK 72 74 := fn_mk cc74 Tryz.f74 c_ref01_Up rfl rfl Tryz.func74 rfl rfl (by kernel_rfl) (by kernel_rfl)
noncomputable def cc75 : CC := { P := Tryz.prog, toS := toS, inl := fun n => List.elem n ([] : List Nat), dyn := false, N := Tryz.f75.ntmps }
theorem ok75 : FnOK 73 75 := fn_mk cc75 Tryz.f75 c_ref03_Sign rfl rfl Tryz.func75 rfl rfl (by kernel_rfl) (by kernel_rfl)
noncomputable def cc76 : CC := { P := Tryz.prog, toS := toS, inl := fun n => List.elem n ([] : List Nat), dyn := false, N := Tryz.f76.ntmps }
theorem ok76 : FnOK 74 76 := fn_mk cc76 Tryz.f76 c_dyad_both rfl rfl Tryz.func76 rfl rfl (by kernel_rfl) (by kernel_rfl)
noncomputable def cc77 : CC := { P := Tryz.prog, toS := toS, inl := fun n => List.elem n ([] : List Nat), dyn := false, N := Tryz.f77.ntmps }
theorem ok77 : FnOK 75 77 := fn_mk cc77 Tryz.f77 c_dyad_asked rfl rfl Tryz.func77 rfl rfl (by kernel_rfl) (by kernel_rfl)
noncomputable def cc78 : CC := { P := Tryz.prog, toS := toS, inl := fun n => List.elem n ([] : List Nat), dyn := false, N := Tryz.f78.ntmps }
theorem ok78 : FnOK 76 78 := fn_mk cc78 Tryz.f78 c_dyad_wide rfl rfl Tryz.func78 rfl rfl (by kernel_rfl) (by kernel_rfl)
noncomputable def cc79 : CC := { P := Tryz.prog, toS := toS, inl := fun n => List.elem n ([] : List Nat), dyn := false, N := Tryz.f79.ntmps }
theorem ok79 : FnOK 77 79 := fn_mk cc79 Tryz.f79 c_nat_QuoRem rfl rfl Tryz.func79 rfl rfl (by kernel_rfl) (by kernel_rfl)
noncomputable def cc80 : CC := { P := Tryz.prog, toS := toS, inl := fun n => List.elem n ([] : List Nat), dyn := false, N := Tryz.f80.ntmps }
theorem ok80 : FnOK 78 80 := fn_mk cc80 Tryz.f80 c_dyad_made rfl rfl Tryz.func80 rfl rfl (by kernel_rfl) (by kernel_rfl)
noncomputable def cc81 : CC := { P := Tryz.prog, toS := toS, inl := fun n => List.elem n ([] : List Nat), dyn := false, N := Tryz.f81.ntmps }
theorem ok81 : FnOK 79 81 := fn_mk cc81 Tryz.f81 c_ref01_QuoRem rfl rfl Tryz.func81 rfl rfl (by kernel_rfl) (by kernel_rfl)
noncomputable def cc82 : CC := { P := Tryz.prog, toS := toS, inl := fun n => List.elem n ([] : List Nat), dyn := false, N := Tryz.f82.ntmps }
theorem ok82 : FnOK 80 82 := fn_mk cc82 Tryz.f82 c_ref02_Cut rfl rfl Tryz.func82 rfl rfl (by kernel_rfl) (by kernel_rfl)
noncomputable def cc83 : CC := { P := Tryz.prog, toS := toS, inl := fun n => List.elem n ([] : List Nat), dyn := false, N := Tryz.f83.ntmps }
theorem ok83 : FnOK 81 83 := fn_mk cc83 Tryz.f83 c_nat_Root rfl rfl Tryz.func83 rfl rfl (by kernel_rfl) (by kernel_rfl)
noncomputable def cc84 : CC := { P := Tryz.prog, toS := toS, inl := fun n => List.elem n ([] : List Nat), dyn := false, N := Tryz.f84.ntmps }
theorem ok84 : FnOK 82 84 := fn_mk cc84 Tryz.f84 c_ref01_Root rfl rfl Tryz.func84 rfl rfl (by kernel_rfl) (by kernel_rfl)
noncomputable def cc85 : CC := { P := Tryz.prog, toS := toS, inl := fun n => List.elem n ([] : List Nat), dyn := false, N := Tryz.f85.ntmps }
theorem ok85 : FnOK 83 85 := fn_mk cc85 Tryz.f85 c_ref01_Low rfl rfl Tryz.func85 rfl rfl (by kernel_rfl) (by kernel_rfl)
noncomputable def cc86 : CC := { P := Tryz.prog, toS := toS, inl := fun n => List.elem n ([] : List Nat), dyn := false, N := Tryz.f86.ntmps }
theorem ok86 : FnOK 84 86 := fn_mk cc86 Tryz.f86 c_ref01_Down rfl rfl Tryz.func86 rfl rfl (by kernel_rfl) (by kernel_rfl)
noncomputable def cc87 : CC := { P := Tryz.prog, toS := toS, inl := fun n => List.elem n ([] : List Nat), dyn := false, N := Tryz.f87.ntmps }
theorem ok87 : FnOK 85 87 := fn_mk cc87 Tryz.f87 c_ref01_Trim rfl rfl Tryz.func87 rfl rfl (by kernel_rfl) (by kernel_rfl)
noncomputable def cc88 : CC := { P := Tryz.prog, toS := toS, inl := fun n => List.elem n ([] : List Nat), dyn := false, N := Tryz.f88.ntmps }
theorem ok88 : FnOK 86 88 := fn_mk cc88 Tryz.f88 c_nat_May rfl rfl Tryz.func88 rfl rfl (by kernel_rfl) (by kernel_rfl)
noncomputable def cc89 : CC := { P := Tryz.prog, toS := toS, inl := fun n => List.elem n ([] : List Nat), dyn := false, N := Tryz.f89.ntmps }
theorem ok89 : FnOK 87 89 := fn_mk cc89 Tryz.f89 c_dyad_inside rfl rfl Tryz.func89 rfl rfl (by kernel_rfl) (by kernel_rfl)
noncomputable def cc90 : CC := { P := Tryz.prog, toS := toS, inl := fun n => List.elem n ([] : List Nat), dyn := false, N := Tryz.f90.ntmps }
theorem ok90 : FnOK 88 90 := fn_mk cc90 Tryz.f90 c_bits_Len32 rfl rfl Tryz.func90 rfl rfl (by kernel_rfl) (by kernel_rfl)
noncomputable def cc91 : CC := { P := Tryz.prog, toS := toS, inl := fun n => List.elem n ([] : List Nat), dyn := false, N := Tryz.f91.ntmps }
theorem ok91 : FnOK 89 91 := fn_mk cc91 Tryz.f91 c_nat_down rfl rfl Tryz.func91 rfl rfl (by kernel_rfl) (by kernel_rfl)
noncomputable def cc92 : CC := { P := Tryz.prog, toS := toS, inl := fun n => List.elem n ([] : List Nat), dyn := false, N := Tryz.f92.ntmps }
theorem ok92 : FnOK 90 92 := fn_mk cc92 Tryz.f92 c_nat_Low rfl rfl Tryz.func92 rfl rfl (by kernel_rfl) (by kernel_rfl)
noncomputable def cc93 : CC := { P := Tryz.prog, toS := toS, inl := fun n => List.elem n ([94] : List Nat), dyn := false, N := Tryz.f93.ntmps }
theorem ok93 : FnOK 91 93 := fn_mk cc93 Tryz.f93 c_nat_up rfl rfl Tryz.func93 rfl rfl (by kernel_rfl) (by kernel_rfl)
noncomputable def cc94 : CC := { P := Tryz.prog, toS := toS, inl := fun n => List.elem n ([] : List Nat), dyn := false, N := Tryz.f94.ntmps }
theorem ok94 : FnOK 92 94 := fn_mk cc94 Tryz.f94 c_round_btoi rfl rfl Tryz.func94 rfl rfl (by kernel_rfl) (by kernel_rfl)
noncomputable def cc95 : CC := { P := Tryz.prog, toS := toS, inl := fun n => List.elem n ([] : List Nat), dyn := false, N := Tryz.f95.ntmps }
theorem ok95 : FnOK 93 95 := fn_mk cc95 Tryz.f95 c_round_up rfl rfl Tryz.func95 rfl rfl (by kernel_rfl) (by kernel_rfl)
noncomputable def cc96 : CC := { P := Tryz.prog, toS := toS, inl := fun n => List.elem n ([] : List Nat), dyn := false, N := Tryz.f96.ntmps }
theorem ok96 : FnOK 94 96 := fn_mk cc96 Tryz.f96 c_nat_trim rfl rfl Tryz.func96 rfl rfl (by kernel_rfl) (by kernel_rfl)
noncomputable def cc97 : CC := { P := Tryz.prog, toS := toS, inl := fun n => List.elem n ([] : List Nat), dyn := false, N := Tryz.f97.ntmps }
theorem ok97 : FnOK 95 97 := fn_mk cc97 Tryz.f97 c_word_open rfl rfl Tryz.func97 rfl rfl (by kernel_rfl) (by kernel_rfl)
noncomputable def cc98 : CC := { P := Tryz.prog, toS := toS, inl := fun n => List.elem n ([] : List Nat), dyn := false, N := Tryz.f98.ntmps }
theorem ok98 : FnOK 96 98 := fn_mk cc98 Tryz.f98 c_word_shape_low rfl rfl Tryz.func98 rfl rfl (by kernel_rfl) (by kernel_rfl)
noncomputable def cc99 : CC := { P := Tryz.prog, toS := toS, inl := fun n => List.elem n ([] : List Nat), dyn := false, N := Tryz.f99.ntmps }
theorem ok99 : FnOK 97 99 := fn_mk cc99 Tryz.f99 c_word_shape_join rfl rfl Tryz.func99 rfl rfl (by kernel_rfl) (by kernel_rfl)
noncomputable def cc100 : CC := { P := Tryz.prog, toS := toS, inl := fun n => List.elem n ([] : List Nat), dyn := false, N := Tryz.f100.ntmps }
theorem ok100 : FnOK 98 100 := fn_mk cc100 Tryz.f100 c_word_Zero_1 rfl rfl Tryz.func100 rfl rfl (by kernel_rfl) (by kernel_rfl)
noncomputable def cc101 : CC := { P := Tryz.prog, toS := toS, inl := fun n => List.elem n ([] : List Nat), dyn := false, N := Tryz.f101.ntmps }
theorem ok101 : FnOK 99 101 := fn_mk cc101 Tryz.f101 c_ref01_Add rfl rfl Tryz.func101 rfl rfl (by kernel_rfl) (by kernel_rfl)
noncomputable def cc102 : CC := { P := Tryz.prog, toS := toS, inl := fun n => List.elem n ([] : List Nat), dyn := false, N := Tryz.f102.ntmps }
theorem ok102 : FnOK 100 102 := fn_mk cc102 Tryz.f102 c_ref01_Cmp rfl rfl Tryz.func102 rfl rfl (by kernel_rfl) (by kernel_rfl)
noncomputable def cc103 : CC := { P := Tryz.prog, toS := toS, inl := fun n => List.elem n ([] : List Nat), dyn := false, N := Tryz.f103.ntmps }
theorem ok103 : FnOK 101 103 := fn_mk cc103 Tryz.f103 c_ref01_Sub rfl rfl Tryz.func103 rfl rfl (by kernel_rfl) (by kernel_rfl)
noncomputable def cc104 : CC := { P := Tryz.prog, toS := toS, inl := fun n => List.elem n ([] : List Nat), dyn := false, N := Tryz.f104.ntmps }
theorem ok104 : FnOK 102 104 := fn_mk cc104 Tryz.f104 c_ref02_Neg rfl rfl Tryz.func104 rfl rfl (by kernel_rfl) (by kernel_rfl)
noncomputable def cc105 : CC := { P := Tryz.prog, toS := toS, inl := fun n => List.elem n ([] : List Nat), dyn := false, N := Tryz.f105.ntmps }
theorem ok105 : FnOK 103 105 := fn_mk cc105 Tryz.f105 c_nat_Sub rfl rfl Tryz.func105 rfl rfl (by kernel_rfl) (by kernel_rfl)
noncomputable def cc106 : CC := { P := Tryz.prog, toS := toS, inl := fun n => List.elem n ([] : List Nat), dyn := false, N := Tryz.f106.ntmps }
theorem ok106 : FnOK 104 106 := fn_mk cc106 Tryz.f106 c_nat_Cmp rfl rfl Tryz.func106 rfl rfl (by kernel_rfl) (by kernel_rfl)
noncomputable def cc107 : CC := { P := Tryz.prog, toS := toS, inl := fun n => List.elem n ([] : List Nat), dyn := false, N := Tryz.f107.ntmps }
theorem ok107 : FnOK 105 107 := fn_mk cc107 Tryz.f107 c_nat_Add rfl rfl Tryz.func107 rfl rfl (by kernel_rfl) (by kernel_rfl)
noncomputable def cc108 : CC := { P := Tryz.prog, toS := toS, inl := fun n => List.elem n ([] : List Nat), dyn := false, N := Tryz.f108.ntmps }
theorem ok108 : FnOK 106 108 := fn_mk cc108 Tryz.f108 c_nat_all rfl rfl Tryz.func108 rfl rfl (by kernel_rfl) (by kernel_rfl)
noncomputable def cc109 : CC := { P := Tryz.prog, toS := toS, inl := fun n => List.elem n ([] : List Nat), dyn := false, N := Tryz.f109.ntmps }
theorem ok109 : FnOK 107 109 := fn_mk cc109 Tryz.f109 c_nat_cmp rfl rfl Tryz.func109 rfl rfl (by kernel_rfl) (by kernel_rfl)
noncomputable def cc110 : CC := { P := Tryz.prog, toS := toS, inl := fun n => List.elem n ([] : List Nat), dyn := false, N := Tryz.f110.ntmps }
theorem ok110 : FnOK 108 110 := fn_mk cc110 Tryz.f110 c_nat_small rfl rfl Tryz.func110 rfl rfl (by kernel_rfl) (by kernel_rfl)
noncomputable def cc111 : CC := { P := Tryz.prog, toS := toS, inl := fun n => List.elem n ([91, 120] : List Nat), dyn := false, N := Tryz.f111.ntmps }
theorem ok111 : FnOK 109 111 := fn_mk cc111 Tryz.f111 c_nat_long rfl rfl Tryz.func111 rfl rfl (by kernel_rfl) (by kernel_rfl)
noncomputable def cc112 : CC := { P := Tryz.prog, toS := toS, inl := fun n => List.elem n ([] : List Nat), dyn := false, N := Tryz.f112.ntmps }
theorem ok112 : FnOK 110 112 := fn_mk cc112 Tryz.f112 c_ref01_byDigit rfl rfl Tryz.func112 rfl rfl (by kernel_rfl) (by kernel_rfl)
noncomputable def cc113 : CC := { P := Tryz.prog, toS := toS, inl := fun n => List.elem n ([] : List Nat), dyn := false, N := Tryz.f113.ntmps }
theorem ok113 : FnOK 111 113 := fn_mk cc113 Tryz.f113 c_ref01_Bit rfl rfl Tryz.func113 rfl rfl (by kernel_rfl) (by kernel_rfl)
noncomputable def cc114 : CC := { P := Tryz.prog, toS := toS, inl := fun n => List.elem n ([] : List Nat), dyn := false, N := Tryz.f114.ntmps }
theorem ok114 : FnOK 112 114 := fn_mk cc114 Tryz.f114 c_bits_Add32 rfl rfl Tryz.func114 rfl rfl (by kernel_rfl) (by kernel_rfl)
noncomputable def cc115 : CC := { P := Tryz.prog, toS := toS, inl := fun n => List.elem n ([] : List Nat), dyn := false, N := Tryz.f115.ntmps }
theorem ok115 : FnOK 113 115 := fn_mk cc115 Tryz.f115 c_nat_mul rfl rfl Tryz.func115 rfl rfl (by kernel_rfl) (by kernel_rfl)
noncomputable def cc116 : CC := { P := Tryz.prog, toS := toS, inl := fun n => List.elem n ([] : List Nat), dyn := false, N := Tryz.f116.ntmps }
theorem ok116 : FnOK 114 116 := fn_mk cc116 Tryz.f116 (c_bits_TrailingZeros32 0) rfl rfl Tryz.func116 rfl rfl (by kernel_rfl) (by kernel_rfl)
noncomputable def cc117 : CC := { P := Tryz.prog, toS := toS, inl := fun n => List.elem n ([] : List Nat), dyn := false, N := Tryz.f117.ntmps }
theorem ok117 : FnOK 115 117 := fn_mk cc117 Tryz.f117 c_word_shapeOf rfl rfl Tryz.func117 rfl rfl (by kernel_rfl) (by kernel_rfl)
noncomputable def cc118 : CC := { P := Tryz.prog, toS := toS, inl := fun n => List.elem n ([] : List Nat), dyn := false, N := Tryz.f118.ntmps }
theorem ok118 : FnOK 116 118 := fn_mk cc118 Tryz.f118 c_nat_sub rfl rfl Tryz.func118 rfl rfl (by kernel_rfl) (by kernel_rfl)
noncomputable def cc119 : CC := { P := Tryz.prog, toS := toS, inl := fun n => List.elem n ([] : List Nat), dyn := false, N := Tryz.f119.ntmps }
theorem ok119 : FnOK 117 119 := fn_mk cc119 Tryz.f119 c_nat_bound rfl rfl Tryz.func119 rfl rfl (by kernel_rfl) (by kernel_rfl)
noncomputable def cc120 : CC := { P := Tryz.prog, toS := toS, inl := fun n => List.elem n ([] : List Nat), dyn := false, N := Tryz.f120.ntmps }
theorem ok120 : FnOK 118 120 := fn_mk cc120 Tryz.f120 c_bits_Div32 rfl rfl Tryz.func120 rfl rfl (by kernel_rfl) (by kernel_rfl)
noncomputable def cc121 : CC := { P := Tryz.prog, toS := toS, inl := fun n => List.elem n ([] : List Nat), dyn := false, N := Tryz.f121.ntmps }
theorem ok121 : FnOK 119 121 := fn_mk cc121 Tryz.f121 c_bits_LeadingZeros32 rfl rfl Tryz.func121 rfl rfl (by kernel_rfl) (by kernel_rfl)
noncomputable def cc122 : CC := { P := Tryz.prog, toS := toS, inl := fun n => List.elem n ([] : List Nat), dyn := false, N := Tryz.f122.ntmps }
theorem ok122 : FnOK 120 122 := fn_mk cc122 Tryz.f122 c_nat_step rfl rfl Tryz.func122 rfl rfl (by kernel_rfl) (by kernel_rfl)
noncomputable def cc123 : CC := { P := Tryz.prog, toS := toS, inl := fun n => List.elem n ([] : List Nat), dyn := false, N := Tryz.f123.ntmps }
theorem ok123 : FnOK 121 123 := fn_mk cc123 Tryz.f123 c_bits_Sub32 rfl rfl Tryz.func123 rfl rfl (by kernel_rfl) (by kernel_rfl)
theorem all_fn : AllP FnOK lnk := ⟨ok3, ok4, ok5, ok6, ok7, ok8, ok9, ok10, ok11, ok12, ok13, ok14, ok15, ok16, ok17, ok18, ok19, ok20, ok21, ok22, ok23, ok24, ok25, ok26, ok27, ok28, ok29, ok30, ok31, ok32, ok33, ok34, ok35, ok36, ok37, ok38, ok39, ok40, ok41, ok42, ok43, ok44, ok45, ok46, ok47, ok48, ok49, ok50, ok51, ok52, ok53, ok54, ok55, ok56, ok57, ok58, ok59, ok60, ok61, ok62, ok63, ok64, ok65, ok66, ok67, ok68, ok69, ok70, ok71, ok72, ok73, ok74, ok75, ok76, ok77, ok78, ok79, ok80, ok81, ok82, ok83, ok84, ok85, ok86, ok87, ok88, ok89, ok90, ok91, ok92, ok93, ok94, ok95, ok96, ok97, ok98, ok99, ok100, ok101, ok102, ok103, ok104, ok105, ok106, ok107, ok108, ok109, ok110, ok111, ok112, ok113, ok114, ok115, ok116, ok117, ok118, ok119, ok120, ok121, ok122, ok123, trivial⟩
theorem prog_ok : ProgOK Tryz.prog L0 (tbl 0) := ⟨fun f g h => AllP.of all_fn f g h⟩
theorem mixed : Tryz.prog.follows .mixedOrders = true := by kernel_rfl
end Go.Proofs.YthhmfdmdhbbehaaGreatDoor

/-
  The seat's own facts: the listed variable's cells, a start that fits.
-/
namespace Go.Proofs.YthhmfdmdhbbehaaGreatDoor
open Go Go.Cv Go.ChangeShapes Go.WideShapes Go.ChangeAt Go.WideMaps Go.WideElems Go.RowKit

theorem own : ownKnob Tryz.prog.godebug = none := by kernel_rfl
theorem laidOut : laidOutB Tryz.prog = true := by kernel_rfl
theorem gTab : Tryz.prog.globalNamed "math/bits.deBruijn32tab" = some 0 := by kernel_rfl
theorem tTab : (Tryz.prog.globals[0]?).map (·.type) = some 145 := by kernel_rfl
def laid1 : List (String × DataW Unit) := [("math/bits.deBruijn32tab", Rows.laid_math_bits_deBruijn32tab)]

theorem door_met (os : Os) (args : Array Value) : laidMetH Tryz.prog laid1 ((World.doorLaid Tryz.prog 400 os).forCall (fun _ _ => 0) ⟨#[], args, []⟩).memory :=
  laidMetH_of_parts3 (fuel := 8) (laidMet_of_run' 8 (by kernel_rfl) (by kernel_rfl)) (by kernel_rfl) (by kernel_rfl)

theorem of_laid {W : World} (h : laidMetH Tryz.prog laid1 W) : Gok (glb 0) ⟨L0, W, fun r => r < W.heap.size, noι⟩ := by
  rw [MakeChecks.laidMetH_plain _ _ _ (by kernel_rfl)] at h
  obtain ⟨ps, ⟨g0, t0, cs0, f0, p0, q0, hg0, ht0, hv0, hd0, _, _⟩, _, _⟩ := h
  obtain rfl := Option.some.inj (gTab.symm.trans hg0)
  obtain rfl := Option.some.inj (tTab.symm.trans ht0)
  have hc := tab_u8 (l := ntz32) (e := 5) (show Tryz.prog.underlying 145 = some (.array ntz32.length 5) by kernel_rfl) (show Tryz.prog.underlying 5 = some (.int .u8) by kernel_rfl) (by kernel_rfl) hd0
  exact gok_u8 (fun j d hj => by rw [World.var?_cell hg0 hv0 j]; exact hc j d hj) (by decide)
end Go.Proofs.YthhmfdmdhbbehaaGreatDoor
