/-
  A part of the proof of the statements of this seat (texts that the law's own text leans on): no condition.
-/
import Derived.Test.YtabmkppfiklbaaaGreatDoorM4
import Derived.Test.YtabmkppfiklbaaaGreatDoorM8
import Derived.ProofKit
import Derived.LaidMore
import Derived.OpenShut
import Derived.Deep.Slices
import Derived.Lib.SmallJoins
import Derived.Carry
import Derived.Below
import Derived.ChangeSame
import Derived.Test.YtabmkppfiklbaaaGreatDoorM9
import Derived.Test.YtabmkppfiklbaaaGreatDoorM7
import Derived.KernelRfl
import Derived.Test.YtabmkppfiklbaaaGreatDoorProg
import Derived.Test.YtabmkppfiklbaaaGreatDoorRows
import Derived.Test.YtabmkppfiklbaaaGreatDoorChecked
import Derived.Stop.Joined
import Derived.SevenTiedAt
set_option linter.unusedVariables false
set_option linter.unusedSimpArgs false
namespace Go.Cv
open Go Go.RowKit Go.WideShapes Go.ChangeShapes Go.WideElems Go.Deep Go.Joins
section
variable {H : Type} {enc : TypeId × Value → H} {P : Program}
theorem trodAll_stays (hl : laidOutB P = true) {W W' : World} {sp : Nat → Bool} (hb : Below W.heap.size W W') :
    ∀ {ts : List TypeId} {vs : List Value} {ds : List (DataW H)} {ps : List MemPlace}, (∀ t ∈ ts, P.readableRec t = true ∧ t < P.types.size) →
    DataW.TrodAll enc P W 0 (fun _ => true) true ts vs ds ps → (∀ p ∈ ps, p.block < W.heap.size ∧ sp p.block = true) → DataW.TrodAll enc P W' 0 sp true ts vs ds ps
  | [], vs, ds, ps, _, h, _ => by
    obtain ⟨rfl, rfl, rfl⟩ := trodAll_nil h
    rfl
  | t :: ts, vs, ds, ps, ht, h, hp => by
    obtain ⟨v, vs1, d, ds1, p, q, rfl, rfl, rfl, h1, h2⟩ := trodAll_cons h
    refine ⟨p, q, ?_, ?_, rfl⟩
    · exact Trod_stays hl (ht t (List.mem_cons_self ..)).1 (ht t (List.mem_cons_self ..)).2 h1 (fun x hx => hb.same (hp x (List.mem_append_left _ hx)).1) (fun x hx => (hp x (List.mem_append_left _ hx)).2)
    · exact trodAll_stays hl hb (fun t' h' => ht t' (List.mem_cons_of_mem _ h')) h2 (fun x hx => hp x (List.mem_append_right _ hx))
theorem law_post {f : Func} {s : ChangeSpec} {apart fresh handsOn again : Bool} {W W' : World} {args : Array Value} {ds gs : List (DataW H)} {before : List MemPlace} {tb : TypeId}
    (hl : laidOutB P = true) (hp : f.params.toList.all (fun t => P.readableRec t && decide (t < P.types.size)) = true) (hr : f.resultTypes = #[tb]) (ht : P.underlying tb = some .bool) (hv : s.vars = [])
    (hs : s.fn H (ds ++ gs) = { results := [.lit (.bool true)], args := ds })
    (hW : DataW.Whole enc P f.params.toList s.vars apart W args.toList ds gs before) (hb : Below W.heap.size W W') :
    s.post enc P f apart fresh handsOn again W args (.bool true) W' := by
  have hlt : ∀ p ∈ before, p.block < W.heap.size := fun p hp => hW.lt p hp
  have hts : ∀ t ∈ f.params.toList, P.readableRec t = true ∧ t < P.types.size := fun t h => by
    have := List.all_eq_true.1 hp t h
    simpa using this
  have hres : ∀ (b : Nat) (sp : Nat → Bool) (hd : Bool), DataW.TrodAll enc P W' b sp hd f.resultTypes.toList ((Value.bool true).resultList f.resultTypes.size) (s.fn H (ds ++ gs)).results [] := fun b sp hd => by
    rw [hs, hr]; exact trodAll_mk1 (shut_bool ht true)
  have hW0 := hW
  obtain ⟨p, q, hA, hV, hpq, hz, hn⟩ := hW
  rw [hv] at hV
  obtain ⟨rfl, rfl⟩ := trodVars_none hV
  rw [List.append_nil] at hpq
  subst hpq
  have hargs : ∀ sp : Nat → Bool, (∀ x ∈ before, sp x.block = true) → DataW.TrodAll enc P W' 0 sp true f.params.toList args.toList (s.fn H (ds ++ [])).args before := fun sp h => by
    rw [hs]; exact trodAll_stays hl hb hts hA (fun x hx => ⟨hlt x hx, h x hx⟩)
  have hvars : ∀ sp : Nat → Bool, DataW.TrodVars enc P W' sp s.vars (s.fn H (ds ++ [])).vars [] := fun sp => by rw [hs, hv]; rfl
  have hold : ∀ p ∈ before, (fun b => decide (b < W.heap.size)) p.block = true := fun p hp => by simpa using hlt p hp
  refine ⟨ds, [], before, [], before, [], hW0, hres _ _ _, hargs _ hold, hvars _, World.keptBut_mono (fun p hp => ⟨hp, ?_⟩) (hb.frame (· ∈ before)), fun _ => ?_⟩
  · exact Or.inr (Or.inl hp)
  · refine ⟨ok_one hr rfl (okWide_bool_mk ht true), _, _, ([] ++ before) ++ [], ⟨[] ++ before, [], trodAll_append (hargs _ (fun _ _ => rfl)) (hres _ _ _), hvars _, rfl, ?_, ?_⟩, ?_⟩
    · intro b off hp
      have hin : MemPlace.cell b off ∈ before := by simpa using hp
      rw [hb.frozen (hlt _ hin)]
      exact hz b off hin
    · intro ha
      simpa using hn ha
    · intro p hp _
      simpa using hp
end
theorem law_run {P : Program} {L : Nat → Option FuncId} {G : Nat → Option (List AV)} {T : Tbl} (hm : P.follows .mixedOrders = true) (hP : ProgOK P L T) {f : Nat} {g : FuncId} {args : List AV} (hLf : L f = some g)
    (hr : run G T f args = some (.bool true)) {W : World} (hG : Gok G ⟨L, W, fun r => r < W.heap.size, noι⟩) {us : Array Value} (hu : RelL ⟨L, W, fun r => r < W.heap.size, noι⟩ args us.toList)
    {Q : Value → World → Prop} (hQ : ∀ W', Go.RowKit.Below W.heap.size W W' → Q (.bool true) W') :
    Calls P g us W fun e W' => ∃ v, e = .returned v ∧ Q v W' := by
  have h := run_sound hm hP hLf hr W (fun r => r < W.heap.size) (fun _ h => h) hG hu
  refine h.mono ?_
  rintro e W' ⟨u, rfl, hb, hrel⟩
  simp only [Rel] at hrel
  subst hrel
  exact ⟨_, rfl, hQ W' hb⟩
theorem gok_u8 {L : Nat → Option FuncId} {W : World} {g : Nat} {l : List Nat} (h : ∀ (j d : Nat), l[j]? = some d → W.cell? ⟨g, j, none⟩ = some (.int .u8 (d : Int))) (hl : 0 < l.length) :
    Gok (fun n => if n = g then some (l.map fun (d : Nat) => .int .u8 (d : Int)) else none) ⟨L, W, fun r => r < W.heap.size, noι⟩ := by
  intro g' cs hg
  simp only at hg
  split at hg
  · next he =>
    subst he
    cases hg
    constructor
    · have h0 := h 0 l[0] (List.getElem?_eq_getElem hl)
      show g' < W.heap.size
      unfold World.cell? at h0
      split at h0
      · next c _ _ hh => exact row_lt hh
      · cases h0
    · rw [relAt_iff]
      intro j v hj
      rw [List.getElem?_map] at hj
      cases hd : l[j]? with
      | none => rw [hd] at hj; cases hj
      | some d =>
        rw [hd] at hj
        simp only [Option.map_some, Option.some.injEq] at hj
        subst hj
        rw [Nat.zero_add]
        exact ⟨_, h j d hd, rfl, by simp only [Rel]⟩
  · cases hg
section
variable {H : Type} {enc : TypeId × Value → H} {P : Program}
theorem tab_u8 {w : World} {base : Nat} {sp : Nat → Bool} {held : Bool} {t e : TypeId} {fuel : Nat} {cs : Array Value} {l : List Nat} {ps : List MemPlace}
    (ht : P.underlying t = some (.array l.length e)) (he : P.underlying e = some (.int .u8)) (hc : P.cellsOf e = 1)
    (h : DataW.trod enc P w base sp held fuel t cs.toList = some (.agg (l.map fun (d : Nat) => .lit (.int .u8 (d : Int))), ps)) : ∀ (j d : Nat), l[j]? = some d → cs[j]? = some (.int .u8 (d : Int)) := by
  obtain ⟨xs, m, rfl, hx, hlen, hn, hel⟩ := DataW.trod_array ht h
  intro j d hj
  have hjl : j < l.length := (List.getElem?_eq_some_iff.1 hj).1
  have h1 := hel j hjl
  simp only [Prod.mk.injEq, DataW.agg.injEq] at hx
  have hxj : xs[j]? = some xs[j] := List.getElem?_eq_getElem (by omega)
  rw [hxj, hc, Nat.mul_one] at h1
  obtain ⟨k, e1, e2, _⟩ := DataW.trod_int he h1
  have h3 : (l.map fun (d : Nat) => (DataW.lit (.int .u8 (d : Int)) : DataW H))[j]? = (xs.map (·.1))[j]? := by rw [hx.1]
  rw [List.getElem?_map, List.getElem?_map, hj, hxj] at h3
  simp only [Option.map_some, Option.some.injEq, e2] at h3
  simp only [DataW.lit.injEq, Lit.int.injEq, true_and] at h3
  subst h3
  have h4 : (cs.toList.drop j).take 1 = [.int .u8 (d : Int)] := e1
  have h5 : cs.toList[j]? = some (.int .u8 (d : Int)) := by
    have : ((cs.toList.drop j).take 1)[0]? = some (.int .u8 (d : Int)) := by rw [h4]; rfl
    rw [List.getElem?_take] at this
    simpa using this
  simpa using h5
end
end Go.Cv
namespace Go.Cv
open Go Go.RowKit Go.WideShapes Go.ChangeShapes Go.WideElems Go.Deep Go.Joins
section
variable {H : Type} {enc : TypeId × Value → H} {P : Program}
theorem word_lit {a : Int} (h : (Lit.int .u64 a).wf = true) : ∃ k : Nat, k < 18446744073709551616 ∧ a = (k : Int) := by
  have h2 : (decide ((0 : Int) ≤ a) && decide (a ≤ 18446744073709551615)) = true := h
  simp only [Bool.and_eq_true, decide_eq_true_eq] at h2
  exact ⟨a.toNat, by omega, by omega⟩
theorem open_z {w : World} {S : Sc} {r : Reach} {b0 base : Nat} {held : Bool} {t : TypeId} {f0 f1 : Field} {v : Value} {d : DataW H} {p : List MemPlace}
    (hs : P.underlying t = some (.struct #[f0, f1])) (hone : oneCellFields P #[f0, f1] = true) (hC : P.cellsOf t = 2) (h0 : P.underlying f0.type = some (.int .u64)) (h1 : P.underlying f1.type = some (.int .u64))
    (hv : Value.okWide P w r b0 t v) (h : DataW.Trod enc P w base (fun _ => true) held t v d p) :
    ∃ a b : Nat, a < 18446744073709551616 ∧ b < 18446744073709551616 ∧ Rel S (.agg [.int .u64 (a : Int), .int .u64 (b : Int)]) v := by
  obtain ⟨v0, v1, y0, y1, n, rfl, _, _, k0, k1⟩ := open_agg2 hs hone hC hv h
  obtain ⟨x, hx, _, hw0⟩ := DataW.trod_int h0 k0
  obtain rfl : v0 = .int .u64 x := by simpa using hx
  obtain ⟨y, hy, _, hw1⟩ := DataW.trod_int h1 k1
  obtain rfl : v1 = .int .u64 y := by simpa using hy
  obtain ⟨a, a1, rfl⟩ := word_lit hw0
  obtain ⟨b, b1, rfl⟩ := word_lit hw1
  refine ⟨a, b, a1, b1, ?_⟩
  simp only [Rel, RelL]
  exact ⟨_, rfl, .int .u64 a, [.int .u64 b], rfl, rfl, .int .u64 b, [], rfl, rfl, rfl⟩
end
end Go.Cv
namespace Go.Cv
open Go Go.RowKit Go.WideShapes Go.ChangeShapes Go.WideElems Go.Deep Go.Joins
section
variable {H : Type} {enc : TypeId × Value → H} {P : Program}
theorem open_b {w : World} {S : Sc} {r : Reach} {b0 base : Nat} {held : Bool} {t : TypeId} {v : Value} {d : DataW H} {p : List MemPlace}
    (ht : P.underlying t = some .bool) (hv : Value.okWide P w r b0 t v) (h : DataW.Trod enc P w base (fun _ => true) held t v d p) : ∃ b : Bool, Rel S (.bool b) v := by
  obtain ⟨b, rfl⟩ := okWide_bool ht hv
  exact ⟨b, by simp only [Rel]⟩
theorem open_z3 {w : World} {S : Sc} {r : Reach} {b0 base : Nat} {held : Bool} {t e : TypeId} {f0 f1 : Field} {v : Value} {d : DataW H} {p : List MemPlace}
    (ht : P.underlying t = some (.array 3 e)) (hC : P.cellsOf t = 6) (hs : P.underlying e = some (.struct #[f0, f1])) (hone : oneCellFields P #[f0, f1] = true) (hc : P.cellsOf e = 2) (h0 : P.underlying f0.type = some (.int .u64)) (h1 : P.underlying f1.type = some (.int .u64))
    (hv : Value.okWide P w r b0 t v) (h : DataW.Trod enc P w base (fun _ => true) held t v d p) :
    ∃ a b c x y z : Nat, (a < 18446744073709551616 ∧ b < 18446744073709551616 ∧ c < 18446744073709551616 ∧ x < 18446744073709551616 ∧ y < 18446744073709551616 ∧ z < 18446744073709551616) ∧
      Rel S (.agg [.int .u64 (a : Int), .int .u64 (b : Int), .int .u64 (c : Int), .int .u64 (x : Int), .int .u64 (y : Int), .int .u64 (z : Int)]) v := by
  obtain ⟨cs, rfl, hsz⟩ : ∃ cs, v = .agg cs ∧ cs.size = P.cellsOf t := by
    unfold Value.okWide at hv
    rw [ht] at hv
    obtain ⟨cs, h1, h2, _⟩ := hv
    exact ⟨cs, h1, h2⟩
  obtain ⟨fuel, h⟩ := h
  obtain ⟨xs, m, rfl, hx, hlen, hn, hel⟩ := DataW.trod_array ht h
  have hcl : (Value.agg cs).cells = cs := rfl
  rw [hcl] at hlen hel
  obtain ⟨v0, v1, v2, v3, v4, v5, hcs⟩ : ∃ v0 v1 v2 v3 v4 v5, cs.toList = [v0, v1, v2, v3, v4, v5] := by
    rw [hC] at hlen
    match hq : cs.toList, hlen with
    | [a, b, c, d, e, f], _ => exact ⟨a, b, c, d, e, f, rfl⟩
  rw [hcs] at hel
  obtain ⟨o0, q0⟩ := hone_of hone 0 f0 rfl
  obtain ⟨o1, q1⟩ := hone_of hone 1 f1 rfl
  have one : ∀ (i : Nat) (u u' : Value), i < 3 → (([v0, v1, v2, v3, v4, v5] : List Value).drop (i * P.cellsOf e)).take (P.cellsOf e) = [u, u'] → ∃ k l : Nat, (k < 18446744073709551616 ∧ l < 18446744073709551616) ∧ u = .int .u64 (k : Int) ∧ u' = .int .u64 (l : Int) := fun i u u' hi hd => by
    have h5 := hel i hi
    rw [hd] at h5
    have hxi : xs[i]? = some xs[i] := List.getElem?_eq_getElem (by omega)
    rw [hxi] at h5
    obtain ⟨y0, y1, n, _, _, e0, e1⟩ := trod_struct2 hs h5
    have e0' : DataW.trod enc P w base (fun _ => true) held n f0.type [u] = some y0 := by simpa [o0, q0] using e0
    have e1' : DataW.trod enc P w base (fun _ => true) held n f1.type [u'] = some y1 := by simpa [o1, q1] using e1
    obtain ⟨x, hx, _, hw0⟩ := DataW.trod_int h0 e0'
    obtain rfl : u = .int .u64 x := by simpa using hx
    obtain ⟨y, hy, _, hw1⟩ := DataW.trod_int h1 e1'
    obtain rfl : u' = .int .u64 y := by simpa using hy
    obtain ⟨k, k1, rfl⟩ := word_lit hw0
    obtain ⟨l, l1, rfl⟩ := word_lit hw1
    exact ⟨k, l, ⟨k1, l1⟩, rfl, rfl⟩
  obtain ⟨a, b, ⟨a1, b1⟩, rfl, rfl⟩ := one 0 v0 v1 (by decide) (by rw [hc]; rfl)
  obtain ⟨c, x, ⟨c1, x1⟩, rfl, rfl⟩ := one 1 v2 v3 (by decide) (by rw [hc]; rfl)
  obtain ⟨y, z, ⟨y1, z1⟩, rfl, rfl⟩ := one 2 v4 v5 (by decide) (by rw [hc]; rfl)
  refine ⟨a, b, c, x, y, z, ⟨a1, b1, c1, x1, y1, z1⟩, ?_⟩
  simp only [Rel, RelL]
  exact ⟨cs, rfl, _, _, hcs, rfl, _, _, rfl, rfl, _, _, rfl, rfl, _, _, rfl, rfl, _, _, rfl, rfl, _, _, rfl, rfl, rfl⟩
theorem i16_lit {a : Int} (h : (Lit.int .i16 a).wf = true) : -32768 ≤ a ∧ a ≤ 32767 := by
  have h2 : (decide ((-32768 : Int) ≤ a) && decide (a ≤ 32767)) = true := h
  simpa only [Bool.and_eq_true, decide_eq_true_eq] using h2
theorem open_h6 {w : World} {S : Sc} {r : Reach} {b0 base : Nat} {held : Bool} {t e : TypeId} {v : Value} {d : DataW H} {p : List MemPlace}
    (ht : P.underlying t = some (.array 6 e)) (hC : P.cellsOf t = 6) (he : P.underlying e = some (.int .i16)) (hc : P.cellsOf e = 1)
    (hv : Value.okWide P w r b0 t v) (h : DataW.Trod enc P w base (fun _ => true) held t v d p) :
    ∃ a b c x y z : Int, ((-32768 ≤ a ∧ a ≤ 32767) ∧ (-32768 ≤ b ∧ b ≤ 32767) ∧ (-32768 ≤ c ∧ c ≤ 32767) ∧ (-32768 ≤ x ∧ x ≤ 32767) ∧ (-32768 ≤ y ∧ y ≤ 32767) ∧ (-32768 ≤ z ∧ z ≤ 32767)) ∧
      Rel S (.agg [.int .i16 a, .int .i16 b, .int .i16 c, .int .i16 x, .int .i16 y, .int .i16 z]) v := by
  obtain ⟨cs, rfl, hsz⟩ : ∃ cs, v = .agg cs ∧ cs.size = P.cellsOf t := by
    unfold Value.okWide at hv
    rw [ht] at hv
    obtain ⟨cs, h1, h2, _⟩ := hv
    exact ⟨cs, h1, h2⟩
  obtain ⟨fuel, h⟩ := h
  obtain ⟨xs, m, rfl, hx, hlen, hn, hel⟩ := DataW.trod_array ht h
  have hcl : (Value.agg cs).cells = cs := rfl
  rw [hcl] at hlen hel
  obtain ⟨v0, v1, v2, v3, v4, v5, hcs⟩ : ∃ v0 v1 v2 v3 v4 v5, cs.toList = [v0, v1, v2, v3, v4, v5] := by
    rw [hC] at hlen
    match hq : cs.toList, hlen with
    | [a, b, c, d, e, f], _ => exact ⟨a, b, c, d, e, f, rfl⟩
  rw [hcs] at hel
  have one : ∀ (i : Nat) (u : Value), i < 6 → (([v0, v1, v2, v3, v4, v5] : List Value).drop (i * P.cellsOf e)).take (P.cellsOf e) = [u] → ∃ k : Int, (-32768 ≤ k ∧ k ≤ 32767) ∧ u = .int .i16 k := fun i u hi hd => by
    have h1 := hel i hi
    rw [hd] at h1
    have hxi : xs[i]? = some xs[i] := List.getElem?_eq_getElem (by omega)
    rw [hxi] at h1
    obtain ⟨n, h2, _, h3⟩ := DataW.trod_int he h1
    exact ⟨n, i16_lit h3, by simpa using h2⟩
  obtain ⟨a, a1, rfl⟩ := one 0 v0 (by decide) (by rw [hc]; rfl)
  obtain ⟨b, b1, rfl⟩ := one 1 v1 (by decide) (by rw [hc]; rfl)
  obtain ⟨c, c1, rfl⟩ := one 2 v2 (by decide) (by rw [hc]; rfl)
  obtain ⟨x, x1, rfl⟩ := one 3 v3 (by decide) (by rw [hc]; rfl)
  obtain ⟨y, y1, rfl⟩ := one 4 v4 (by decide) (by rw [hc]; rfl)
  obtain ⟨z, z1, rfl⟩ := one 5 v5 (by decide) (by rw [hc]; rfl)
  refine ⟨a, b, c, x, y, z, ⟨a1, b1, c1, x1, y1, z1⟩, ?_⟩
  simp only [Rel, RelL]
  exact ⟨cs, rfl, _, _, hcs, rfl, _, _, rfl, rfl, _, _, rfl, rfl, _, _, rfl, rfl, _, _, rfl, rfl, _, _, rfl, rfl, rfl⟩
theorem trodAll_five {w : World} {base : Nat} {spare : Nat → Bool} {held : Bool} {t t1 t2 t3 t4 : TypeId} {args : Array Value} {ds : List (DataW H)} {ps : List MemPlace} (h : DataW.TrodAll enc P w base spare held [t, t1, t2, t3, t4] args.toList ds ps) :
    ∃ v v1 v2 v3 v4 d d1 d2 d3 d4 p p1 p2 p3 p4, args = #[v, v1, v2, v3, v4] ∧ ds = [d, d1, d2, d3, d4] ∧ ps = p ++ p1 ++ p2 ++ p3 ++ p4 ∧ DataW.Trod enc P w base spare held t v d p ∧ DataW.Trod enc P w base spare held t1 v1 d1 p1 ∧ DataW.Trod enc P w base spare held t2 v2 d2 p2 ∧ DataW.Trod enc P w base spare held t3 v3 d3 p3 ∧ DataW.Trod enc P w base spare held t4 v4 d4 p4 := by
  obtain ⟨v, vs, d, ds0, p, q, hargs, rfl, rfl, hd, hrest⟩ := trodAll_cons h
  obtain ⟨v1, vs1, d1, ds1, p1, q1, rfl, rfl, rfl, hd1, hrest1⟩ := trodAll_cons hrest
  obtain ⟨v2, vs2, d2, ds2, p2, q2, rfl, rfl, rfl, hd2, hrest2⟩ := trodAll_cons hrest1
  obtain ⟨v3, vs3, d3, ds3, p3, q3, rfl, rfl, rfl, hd3, hrest3⟩ := trodAll_cons hrest2
  obtain ⟨v4, vs4, d4, ds4, p4, q4, rfl, rfl, rfl, hd4, hrest4⟩ := trodAll_cons hrest3
  obtain ⟨rfl, rfl, rfl⟩ := trodAll_nil hrest4
  exact ⟨v, v1, v2, v3, v4, d, d1, d2, d3, d4, p, p1, p2, p3, p4, by cases args; simp_all, rfl, by simp, hd, hd1, hd2, hd3, hd4⟩
end
end Go.Cv
namespace Go.Cv
def glb (g : Nat) : Nat → Option (List AV) := fun n => if n = g then some (ntz32.map fun (d : Nat) => .int .u8 (d : Int)) else none
theorem glob (g : Nat) : Glob (glb g) g := if_pos rfl
theorem al (g : Nat) : Al (glb g) (tbl g) g := ⟨hasA g, hasB g, hasC g, hasD g, hasE g, hasF g, hasG g, hasH g, hasJ g, glob g⟩
end Go.Cv
namespace Go.Cv
theorem known12 : run (glb 0) (tbl 0) 255 [] = some (.bool true) := run_of (glb 0) (tbl 0) 400 (by kernel_rfl)
end Go.Cv
set_option maxRecDepth 100000
namespace Go.Proofs.YtabmkppfiklbaaaGreatDoor
open Go Go.Cv
def tosL : List Nat := [0, 0, 0, 0, 243, 244, 0, 246, 0, 248, 249, 252, 253, 254, 255, 0, 257, 258, 250, 237, 259, 260, 261, 262, 170, 0, 251, 0, 265, 266, 267, 268, 269, 270, 271, 272, 162, 185, 273, 274, 20, 275, 276, 277, 195, 278, 279, 280, 281, 150, 155, 282, 283, 284, 285, 164, 187, 188, 0, 219, 220, 286, 287, 288, 36, 289, 26, 290, 291, 292, 293, 294, 295, 296, 54, 55, 27, 28, 149, 297, 298, 299, 300, 30, 301, 45, 46, 67, 16, 38, 17, 302, 74, 203, 182, 184, 303, 156, 172, 151, 154, 63, 69, 73, 176, 177, 173, 157, 230, 231, 232, 234, 12, 233, 8, 304, 193, 305, 22, 306, 32, 35, 33, 64, 31, 72, 62, 189, 58, 60, 196, 307, 308, 309, 310, 57, 15, 194, 192, 86, 90, 50, 94, 222, 311, 102, 83, 84, 85, 99, 100, 101, 41, 42, 48, 205, 49, 207, 208, 197, 198, 158, 70, 178, 179, 180, 181, 183, 34, 10, 37, 14, 21, 25, 312, 95, 201, 313, 314, 204, 315, 98, 40, 23, 24, 202, 200, 96, 114, 89, 91, 111, 79, 80, 68, 87, 88, 103, 105, 209, 104, 106, 117, 113, 7, 65, 66, 71, 39, 47, 59, 115, 75, 76, 77, 78, 51, 52, 53, 56, 110, 107, 116, 112, 108, 109, 92, 93, 97, 121, 118, 119, 120, 0, 0, 0, 0, 0, 0, 0, 0, 0, 0, 0, 0, 0, 0, 0, 0, 0, 0, 0, 0]
def lnk : List (Nat × Nat) := [(243, 4), (244, 5), (246, 7), (248, 9), (249, 10), (252, 11), (253, 12), (254, 13), (255, 14), (257, 16), (258, 17), (250, 18), (237, 19), (259, 20), (260, 21), (261, 22), (262, 23), (170, 24), (251, 26), (265, 28), (266, 29), (267, 30), (268, 31), (269, 32), (270, 33), (271, 34), (272, 35), (162, 36), (185, 37), (273, 38), (274, 39), (20, 40), (275, 41), (276, 42), (277, 43), (195, 44), (278, 45), (279, 46), (280, 47), (281, 48), (150, 49), (155, 50), (282, 51), (283, 52), (284, 53), (285, 54), (164, 55), (187, 56), (188, 57), (219, 59), (220, 60), (286, 61), (287, 62), (288, 63), (36, 64), (289, 65), (26, 66), (290, 67), (291, 68), (292, 69), (293, 70), (294, 71), (295, 72), (296, 73), (54, 74), (55, 75), (27, 76), (28, 77), (149, 78), (297, 79), (298, 80), (299, 81), (300, 82), (30, 83), (301, 84), (45, 85), (46, 86), (67, 87), (16, 88), (38, 89), (17, 90), (302, 91), (74, 92), (203, 93), (182, 94), (184, 95), (303, 96), (156, 97), (172, 98), (151, 99), (154, 100), (63, 101), (69, 102), (73, 103), (176, 104), (177, 105), (173, 106), (157, 107), (230, 108), (231, 109), (232, 110), (234, 111), (12, 112), (233, 113), (8, 114), (304, 115), (193, 116), (305, 117), (22, 118), (306, 119), (32, 120), (35, 121), (33, 122), (64, 123), (31, 124), (72, 125), (62, 126), (189, 127), (58, 128), (60, 129), (196, 130), (307, 131), (308, 132), (309, 133), (310, 134), (57, 135), (15, 136), (194, 137), (192, 138), (86, 139), (90, 140), (50, 141), (94, 142), (222, 143), (311, 144), (102, 145), (83, 146), (84, 147), (85, 148), (99, 149), (100, 150), (101, 151), (41, 152), (42, 153), (48, 154), (205, 155), (49, 156), (207, 157), (208, 158), (197, 159), (198, 160), (158, 161), (70, 162), (178, 163), (179, 164), (180, 165), (181, 166), (183, 167), (34, 168), (10, 169), (37, 170), (14, 171), (21, 172), (25, 173), (312, 174), (95, 175), (201, 176), (313, 177), (314, 178), (204, 179), (315, 180), (98, 181), (40, 182), (23, 183), (24, 184), (202, 185), (200, 186), (96, 187), (114, 188), (89, 189), (91, 190), (111, 191), (79, 192), (80, 193), (68, 194), (87, 195), (88, 196), (103, 197), (105, 198), (209, 199), (104, 200), (106, 201), (117, 202), (113, 203), (7, 204), (65, 205), (66, 206), (71, 207), (39, 208), (47, 209), (59, 210), (115, 211), (75, 212), (76, 213), (77, 214), (78, 215), (51, 216), (52, 217), (53, 218), (56, 219), (110, 220), (107, 221), (116, 222), (112, 223), (108, 224), (109, 225), (92, 226), (93, 227), (97, 228), (121, 229), (118, 230), (119, 231), (120, 232)]
def toS (g : FuncId) : Option Nat := match tosL.getD g 0 with | 0 => none | n + 1 => some (n + 1)
def lnkF (l : List (Nat × Nat)) (f : Nat) : Option FuncId := match l with | [] => none | p :: r => if p.1 = f then some p.2 else lnkF r f
def L0 (f : Nat) : Option FuncId := lnkF lnk f
def AllP (Q : Nat → Nat → Prop) : List (Nat × Nat) → Prop | [] => True | p :: l => Q p.1 p.2 ∧ AllP Q l
theorem AllP.of {Q : Nat → Nat → Prop} : ∀ {l : List (Nat × Nat)}, AllP Q l → ∀ f g, lnkF l f = some g → Q f g
  | [], _, f, g, h => by cases h
  | p :: l, ⟨h1, h2⟩, f, g, h => by
    unfold lnkF at h
    by_cases he : p.1 = f
    · rw [if_pos he] at h; cases h; subst he; exact h1
    · rw [if_neg he] at h; exact AllP.of h2 f g h
def bodyB (P : Program) (p : Nat × Nat) : Bool := match P.funcs[p.2]? with | some fn => (fn.name != "runtime.NumGoroutine") && fn.body.isSome | none => false
theorem bodies : lnk.all (bodyB Tryz.prog) = true := by kernel_rfl
theorem toB : (List.range tosL.length).all (fun g => match toS g with | some f => (L0 f == some g) | none => true) = true := by kernel_rfl
theorem lnk_mem : ∀ (l : List (Nat × Nat)) (f g : Nat), lnkF l f = some g → (f, g) ∈ l
  | [], _, _, h => by cases h
  | p :: l, f, g, h => by
    unfold lnkF at h
    by_cases he : p.1 = f
    · rw [if_pos he] at h; cases h; subst he; exact List.mem_cons_self ..
    · rw [if_neg he] at h; exact List.mem_cons_of_mem _ (lnk_mem l f g h)
theorem link_of (C : CC) (hP : C.P = Tryz.prog) (hS : C.toS = toS) : Link C L0 := by
  constructor
  · intro g f h
    rw [hS] at h
    have hb := List.all_eq_true.1 toB
    have hg : g < tosL.length := by
      rcases Nat.lt_or_ge g tosL.length with x | x
      · exact x
      · exfalso; unfold toS at h; rw [List.getD_eq_getElem?_getD, List.getElem?_eq_none x] at h; cases h
    have := hb g (List.mem_range.2 hg)
    rw [h] at this
    simpa using this
  · intro f g h
    have := List.all_eq_true.1 bodies _ (lnk_mem _ _ _ h)
    unfold bodyB at this
    rw [hP]
    cases hf : Tryz.prog.funcs[g]? with
    | none => simp [hf] at this
    | some fn => simp [hf] at this; exact ⟨fn, rfl, this.1, this.2⟩
def FnOK (f g : Nat) : Prop := ∃ (C : CC) (fn : Func) (c : Code) (fi : IFn), C.P = Tryz.prog ∧ Link C L0 ∧ Tryz.prog.funcs[g]? = some fn ∧ C.N ≤ fn.ntmps ∧ fn.body = some c ∧ tbl 0 f = some fi ∧ compC C c = some (erase fi.body) ∧ mapO (compRes Tryz.prog) fn.results.toList = some fi.res
theorem fn_mk {f g : Nat} (C : CC) (fn : Func) (fi : IFn) (h1 : C.P = Tryz.prog) (h2 : C.toS = toS) (h3 : Tryz.prog.funcs[g]? = some fn) (h4 : C.N = fn.ntmps) (h5 : tbl 0 f = some fi) (h6 : fn.body.bind (compC C) = some (erase fi.body)) (h7 : mapO (compRes Tryz.prog) fn.results.toList = some fi.res) : FnOK f g := by
  cases hb : fn.body with
  | none => rw [hb] at h6; cases h6
  | some c => rw [hb] at h6; exact ⟨C, fn, c, fi, h1, link_of C h1 h2, h3, Nat.le_of_eq h4, hb, h5, h6, h7⟩
noncomputable def C0 (n : Nat) : CC := { P := Tryz.prog, toS := toS, inl := fun n => List.elem n ([] : List Nat), dyn := false, N := n }
theorem fm {f g : Nat} (fn : Func) (fi : IFn) (h3 : Tryz.prog.funcs[g]? = some fn) (h5 : tbl 0 f = some fi := by rfl) (h6 : fn.body.bind (compC (C0 fn.ntmps)) = some (erase fi.body) := by kernel_rfl) (h7 : mapO (compRes Tryz.prog) fn.results.toList = some fi.res := by kernel_rfl) : FnOK f g := fn_mk (C0 fn.ntmps) fn fi rfl rfl h3 rfl h5 h6 h7
theorem ok4 : FnOK 243 4 := fm Tryz.f4 c_law12_ExactQuotients Tryz.func4
theorem ok5 : FnOK 244 5 := fm Tryz.f5 c_law12_ExactBetween Tryz.func5
theorem ok7 : FnOK 246 7 := fm Tryz.f7 c_law12_ExactCommutes Tryz.func7
theorem ok9 : FnOK 248 9 := fm Tryz.f9 c_law12_ExactFused Tryz.func9
theorem ok10 : FnOK 249 10 := fm Tryz.f10 c_law12_ExactGauss Tryz.func10
theorem ok11 : FnOK 252 11 := fm Tryz.f11 c_exact_Mul Tryz.func11
theorem ok12 : FnOK 253 12 := fm Tryz.f12 c_law12_opens Tryz.func12
theorem ok13 : FnOK 254 13 := fm Tryz.f13 c_law12_is Tryz.func13
theorem ok14 : FnOK 255 14 := fm Tryz.f14 c_law12_known Tryz.func14
theorem ok16 : FnOK 257 16 := fm Tryz.f16 c_exact_Div Tryz.func16
theorem ok17 : FnOK 258 17 := fm Tryz.f17 c_ref12_Div Tryz.func17
theorem ok18 : FnOK 250 18 := fm Tryz.f18 c_ref10_Finite Tryz.func18
theorem ok19 : FnOK 237 19 := fm Tryz.f19 c_ref10_Class Tryz.func19
theorem ok20 : FnOK 259 20 := fm Tryz.f20 c_law12_between Tryz.func20
theorem ok21 : FnOK 260 21 := fm Tryz.f21 c_ref07_Steps Tryz.func21
theorem ok22 : FnOK 261 22 := fm Tryz.f22 c_law12_alike Tryz.func22
theorem ok23 : FnOK 262 23 := fm Tryz.f23 c_exact_Add Tryz.func23
theorem ok24 : FnOK 170 24 := fm Tryz.f24 c_ref10_Turn Tryz.func24
theorem ok26 : FnOK 251 26 := fm Tryz.f26 c_ref12_Add Tryz.func26
theorem ok28 : FnOK 265 28 := fm Tryz.f28 c_exact_MulAdd Tryz.func28
theorem ok29 : FnOK 266 29 := fm Tryz.f29 c_ref12_MulAdd Tryz.func29
theorem ok30 : FnOK 267 30 := fm Tryz.f30 c_law12_whole Tryz.func30
theorem ok31 : FnOK 268 31 := fm Tryz.f31 c_special_Mul Tryz.func31
theorem ok32 : FnOK 269 32 := fm Tryz.f32 c_exact_work_both Tryz.func32
theorem ok33 : FnOK 270 33 := fm Tryz.f33 c_exact_work_times Tryz.func33
theorem ok34 : FnOK 271 34 := fm Tryz.f34 c_exact_gaussOf Tryz.func34
theorem ok35 : FnOK 272 35 := fm Tryz.f35 c_dyad_Int Tryz.func35
theorem ok36 : FnOK 162 36 := fm Tryz.f36 c_ref05_Opens Tryz.func36
theorem ok37 : FnOK 185 37 := fm Tryz.f37 c_ref10_Good Tryz.func37
theorem ok38 : FnOK 273 38 := fm Tryz.f38 c_ref11_Mul Tryz.func38
theorem ok39 : FnOK 274 39 := fm Tryz.f39 c_ref12_Product Tryz.func39
theorem ok40 : FnOK 20 40 := fm Tryz.f40 c_ref02_Int Tryz.func40
theorem ok41 : FnOK 275 41 := fm Tryz.f41 c_ref12_Sum Tryz.func41
theorem ok42 : FnOK 276 42 := fm Tryz.f42 c_ref12_rounded Tryz.func42
theorem ok43 : FnOK 277 43 := fm Tryz.f43 c_special_Div Tryz.func43
theorem ok44 : FnOK 195 44 := fm Tryz.f44 c_dyad_Add Tryz.func44
theorem ok45 : FnOK 278 45 := fm Tryz.f45 c_exact_num_times Tryz.func45
theorem ok46 : FnOK 279 46 := fm Tryz.f46 c_exact_num_minus Tryz.func46
theorem ok47 : FnOK 280 47 := fm Tryz.f47 c_ref11_Div Tryz.func47
theorem ok48 : FnOK 281 48 := fm Tryz.f48 c_ref12_Quotient Tryz.func48
theorem ok49 : FnOK 150 49 := fm Tryz.f49 c_ref03_Finite Tryz.func49
theorem ok50 : FnOK 155 50 := fm Tryz.f50 c_ref03_Class Tryz.func50
theorem ok51 : FnOK 282 51 := fm Tryz.f51 c_ref07_Cmp Tryz.func51
theorem ok52 : FnOK 283 52 := fm Tryz.f52 c_ref07_Place Tryz.func52
theorem ok53 : FnOK 284 53 := fm Tryz.f53 c_law12_near Tryz.func53
theorem ok54 : FnOK 285 54 := fm Tryz.f54 c_exact_parts Tryz.func54
theorem ok55 : FnOK 164 55 := fm Tryz.f55 c_soft_Add Tryz.func55
theorem ok56 : FnOK 187 56 := fm Tryz.f56 c_ref10_Canon Tryz.func56
theorem ok57 : FnOK 188 57 := fm Tryz.f57 c_ref10_Minus Tryz.func57
theorem ok59 : FnOK 219 59 := fm Tryz.f59 c_ref05_Add Tryz.func59
theorem ok60 : FnOK 220 60 := fm Tryz.f60 c_ref05_Sub Tryz.func60
theorem ok61 : FnOK 286 61 := fm Tryz.f61 c_exact_open Tryz.func61
theorem ok62 : FnOK 287 62 := fm Tryz.f62 c_exact_work_fused Tryz.func62
theorem ok63 : FnOK 288 63 := fm Tryz.f63 c_ref12_third Tryz.func63
theorem ok64 : FnOK 36 64 := fm Tryz.f64 c_ref03_Of Tryz.func64
theorem ok65 : FnOK 289 65 := fm Tryz.f65 c_special_open Tryz.func65
theorem ok66 : FnOK 26 66 := fm Tryz.f66 c_word_Inf Tryz.func66
theorem ok67 : FnOK 290 67 := fm Tryz.f67 c_special_none Tryz.func67
theorem ok68 : FnOK 291 68 := fm Tryz.f68 c_special_boxOf Tryz.func68
theorem ok69 : FnOK 292 69 := fm Tryz.f69 c_special_box_times Tryz.func69
theorem ok70 : FnOK 293 70 := fm Tryz.f70 c_special_box_words Tryz.func70
theorem ok71 : FnOK 294 71 := fm Tryz.f71 c_exact_work_part Tryz.func71
theorem ok72 : FnOK 295 72 := fm Tryz.f72 c_exact_num_plus Tryz.func72
theorem ok73 : FnOK 296 73 := fm Tryz.f73 c_exact_numOf Tryz.func73
theorem ok74 : FnOK 54 74 := fm Tryz.f74 c_dyad_Make Tryz.func74
theorem ok75 : FnOK 55 75 := fm Tryz.f75 c_nat_Of Tryz.func75
theorem ok76 : FnOK 27 76 := fm Tryz.f76 c_ref03_Is Tryz.func76
theorem ok77 : FnOK 28 77 := fm Tryz.f77 c_ref04_Is Tryz.func77
theorem ok78 : FnOK 149 78 := fm Tryz.f78 c_ref03_Good Tryz.func78
theorem ok79 : FnOK 297 79 := fm Tryz.f79 c_ref11_nothing Tryz.func79
theorem ok80 : FnOK 298 80 := fm Tryz.f80 c_ref11_turned Tryz.func80
theorem ok81 : FnOK 299 81 := fm Tryz.f81 c_ref11_product Tryz.func81
theorem ok82 : FnOK 300 82 := fm Tryz.f82 c_ref11_Box Tryz.func82
theorem ok83 : FnOK 30 83 := fm Tryz.f83 c_ref03_Inf Tryz.func83
theorem ok84 : FnOK 301 84 := fm Tryz.f84 c_ref12_times Tryz.func84
theorem ok85 : FnOK 45 85 := fm Tryz.f85 c_ref02_Form Tryz.func85
theorem ok86 : FnOK 46 86 := fm Tryz.f86 c_ref01_Of Tryz.func86
theorem ok87 : FnOK 67 87 := fm Tryz.f87 c_ref02_Add Tryz.func87
theorem ok88 : FnOK 16 88 := fm Tryz.f88 c_ref02_Sign Tryz.func88
theorem ok89 : FnOK 38 89 := fm Tryz.f89 c_ref03_Signed Tryz.func89
theorem ok90 : FnOK 17 90 := fm Tryz.f90 c_ref04_Quo Tryz.func90
theorem ok91 : FnOK 302 91 := fm Tryz.f91 c_special_side_minus Tryz.func91
theorem ok92 : FnOK 74 92 := fm Tryz.f92 c_dyad_both Tryz.func92
theorem ok93 : FnOK 203 93 := fm Tryz.f93 c_dyad_add Tryz.func93
theorem ok94 : FnOK 182 94 := fm Tryz.f94 c_dyad_Mul Tryz.func94
theorem ok95 : FnOK 184 95 := fm Tryz.f95 c_dyad_Neg Tryz.func95
theorem ok96 : FnOK 303 96 := fm Tryz.f96 c_ref11_One Tryz.func96
theorem ok97 : FnOK 156 97 := fm Tryz.f97 c_ref03_Split Tryz.func97
theorem ok98 : FnOK 172 98 := fm Tryz.f98 c_ref10_Conj Tryz.func98
theorem ok99 : FnOK 151 99 := fm Tryz.f99 c_ref03_Value Tryz.func99
theorem ok100 : FnOK 154 100 := fm Tryz.f100 c_ref02_Mul Tryz.func100
theorem ok101 : FnOK 63 101 := fm Tryz.f101 c_ref03_Most Tryz.func101
theorem ok102 : FnOK 69 102 := fm Tryz.f102 c_ref02_Cmp Tryz.func102
theorem ok103 : FnOK 73 103 := fm Tryz.f103 c_ref03_Sign Tryz.func103
theorem ok104 : FnOK 176 104 := fm Tryz.f104 c_soft_open Tryz.func104
theorem ok105 : FnOK 177 105 := fm Tryz.f105 c_soft_desk_add Tryz.func105
theorem ok106 : FnOK 173 106 := fm Tryz.f106 c_ref03_Canon Tryz.func106
theorem ok107 : FnOK 157 107 := fm Tryz.f107 c_ref03_None Tryz.func107
theorem ok108 : FnOK 230 108 := fm Tryz.f108 c_ref05_nan Tryz.func108
theorem ok109 : FnOK 231 109 := fm Tryz.f109 c_ref05_inf Tryz.func109
theorem ok110 : FnOK 232 110 := fm Tryz.f110 c_ref05_zero Tryz.func110
theorem ok111 : FnOK 234 111 := fm Tryz.f111 c_ref05_Nothing Tryz.func111
theorem ok112 : FnOK 12 112 := fm Tryz.f112 c_ref04_Round Tryz.func112
theorem ok113 : FnOK 233 113 := fm Tryz.f113 c_ref05_neg Tryz.func113
theorem ok114 : FnOK 8 114 := fm Tryz.f114 c_round_Over Tryz.func114
theorem ok115 : FnOK 304 115 := fm Tryz.f115 c_pair_Good Tryz.func115
theorem ok116 : FnOK 193 116 := fm Tryz.f116 c_word_Class Tryz.func116
noncomputable def cc117 : CC := { P := Tryz.prog, toS := toS, inl := fun n => List.elem n ([313] : List Nat), dyn := false, N := Tryz.f117.ntmps }
theorem ok117 : FnOK 305 117 := fn_mk cc117 Tryz.f117 c_word_Canon rfl rfl Tryz.func117 rfl rfl (by kernel_rfl) (by kernel_rfl)
theorem ok118 : FnOK 22 118 := fm Tryz.f118 c_dyad_Sign Tryz.func118
theorem ok119 : FnOK 306 119 := fm Tryz.f119 c_ref12_neg Tryz.func119
theorem ok120 : FnOK 32 120 := fm Tryz.f120 c_ref02_Top Tryz.func120
theorem ok121 : FnOK 35 121 := fm Tryz.f121 c_ref03_Wide Tryz.func121
theorem ok122 : FnOK 33 122 := fm Tryz.f122 c_ref03_Low Tryz.func122
theorem ok123 : FnOK 64 123 := fm Tryz.f123 c_ref01_Len Tryz.func123
theorem ok124 : FnOK 31 124 := fm Tryz.f124 c_ref03_Frac Tryz.func124
theorem ok125 : FnOK 72 125 := fm Tryz.f125 c_ref01_Up Tryz.func125
theorem ok126 : FnOK 62 126 := fm Tryz.f126 c_ref03_Join Tryz.func126
theorem ok127 : FnOK 189 127 := fm Tryz.f127 c_pair_Class Tryz.func127
theorem ok128 : FnOK 58 128 := fm Tryz.f128 c_word_named Tryz.func128
theorem ok129 : FnOK 60 129 := fm Tryz.f129 c_word_shape_inf Tryz.func129
theorem ok130 : FnOK 196 130 := fm Tryz.f130 c_word_None Tryz.func130
theorem ok131 : FnOK 307 131 := fm Tryz.f131 c_special_sideOf Tryz.func131
theorem ok132 : FnOK 308 132 := fm Tryz.f132 c_special_side_times Tryz.func132
theorem ok133 : FnOK 309 133 := fm Tryz.f133 c_special_side_plus Tryz.func133
noncomputable def cc134 : CC := { P := Tryz.prog, toS := toS, inl := fun n => List.elem n ([313] : List Nat), dyn := false, N := Tryz.f134.ntmps }
theorem ok134 : FnOK 310 134 := fn_mk cc134 Tryz.f134 c_word_Neg rfl rfl Tryz.func134 rfl rfl (by kernel_rfl) (by kernel_rfl)
theorem ok135 : FnOK 57 135 := fm Tryz.f135 c_word_Zero Tryz.func135
theorem ok136 : FnOK 15 136 := fm Tryz.f136 c_round_Quo Tryz.func136
theorem ok137 : FnOK 194 137 := fm Tryz.f137 c_word_Value Tryz.func137
theorem ok138 : FnOK 192 138 := fm Tryz.f138 c_word_Split Tryz.func138
theorem ok139 : FnOK 86 139 := fm Tryz.f139 c_nat_May Tryz.func139
theorem ok140 : FnOK 90 140 := fm Tryz.f140 c_nat_Low Tryz.func140
theorem ok141 : FnOK 50 141 := fm Tryz.f141 c_nat_Shift Tryz.func141
theorem ok142 : FnOK 94 142 := fm Tryz.f142 c_nat_trim Tryz.func142
theorem ok143 : FnOK 222 143 := fm Tryz.f143 c_ref05_Mul Tryz.func143
theorem ok144 : FnOK 311 144 := fm Tryz.f144 c_ref11_box Tryz.func144
theorem ok145 : FnOK 102 145 := fm Tryz.f145 c_ref02_Neg Tryz.func145
theorem ok146 : FnOK 83 146 := fm Tryz.f146 c_ref01_Low Tryz.func146
theorem ok147 : FnOK 84 147 := fm Tryz.f147 c_ref01_Down Tryz.func147
theorem ok148 : FnOK 85 148 := fm Tryz.f148 c_ref01_Trim Tryz.func148
theorem ok149 : FnOK 99 149 := fm Tryz.f149 c_ref01_Add Tryz.func149
theorem ok150 : FnOK 100 150 := fm Tryz.f150 c_ref01_Cmp Tryz.func150
theorem ok151 : FnOK 101 151 := fm Tryz.f151 c_ref01_Sub Tryz.func151
theorem ok152 : FnOK 41 152 := fm Tryz.f152 c_ref02_Quo Tryz.func152
theorem ok153 : FnOK 42 153 := fm Tryz.f153 c_ref04_Beyond Tryz.func153
theorem ok154 : FnOK 48 154 := fm Tryz.f154 c_dyad_May Tryz.func154
theorem ok155 : FnOK 205 155 := fm Tryz.f155 c_dyad_own Tryz.func155
theorem ok156 : FnOK 49 156 := fm Tryz.f156 c_nat_Len Tryz.func156
theorem ok157 : FnOK 207 157 := fm Tryz.f157 c_dyad_edge Tryz.func157
theorem ok158 : FnOK 208 158 := fm Tryz.f158 c_dyad_join Tryz.func158
theorem ok159 : FnOK 197 159 := fm Tryz.f159 c_nat_Mul Tryz.func159
theorem ok160 : FnOK 198 160 := fm Tryz.f160 c_dyad_signed Tryz.func160
theorem ok161 : FnOK 158 161 := fm Tryz.f161 c_ref01_Mul Tryz.func161
theorem ok162 : FnOK 70 162 := fm Tryz.f162 c_ref02_Sub Tryz.func162
theorem ok163 : FnOK 178 163 := fm Tryz.f163 c_soft_has Tryz.func163
theorem ok164 : FnOK 179 164 := fm Tryz.f164 c_soft_desk_none Tryz.func164
theorem ok165 : FnOK 180 165 := fm Tryz.f165 c_soft_desk_inf Tryz.func165
theorem ok166 : FnOK 181 166 := fm Tryz.f166 c_soft_desk_zero Tryz.func166
theorem ok167 : FnOK 183 167 := fm Tryz.f167 c_soft_desk_sum Tryz.func167
theorem ok168 : FnOK 34 168 := fm Tryz.f168 c_ref04_Taken Tryz.func168
theorem ok169 : FnOK 10 169 := fm Tryz.f169 c_ref04_Over Tryz.func169
theorem ok170 : FnOK 37 170 := fm Tryz.f170 c_ref02_Abs Tryz.func170
theorem ok171 : FnOK 14 171 := fm Tryz.f171 c_ref02_Same Tryz.func171
theorem ok172 : FnOK 21 172 := fm Tryz.f172 c_round_open Tryz.func172
theorem ok173 : FnOK 25 173 := fm Tryz.f173 c_word_Greatest Tryz.func173
theorem ok174 : FnOK 312 174 := fm Tryz.f174 c_word_Good Tryz.func174
theorem ok175 : FnOK 95 175 := fm Tryz.f175 c_word_open Tryz.func175
theorem ok176 : FnOK 201 176 := fm Tryz.f176 c_word_shape_class Tryz.func176
noncomputable def cc177 : CC := { P := Tryz.prog, toS := toS, inl := fun n => List.elem n ([] : List Nat), dyn := true, N := Tryz.f177.ntmps }
theorem ok177 : FnOK 313 177 := fn_mk cc177 Tryz.f177 c_word_turned rfl rfl Tryz.func177 rfl rfl (by kernel_rfl) (by kernel_rfl)
theorem ok178 : FnOK 314 178 := fm Tryz.f178 c_word_Canon_1 Tryz.func178
theorem ok179 : FnOK 204 179 := fm Tryz.f179 c_word_shape_none Tryz.func179
theorem ok180 : FnOK 315 180 := fm Tryz.f180 c_word_Neg_1 Tryz.func180
theorem ok181 : FnOK 98 181 := fm Tryz.f181 c_word_Zero_1 Tryz.func181
theorem ok182 : FnOK 40 182 := fm Tryz.f182 c_dyad_Quo Tryz.func182
theorem ok183 : FnOK 23 183 := fm Tryz.f183 c_round_partOf Tryz.func183
theorem ok184 : FnOK 24 184 := fm Tryz.f184 c_round_part_word Tryz.func184
theorem ok185 : FnOK 202 185 := fm Tryz.f185 c_word_finite Tryz.func185
theorem ok186 : FnOK 200 186 := fm Tryz.f186 c_word_shape_split Tryz.func186
theorem ok187 : FnOK 96 187 := fm Tryz.f187 c_word_shape_low Tryz.func187
theorem ok188 : FnOK 114 188 := fm Tryz.f188 (c_bits_TrailingZeros32 0) Tryz.func188
theorem ok189 : FnOK 89 189 := fm Tryz.f189 c_nat_down Tryz.func189
noncomputable def cc190 : CC := { P := Tryz.prog, toS := toS, inl := fun n => List.elem n ([94] : List Nat), dyn := false, N := Tryz.f190.ntmps }
theorem ok190 : FnOK 91 190 := fn_mk cc190 Tryz.f190 c_nat_up rfl rfl Tryz.func190 rfl rfl (by kernel_rfl) (by kernel_rfl)
theorem ok191 : FnOK 111 191 := fm Tryz.f191 c_ref01_Bit Tryz.func191
theorem ok192 : FnOK 79 192 := fm Tryz.f192 c_ref01_QuoRem Tryz.func192
theorem ok193 : FnOK 80 193 := fm Tryz.f193 c_ref02_Cut Tryz.func193
theorem ok194 : FnOK 68 194 := fm Tryz.f194 c_ref02_Two Tryz.func194
theorem ok195 : FnOK 87 195 := fm Tryz.f195 c_dyad_inside Tryz.func195
theorem ok196 : FnOK 88 196 := fm Tryz.f196 c_bits_Len32 Tryz.func196
theorem ok197 : FnOK 103 197 := fm Tryz.f197 c_nat_Sub Tryz.func197
theorem ok198 : FnOK 105 198 := fm Tryz.f198 c_nat_Add Tryz.func198
theorem ok199 : FnOK 209 199 := fm Tryz.f199 c_dyad_halved Tryz.func199
theorem ok200 : FnOK 104 200 := fm Tryz.f200 c_nat_Cmp Tryz.func200
theorem ok201 : FnOK 106 201 := fm Tryz.f201 c_nat_all Tryz.func201
theorem ok202 : FnOK 117 202 := fm Tryz.f202 c_nat_bound Tryz.func202
theorem ok203 : FnOK 113 203 := fm Tryz.f203 c_nat_mul Tryz.func203
theorem ok204 : FnOK 7 204 := fm Tryz.f204 c_round_Round Tryz.func204
theorem ok205 : FnOK 65 205 := fm Tryz.f205 c_ref02_Shift Tryz.func205
theorem ok206 : FnOK 66 206 := fm Tryz.f206 c_ref02_Floor Tryz.func206
theorem ok207 : FnOK 71 207 := fm Tryz.f207 c_ref04_half Tryz.func207
theorem ok208 : FnOK 39 208 := fm Tryz.f208 c_ref01_Same Tryz.func208
theorem ok209 : FnOK 47 209 := fm Tryz.f209 c_round_formOf Tryz.func209
theorem ok210 : FnOK 59 210 := fm Tryz.f210 c_word_Greatest_1 Tryz.func210
theorem ok211 : FnOK 115 211 := fm Tryz.f211 c_word_shapeOf Tryz.func211
theorem ok212 : FnOK 75 212 := fm Tryz.f212 c_dyad_asked Tryz.func212
theorem ok213 : FnOK 76 213 := fm Tryz.f213 c_dyad_wide Tryz.func213
theorem ok214 : FnOK 77 214 := fm Tryz.f214 c_nat_QuoRem Tryz.func214
theorem ok215 : FnOK 78 215 := fm Tryz.f215 c_dyad_made Tryz.func215
theorem ok216 : FnOK 51 216 := fm Tryz.f216 c_nat_Num Tryz.func216
theorem ok217 : FnOK 52 217 := fm Tryz.f217 c_round_part_units Tryz.func217
theorem ok218 : FnOK 53 218 := fm Tryz.f218 c_bits_Len64 Tryz.func218
theorem ok219 : FnOK 56 219 := fm Tryz.f219 c_word_Of Tryz.func219
theorem ok220 : FnOK 110 220 := fm Tryz.f220 c_ref01_byDigit Tryz.func220
theorem ok221 : FnOK 107 221 := fm Tryz.f221 c_nat_cmp Tryz.func221
theorem ok222 : FnOK 116 222 := fm Tryz.f222 c_nat_sub Tryz.func222
theorem ok223 : FnOK 112 223 := fm Tryz.f223 c_bits_Add32 Tryz.func223
theorem ok224 : FnOK 108 224 := fm Tryz.f224 c_nat_small Tryz.func224
noncomputable def cc225 : CC := { P := Tryz.prog, toS := toS, inl := fun n => List.elem n ([91, 120] : List Nat), dyn := false, N := Tryz.f225.ntmps }
theorem ok225 : FnOK 109 225 := fn_mk cc225 Tryz.f225 c_nat_long rfl rfl Tryz.func225 rfl rfl (by kernel_rfl) (by kernel_rfl)
theorem ok226 : FnOK 92 226 := fm Tryz.f226 c_round_btoi Tryz.func226
theorem ok227 : FnOK 93 227 := fm Tryz.f227 c_round_up Tryz.func227
theorem ok228 : FnOK 97 228 := fm Tryz.f228 c_word_shape_join Tryz.func228
theorem ok229 : FnOK 121 229 := fm Tryz.f229 c_bits_Sub32 Tryz.func229
theorem ok230 : FnOK 118 230 := fm Tryz.f230 c_bits_Div32 Tryz.func230
theorem ok231 : FnOK 119 231 := fm Tryz.f231 c_bits_LeadingZeros32 Tryz.func231
theorem ok232 : FnOK 120 232 := fm Tryz.f232 c_nat_step Tryz.func232
theorem all_fn : AllP FnOK lnk := ⟨ok4, ok5, ok7, ok9, ok10, ok11, ok12, ok13, ok14, ok16, ok17, ok18, ok19, ok20, ok21, ok22, ok23, ok24, ok26, ok28, ok29, ok30, ok31, ok32, ok33, ok34, ok35, ok36, ok37, ok38, ok39, ok40, ok41, ok42, ok43, ok44, ok45, ok46, ok47, ok48, ok49, ok50, ok51, ok52, ok53, ok54, ok55, ok56, ok57, ok59, ok60, ok61, ok62, ok63, ok64, ok65, ok66, ok67, ok68, ok69, ok70, ok71, ok72, ok73, ok74, ok75, ok76, ok77, ok78, ok79, ok80, ok81, ok82, ok83, ok84, ok85, ok86, ok87, ok88, ok89, ok90, ok91, ok92, ok93, ok94, ok95, ok96, ok97, ok98, ok99, ok100, ok101, ok102, ok103, ok104, ok105, ok106, ok107, ok108, ok109, ok110, ok111, ok112, ok113, ok114, ok115, ok116, ok117, ok118, ok119, ok120, ok121, ok122, ok123, ok124, ok125, ok126, ok127, ok128, ok129, ok130, ok131, ok132, ok133, ok134, ok135, ok136, ok137, ok138, ok139, ok140, ok141, ok142, ok143, ok144, ok145, ok146, ok147, ok148, ok149, ok150, ok151, ok152, ok153, ok154, ok155, ok156, ok157, ok158, ok159, ok160, ok161, ok162, ok163, ok164, ok165, ok166, ok167, ok168, ok169, ok170, ok171, ok172, ok173, ok174, ok175, ok176, ok177, ok178, ok179, ok180, ok181, ok182, ok183, ok184, ok185, ok186, ok187, ok188, ok189, ok190, ok191, ok192, ok193, ok194, ok195, ok196, ok197, ok198, ok199, ok200, ok201, ok202, ok203, ok204, ok205, ok206, ok207, ok208, ok209, ok210, ok211, ok212, ok213, ok214, ok215, ok216, ok217, ok218, ok219, ok220, ok221, ok222, ok223, ok224, ok225, ok226, ok227, ok228, ok229, ok230, ok231, ok232, trivial⟩
theorem prog_ok : ProgOK Tryz.prog L0 (tbl 0) := ⟨fun f g h => AllP.of all_fn f g h⟩
theorem mixed : Tryz.prog.follows .mixedOrders = true := by kernel_rfl
end Go.Proofs.YtabmkppfiklbaaaGreatDoor
namespace Go.Proofs.YtabmkppfiklbaaaGreatDoor
open Go Go.Cv Go.ChangeShapes Go.WideShapes Go.ChangeAt Go.WideMaps Go.WideElems Go.RowKit
theorem own : ownKnob Tryz.prog.godebug = none := by kernel_rfl
theorem laidOut : laidOutB Tryz.prog = true := by kernel_rfl
theorem gTab : Tryz.prog.globalNamed "math/bits.deBruijn32tab" = some 0 := by kernel_rfl
theorem tTab : (Tryz.prog.globals[0]?).map (·.type) = some 256 := by kernel_rfl
def laid1 : List (String × DataW Unit) := [("math/bits.deBruijn32tab", Rows.laid_math_bits_deBruijn32tab)]
theorem door_met (os : Os) (args : Array Value) : laidMetH Tryz.prog laid1 ((World.doorLaid Tryz.prog 400 os).forCall (fun _ _ => 0) ⟨#[], args, []⟩).memory :=
  laidMetH_of_parts3 (fuel := 8) (laidMet_of_run' 8 (by kernel_rfl) (by kernel_rfl)) (by kernel_rfl) (by kernel_rfl)
theorem of_laid {W : World} (h : laidMetH Tryz.prog laid1 W) : Gok (glb 0) ⟨L0, W, fun r => r < W.heap.size, noι⟩ := by
  rw [MakeChecks.laidMetH_plain _ _ _ (by kernel_rfl)] at h
  obtain ⟨ps, ⟨g0, t0, cs0, f0, p0, q0, hg0, ht0, hv0, hd0, _, _⟩, _, _⟩ := h
  obtain rfl := Option.some.inj (gTab.symm.trans hg0)
  obtain rfl := Option.some.inj (tTab.symm.trans ht0)
  have hc := tab_u8 (l := ntz32) (e := 5) (show Tryz.prog.underlying 256 = some (.array ntz32.length 5) by kernel_rfl) (show Tryz.prog.underlying 5 = some (.int .u8) by kernel_rfl) (by kernel_rfl) hd0
  exact gok_u8 (fun j d hj => by rw [World.var?_cell hg0 hv0 j]; exact hc j d hj) (by decide)
end Go.Proofs.YtabmkppfiklbaaaGreatDoor
