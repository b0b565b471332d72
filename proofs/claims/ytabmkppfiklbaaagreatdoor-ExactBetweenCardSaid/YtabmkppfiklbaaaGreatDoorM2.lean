/-
  A part of the proof of the statements of this seat (texts that the law's own text leans on): no condition.
-/
import Derived.Test.YtabmkppfiklbaaaGreatDoorM1
import Derived.ProofKit
import Derived.WalkKit
import Derived.Laws.StructEq
set_option linter.unusedVariables false
set_option linter.unusedSimpArgs false
namespace Go.Cv
structure BI where
  r : Nat
  base : Nat
  len : Nat
  rs : Nat
structure Sc where
  L : Nat → Option FuncId
  w : World
  ro : Nat → Prop
  ι : Nat → Option BI
def Sc.cl (S : Sc) : Sc := { S with ι := fun _ => none }
mutual
def Rel (S : Sc) : AV → Value → Prop
  | .undef, _ => True
  | .int k n, u => u = .int k n
  | .bool b, u => u = .bool b
  | .fl k b, u => u = .float k b
  | .nil, u => u = .slice none 0 0
  | .imm n cs, u => ∃ a c, u = .slice a n c ∧ n ≤ c ∧ (cs = [] ∨ ∃ r o, a = some ⟨r, o, none⟩ ∧ S.ro r ∧ RelAt S.cl r cs o)
  | .own b off n sz, u => ∃ i c, S.ι b = some i ∧ u = .slice (some ⟨i.r, i.base + off, none⟩) n c ∧ n ≤ c ∧ i.base + off + c * sz ≤ i.rs ∧ i.len ≤ off + c * sz
  | .ptr b off, u => ∃ i, S.ι b = some i ∧ u = .pointer (some ⟨i.r, i.base + off, none⟩)
  | .iptr cs off, u => ∃ r o, u = .pointer (some ⟨r, o + off, none⟩) ∧ (cs = [] ∨ S.ro r ∧ RelAt S.cl r cs o)
  | .gptr g off, u => u = .pointer (some ⟨g, off, none⟩)
  | .agg cs, u => ∃ us, u = .agg us ∧ RelL S cs us.toList
  | .tup cs, u => ∃ us, u = .tuple us ∧ RelL S cs us.toList
  | .fn f cap, u => ∃ g us, S.L f = some g ∧ u = .func (.func g) #[] us ∧ RelL S cap us.toList
def RelL (S : Sc) : List AV → List Value → Prop
  | [], us => us = []
  | v :: vs, us => ∃ u r, us = u :: r ∧ Rel S v u ∧ RelL S vs r
def RelAt (S : Sc) (b : Nat) : List AV → Nat → Prop
  | [], _ => True
  | v :: vs, o => (∃ u, S.w.cell? ⟨b, o, none⟩ = some u ∧ u.oneCell' = true ∧ Rel S v u) ∧ RelAt S b vs (o + 1)
end
structure Sc.Le (S S' : Sc) : Prop where
  L : S'.L = S.L
  ro : ∀ r, S.ro r → S'.ro r
  cells : ∀ r, S.ro r → S'.w.heap[r]? = S.w.heap[r]?
  ι : ∀ (b : Nat) (i : BI), S.ι b = some i → S'.ι b = some i
theorem Sc.Le.cl {S S' : Sc} (h : S.Le S') : S.cl.Le S'.cl := ⟨h.L, h.ro, h.cells, fun b i x => by simp [Sc.cl] at x⟩
theorem Sc.cl_le (S : Sc) : S.cl.Le S := ⟨rfl, fun _ h => h, fun _ _ => rfl, fun b i x => by simp [Sc.cl] at x⟩
theorem Sc.Le.refl (S : Sc) : S.Le S := ⟨rfl, fun _ h => h, fun _ _ => rfl, fun _ _ h => h⟩
theorem Sc.Le.trans {a b c : Sc} (h : a.Le b) (k : b.Le c) : a.Le c :=
  ⟨k.L.trans h.L, fun r x => k.ro r (h.ro r x), fun r x => (k.cells r (h.ro r x)).trans (h.cells r x), fun b i x => k.ι b i (h.ι b i x)⟩
mutual
theorem Rel.mono {S S' : Sc} (h : S.Le S') : ∀ (v : AV) (u : Value), Rel S v u → Rel S' v u
  | .undef, _, _ => by simp only [Rel]
  | .int k n, u, x => by simpa only [Rel] using x
  | .bool b, u, x => by simpa only [Rel] using x
  | .fl k b, u, x => by simpa only [Rel] using x
  | .nil, u, x => by simpa only [Rel] using x
  | .imm n cs, u, x => by
    simp only [Rel] at x ⊢
    obtain ⟨a, c, e, hn, hx⟩ := x
    refine ⟨a, c, e, hn, hx.imp id ?_⟩
    rintro ⟨r, o, ea, hr, hc⟩
    exact ⟨r, o, ea, h.ro r hr, RelAt.mono h.cl r hr cs o hc⟩
  | .own b off n sz, u, x => by
    simp only [Rel] at x ⊢
    obtain ⟨i, c, hi, hx⟩ := x
    exact ⟨i, c, h.ι b i hi, hx⟩
  | .ptr b off, u, x => by
    simp only [Rel] at x ⊢
    obtain ⟨i, hi, hx⟩ := x
    exact ⟨i, h.ι b i hi, hx⟩
  | .iptr cs off, u, x => by
    simp only [Rel] at x ⊢
    obtain ⟨r, o, e, hx⟩ := x
    refine ⟨r, o, e, hx.imp id ?_⟩
    rintro ⟨hr, hc⟩
    exact ⟨h.ro r hr, RelAt.mono h.cl r hr cs o hc⟩
  | .gptr g off, u, x => by simpa only [Rel] using x
  | .agg cs, u, x => by
    simp only [Rel] at x ⊢
    obtain ⟨us, e, hx⟩ := x
    exact ⟨us, e, RelL.mono h cs us.toList hx⟩
  | .tup cs, u, x => by
    simp only [Rel] at x ⊢
    obtain ⟨us, e, hx⟩ := x
    exact ⟨us, e, RelL.mono h cs us.toList hx⟩
  | .fn f cs, u, x => by
    simp only [Rel] at x ⊢
    obtain ⟨g, us, hg, e, hx⟩ := x
    exact ⟨g, us, by rw [h.L]; exact hg, e, RelL.mono h cs us.toList hx⟩
theorem RelL.mono {S S' : Sc} (h : S.Le S') : ∀ (vs : List AV) (us : List Value), RelL S vs us → RelL S' vs us
  | [], us, x => by simpa only [RelL] using x
  | v :: vs, us, x => by
    simp only [RelL] at x ⊢
    obtain ⟨u, r, e, h1, h2⟩ := x
    exact ⟨u, r, e, Rel.mono h v u h1, RelL.mono h vs r h2⟩
theorem RelAt.mono {S S' : Sc} (h : S.Le S') (b : Nat) (hb : S.ro b) : ∀ (vs : List AV) (o : Nat), RelAt S b vs o → RelAt S' b vs o
  | [], o, x => by simp only [RelAt]
  | v :: vs, o, x => by
    simp only [RelAt] at x ⊢
    obtain ⟨⟨u, h1, h2, h3⟩, h4⟩ := x
    exact ⟨⟨u, by rw [← h1]; exact World.cell?_of_block (h.cells b hb), h2, Rel.mono h v u h3⟩, RelAt.mono h b hb vs (o + 1) h4⟩
end
theorem relAt_iff {S : Sc} {b : Nat} : ∀ {vs : List AV} {o : Nat}, RelAt S b vs o ↔ ∀ j v, vs[j]? = some v → ∃ u, S.w.cell? ⟨b, o + j, none⟩ = some u ∧ u.oneCell' = true ∧ Rel S v u
  | [], o => by simp [RelAt]
  | v :: vs, o => by
    simp only [RelAt]
    constructor
    · rintro ⟨h0, h1⟩ j x hj
      cases j with
      | zero => simp at hj; subst hj; simpa using h0
      | succ j =>
        simp at hj
        have := relAt_iff.1 h1 j x hj
        rwa [show o + 1 + j = o + (j + 1) by omega] at this
    · intro h
      refine ⟨by simpa using h 0 v rfl, relAt_iff.2 fun j x hj => ?_⟩
      have := h (j + 1) x (by simpa using hj)
      rwa [show o + (j + 1) = o + 1 + j by omega] at this
theorem relL_length {S : Sc} : ∀ {vs : List AV} {us : List Value}, RelL S vs us → us.length = vs.length
  | [], us, h => by simp only [RelL] at h; subst h; rfl
  | v :: vs, us, h => by
    simp only [RelL] at h
    obtain ⟨u, r, rfl, _, h2⟩ := h
    simp [relL_length h2]
theorem relL_get {S : Sc} : ∀ {vs : List AV} {us : List Value}, RelL S vs us → ∀ (j : Nat) (v : AV), vs[j]? = some v → ∃ u, us[j]? = some u ∧ Rel S v u
  | [], us, h, j, v, hj => by simp at hj
  | v :: vs, us, h, j, x, hj => by
    simp only [RelL] at h
    obtain ⟨u, r, rfl, h1, h2⟩ := h
    cases j with
    | zero => simp at hj; subst hj; exact ⟨u, rfl, h1⟩
    | succ j => simpa using relL_get h2 j x (by simpa using hj)
theorem relL_of {S : Sc} : ∀ {vs : List AV} {us : List Value}, us.length = vs.length → (∀ (j : Nat) (v : AV) (u : Value), vs[j]? = some v → us[j]? = some u → Rel S v u) → RelL S vs us
  | [], us, h, _ => by simp only [RelL]; exact List.length_eq_zero_iff.1 h
  | v :: vs, [], h, _ => by simp at h
  | v :: vs, u :: us, h, k => by
    simp only [RelL]
    exact ⟨u, us, rfl, k 0 v u rfl rfl, relL_of (by simpa using h) fun j x y hx hy => k (j + 1) x y (by simpa using hx) (by simpa using hy)⟩
theorem relL_append {S : Sc} : ∀ {vs vs' : List AV} {us us' : List Value}, RelL S vs us → RelL S vs' us' → RelL S (vs ++ vs') (us ++ us')
  | [], vs', us, us', h, k => by simp only [RelL] at h; subst h; exact k
  | v :: vs, vs', us, us', h, k => by
    simp only [RelL] at h
    obtain ⟨u, r, rfl, h1, h2⟩ := h
    simp only [List.cons_append, RelL]
    exact ⟨u, r ++ us', rfl, h1, relL_append h2 k⟩
theorem add_none (b o n : Nat) : (⟨b, o, none⟩ : Addr).add n = ⟨b, o + n, none⟩ := by
  unfold Addr.add
  split
  · next h => subst h; rfl
  · rfl
theorem relAt_vals {S : Sc} {b : Nat} : ∀ {vs : List AV} {o : Nat}, RelAt S b vs o →
    ∃ us : List Value, RelL S vs us ∧ (∀ j u, us[j]? = some u → S.w.cell? ((⟨b, o, none⟩ : Addr).add j) = some u) ∧ ∀ u ∈ us, u.oneCell' = true
  | [], o, _ => ⟨[], by simp only [RelL], by simp, by simp⟩
  | v :: vs, o, h => by
    simp only [RelAt] at h
    obtain ⟨⟨u, h1, h2, h3⟩, h4⟩ := h
    obtain ⟨us, k1, k2, k3⟩ := relAt_vals h4
    refine ⟨u :: us, ?_, ?_, ?_⟩
    · simp only [RelL]; exact ⟨u, us, rfl, h3, k1⟩
    · intro j x hj
      cases j with
      | zero => simp at hj; subst hj; rw [add_none]; exact h1
      | succ j =>
        have := k2 j x (by simpa using hj)
        rw [add_none] at this ⊢
        rwa [show o + 1 + j = o + (j + 1) by omega] at this
    · intro x hx
      rcases List.mem_cons.1 hx with rfl | hx
      · exact h2
      · exact k3 x hx
theorem relAt_sub {S : Sc} {b : Nat} {vs : List AV} {o : Nat} (h : RelAt S b vs o) (i n : Nat) : RelAt S b ((vs.drop i).take n) (o + i) :=
  relAt_iff.2 fun j v hj => by
    have hj' : vs[i + j]? = some v := by
      rw [List.getElem?_take] at hj
      split at hj
      · rwa [List.getElem?_drop] at hj
      · cases hj
    have := relAt_iff.1 h (i + j) v hj'
    rwa [show o + (i + j) = o + i + j by omega] at this
theorem okCell_one {S : Sc} {v : AV} {u : Value} (h : Rel S v u) (hv : okCell v = true) : u.oneCell' = true := by
  cases v <;> simp only [okCell, Bool.false_eq_true] at hv <;> simp only [Rel] at h
  all_goals first
    | (subst h; rfl)
    | (obtain ⟨a, c, rfl, _⟩ := h; rfl)
    | (obtain ⟨i, c, _, rfl, _⟩ := h; rfl)
    | (obtain ⟨i, _, rfl⟩ := h; rfl)
    | (obtain ⟨g, us, _, rfl, _⟩ := h; rfl)
theorem cells_uno {u : Value} (h : ∀ us, u ≠ .agg us) : u.cells = #[u] := by
  cases u <;> first | rfl | exact absurd rfl (h _)
theorem rel_cells {S : Sc} {v : AV} {u : Value} (h : Rel S v u) (hv : (cellsA v).all okCell = true) :
    RelL S (cellsA v) u.cells.toList ∧ ∀ x ∈ u.cells.toList, x.oneCell' = true := by
  have hone : ∀ {vs : List AV} {us : List Value}, RelL S vs us → vs.all okCell = true → ∀ x ∈ us, x.oneCell' = true := by
    intro vs
    induction vs with
    | nil => intro us h _ x hx; simp only [RelL] at h; subst h; cases hx
    | cons v vs ih =>
      intro us h hv x hx
      simp only [RelL] at h
      obtain ⟨u, r, rfl, h1, h2⟩ := h
      simp only [List.all_cons, Bool.and_eq_true] at hv
      rcases List.mem_cons.1 hx with rfl | hx
      · exact okCell_one h1 hv.1
      · exact ih h2 hv.2 x hx
  cases v
  case agg cs =>
    simp only [Rel] at h
    obtain ⟨us, rfl, h⟩ := h
    exact ⟨h, hone h hv⟩
  all_goals
    simp only [cellsA, List.all_cons, List.all_nil, Bool.and_true] at hv
    have h1 := okCell_one h hv
    have hc : u.cells = #[u] := cells_uno (by rintro us rfl; simp [Value.oneCell'] at h1)
    rw [hc]
    exact ⟨by simp only [cellsA, RelL]; exact ⟨u, [], rfl, h, rfl⟩, by simp [h1]⟩
structure BOk (n0 : Nat) (S : Sc) (k : Blk) (i : BI) : Prop where
  len : k.cs.length = i.len
  low : n0 ≤ i.r
  fit : i.base + i.len ≤ i.rs
  row : ∃ c e, S.w.heap[i.r]? = some (.cells c e (0, 0)) ∧ c.size = i.rs
  cells : k.dead = false → RelAt S i.r k.cs i.base
structure HR (A : Nat → Prop) (n0 : Nat) (S : Sc) (hp : Mem) (fz : Nat → Prop) : Prop where
  blk : ∀ (b : Nat) (k : Blk) (i : BI), hp b = some k → S.ι b = some i → BOk n0 S k i
  dom : ∀ (b : Nat) (i : BI), S.ι b = some i → ∃ k, hp b = some k
  inj : ∀ (b b' : Nat) (k k' : Blk) (i i' : BI), hp b = some k → hp b' = some k' → S.ι b = some i → S.ι b' = some i' → k.dead = false → k'.dead = false → i.r = i'.r → b = b'
  ro : ∀ r, S.ro r → r < S.w.heap.size ∧ (r < n0 → A r) ∧ ∀ (b : Nat) (k : Blk) (i : BI), hp b = some k → S.ι b = some i → k.dead = false → ¬ fz b → i.r ≠ r
  old : n0 ≤ S.w.heap.size
theorem row_lt {w : World} {r : Nat} {o : Obj} (h : w.heap[r]? = some o) : r < w.heap.size := by
  rcases Nat.lt_or_ge r w.heap.size with x | x
  · exact x
  · simp [Array.getElem?_eq_none x] at h
theorem HR.ext {A : Nat → Prop} {n0 : Nat} {S : Sc} {hp hp' : Mem} {fz fz' : Nat → Prop} (H : HR A n0 S hp fz) (he : ∀ (b : Nat) (i : BI), S.ι b = some i → hp' b = hp b) (hf : ∀ b, fz b → fz' b) : HR A n0 S hp' fz' := by
  have e : ∀ {b : Nat} {k : Blk} {i : BI}, hp' b = some k → S.ι b = some i → hp b = some k := fun hb hi => by rw [← he _ _ hi]; exact hb
  exact ⟨fun b k i hb hi => H.blk b k i (e hb hi) hi, fun b i hi => by rw [he b i hi]; exact H.dom b i hi,
    fun b b' k k' i i' hb hb' hi hi' => H.inj b b' k k' i i' (e hb hi) (e hb' hi') hi hi',
    fun r hr => let ⟨x, y, z⟩ := H.ro r hr; ⟨x, y, fun b k i hb hi hd hz => z b k i (e hb hi) hi hd fun q => hz (hf b q)⟩, H.old⟩
theorem HR.read {A : Nat → Prop} {n0 : Nat} {S : Sc} {hp hq : Mem} {fz : Nat → Prop} (H : HR A n0 S hp fz) (hle : ∀ b k, hq b = some k → hp b = some k) {b off n : Nat} {cs : List AV} (hr : rdBlk hq b off n = some cs) {i : BI} (hi : S.ι b = some i) :
    RelAt S i.r cs (i.base + off) ∧ cs.length = n := by
  unfold rdBlk at hr
  cases hb : hq b with
  | none => simp [hb] at hr
  | some k =>
    simp only [hb] at hr
    split at hr
    · cases hr
    · next hd =>
      split at hr
      · next hl =>
        cases hr
        have B := H.blk b k i (hle b k hb) hi
        exact ⟨relAt_sub (B.cells (by simpa using hd)) off n, by simp; omega⟩
      · cases hr
end Go.Cv
namespace Go.Cv
structure CC where
  P : Program
  toS : FuncId → Option Nat
  inl : Nat → Bool
  dyn : Bool
  N : Nat
def avC : Value → Option AV
  | .int k n => some (.int k n)
  | .bool b => some (.bool b)
  | .float k b => some (.fl k b)
  | .slice none 0 0 => some .nil
  | _ => none
def mapO {α β : Type} (f : α → Option β) : List α → Option (List β)
  | [] => some []
  | x :: xs => match f x, mapO f xs with
    | some y, some ys => some (y :: ys)
    | _, _ => none
def compOpd (C : CC) : Operand → Option IOpd
  | .tmp t => some (.t t)
  | .const v => (avC v).map .c
  | .global g => some (.g g)
  | .func f => (C.toS f).map .f
def aggT (P : Program) (t : TypeId) : Option Bool :=
  match P.underlying t with
  | some (.struct _) => some true
  | some (.array _ _) => some true
  | some _ => some false
  | none => none
def compParts (C : CC) (place : Nat → Option (Nat × Nat)) (ps : Array (Nat × Operand)) : Option (List (Nat × Nat × IOpd)) :=
  mapO (fun (i, x) => match place i, compOpd C x with
    | some (o, n), some y => some (o, n, y)
    | _, _ => none) ps.toList
def zeroC (P : Program) (t : TypeId) : Option (List AV) :=
  match P.info? t with
  | some i => match i.zero with
    | some z => if z.cells.size = i.size then mapO avC z.cells.toList else none
    | none => none
  | none => none
def placesOf (P : Program) (fields : Array Field) : Option (List (Nat × Nat)) :=
  mapO (fun f => (P.info? f.type).map fun i => (f.offset, i.size)) fields.toList
def leavesF (P : Program) (go : TypeId → Option (List Bool)) : Nat → List Field → Option (List Bool)
  | _, [] => some []
  | off, f :: fs => if f.name ≠ "_" ∧ f.offset = off then match go f.type, P.info? f.type with
      | some l, some i => if i.size = l.length then (leavesF P go (off + l.length) fs).map (l ++ ·) else none
      | _, _ => none
    else none
def leavesC (P : Program) : Nat → TypeId → Option (List Bool)
  | 0, _ => none
  | d + 1, t => match P.underlying t with
    | some (.int _) => some [false]
    | some .bool => some [true]
    | some (.struct fs) => if P.stoodInHeld t then none else leavesF P (leavesC P d) 0 fs.toList
    | _ => none
def compOp (C : CC) : Op → Option IOp
  | .move x => (compOpd C x).map .mov
  | .assign x => (compOpd C x).map .mov
  | .pick c a b => match compOpd C c, compOpd C a, compOpd C b with
    | some c, some a, some b => some (.pick c a b)
    | _, _, _ => none
  | .binOp op xt x y _ => match compOpd C x, compOpd C y with
    | some x, some y => match C.P.underlying xt with
      | some (.int _) => some (.bin op x y)
      | some .bool => match op with
        | .eql => some (.eqb false x y)
        | .neq => some (.eqb true x y)
        | _ => none
      | some (.struct _) => match leavesC C.P 8 xt with
        | some ls => if C.P.eqGuardType C.P.depth xt then none else match op with
          | .eql => some (.eqs false ls x y)
          | .neq => some (.eqs true ls x y)
          | _ => none
        | none => none
      | _ => none
    | _, _ => none
  | .unOp op _ x => (compOpd C x).map (.un op)
  | .convert s d x => match C.P.underlying s, C.P.underlying d, compOpd C x with
    | some (.int _), some (.int k), some x => some (.cvt k x)
    | _, _, _ => none
  | .extract x i => (compOpd C x).map fun x => .ext x i
  | .load t a => match aggT C.P t, C.P.info? t, compOpd C a with
    | some g, some i, some a => if g || i.size == 1 then some (.load g i.size a) else none
    | _, _, _ => none
  | .store t a v => match C.P.info? t, compOpd C a, compOpd C v with
    | some i, some a, some v => some (.store i.size a v)
    | _, _, _ => none
  | .alloc t => (zeroC C.P t).map .alloc
  | .box t x => match C.P.info? t, compOpd C x with
    | some i, some x => some (.box i.size x)
    | _, _ => none
  | .build t ps => match C.P.underlying t, zeroC C.P t with
    | some (.struct fields), some z => match placesOf C.P fields with
      | some pl => (compParts C (pl[·]?) ps).map (.build z)
      | none => none
    | some (.array _ e), some z => match C.P.info? e with
      | some i => (compParts C (fun j => some (j * i.size, i.size)) ps).map (.build z)
      | none => none
    | _, _ => none
  | .buildSlice t n ps => match C.P.underlying t with
    | some (.slice e) => match C.P.info? e, zeroC C.P e with
      | some i, some z => if n * i.size ≤ 16777216 then (compParts C (fun j => some (j * i.size, i.size)) ps).map (.bslice n i.size z) else none
      | _, _ => none
    | _ => none
  | .fieldAddr s x f => match C.P.underlying s, compOpd C x with
    | some (.struct fields), some x => match fields[f]? with
      | some f => match C.P.info? f.type with
        | some i => if i.size = 0 then none else some (.faddr f.offset x)
        | none => none
      | none => none
    | _, _ => none
  | .field s x f => match C.P.underlying s, compOpd C x with
    | some (.struct fields), some x => match fields[f]? with
      | some f => match C.P.info? f.type, aggT C.P f.type with
        | some i, some g => if g || i.size == 1 then some (.field g f.offset i.size x) else none
        | _, _ => none
      | none => none
    | _, _ => none
  | .indexAddr t x i => match C.P.underlying t, compOpd C x, compOpd C i with
    | some (.slice e), some x, some i => (C.P.info? e).map fun inf => .iaddr inf.size x i
    | some (.array n e), some x, some i => (C.P.info? e).map fun inf => .iaddrA n inf.size x i
    | _, _, _ => none
  | .index t (.const (.string s)) i => match C.P.underlying t, compOpd C i with
    | some .string, some i => some (.strix (s.data.toList.map (·.toNat)) i)
    | _, _ => none
  | .index t x i => match C.P.underlying t, compOpd C x, compOpd C i with
    | some (.array n e), some x, some i => match C.P.info? e, aggT C.P e with
      | some inf, some g => if g || inf.size == 1 then some (.index g n inf.size x i) else none
      | _, _ => none
    | _, _, _ => none
  | .slice t x lo hi none => match C.P.underlying t, compOpd C x with
    | some (.slice e), some x => match C.P.info? e with
      | some i => match lo, hi with
        | none, none => some (.slice i.size x none none)
        | some l, none => (compOpd C l).map fun l => .slice i.size x (some l) none
        | none, some h => (compOpd C h).map fun h => .slice i.size x none (some h)
        | some l, some h => match compOpd C l, compOpd C h with
          | some l, some h => some (.slice i.size x (some l) (some h))
          | _, _ => none
      | none => none
    | _, _ => none
  | .makeSlice t l c => match C.P.underlying t, compOpd C l, compOpd C c with
    | some (.slice e), some l, some c => match C.P.info? e, zeroC C.P e with
      | some i, some z => some (.mk i.size i.bytes z l c)
      | _, _ => none
    | _, _, _ => none
  | .makeFunc (.func f) first cap => if first.size = 0 then (match C.toS f, mapO (compOpd C) cap.toList with
      | some f, some cap => some (.mkfn f cap)
      | _, _ => none) else none
  | .call { callee := .builtin .len, args, argTypes } => match args.toList, argTypes.toList with
    | [x], [t] => match C.P.underlying t with
      | some (.slice _) => (compOpd C x).map .len
      | _ => none
    | _, _ => none
  | .call { callee := .builtin .max, args, .. } => match mapO (compOpd C) args.toList with
    | some (x :: xs) => some (.mm true x xs)
    | _ => none
  | .call { callee := .builtin .min, args, .. } => match mapO (compOpd C) args.toList with
    | some (x :: xs) => some (.mm false x xs)
    | _ => none
  | .call { callee := .builtin .append, args, argTypes } => match args.toList, argTypes.toList with
    | [x, y], [t, t'] => match C.P.underlying t, C.P.underlying t', compOpd C x, compOpd C y with
      | some (.slice e), some (.slice _), some x, some y => match C.P.info? e, zeroC C.P e with
        | some i, some _ => some (.app i.size i.bytes x y)
        | _, _ => none
      | _, _, _, _ => none
    | _, _ => none
  | .call { callee := .value f, args, .. } => match compOpd C f, mapO (compOpd C) args.toList with
    | some (.f n), some as => some (.call (C.inl n) (.f n) as)
    | some (.t n), some as => some (.call C.dyn (.t n) as)
    | _, _ => none
  | _ => none
def gdst (ops : Array Oper) : Option (Nat × Bool) → Option (Option (Nat × Bool))
  | none => some none
  | some (j, want) => match (ops[j]?).bind (·.dst) with
    | some t => some (some (t, want))
    | none => none
def compOper (C : CC) (ops : Array Oper) (o : Oper) : Option IOper :=
  match compOp C o.op, gdst ops o.guard with
  | some op, some g => match o.dst with
    | none => some ⟨none, op, g⟩
    | some d => if d < C.N then some ⟨some d, op, g⟩ else none
  | _, _ => none
def opdT : IOpd → List Nat
  | .t n => [n]
  | _ => []
def tmpsOf : IOp → List Nat
  | .mov x => opdT x
  | .pick c a b => opdT c ++ opdT a ++ opdT b
  | .bin _ x y => opdT x ++ opdT y
  | .eqb _ x y => opdT x ++ opdT y
  | .eqs _ _ x y => opdT x ++ opdT y
  | .un _ x => opdT x
  | .cvt _ x => opdT x
  | .ext x _ => opdT x
  | .load _ _ a => opdT a
  | .store _ a v => opdT a ++ opdT v
  | .alloc _ => []
  | .box _ x => opdT x
  | .build _ ps => ps.flatMap fun p => opdT p.2.2
  | .bslice _ _ _ ps => ps.flatMap fun p => opdT p.2.2
  | .faddr _ x => opdT x
  | .field _ _ _ x => opdT x
  | .iaddr _ x i => opdT x ++ opdT i
  | .iaddrA _ _ x i => opdT x ++ opdT i
  | .index _ _ _ x i => opdT x ++ opdT i
  | .strix _ i => opdT i
  | .slice _ x lo hi => opdT x ++ (lo.toList ++ hi.toList).flatMap opdT
  | .mk _ _ _ l c => opdT l ++ opdT c
  | .len x => opdT x
  | .mm _ x xs => opdT x ++ xs.flatMap opdT
  | .app _ _ x y => opdT x ++ opdT y
  | .call _ f as => opdT f ++ as.flatMap opdT
  | .mkfn _ cap => cap.flatMap opdT
def readsOf (o : IOper) : List Nat := tmpsOf o.op ++ (o.guard.map (·.1)).toList
def sens : IOp → Bool
  | .load _ _ _ | .store _ _ _ | .alloc _ | .box _ _ | .bslice _ _ _ _ | .slice _ _ _ _ | .mk _ _ _ _ _ | .app _ _ _ _ | .call _ _ _ => true
  | _ => false
def indT (x y : IOper) : Bool :=
  (match x.dst with
    | some d => !(readsOf y).contains d && y.dst != some d
    | none => true) &&
  (match y.dst with
    | some d => !(readsOf x).contains d
    | none => true)
def indM (x y : IOper) : Bool := !(isW x.op && sens y.op) && !(sens x.op && isW y.op)
def loneS (l : List IOper) (i j : Nat) : Bool :=
  match l[i]?, l[j]? with
  | some ⟨_, .load _ _ a, _⟩, some ⟨_, .store _ b _, _⟩ =>
    (List.range l.length).all fun m => match l[m]? with
      | some z => (decide (m < i) || (opdT a).all fun t => z.dst != some t) && (decide (m < j) || (opdT b).all fun t => z.dst != some t)
      | none => true
  | _, _ => false
def chkOf (ops : Array Oper) (l : List IOper) : List (Nat × Nat) :=
  let b := Region.before ops
  (List.range l.length).flatMap fun j => (List.range j).filterMap fun i => match l[i]?, l[j]? with
    | some x, some y => if (b.getD j 0).testBit i || indM x y then none else some (i, j)
    | _, _ => none
def drawOk (ops : Array Oper) (l : List IOper) (chk : List (Nat × Nat)) : Bool :=
  let b := Region.before ops
  ((List.range ops.size).all fun i => match ops[i]? with
    | some o => o.after.toList.all fun e => !Region.binds .any e || decide (e.on < i)
    | none => true) &&
  ((List.range l.length).all fun j => (List.range j).all fun i => match l[i]?, l[j]? with
    | some x, some y => ((b.getD j 0).testBit i || (indT x y && (indM x y || (chk.contains (i, j) && loneS l i j)))) && !(isW x.op && sens y.op && !isW y.op)
    | _, _ => true)
def compC (C : CC) : Code → Option IC
  | .skip => some .skip
  | .ret => some .ret
  | .exit id => some (.exit id)
  | .region _ ops draw => match mapO (compOper C ops) ops.toList with
    | some l => if draw then (if drawOk ops l (chkOf ops l) then some (.reg l [] (chkOf ops l)) else some .fail) else some (.reg l [] [])
    | none => some .fail
  | .seq a b => match compC C a, compC C b with
    | some a, some b => some (.seq a b)
    | _, _ => none
  | .cond c a b => match compOpd C c, compC C a, compC C b with
    | some c, some a, some b => some (.cond c a b)
    | _, _, _ => none
  | .block id a => (compC C a).map (.block id)
  | .loop a => (compC C a).map (.loop [])
  | _ => none
def erase : IC → IC
  | .reg ops _ chk => .reg ops [] chk
  | .seq a b => .seq (erase a) (erase b)
  | .cond c a b => .cond c (erase a) (erase b)
  | .block id a => .block id (erase a)
  | .loop _ a => .loop [] (erase a)
  | c => c
def compRes (P : Program) : ResultVar → Option IRes
  | .tmp t => some (.tmp t)
  | .cell t ty => match aggT P ty, P.info? ty with
    | some g, some i => if g || i.size == 1 then some (.cell t g i.size) else none
    | _, _ => none
theorem mapO_length {α β : Type} {f : α → Option β} : ∀ {xs : List α} {ys : List β}, mapO f xs = some ys → ys.length = xs.length
  | [], ys, h => by simp [mapO] at h; subst h; rfl
  | x :: xs, ys, h => by
    simp only [mapO] at h
    split at h
    · next y ys' h1 h2 => cases h; simp [mapO_length h2]
    · cases h
theorem mapO_get {α β : Type} {f : α → Option β} : ∀ {xs : List α} {ys : List β}, mapO f xs = some ys → ∀ (j : Nat) (y : β), ys[j]? = some y → ∃ x, xs[j]? = some x ∧ f x = some y
  | [], ys, h, j, y, hj => by simp [mapO] at h; subst h; simp at hj
  | x :: xs, ys, h, j, y, hj => by
    simp only [mapO] at h
    split at h
    · next y' ys' h1 h2 =>
      cases h
      cases j with
      | zero => simp at hj; subst hj; exact ⟨x, rfl, h1⟩
      | succ j => simpa using mapO_get h2 j y (by simpa using hj)
    · cases h
theorem avC_rel {S : Sc} {v : Value} {x : AV} (h : avC v = some x) : Rel S x v ∧ okCell x = true := by
  unfold avC at h
  split at h <;> cases h <;> simp [Rel, okCell]
theorem relL_mapO {S : Sc} {us : List Value} {vs : List AV} (h : mapO avC us = some vs) : RelL S vs us ∧ vs.all okCell = true := by
  induction us generalizing vs with
  | nil => simp [mapO] at h; subst h; simp [RelL]
  | cons u us ih =>
    simp only [mapO] at h
    split at h
    · next y ys h1 h2 =>
      cases h
      obtain ⟨a, b⟩ := avC_rel (S := S) h1
      obtain ⟨c, d⟩ := ih h2
      exact ⟨by simp only [RelL]; exact ⟨u, us, rfl, a, c⟩, by simp [b, d]⟩
    · cases h
structure Link (C : CC) (L : Nat → Option FuncId) : Prop where
  to : ∀ g f, C.toS g = some f → L f = some g
  fn : ∀ f g, L f = some g → ∃ fn, C.P.funcs[g]? = some fn ∧ fn.name ≠ "runtime.NumGoroutine" ∧ fn.body.isSome = true
structure EnvR (S : Sc) (N : Nat) (e : Env) (a : Act) : Prop where
  size : N ≤ a.tmps.size
  get : ∀ t, Rel S (getE e t) (a.tmps.getD t undef)
theorem EnvR.mono {S S' : Sc} {N : Nat} {e : Env} {a : Act} (h : S.Le S') (k : EnvR S N e a) : EnvR S' N e a := ⟨k.size, fun t => (k.get t).mono h⟩
theorem opd_rel {C : CC} {S : Sc} (hL : Link C S.L) {e : Env} {a : Act} (hE : EnvR S C.N e a) {x : Operand} {y : IOpd} (h : compOpd C x = some y) : Rel S (opd e y) (a.eval x) := by
  cases x with
  | tmp t => simp [compOpd] at h; subst h; exact hE.get t
  | const v =>
    simp only [compOpd, Option.map_eq_some_iff] at h
    obtain ⟨z, hz, rfl⟩ := h
    exact (avC_rel hz).1
  | global g => simp [compOpd] at h; subst h; simp [opd, Rel, Act.eval]
  | func f =>
    simp only [compOpd, Option.map_eq_some_iff] at h
    obtain ⟨z, hz, rfl⟩ := h
    simp only [opd, Rel, Act.eval]
    exact ⟨f, #[], hL.to f z hz, rfl, by simp [RelL]⟩
theorem opds_rel {C : CC} {S : Sc} (hL : Link C S.L) {e : Env} {a : Act} (hE : EnvR S C.N e a) {xs : List Operand} {ys : List IOpd} (h : mapO (compOpd C) xs = some ys) :
    RelL S (ys.map (opd e)) (xs.map a.eval) :=
  relL_of (by simp [mapO_length h]) fun j v u hv hu => by
    rw [List.getElem?_map] at hv hu
    simp only [Option.map_eq_some_iff] at hv hu
    obtain ⟨y, hy, rfl⟩ := hv
    obtain ⟨x, hx, rfl⟩ := hu
    obtain ⟨x', hx', hc⟩ := mapO_get h j y hy
    rw [hx] at hx'; cases hx'
    exact opd_rel hL hE hc
def Sc.at (S : Sc) (w' : World) : Sc := { S with w := w' }
def Sc.new (S : Sc) (w' : World) (p : Nat) (i : BI) : Sc := { S with w := w', ι := fun b => if b = p then some i else S.ι b }
structure Ok (A : Nat → Prop) (n0 : Nat) (S : Sc) (S' : Sc) (hp : Mem) (fz : Nat → Prop) : Prop where
  le : S.Le S'
  hr : HR A n0 S' hp fz
  below : Go.RowKit.Below n0 S.w S'.w
theorem Ok.refl {A : Nat → Prop} {n0 : Nat} {S : Sc} {hp : Mem} {fz : Nat → Prop} (H : HR A n0 S hp fz) : Ok A n0 S S hp fz := ⟨.refl S, H, .refl _ _⟩
theorem Ok.trans {A : Nat → Prop} {n0 : Nat} {S S1 S2 : Sc} {hp1 hp2 : Mem} {fz1 fz2 : Nat → Prop} (a : Ok A n0 S S1 hp1 fz1) (b : Ok A n0 S1 S2 hp2 fz2) : Ok A n0 S S2 hp2 fz2 := ⟨a.le.trans b.le, b.hr, a.below.trans b.below⟩
theorem Ok.drew {A : Nat → Prop} {n0 : Nat} {S : Sc} {hp : Mem} {fz : Nat → Prop} (H : HR A n0 S hp fz) : Ok A n0 S (S.at S.w.drew) hp fz := by
  have le : S.Le (S.at S.w.drew) := ⟨rfl, fun _ x => x, fun _ _ => rfl, fun _ _ x => x⟩
  exact ⟨le, ⟨fun b k i hb hi => let B := H.blk b k i hb hi; ⟨B.len, B.low, B.fit, B.row, fun hd => relAt_iff.2 fun j v hj => let ⟨u, x, y, z⟩ := relAt_iff.1 (B.cells hd) j v hj; ⟨u, x, y, z.mono le⟩⟩, H.dom, H.inj, H.ro, H.old⟩, (Go.RowKit.Below.refl _ _).drew⟩
theorem Sc.new_le {S : Sc} {w' : World} {p : Nat} {i : BI} (hp : S.ι p = none) (hw : ∀ r, S.ro r → w'.heap[r]? = S.w.heap[r]?) : S.Le (S.new w' p i) :=
  ⟨rfl, fun _ x => x, hw, fun b j x => by
    show (if b = p then some i else S.ι b) = _
    rw [if_neg (fun e => by subst e; rw [hp] at x; cases x)]; exact x⟩
theorem Sc.new_cases {S : Sc} {w' : World} {p : Nat} {i : BI} {b : Nat} {j : BI} (h : (S.new w' p i).ι b = some j) : (b = p ∧ j = i) ∨ (b ≠ p ∧ S.ι b = some j) := by
  change (if b = p then some i else S.ι b) = some j at h
  split at h
  · next e => cases h; exact .inl ⟨e, rfl⟩
  · next e => exact .inr ⟨e, h⟩
theorem Ok.alloc {A : Nat → Prop} {n0 : Nat} {S : Sc} {hp : Mem} {fz : Nat → Prop} (H : HR A n0 S hp fz) {p : Nat} (hn : S.ι p = none) {cs : List AV} (hpp : hp p = some ⟨cs, false⟩) {c : Array Value} (t : TypeId) {us : List Value} (hu : RelL S cs us) (h1 : ∀ x ∈ us, x.oneCell' = true)
    (hc : ∀ (j : Nat) (u : Value), us[j]? = some u → c[j]? = some u) (hs : us.length ≤ c.size) :
    Ok A n0 S (S.new (S.w.alloc (.cells c t)) p ⟨S.w.heap.size, 0, cs.length, c.size⟩) hp fz := by
  have hold : ∀ r, r < S.w.heap.size → (S.w.alloc (.cells c t)).heap[r]? = S.w.heap[r]? := fun r hr => heap_alloc_old _ _ hr
  have le : S.Le (S.new (S.w.alloc (.cells c t)) p ⟨S.w.heap.size, 0, cs.length, c.size⟩) := Sc.new_le hn fun r hr => hold r (H.ro r hr).1
  refine ⟨le, ⟨?_, ?_, ?_, ?_, ?_⟩, (Go.RowKit.Below.refl _ _).alloc H.old _⟩
  · intro b k i hb hi
    rcases Sc.new_cases hi with ⟨rfl, rfl⟩ | ⟨_, hi⟩
    · rw [hpp] at hb; cases hb
      refine ⟨rfl, H.old, by simp; rw [← relL_length hu]; exact hs, ⟨c, t, heap_alloc_new _ _, rfl⟩, fun _ => relAt_iff.2 fun j v hj => ?_⟩
      obtain ⟨u, a, b'⟩ := relL_get hu j v hj
      refine ⟨u, ?_, h1 u (List.mem_of_getElem? a), b'.mono le⟩
      show (S.w.alloc (.cells c t)).cell? ⟨S.w.heap.size, 0 + j, none⟩ = _
      rw [Nat.zero_add, cell_of_row _ _ _ _ _ _ (heap_alloc_new _ _)]
      exact hc j u a
    · have B := H.blk b k i hb hi
      obtain ⟨c', t', hc', hs'⟩ := B.row
      have hk := hold i.r (row_lt hc')
      exact ⟨B.len, B.low, B.fit, ⟨c', t', by show (S.w.alloc _).heap[i.r]? = _; rw [hk]; exact hc', hs'⟩, fun hd => relAt_iff.2 fun j v hj => by
        obtain ⟨u, a, b', d⟩ := relAt_iff.1 (B.cells hd) j v hj
        exact ⟨u, by rw [← a]; exact World.cell?_of_block hk, b', d.mono le⟩⟩
  · intro b i hi
    rcases Sc.new_cases hi with ⟨rfl, rfl⟩ | ⟨_, hi⟩
    · exact ⟨_, hpp⟩
    · exact H.dom b i hi
  · intro b b' k k' i i' hb hb' hi hi' hd hd' hr
    rcases Sc.new_cases hi with ⟨rfl, rfl⟩ | ⟨_, y⟩ <;> rcases Sc.new_cases hi' with ⟨rfl, rfl⟩ | ⟨_, y'⟩
    · rfl
    · obtain ⟨_, _, q, _⟩ := (H.blk b' k' i' hb' y').row
      have := row_lt q; simp at hr; omega
    · obtain ⟨_, _, q, _⟩ := (H.blk b k i hb y).row
      have := row_lt q; simp at hr; omega
    · exact H.inj b b' k k' i i' hb hb' y y' hd hd' hr
  · intro r hr
    obtain ⟨a, b, d⟩ := H.ro r hr
    refine ⟨by simp [Sc.new]; omega, b, fun b' k i hb hi hd hz => ?_⟩
    rcases Sc.new_cases hi with ⟨rfl, rfl⟩ | ⟨_, hi⟩
    · simp; omega
    · exact d b' k i hb hi hd hz
  · show n0 ≤ (S.w.alloc _).heap.size
    have := H.old; simp; omega
end Go.Cv
namespace Go.Cv
theorem heap_setRow_same {w : World} {r : Nat} {c : Array Value} {t : TypeId} {fr : Nat × Nat} (c' : Array Value) (h : w.heap[r]? = some (.cells c t fr)) : (w.setRow r c').heap[r]? = some (.cells c' t fr) := by
  simp only [World.setRow, Array.getElem?_modify, if_true, h]; rfl
theorem heap_setRow_other {w : World} {r s : Nat} (c' : Array Value) (h : s ≠ r) : (w.setRow r c').heap[s]? = w.heap[s]? := by
  simp only [World.setRow, Array.getElem?_modify]
  rw [if_neg (by omega)]
theorem below_setRow {n0 : Nat} {w : World} {r : Nat} (c' : Array Value) (h : n0 ≤ r) : Go.RowKit.Below n0 w (w.setRow r c') :=
  ⟨rfl, rfl, rfl, by simp, fun k hk => heap_setRow_other c' (by omega)⟩
theorem Ok.write {A : Nat → Prop} {n0 : Nat} {S : Sc} {hp hq : Mem} {fz : Nat → Prop} (H : HR A n0 S hp fz) {b : Nat} {k : Blk} {i : BI} (hb : hp b = some k) (hi : S.ι b = some i) (hd : k.dead = false) (hf : ¬ fz b)
    {cs' : List AV} (hlen : cs'.length = k.cs.length) (hqb : hq b = some ⟨cs', false⟩) (hqo : ∀ b', b' ≠ b → hq b' = hp b') {c' : Array Value} (hs : c'.size = i.rs)
    (hc : ∀ (j : Nat) (v : AV), cs'[j]? = some v → ∃ u, c'[i.base + j]? = some u ∧ u.oneCell' = true ∧ Rel S v u) :
    Ok A n0 S (S.at (S.w.setRow i.r c')) hq fz := by
  have B := H.blk b k i hb hi
  obtain ⟨c, t, hrow, hsz⟩ := B.row
  have hro : ∀ r, S.ro r → r ≠ i.r := fun r hr e => (H.ro r hr).2.2 b k i hb hi hd hf e.symm
  have le : S.Le (S.at (S.w.setRow i.r c')) := ⟨rfl, fun _ x => x, fun r hr => heap_setRow_other c' (hro r hr), fun _ _ x => x⟩
  have cases' : ∀ {b' : Nat} {k' : Blk}, hq b' = some k' → (b' ≠ b ∧ hp b' = some k') ∨ (b' = b ∧ k' = ⟨cs', false⟩) := by
    intro b' k' hk
    by_cases e : b' = b
    · subst e; rw [hqb] at hk; cases hk; exact .inr ⟨rfl, rfl⟩
    · rw [hqo b' e] at hk; exact .inl ⟨e, hk⟩
  refine ⟨le, ⟨?_, ?_, ?_, ?_, by show n0 ≤ (S.w.setRow _ _).heap.size; have := H.old; simp; omega⟩, below_setRow c' B.low⟩
  · intro b' k' i' hk hi'
    have hi' : S.ι b' = some i' := hi'
    rcases cases' hk with ⟨hne, hk⟩ | ⟨rfl, rfl⟩
    · have B' := H.blk b' k' i' hk hi'
      obtain ⟨c1, t1, hrow1, hsz1⟩ := B'.row
      refine ⟨B'.len, B'.low, B'.fit, ?_, ?_⟩
      · by_cases e : i'.r = i.r
        · rw [e] at hrow1; rw [hrow] at hrow1; cases hrow1
          exact ⟨c', t, by show (S.w.setRow _ _).heap[i'.r]? = _; rw [e]; exact heap_setRow_same c' hrow, by rw [hs, ← hsz, hsz1]⟩
        · exact ⟨c1, t1, by show (S.w.setRow _ _).heap[i'.r]? = _; rw [heap_setRow_other c' e]; exact hrow1, hsz1⟩
      · intro hd'
        have hne' : i'.r ≠ i.r := fun e => hne (H.inj b' b k' k i' i hk hb hi' hi hd' hd e)
        exact relAt_iff.2 fun j v hj => by
          obtain ⟨u, x, y, z⟩ := relAt_iff.1 (B'.cells hd') j v hj
          exact ⟨u, by rw [← x]; exact World.cell?_of_block (heap_setRow_other c' hne'), y, z.mono le⟩
    · rw [hi] at hi'; cases hi'
      refine ⟨by show cs'.length = _; rw [hlen]; exact B.len, B.low, B.fit, ⟨c', t, heap_setRow_same c' hrow, hs⟩, fun _ => relAt_iff.2 fun j v hj => ?_⟩
      obtain ⟨u, x, y, z⟩ := hc j v hj
      refine ⟨u, ?_, y, z.mono le⟩
      show (S.w.setRow i.r c').cell? ⟨i.r, i.base + j, none⟩ = _
      rw [cell_of_row _ _ _ _ _ _ (heap_setRow_same c' hrow)]
      exact x
  · intro b' i' hi'
    by_cases e : b' = b
    · subst e; exact ⟨_, hqb⟩
    · rw [hqo b' e]; exact H.dom b' i' hi'
  · intro b1 b2 k1 k2 i1 i2 h1 h2 e1 e2 d1 d2 hr
    have e1 : S.ι b1 = some i1 := e1
    have e2 : S.ι b2 = some i2 := e2
    rcases cases' h1 with ⟨_, g1⟩ | ⟨g1, g1'⟩ <;> rcases cases' h2 with ⟨_, g2⟩ | ⟨g2, g2'⟩
    · exact H.inj b1 b2 k1 k2 i1 i2 g1 g2 e1 e2 d1 d2 hr
    · exact H.inj b1 b2 k1 k i1 i2 g1 (g2 ▸ hb) e1 e2 d1 hd hr
    · exact H.inj b1 b2 k k2 i1 i2 (g1 ▸ hb) g2 e1 e2 hd d2 hr
    · rw [g1, g2]
  · intro r hr
    obtain ⟨x, y, z⟩ := H.ro r hr
    refine ⟨by show r < (S.w.setRow _ _).heap.size; simpa using x, y, fun b' k' i' hk hi' hd' hz => ?_⟩
    rcases cases' hk with ⟨_, hk⟩ | ⟨rfl, rfl⟩
    · exact z b' k' i' hk hi' hd' hz
    · exact z b' k i' hb hi' hd hz
theorem Ok.inplace {A : Nat → Prop} {n0 : Nat} {S : Sc} {hp hq : Mem} {fz : Nat → Prop} (H : HR A n0 S hp fz) {b p : Nat} {k : Blk} {i : BI} (hb : hp b = some k) (hi : S.ι b = some i) (hd : k.dead = false) (hf : ¬ fz b)
    (hn : S.ι p = none) {cs' : List AV} (hqb : hq b = some { k with dead := true }) (hqp : hq p = some ⟨cs', false⟩) (hqo : ∀ b', b' ≠ b → b' ≠ p → hq b' = hp b')
    {base' : Nat} (hfit : base' + cs'.length ≤ i.rs) {c' : Array Value} (hs : c'.size = i.rs)
    (hc : ∀ (j : Nat) (v : AV), cs'[j]? = some v → ∃ u, c'[base' + j]? = some u ∧ u.oneCell' = true ∧ Rel S v u) :
    Ok A n0 S (S.new (S.w.setRow i.r c') p ⟨i.r, base', cs'.length, i.rs⟩) hq fz := by
  have B := H.blk b k i hb hi
  obtain ⟨c, t, hrow, hsz⟩ := B.row
  have hro : ∀ r, S.ro r → r ≠ i.r := fun r hr e => (H.ro r hr).2.2 b k i hb hi hd hf e.symm
  have le : S.Le (S.new (S.w.setRow i.r c') p ⟨i.r, base', cs'.length, i.rs⟩) := Sc.new_le hn fun r hr => heap_setRow_other c' (hro r hr)
  have hbp : b ≠ p := fun e => by subst e; rw [hn] at hi; cases hi
  have cases' : ∀ {b' : Nat} {k' : Blk} {i' : BI}, hq b' = some k' → (S.new (S.w.setRow i.r c') p ⟨i.r, base', cs'.length, i.rs⟩).ι b' = some i' →
      (b' ≠ b ∧ b' ≠ p ∧ hp b' = some k' ∧ S.ι b' = some i') ∨ (b' = b ∧ k' = { k with dead := true } ∧ i' = i) ∨ (b' = p ∧ k' = ⟨cs', false⟩ ∧ i' = ⟨i.r, base', cs'.length, i.rs⟩) := by
    intro b' k' i' hk hi'
    rcases Sc.new_cases hi' with ⟨rfl, rfl⟩ | ⟨hne, hi'⟩
    · rw [hqp] at hk; cases hk; exact .inr (.inr ⟨rfl, rfl, rfl⟩)
    · by_cases e : b' = b
      · subst e
        rw [hqb] at hk; cases hk
        rw [hi] at hi'; cases hi'
        exact .inr (.inl ⟨rfl, rfl, rfl⟩)
      · rw [hqo b' e hne] at hk; exact .inl ⟨e, hne, hk, hi'⟩
  refine ⟨le, ⟨?_, ?_, ?_, ?_, by show n0 ≤ (S.w.setRow _ _).heap.size; have := H.old; simp; omega⟩, below_setRow c' B.low⟩
  · intro b' k' i' hk hi'
    rcases cases' hk hi' with ⟨hne, hnp, hk, hi'⟩ | ⟨rfl, rfl, rfl⟩ | ⟨rfl, rfl, rfl⟩
    · have B' := H.blk b' k' i' hk hi'
      obtain ⟨c1, t1, hrow1, hsz1⟩ := B'.row
      refine ⟨B'.len, B'.low, B'.fit, ?_, ?_⟩
      · by_cases e : i'.r = i.r
        · rw [e] at hrow1; rw [hrow] at hrow1; cases hrow1
          exact ⟨c', t, by show (S.w.setRow _ _).heap[i'.r]? = _; rw [e]; exact heap_setRow_same c' hrow, by rw [hs, ← hsz, hsz1]⟩
        · exact ⟨c1, t1, by show (S.w.setRow _ _).heap[i'.r]? = _; rw [heap_setRow_other c' e]; exact hrow1, hsz1⟩
      · intro hd'
        have hne' : i'.r ≠ i.r := fun e => hne (H.inj b' b k' k i' i hk hb hi' hi hd' hd e)
        exact relAt_iff.2 fun j v hj => by
          obtain ⟨u, x, y, z⟩ := relAt_iff.1 (B'.cells hd') j v hj
          exact ⟨u, by rw [← x]; exact World.cell?_of_block (heap_setRow_other c' hne'), y, z.mono le⟩
    · exact ⟨B.len, B.low, B.fit, ⟨c', t, heap_setRow_same c' hrow, hs⟩, fun hd => by cases hd⟩
    · refine ⟨rfl, B.low, hfit, ⟨c', t, heap_setRow_same c' hrow, hs⟩, fun _ => relAt_iff.2 fun j v hj => ?_⟩
      obtain ⟨u, x, y, z⟩ := hc j v hj
      refine ⟨u, ?_, y, z.mono le⟩
      show (S.w.setRow i.r c').cell? ⟨i.r, base' + j, none⟩ = _
      rw [cell_of_row _ _ _ _ _ _ (heap_setRow_same c' hrow)]
      exact x
  · intro b' i' hi'
    rcases Sc.new_cases hi' with ⟨rfl, rfl⟩ | ⟨hne, hi'⟩
    · exact ⟨_, hqp⟩
    · by_cases e : b' = b
      · subst e; exact ⟨_, hqb⟩
      · rw [hqo b' e hne]; exact H.dom b' i' hi'
  · intro b1 b2 k1 k2 i1 i2 h1 h2 e1 e2 d1 d2 hr
    rcases cases' h1 e1 with ⟨n1, _, g1, f1⟩ | ⟨g1, g1', f1⟩ | ⟨g1, g1', f1⟩ <;> rcases cases' h2 e2 with ⟨n2, _, g2, f2⟩ | ⟨g2, g2', f2⟩ | ⟨g2, g2', f2⟩
    · exact H.inj b1 b2 k1 k2 i1 i2 g1 g2 f1 f2 d1 d2 hr
    · subst g2'; cases d2
    · subst f2; exact absurd (H.inj b1 b k1 k i1 i g1 hb f1 hi d1 hd hr) n1
    · subst g1'; cases d1
    · rw [g1, g2]
    · subst g1'; cases d1
    · subst f1; exact absurd (H.inj b2 b k2 k i2 i g2 hb f2 hi d2 hd hr.symm) n2
    · subst g2'; cases d2
    · rw [g1, g2]
  · intro r hr
    obtain ⟨x, y, z⟩ := H.ro r hr
    refine ⟨by show r < (S.w.setRow _ _).heap.size; simpa using x, y, fun b' k' i' hk hi' hd' hz => ?_⟩
    rcases cases' hk hi' with ⟨_, _, hk, hi'⟩ | ⟨rfl, rfl, rfl⟩ | ⟨rfl, rfl, rfl⟩
    · exact z b' k' i' hk hi' hd' hz
    · cases hd'
    · exact z b k i hb hi hd hf
theorem HR.kill {A : Nat → Prop} {n0 : Nat} {S : Sc} {hp hq : Mem} {fz : Nat → Prop} (H : HR A n0 S hp fz) {b : Nat} {k : Blk} (hb : hp b = some k) (hqb : hq b = some { k with dead := true }) (hqo : ∀ b' i, b' ≠ b → S.ι b' = some i → hq b' = hp b') :
    HR A n0 S hq fz := by
  have cases' : ∀ {b' : Nat} {k' : Blk} {i' : BI}, hq b' = some k' → S.ι b' = some i' → (b' ≠ b ∧ hp b' = some k') ∨ (b' = b ∧ k' = { k with dead := true }) := by
    intro b' k' i' hk hi
    by_cases e : b' = b
    · subst e; rw [hqb] at hk; cases hk; exact .inr ⟨rfl, rfl⟩
    · rw [hqo b' i' e hi] at hk; exact .inl ⟨e, hk⟩
  refine ⟨?_, ?_, ?_, ?_, H.old⟩
  · intro b' k' i hk hi
    rcases cases' hk hi with ⟨_, hk⟩ | ⟨rfl, rfl⟩
    · exact H.blk b' k' i hk hi
    · have B := H.blk b' k i hb hi
      exact ⟨B.len, B.low, B.fit, B.row, fun hd => by cases hd⟩
  · intro b' i hi
    by_cases e : b' = b
    · subst e; exact ⟨_, hqb⟩
    · rw [hqo b' i e hi]; exact H.dom b' i hi
  · intro b1 b2 k1 k2 i1 i2 h1 h2 e1 e2 d1 d2 hr
    rcases cases' h1 e1 with ⟨_, g1⟩ | ⟨g1, g1'⟩ <;> rcases cases' h2 e2 with ⟨_, g2⟩ | ⟨g2, g2'⟩
    · exact H.inj b1 b2 k1 k2 i1 i2 g1 g2 e1 e2 d1 d2 hr
    · subst g2'; cases d2
    · subst g1'; cases d1
    · rw [g1, g2]
  · intro r hr
    obtain ⟨x, y, z⟩ := H.ro r hr
    refine ⟨x, y, fun b' k' i hk hi hd' hz => ?_⟩
    rcases cases' hk hi with ⟨_, hk⟩ | ⟨rfl, rfl⟩
    · exact z b' k' i hk hi hd' hz
    · cases hd'
theorem setAt_length : ∀ (vs : List AV) (cs : List AV) (off : Nat), (setAt cs off vs).length = cs.length
  | [], cs, off => rfl
  | v :: vs, cs, off => by simp [setAt, setAt_length vs]
theorem setAt_get : ∀ (vs : List AV) (cs : List AV) (off : Nat), off + vs.length ≤ cs.length → ∀ j, (setAt cs off vs)[j]? = if off ≤ j ∧ j < off + vs.length then vs[j - off]? else cs[j]?
  | [], cs, off, _, j => by simp [setAt]; omega
  | v :: vs, cs, off, h, j => by
    simp only [List.length_cons] at h
    rw [setAt, setAt_get vs _ _ (by simp; omega)]
    by_cases h1 : off + 1 ≤ j ∧ j < off + 1 + vs.length
    · rw [if_pos h1, if_pos (by simp; omega), show j - off = (j - (off + 1)) + 1 by omega, List.getElem?_cons_succ]
    · rw [if_neg h1, List.getElem?_set]
      by_cases h2 : off = j
      · subst h2; rw [if_pos rfl, if_pos (by omega), if_pos (by simp)]; simp
      · rw [if_neg h2, if_neg (by simp; omega)]
def Heap.fz (h : Heap) : Nat → Prop := fun b => b ∈ h.f
theorem not_fz {h : Heap} {b : Nat} (hf : h.f.contains b = false) : ¬ h.fz b := by
  unfold Heap.fz
  simpa using hf
theorem mem_set {h : Heap} {b : Nat} {k' : Blk} {f : List Nat} (hb : b < h.b.length) : (⟨h.b.set b k', f⟩ : Heap).mem b = some k' ∧ ∀ b', b' ≠ b → (⟨h.b.set b k', f⟩ : Heap).mem b' = h.mem b' := by
  refine ⟨?_, fun b' hne => ?_⟩
  · show (h.b.set b k')[b]? = _
    rw [List.getElem?_set]; simp [hb]
  · show (h.b.set b k')[b']? = _
    rw [List.getElem?_set, if_neg (fun e => hne e.symm)]; rfl
theorem Ok.store {P : Program} {A : Nat → Prop} {n0 : Nat} {S : Sc} {h h' : Heap} (H : HR A n0 S h.mem h.fz) {b off : Nat} {vs : List AV} (hw : wrBlk h b off vs = some h') {i : BI} (hi : S.ι b = some i)
    {us : List Value} (hu : RelL S vs us) (h1 : ∀ x ∈ us, x.oneCell' = true) :
    ∃ w', (storeCells ⟨i.r, i.base + off, none⟩ us).run P S.w = .ok () w' ∧ Ok A n0 S (S.at w') h'.mem h'.fz := by
  unfold wrBlk at hw
  cases hb : h.b[b]? with
  | none => simp [hb] at hw
  | some k =>
    simp only [hb] at hw
    split at hw
    · next hc =>
      obtain ⟨hd, hfz, hle⟩ := hc
      cases hw
      have B := H.blk b k i hb hi
      obtain ⟨c, t, hrow, hsz⟩ := B.row
      have hul := relL_length hu
      have hrl : ∀ (j : Nat) (v : AV), k.cs[j]? = some v → ∃ u, c[i.base + j]? = some u ∧ u.oneCell' = true ∧ Rel S v u := fun j v hj => by
        obtain ⟨u, x, y, z⟩ := relAt_iff.1 (B.cells hd) j v hj
        rw [cell_of_row _ _ _ _ _ _ hrow] at x
        exact ⟨u, x, y, z⟩
      have hfit := B.fit
      have hlen := B.len
      obtain ⟨m1, m2⟩ := mem_set (h := h) (k' := { k with cs := setAt k.cs off vs }) (f := h.f) (List.getElem?_eq_some_iff.1 hb).1
      refine ⟨_, run_storeCells_at P i.r (i.base + off) t us 0 c S.w hrow (by omega) h1, Ok.write H hb hi hd (not_fz hfz) (setAt_length vs k.cs off) (by rw [m1, hd]) m2 ?_ ?_⟩
      · simp; omega
      · intro j v hj
        rw [setAt_get vs k.cs off hle] at hj
        simp only [Nat.add_zero, List.getElem?_toArray]
        split at hj
        · next hr =>
          obtain ⟨u, hx, hy⟩ := relL_get hu _ v hj
          refine ⟨u, ?_, h1 u (List.mem_of_getElem? hx), hy⟩
          rw [List.getElem?_append_left (by simp; omega), List.getElem?_append_right (by simp; omega)]
          rw [show i.base + j - (List.take (i.base + off) c.toList).length = j - off by simp; omega]
          exact hx
        · next hr =>
          obtain ⟨u, hx, hy⟩ := hrl j v hj
          have hjl := (List.getElem?_eq_some_iff.1 hj).1
          refine ⟨u, ?_, hy⟩
          by_cases hlt : j < off
          · rw [List.getElem?_append_left (by simp; omega), List.getElem?_append_left (by simp; omega), List.getElem?_take, if_pos (by omega)]
            simpa using hx
          · rw [List.getElem?_append_right (by simp; omega), List.getElem?_drop]
            rw [show i.base + off + us.length + (i.base + j - (List.take (i.base + off) c.toList ++ us).length) = i.base + j by simp; omega]
            simpa using hx
    · cases hw
theorem HR.addRo {A : Nat → Prop} {n0 : Nat} {S : Sc} {hp : Mem} {fz : Nat → Prop} (H : HR A n0 S hp fz) (R : Nat → Prop) (hR : ∀ r, R r → ∃ (b : Nat) (k : Blk) (i : BI), hp b = some k ∧ S.ι b = some i ∧ k.dead = false ∧ fz b ∧ i.r = r) :
    Ok A n0 S { S with ro := fun r => S.ro r ∨ R r } hp fz := by
  have le : S.Le { S with ro := fun r => S.ro r ∨ R r } := ⟨rfl, fun _ x => .inl x, fun _ _ => rfl, fun _ _ x => x⟩
  refine ⟨le, ⟨fun b k i hb hi => let B := H.blk b k i hb hi; ⟨B.len, B.low, B.fit, B.row, fun hd => relAt_iff.2 fun j v hj => let ⟨u, x, y, z⟩ := relAt_iff.1 (B.cells hd) j v hj; ⟨u, x, y, z.mono le⟩⟩, H.dom, H.inj, ?_, H.old⟩, .refl _ _⟩
  rintro r (hr | hr)
  · exact H.ro r hr
  · obtain ⟨b, k, i, hb, hi, hd, hz, rfl⟩ := hR r hr
    have B := H.blk b k i hb hi
    obtain ⟨c, t, hrow, _⟩ := B.row
    refine ⟨row_lt hrow, fun hlt => absurd B.low (by omega), fun b' k' i' hb' hi' hd' hz' e => ?_⟩
    have := H.inj b' b k' k i' i hb' hb hi' hi hd' hd e
    subst this
    exact hz' hz
theorem HR.below {A : Nat → Prop} {n0 : Nat} {S : Sc} {hp : Mem} {fz : Nat → Prop} (H : HR A n0 S hp fz) {w' : World} (hb : Go.RowKit.Below S.w.heap.size S.w w') :
    Ok A n0 S { S with w := w', ro := fun r => S.ro r ∨ S.w.heap.size ≤ r ∧ r < w'.heap.size } hp fz := by
  have hlt : ∀ r, S.ro r → r < S.w.heap.size := fun r hr => (H.ro r hr).1
  have le : S.Le { S with w := w', ro := fun r => S.ro r ∨ S.w.heap.size ≤ r ∧ r < w'.heap.size } := ⟨rfl, fun _ x => .inl x, fun r hr => hb.block r (hlt r hr), fun _ _ x => x⟩
  refine ⟨le, ⟨?_, H.dom, H.inj, ?_, Nat.le_trans H.old hb.size⟩, hb.mono H.old⟩
  · intro b k i hk hi
    have B := H.blk b k i hk hi
    obtain ⟨c, t, hrow, hsz⟩ := B.row
    have he := hb.block i.r (row_lt hrow)
    exact ⟨B.len, B.low, B.fit, ⟨c, t, he.trans hrow, hsz⟩, fun hd => relAt_iff.2 fun j v hj => by
      obtain ⟨u, x, y, z⟩ := relAt_iff.1 (B.cells hd) j v hj
      exact ⟨u, by rw [← x]; exact World.cell?_of_block he, y, z.mono le⟩⟩
  · rintro r (hr | ⟨x, y⟩)
    · obtain ⟨a, b, c⟩ := H.ro r hr
      exact ⟨Nat.lt_of_lt_of_le a hb.size, b, c⟩
    · refine ⟨y, fun q => absurd H.old (by omega), fun b k i hk hi hd hz e => ?_⟩
      obtain ⟨_, _, hrow, _⟩ := (H.blk b k i hk hi).row
      have := row_lt hrow; omega
end Go.Cv
namespace Go.Cv
def Gok (G : Nat → Option (List AV)) (S : Sc) : Prop := ∀ g cs, G g = some cs → S.ro g ∧ RelAt S.cl g cs 0
theorem Gok.mono {G : Nat → Option (List AV)} {S S' : Sc} (h : S.Le S') (k : Gok G S) : Gok G S' := fun g cs e => ⟨h.ro g (k g cs e).1, (k g cs e).2.mono h.cl g (k g cs e).1⟩
def Res (A : Nat → Prop) (n0 : Nat) (S : Sc) (v : AV) (hp : Mem) (fz : Nat → Prop) (u : Value) (w' : World) : Prop := ∃ S', S'.w = w' ∧ Ok A n0 S S' hp fz ∧ Rel S' v u
def ResQ (A : Nat → Prop) (n0 : Nat) (S : Sc) (p : Nat) (δ : List Blk) (v : AV) (hp : Mem) (fz : Nat → Prop) (u : Value) (w' : World) : Prop := ∃ S', S'.w = w' ∧ Ok A n0 S S' hp fz ∧ Rel S' v u ∧ ∀ b, δ = [] ∨ b ≠ p → S'.ι b = S.ι b
def Does (P : Program) (S : Sc) (a : Act) (o : Oper) (R : Value → World → Prop) : Prop :=
  (∃ u w', (execOp a.eval o).run P S.w = .ok (.value u) w' ∧ R u w') ∨
  (∃ w', (execOp a.eval o).run P S.w = .ok .skip w' ∧ R undef w') ∨
  (∃ g us, (execOp a.eval o).run P S.w = .ok (.enter g us) S.w ∧ Calls P g us S.w fun e w' => ∃ u, e = .returned u ∧ R u w')
theorem Does.mono {P : Program} {S : Sc} {a : Act} {o : Oper} {R R' : Value → World → Prop} (h : Does P S a o R) (hr : ∀ u w', R u w' → R' u w') : Does P S a o R' := by
  rcases h with ⟨u, w', h1, h2⟩ | ⟨w', h1, h2⟩ | ⟨g, us, h1, h2⟩
  · exact .inl ⟨u, w', h1, hr _ _ h2⟩
  · exact .inr (.inl ⟨w', h1, hr _ _ h2⟩)
  · exact .inr (.inr ⟨g, us, h1, h2.mono fun e w' ⟨u, x, y⟩ => ⟨u, x, hr _ _ y⟩⟩)
theorem ResQ.same {A : Nat → Prop} {n0 : Nat} {S : Sc} {hp : Mem} {fz : Nat → Prop} (H : HR A n0 S hp fz) (p : Nat) (δ : List Blk) {v : AV} {u : Value} (hr : Rel S v u) : ResQ A n0 S p δ v hp fz u S.w := ⟨S, rfl, .refl H, hr, fun _ _ => rfl⟩
theorem Does.value {P : Program} {A : Nat → Prop} {n0 : Nat} {S : Sc} {hp : Mem} {fz : Nat → Prop} {p : Nat} {δ : List Blk} (H : HR A n0 S hp fz) {a : Act} {o : Oper} {v : AV} {u : Value} (hr : (execOp a.eval o).run P S.w = .ok (.value u) S.w) (hv : Rel S v u) :
    Does P S a o (ResQ A n0 S p δ v hp fz) := .inl ⟨u, S.w, hr, .same H p δ hv⟩
theorem evBin_run {P : Program} {op : BinOp} {x y v : AV} (h : evBin op x y = some v) (S : Sc) {a b : Value} (hx : Rel S x a) (hy : Rel S y b) (t : TypeId) (ox oy : Operand) (w : World) :
    ∃ u, ((do eqGuard op t ox oy a b; binOp op t a b : Sem Value)).run P w = .ok u w ∧ Rel S v u := by
  unfold evBin at h
  split at h
  · next k m k' n =>
    simp only [Rel] at hx hy
    subst hx; subst hy
    have hg : (eqGuard op t ox oy (.int k m) (.int k' n)).run P w = .ok () w := by
      unfold eqGuard
      cases op <;> simp
    simp only [Sem.run_bind, hg, Result.andThen_ok]
    by_cases hs : isSh op = true
    · rw [if_pos hs] at h
      unfold shI at h
      split at h
      · cases h
      · next h0 =>
        cases op <;> simp only [isSh, Bool.false_eq_true] at hs <;> cases h
        all_goals simp only [binOp, Op.shift, if_neg h0]; exact ⟨_, rfl, by simp [Rel]⟩
    · rw [if_neg hs] at h
      split at h
      · next hk =>
        subst hk
        unfold arI at h
        cases op <;> simp only [isSh, not_true_eq_false] at hs <;> simp only [Option.some.injEq, reduceCtorEq] at h
        case quo =>
          split at h
          · cases h
          · next h0 => cases h; simp only [binOp, Op.intDiv, if_neg h0, ne_eq, not_true_eq_false, if_false]; exact ⟨_, rfl, by simp [Rel]⟩
        case rem =>
          split at h
          · cases h
          · next h0 => cases h; simp only [binOp, Op.intDiv, if_neg h0, ne_eq, not_true_eq_false, if_false]; exact ⟨_, rfl, by simp [Rel]⟩
        all_goals
          subst h
          simp only [binOp, Op.intArith, Op.intBits, Op.intCmp, ne_eq, not_true_eq_false, if_false]
          exact ⟨_, rfl, by simp [Rel]⟩
      · cases h
  · cases h
theorem evUn_run {P : Program} {op : UnOp} {x v : AV} (h : evUn op x = some v) (S : Sc) {a : Value} (hx : Rel S x a) (w : World) : ∃ u, (Op.unary op a).run P w = .ok u w ∧ Rel S v u := by
  unfold evUn at h
  split at h
  · next k n =>
    simp only [Rel] at hx; subst hx
    cases op <;> simp only [Option.some.injEq, reduceCtorEq] at h
    all_goals subst h; simp only [Op.unary, Op.intArith, Op.intBits]; exact ⟨_, rfl, by simp [Rel]⟩
  · next b =>
    simp only [Rel] at hx; subst hx
    cases op <;> simp only [Option.some.injEq, reduceCtorEq] at h
    subst h; simp only [Op.unary]; exact ⟨_, rfl, by simp [Rel]⟩
  · cases h
theorem evMm_run {P : Program} (mx : Bool) (S : Sc) (w : World) : ∀ {xs : List AV} {x v : AV} (_ : evMm mx x xs = some v) {a : Value} {as : List Value} (_ : Rel S x a) (_ : RelL S xs as),
    ∃ u, (as.foldlM (if mx then Builtin.max2 else Builtin.min2) a : Sem Value).run P w = .ok u w ∧ Rel S v u
  | [], x, v, h, a, as, hx, hs => by
    simp only [RelL] at hs; subst hs
    have : x = v := by cases x <;> simpa [evMm] using h
    subst this
    exact ⟨a, rfl, hx⟩
  | y :: ys, x, v, h, a, as, hx, hs => by
    cases x <;> (try simp only [evMm, reduceCtorEq] at h)
    case int k m =>
      cases y <;> (try simp only [evMm, reduceCtorEq] at h)
      case int k' n =>
        simp only [RelL] at hs
        obtain ⟨u, r, rfl, h1, h2⟩ := hs
        simp only [Rel] at h1 hx; subst h1; subst hx
        have := evMm_run (P := P) mx S w h (a := .int k (if mx then (if n > m then n else m) else (if n < m then n else m))) (as := r) (by simp [Rel]) h2
        obtain ⟨u, hu, hv⟩ := this
        refine ⟨u, ?_, hv⟩
        rw [← hu]
        simp only [List.foldlM_cons, Sem.run_bind]
        cases mx
        · simp [Builtin.min2]
        · simp [Builtin.max2]
theorem rdAt_rel {G : Nat → Option (List AV)} {A : Nat → Prop} {n0 : Nat} {S : Sc} {hp hq : Mem} {fz : Nat → Prop} (H : HR A n0 S hp fz) (hle : ∀ b k, hq b = some k → hp b = some k) (hG : Gok G S) {n : Nat} {p : AV} {cs : List AV} (hr : rdAt G hq n p = some cs) {u : Value} (hpu : Rel S p u) :
    ∃ r o, u = .pointer (some ⟨r, o, none⟩) ∧ RelAt S r cs o ∧ cs.length = n := by
  cases p <;> simp only [rdAt, reduceCtorEq] at hr <;> simp only [Rel] at hpu
  case ptr b off =>
    obtain ⟨i, hi, rfl⟩ := hpu
    exact ⟨_, _, rfl, H.read hle hr hi⟩
  case iptr l off =>
    split at hr
    · next hl =>
      cases hr
      obtain ⟨r, o, rfl, hx⟩ := hpu
      refine ⟨r, o + off, rfl, ?_, by simp; omega⟩
      rcases hx with rfl | ⟨hro, hx⟩
      · simp [RelAt]
      · exact (relAt_sub hx off n).mono S.cl_le r hro
    · cases hr
  case gptr g off =>
    split at hr
    · next l hl =>
      split at hr
      · next hle =>
        cases hr
        subst hpu
        refine ⟨g, off, rfl, ?_, by simp; omega⟩
        have := relAt_sub ((hG g l hl).2.mono S.cl_le g (hG g l hl).1) off n
        rwa [Nat.zero_add] at this
      · cases hr
    · cases hr
theorem one_rel {S : Sc} {g : Bool} {cs : List AV} {v : AV} (h : one g cs = some v) {us : List Value} (hu : RelL S cs us) (hl : g = true ∨ cs.length = 1) :
    Rel S v (if g then .agg us.toArray else us.getD 0 undef) := by
  cases g
  · simp only [one, Bool.false_eq_true, if_false] at h ⊢
    split at h
    · cases h
      simp only [RelL] at hu
      obtain ⟨u, r, rfl, h1, h2⟩ := hu
      simpa using h1
    · cases h
  · simp only [one, if_true] at h ⊢
    cases h
    simp only [Rel]
    exact ⟨us.toArray, rfl, by simpa using hu⟩
theorem run_isAgg {P : Program} {t : TypeId} {g : Bool} (h : aggT P t = some g) (w : World) : (isAgg t).run P w = .ok g w := by
  unfold aggT at h
  unfold isAgg
  cases hu : P.underlying t with
  | none => simp [hu] at h
  | some d =>
    simp only [Sem.run_bind, run_underlying hu, Result.andThen_ok]
    rw [hu] at h
    cases d <;> simp at h <;> subst h <;> rfl
theorem run_load_rel {P : Program} {S : Sc} {t : TypeId} {g : Bool} {inf : TypeInfo} (hg : aggT P t = some g) (hi : P.info? t = some inf) (h1 : (g || inf.size == 1) = true)
    {r o : Nat} {cs : List AV} (hc : RelAt S r cs o) (hl : cs.length = inf.size) {v : AV} (hv : one g cs = some v) :
    ∃ u, (loadVar t ⟨r, o, none⟩).run P S.w = .ok u S.w ∧ Rel S v u := by
  obtain ⟨us, k1, k2, k3⟩ := relAt_vals hc
  have hul := relL_length k1
  have hvr := one_rel hv k1 (by cases g <;> simp at h1 ⊢; omega)
  refine ⟨_, ?_, hvr⟩
  cases g
  · simp only [Bool.false_or, beq_iff_eq] at h1
    have h0 : us[0]? = some (us.getD 0 undef) := by
      cases us with
      | nil => simp at hul; omega
      | cons u us => rfl
    have := k2 0 _ h0
    rw [add_none] at this
    simp only [loadVar, Sem.run_bind, run_isAgg hg, Result.andThen_ok, Bool.false_eq_true, if_false, run_load]
    rw [Nat.add_zero] at this
    rw [this]
  · have hload := run_loadCells_list (P := P) S.w ⟨r, o, none⟩ us k2
    rw [hul, hl] at hload
    simp only [loadVar, Sem.run_bind, run_isAgg hg, Result.andThen_ok, if_true, sizeOf, typeInfo, run_program, hi, Sem.run_pure, hload]
theorem run_part_rel {P : Program} {S : Sc} {t : TypeId} {g : Bool} {inf : TypeInfo} (hg : aggT P t = some g) (hi : P.info? t = some inf) (h1 : (g || inf.size == 1) = true)
    {us : Array Value} {cs : List AV} (hu : RelL S cs us.toList) {off : Nat} (hl : off + inf.size ≤ cs.length) {v : AV} (hv : one g ((cs.drop off).take inf.size) = some v) (w : World) :
    ∃ u, (part t us off).run P w = .ok u w ∧ Rel S v u := by
  have hul := relL_length hu
  have hsub : RelL S ((cs.drop off).take inf.size) ((us.toList.drop off).take inf.size) := relL_of (by simp [hul]) fun j x y hx hy => by
    rw [List.getElem?_take] at hx hy
    split at hx
    · next hj =>
      rw [if_pos hj] at hy
      rw [List.getElem?_drop] at hx hy
      obtain ⟨u, hu1, hu2⟩ := relL_get hu _ x hx
      rw [hy] at hu1; cases hu1; exact hu2
    · cases hx
  have hvr := one_rel hv hsub (by cases g <;> simp at h1 ⊢; omega)
  refine ⟨_, ?_, hvr⟩
  cases g
  · simp only [Bool.false_or, beq_iff_eq] at h1
    have hlt : off < us.size := by rw [← Array.length_toList, hul]; omega
    simp only [part, Sem.run_bind, run_isAgg hg, Result.andThen_ok, Bool.false_eq_true, if_false]
    rw [Array.getElem?_eq_getElem hlt]
    simp [h1, hlt]
  · simp only [part, Sem.run_bind, run_isAgg hg, Result.andThen_ok, if_true, sizeOf, typeInfo, run_program, hi, Sem.run_pure]
    congr 2
    apply Array.ext'
    simp only [Array.toList_extract, List.extract_eq_take_drop]
    simp
def setAtV (c : Array Value) (off : Nat) : List Value → Array Value
  | [] => c
  | v :: vs => setAtV (c.setIfInBounds off v) (off + 1) vs
theorem foldl_setAtV (off : Nat) : ∀ (vs : List Value) (k : Nat) (c : Array Value), (vs.zipIdx k).foldl (fun cs (c, j) => cs.setIfInBounds (off + j) c) c = setAtV c (off + k) vs
  | [], k, c => rfl
  | v :: vs, k, c => by
    simp only [List.zipIdx_cons, List.foldl_cons, setAtV]
    rw [foldl_setAtV off vs (k + 1)]
    rfl
theorem setAtV_rel {S : Sc} : ∀ {xs : List AV} {us : List Value} {cs : List AV} {c : Array Value} {off : Nat}, RelL S xs us → RelL S cs c.toList → RelL S (setAt cs off xs) (setAtV c off us).toList
  | [], us, cs, c, off, h, k => by simp only [RelL] at h; subst h; exact k
  | x :: xs, us, cs, c, off, h, k => by
    simp only [RelL] at h
    obtain ⟨u, r, rfl, h1, h2⟩ := h
    simp only [setAt, setAtV]
    refine setAtV_rel h2 (relL_of (by simp [relL_length k]) fun j v u' hv hu' => ?_)
    rw [Array.toList_setIfInBounds] at hu'
    rw [List.getElem?_set] at hv hu'
    split at hv
    · next e =>
      rw [if_pos e] at hu'
      split at hv
      · next hlt =>
        cases hv
        split at hu'
        · cases hu'; exact h1
        · cases hu'
      · cases hv
    · next e =>
      rw [if_neg e] at hu'
      obtain ⟨u'', hx, hy⟩ := relL_get k j v hv
      rw [hu'] at hx; cases hx; exact hy
theorem fill_rel {S : Sc} {place : Nat → Option (Nat × Nat)} : ∀ {ps : List (Nat × Value)} {qs : List (Nat × Nat × AV)} {cs cs' : List AV} {c : Array Value},
    ps.length = qs.length → (∀ (j : Nat) (i : Nat) (u : Value) (o n : Nat) (x : AV), ps[j]? = some (i, u) → qs[j]? = some (o, n, x) → place i = some (o, n) ∧ Rel S x u) →
    RelL S cs c.toList → fillA cs qs = some cs' → ∃ c', Instr.fill place c ps = some c' ∧ RelL S cs' c'.toList
  | [], [], cs, cs', c, _, _, hc, h => by simp [fillA] at h; subst h; exact ⟨c, rfl, hc⟩
  | [], _ :: _, _, _, _, hl, _, _, _ => by simp at hl
  | _ :: _, [], _, _, _, hl, _, _, _ => by simp at hl
  | (i, u) :: ps, (o, n, x) :: qs, cs, cs', c, hl, hq, hc, h => by
    simp only [fillA] at h
    split at h
    · next hif =>
      obtain ⟨hn, hok, hle⟩ := hif
      obtain ⟨hp, hr⟩ := hq 0 i u o n x rfl rfl
      obtain ⟨hcells, _⟩ := rel_cells hr hok
      have hlen := relL_length hcells
      have hcl := relL_length hc
      simp only [Array.length_toList] at hlen hcl
      have hneg : (u.cells.size ≠ n || decide (o + u.cells.size > c.size)) = false := by
        simp only [Bool.or_eq_false_iff, decide_eq_false_iff_not]
        omega
      simp only [Instr.fill, hp]
      rw [if_neg (by simpa using hneg)]
      have hfold : u.cells.zipIdx.foldl (fun cs (c, j) => cs.setIfInBounds (o + j) c) c = setAtV c o u.cells.toList := by
        rw [← Array.foldl_toList, Array.toList_zipIdx]
        exact foldl_setAtV o u.cells.toList 0 c
      rw [hfold]
      exact fill_rel (by simpa using hl) (fun j => hq (j + 1)) (setAtV_rel hcells hc) h
    · cases h
theorem parts_rel {C : CC} {S : Sc} (hL : Link C S.L) {e : Env} {a : Act} (hE : EnvR S C.N e a) {place : Nat → Option (Nat × Nat)} {ps : Array (Nat × Operand)} {l : List (Nat × Nat × IOpd)} (h : compParts C place ps = some l) :
    ((ps.map fun (i, x) => (i, a.eval x)).toList).length = (l.map fun (o, n, x) => (o, n, opd e x)).length ∧
    ∀ (j : Nat) (i : Nat) (u : Value) (o n : Nat) (x : AV), ((ps.map fun (i, x) => (i, a.eval x)).toList)[j]? = some (i, u) → (l.map fun (o, n, x) => (o, n, opd e x))[j]? = some (o, n, x) → place i = some (o, n) ∧ Rel S x u := by
  refine ⟨by simp [mapO_length h], fun j i u o n x h1 h2 => ?_⟩
  rw [Array.toList_map, List.getElem?_map, Option.map_eq_some_iff] at h1
  rw [List.getElem?_map, Option.map_eq_some_iff] at h2
  obtain ⟨⟨i', xo⟩, h1, e1⟩ := h1
  obtain ⟨⟨o', n', y⟩, h2, e2⟩ := h2
  cases e1; cases e2
  obtain ⟨q, hq, hf⟩ := mapO_get h j _ h2
  rw [h1] at hq; cases hq
  simp only at hf
  split at hf
  · next hp hc => cases hf; exact ⟨hp, opd_rel hL hE hc⟩
  · cases hf
end Go.Cv
namespace Go.Cv
theorem snapA_go (g : Nat → Nat → Nat → Nat → Option AV) : ∀ l, snapA.go g l = snapL g l
  | [] => rfl
  | v :: vs => by simp only [snapA.go, snapL]; rw [snapA_go g vs]
theorem reachA_go (g : Nat → List Nat) : ∀ l, reachA.go g l = reachL g l
  | [] => rfl
  | v :: vs => by simp only [reachA.go, reachL]; rw [reachA_go g vs]
structure Shut (S S0 : Sc) : Prop where
  L : S0.L = S.L
  w : S0.w = S.w
  ι : S0.ι = fun _ => none
  ro : ∀ r, S.ro r → S0.ro r
theorem Shut.le {S S0 : Sc} (h : Shut S S0) : S.cl.Le S0 := ⟨h.L, h.ro, fun r _ => by rw [h.w]; rfl, fun b i x => by simp [Sc.cl] at x⟩
theorem Shut.self {S S0 : Sc} (h : Shut S S0) : S0.cl = S0 := by
  obtain ⟨L, w, ro, ι⟩ := S0
  have := h.ι
  simp only at this
  subst this
  rfl
def Cov (S S0 : Sc) (h : Mem) (b : Nat) : Prop := ∀ i : BI, S.ι b = some i → (∃ k : Blk, h b = some k ∧ k.dead = false) → S0.ro i.r
mutual
theorem snapA_rel {S S0 : Sc} {h : Mem} (h0 : Shut S S0) {sn : Nat → Nat → Nat → Nat → Option AV} {gr : Nat → List Nat}
    (hg : ∀ b off n sz x u, sn b off n sz = some x → (∀ b' ∈ gr b, Cov S S0 h b') → Rel S (.own b off n sz) u → Rel S0 x u) :
    ∀ (v : AV) (v' : AV) (u : Value), snapA sn v = some v' → (∀ b' ∈ reachA gr v, Cov S S0 h b') → Rel S v u → Rel S0 v' u
  | .undef, v', u, hh, _, hr => by simp [snapA] at hh
  | .int k n, v', u, hh, _, hr => by simp [snapA] at hh; subst hh; simpa only [Rel] using hr
  | .bool b, v', u, hh, _, hr => by simp [snapA] at hh; subst hh; simpa only [Rel] using hr
  | .fl k b, v', u, hh, _, hr => by simp [snapA] at hh; subst hh; simpa only [Rel] using hr
  | .nil, v', u, hh, _, hr => by simp [snapA] at hh; subst hh; simpa only [Rel] using hr
  | .imm n cs, v', u, hh, _, hr => by
    simp [snapA] at hh; subst hh
    have := Rel.mono h0.le (.imm n cs) u (by simpa only [Rel, Sc.cl] using hr)
    exact this
  | .own b off n sz, v', u, hh, hc, hr => by
    simp only [snapA] at hh
    exact hg b off n sz v' u hh (by simpa only [reachA] using hc) hr
  | .ptr b off, v', u, hh, _, hr => by simp [snapA] at hh
  | .iptr cs off, v', u, hh, _, hr => by simp [snapA] at hh
  | .gptr g off, v', u, hh, _, hr => by simp [snapA] at hh
  | .agg cs, v', u, hh, hc, hr => by
    simp only [snapA, snapA_go, Option.map_eq_some_iff] at hh
    obtain ⟨cs', hh, rfl⟩ := hh
    simp only [Rel] at hr ⊢
    obtain ⟨us, e, hr⟩ := hr
    exact ⟨us, e, snapL_rel h0 hg cs cs' us.toList hh (by simpa only [reachA, reachA_go] using hc) hr⟩
  | .tup cs, v', u, hh, hc, hr => by
    simp only [snapA, snapA_go, Option.map_eq_some_iff] at hh
    obtain ⟨cs', hh, rfl⟩ := hh
    simp only [Rel] at hr ⊢
    obtain ⟨us, e, hr⟩ := hr
    exact ⟨us, e, snapL_rel h0 hg cs cs' us.toList hh (by simpa only [reachA, reachA_go] using hc) hr⟩
  | .fn f cs, v', u, hh, hc, hr => by
    simp only [snapA, snapA_go, Option.map_eq_some_iff] at hh
    obtain ⟨cs', hh, rfl⟩ := hh
    simp only [Rel] at hr ⊢
    obtain ⟨g, us, hgL, e, hr⟩ := hr
    exact ⟨g, us, by rw [h0.L]; exact hgL, e, snapL_rel h0 hg cs cs' us.toList hh (by simpa only [reachA, reachA_go] using hc) hr⟩
theorem snapL_rel {S S0 : Sc} {h : Mem} (h0 : Shut S S0) {sn : Nat → Nat → Nat → Nat → Option AV} {gr : Nat → List Nat}
    (hg : ∀ b off n sz x u, sn b off n sz = some x → (∀ b' ∈ gr b, Cov S S0 h b') → Rel S (.own b off n sz) u → Rel S0 x u) :
    ∀ (vs vs' : List AV) (us : List Value), snapL sn vs = some vs' → (∀ b' ∈ reachL gr vs, Cov S S0 h b') → RelL S vs us → RelL S0 vs' us
  | [], vs', us, hh, _, hr => by simp [snapL] at hh; subst hh; simpa only [RelL] using hr
  | v :: vs, vs', us, hh, hc, hr => by
    simp only [snapL] at hh
    split at hh
    · next a b ha hb =>
      cases hh
      simp only [RelL] at hr ⊢
      obtain ⟨u, r, e, h1, h2⟩ := hr
      exact ⟨u, r, e, snapA_rel h0 hg v a u ha (fun b' hm => hc b' (by simp only [reachL]; exact List.mem_append_left _ hm)) h1,
        snapL_rel h0 hg vs b r hb (fun b' hm => hc b' (by simp only [reachL]; exact List.mem_append_right _ hm)) h2⟩
    · cases hh
end
theorem reachL_mem {g : Nat → List Nat} {b : Nat} : ∀ {l : List AV}, b ∈ reachL g l ↔ ∃ v ∈ l, b ∈ reachA g v
  | [] => by simp [reachL]
  | v :: vs => by simp only [reachL, List.mem_append, reachL_mem (l := vs), List.mem_cons]; constructor
                  · rintro (h | ⟨x, hx, h⟩)
                    · exact ⟨v, .inl rfl, h⟩
                    · exact ⟨x, .inr hx, h⟩
                  · rintro ⟨x, rfl | hx, h⟩
                    · exact .inl h
                    · exact .inr ⟨x, hx, h⟩
theorem snapL_get {sn : Nat → Nat → Nat → Nat → Option AV} : ∀ {vs vs' : List AV}, snapL sn vs = some vs' → vs'.length = vs.length ∧ ∀ (j : Nat) (x : AV), vs'[j]? = some x → ∃ v, vs[j]? = some v ∧ snapA sn v = some x
  | [], vs', h => by simp [snapL] at h; subst h; simp
  | v :: vs, vs', h => by
    simp only [snapL] at h
    split at h
    · next a b ha hb =>
      cases h
      obtain ⟨h1, h2⟩ := snapL_get hb
      refine ⟨by simp [h1], fun j x hj => ?_⟩
      cases j with
      | zero => simp at hj; subst hj; exact ⟨v, rfl, ha⟩
      | succ j => simpa using h2 j x (by simpa using hj)
    · cases h
theorem snapG_rel {A : Nat → Prop} {n0 : Nat} {S S0 : Sc} {hp h : Mem} {fz : Nat → Prop} (H : HR A n0 S hp fz) (hle : ∀ b k, h b = some k → hp b = some k) (h0 : Shut S S0) : ∀ (d : Nat) (b off n sz : Nat) (x : AV) (u : Value), snapG h d b off n sz = some x →
    (∀ b' ∈ reachG h d b, Cov S S0 h b') → Rel S (.own b off n sz) u → Rel S0 x u
  | 0, b, off, n, sz, x, u, hs, _, _ => by simp [snapG] at hs
  | d + 1, b, off, n, sz, x, u, hs, hc, hr => by
    simp only [snapG] at hs
    split at hs
    · next cs hcs =>
      rw [Option.map_eq_some_iff] at hs
      obtain ⟨cs', hs, rfl⟩ := hs
      simp only [Rel] at hr ⊢
      obtain ⟨i, c, hi, rfl, hn, _, _⟩ := hr
      obtain ⟨hat, hlen⟩ := H.read hle hcs hi
      have hk : ∃ k : Blk, h b = some k ∧ k.dead = false ∧ (k.cs.drop off).take (n * sz) = cs := by
        unfold rdBlk at hcs
        cases hb : h b with
        | none => simp [hb] at hcs
        | some k =>
          simp only [hb] at hcs
          split at hcs
          · cases hcs
          · next hd =>
            split at hcs
            · cases hcs; exact ⟨k, rfl, by simpa using hd, rfl⟩
            · cases hcs
      obtain ⟨k, hb, hd, hkc⟩ := hk
      refine ⟨_, c, rfl, hn, .inr ⟨i.r, i.base + off, rfl, hc b (by simp [reachG]) i hi ⟨k, hb, hd⟩, ?_⟩⟩
      rw [h0.self]
      obtain ⟨hl, hget⟩ := snapL_get hs
      refine relAt_iff.2 fun j y hj => ?_
      obtain ⟨v, hv, hsn⟩ := hget j y hj
      obtain ⟨u, hu1, hu2, hu3⟩ := relAt_iff.1 hat j v hv
      refine ⟨u, by rw [h0.w]; exact hu1, hu2, snapA_rel h0 (snapG_rel H hle h0 d) v y u hsn (fun b' hm => hc b' ?_) hu3⟩
      simp only [reachG, hb]
      refine List.mem_cons_of_mem _ (reachL_mem.2 ⟨v, ?_, hm⟩)
      rw [← hkc] at hv
      exact List.mem_of_mem_drop (List.mem_of_mem_take (List.mem_of_getElem? hv))
    · cases hs
theorem snaps_rel {A : Nat → Prop} {n0 : Nat} {S S0 : Sc} {hp h : Mem} {fz : Nat → Prop} (H : HR A n0 S hp fz) (hle : ∀ b k, h b = some k → hp b = some k) (h0 : Shut S S0) {vs vs' : List AV} {us : List Value} (hs : snaps h vs = some vs') (hr : RelL S vs us)
    (hc : ∀ b' ∈ reachL (reachG h 3) vs, Cov S S0 h b') : RelL S0 vs' us :=
  snapL_rel h0 (snapG_rel H hle h0 3) vs vs' us hs hc hr
mutual
theorem rel_free {S S' : Sc} (hL : S'.L = S.L) : ∀ (v : AV) (u : Value), refA v = false → Rel S v u → Rel S' v u
  | .undef, u, h, hr => by simp [refA] at h
  | .int k n, u, h, hr => by simpa only [Rel] using hr
  | .bool b, u, h, hr => by simpa only [Rel] using hr
  | .fl k b, u, h, hr => by simpa only [Rel] using hr
  | .nil, u, h, hr => by simpa only [Rel] using hr
  | .imm n cs, u, h, hr => by simp [refA] at h
  | .own b off n sz, u, h, hr => by simp [refA] at h
  | .ptr b off, u, h, hr => by simp [refA] at h
  | .iptr cs off, u, h, hr => by simp [refA] at h
  | .gptr g off, u, h, hr => by simp [refA] at h
  | .agg cs, u, h, hr => by
    simp only [Rel] at hr ⊢
    obtain ⟨us, e, hr⟩ := hr
    exact ⟨us, e, relL_free hL cs us.toList (by simpa only [refA] using h) hr⟩
  | .tup cs, u, h, hr => by
    simp only [Rel] at hr ⊢
    obtain ⟨us, e, hr⟩ := hr
    exact ⟨us, e, relL_free hL cs us.toList (by simpa only [refA] using h) hr⟩
  | .fn f cs, u, h, hr => by
    simp only [Rel] at hr ⊢
    obtain ⟨g, us, hg, e, hr⟩ := hr
    exact ⟨g, us, by rw [hL]; exact hg, e, relL_free hL cs us.toList (by simpa only [refA] using h) hr⟩
theorem relL_free {S S' : Sc} (hL : S'.L = S.L) : ∀ (vs : List AV) (us : List Value), refA.go vs = false → RelL S vs us → RelL S' vs us
  | [], us, h, hr => by simpa only [RelL] using hr
  | v :: vs, us, h, hr => by
    simp only [refA.go, Bool.or_eq_false_iff] at h
    simp only [RelL] at hr ⊢
    obtain ⟨u, r, e, h1, h2⟩ := hr
    exact ⟨u, r, e, rel_free hL v u h.1 h1, relL_free hL vs r h.2 h2⟩
end
def noι : Nat → Option BI := fun _ => none
structure CallsOK (P : Program) (L : Nat → Option FuncId) (G : Nat → Option (List AV)) (F : CallF) : Prop where
  shut : ∀ (f : Nat) (g : FuncId) (args : List AV) (r : AV) (h' : Heap), L f = some g → F false f args .nil = some (r, h') → ∀ (w : World) (A : Nat → Prop) (us : List Value), (∀ r, A r → r < w.heap.size) →
    Gok G ⟨L, w, A, noι⟩ → RelL ⟨L, w, A, noι⟩ args us →
    Calls P g us.toArray w fun e w' => ∃ u, e = .returned u ∧ Go.RowKit.Below w.heap.size w w' ∧ Rel ⟨L, w', fun r => A r ∨ w.heap.size ≤ r ∧ r < w'.heap.size, noι⟩ r u
  inl : ∀ (f : Nat) (g : FuncId) (args : List AV) (h : Heap) (r : AV) (h' : Heap), L f = some g → F true f args h = some (r, h') → ∀ (A : Nat → Prop) (n0 : Nat) (S : Sc) (us : List Value), S.L = L → HR A n0 S h.mem h.fz →
    Gok G S → RelL S args us → Calls P g us.toArray S.w fun e w' => ∃ u, e = .returned u ∧ Res A n0 S r h'.mem h'.fz u w'
theorem evCall_ok {P : Program} {G : Nat → Option (List AV)} {F : CallF} {A : Nat → Prop} {n0 : Nat} {S : Sc} {hp h : Mem} {fz : Nat → Prop} (H : HR A n0 S hp fz) (hle : ∀ b k, h b = some k → hp b = some k) (hG : Gok G S) (hF : CallsOK P S.L G F) {f : AV} {args : List AV} {r : AV} {δ : List Blk} {fr : List Nat}
    (hc : evCall F h f args = some (r, δ, fr)) (hfr : ∀ b ∈ fr, fz b) {fu : Value} {us : List Value} (hf : Rel S f fu) (hu : RelL S args us) (p : Nat) :
    ∃ g caps, fu = .func (.func g) #[] caps ∧ (∃ n, S.L n = some g) ∧ Calls P g (us ++ caps.toList).toArray S.w fun e w' => ∃ u, e = .returned u ∧ ResQ A n0 S p δ r hp fz u w' := by
  cases f <;> simp only [evCall, reduceCtorEq] at hc
  case fn f cap =>
    simp only [Rel] at hf
    obtain ⟨g, caps, hL, rfl, hcap⟩ := hf
    have hall := relL_append hu hcap
    refine ⟨g, caps, rfl, ⟨f, hL⟩, ?_⟩
    split at hc
    · next as has =>
      split at hc
      · next r' h'' hr =>
        simp only [Option.some.injEq, Prod.mk.injEq] at hc
        obtain ⟨rfl, rfl, rfl⟩ := hc
        by_cases hre : refA r' = true
        · rw [if_pos hre] at hfr
          have ok1 := H.addRo (fun r => ∃ (b : Nat) (k : Blk) (i : BI), hp b = some k ∧ S.ι b = some i ∧ k.dead = false ∧ fz b ∧ i.r = r) (fun r hr => hr)
          generalize hS1 : ({ S with ro := fun r => S.ro r ∨ ∃ (b : Nat) (k : Blk) (i : BI), hp b = some k ∧ S.ι b = some i ∧ k.dead = false ∧ fz b ∧ i.r = r } : Sc) = S1 at ok1
          have hw1 : S1.w = S.w := by rw [← hS1]
          have hι1 : S1.ι = S.ι := by rw [← hS1]
          have hL1 : S1.L = S.L := by rw [← hS1]
          have hro1 : ∀ (b : Nat) (k : Blk) (i : BI), hp b = some k → S.ι b = some i → k.dead = false → fz b → S1.ro i.r := fun b k i a1 a2 a3 a4 => by rw [← hS1]; exact .inr ⟨b, k, i, a1, a2, a3, a4, rfl⟩
          have hs0 : Shut S ⟨S.L, S.w, S1.ro, noι⟩ := ⟨rfl, rfl, rfl, fun r hr => ok1.le.ro r hr⟩
          have hrel := snaps_rel H hle hs0 has hall (fun b' hm i hi ⟨k, hk, hd⟩ => hro1 b' k i (hle _ _ hk) hi hd (hfr b' hm))
          refine (hF.shut f g as r' h'' hL hr S.w S1.ro _ (fun r hx => by have := (ok1.hr.ro r hx).1; rwa [hw1] at this) ?_ hrel).mono ?_
          · intro g' cs e
            obtain ⟨x, y⟩ := hG g' cs e
            exact ⟨ok1.le.ro g' x, y.mono hs0.le g' x⟩
          · rintro e w' ⟨u, rfl, hb, hr⟩
            have hb' : Go.RowKit.Below S1.w.heap.size S1.w w' := by rw [hw1]; exact hb
            have ok := HR.below ok1.hr hb'
            refine ⟨u, rfl, _, rfl, ok1.trans ok, hr.mono ?_, fun b _ => by show S1.ι b = _; rw [hι1]⟩
            refine ⟨hL1, fun r x => ?_, fun _ _ => rfl, fun b i x => by simp [noι] at x⟩
            show S1.ro r ∨ S1.w.heap.size ≤ r ∧ r < w'.heap.size
            rw [hw1]; exact x
        · have hs0 : Shut S ⟨S.L, S.w, fun r => r < S.w.heap.size, noι⟩ := ⟨rfl, rfl, rfl, fun r hr => (H.ro r hr).1⟩
          have hrel := snaps_rel H hle hs0 has hall (fun b' hm i hi ⟨k, hk, hd⟩ => by
            obtain ⟨_, _, hrow, _⟩ := (H.blk b' k i (hle _ _ hk) hi).row
            exact row_lt hrow)
          refine (hF.shut f g as r' h'' hL hr S.w _ _ (fun r hx => hx) ?_ hrel).mono ?_
          · intro g' cs e
            obtain ⟨x, y⟩ := hG g' cs e
            exact ⟨(H.ro g' x).1, y.mono hs0.le g' x⟩
          · rintro e w' ⟨u, rfl, hb, hr⟩
            have ok := HR.below H hb
            exact ⟨u, rfl, _, rfl, ok, by refine rel_free (S := ⟨S.L, w', fun r => r < S.w.heap.size ∨ S.w.heap.size ≤ r ∧ r < w'.heap.size, noι⟩) ?_ r' u (by simpa using hre) hr; rfl, fun _ _ => rfl⟩
      · cases hc
    · cases hc
end Go.Cv
namespace Go.Cv
theorem cell?_heap {w w' : World} (h : w'.heap = w.heap) (a : Addr) : w'.cell? a = w.cell? a := by simp [World.cell?, h]
theorem sliceCells_rel {P : Program} {A : Nat → Prop} {n0 : Nat} {S : Sc} {hp : Mem} {fz : Nat → Prop} (H : HR A n0 S hp fz) {sz m : Nat} {y : AV} {new : List AV} (hs : sliceCells hp sz y = some (m, new)) {uy : Value} (hy : Rel S y uy) :
    ∃ (news : List Value) (a : Option Addr) (c : Nat), uy = .slice a m c ∧ RelL S new news ∧ (∀ x ∈ news, x.oneCell' = true) ∧ new.length = m * sz ∧
      ∀ w' : World, w'.heap = S.w.heap → (Builtin.firstCells sz m uy).run P w' = .ok news.toArray w' := by
  have far : ∀ {r o : Nat} {cs : List AV} {c : Nat}, RelAt S r cs o → cs.length = m * sz → ∃ news : List Value, RelL S cs news ∧ (∀ x ∈ news, x.oneCell' = true) ∧
      ∀ w' : World, w'.heap = S.w.heap → (Builtin.firstCells sz m (.slice (some ⟨r, o, none⟩) m c)).run P w' = .ok news.toArray w' := by
    intro r o cs c hat hl
    obtain ⟨us, k1, k2, k3⟩ := relAt_vals hat
    refine ⟨us, k1, k3, fun w' hw => ?_⟩
    exact run_firstCells_some w' sz m _ m c us (by rw [relL_length k1]; exact hl) (fun j v hj => by rw [cell?_heap hw]; exact k2 j v hj)
  cases y <;> simp only [sliceCells, reduceCtorEq] at hs <;> simp only [Rel] at hy
  case nil =>
    simp only [Option.some.injEq, Prod.mk.injEq] at hs
    obtain ⟨rfl, rfl⟩ := hs
    subst hy
    exact ⟨[], none, 0, rfl, by simp [RelL], by simp, by simp, fun w' _ => by simp [Builtin.firstCells]⟩
  case imm n cs =>
    split at hs
    · next hl =>
      simp only [Option.some.injEq, Prod.mk.injEq] at hs
      obtain ⟨rfl, rfl⟩ := hs
      obtain ⟨a, c, rfl, hn, hx⟩ := hy
      rcases hx with rfl | ⟨r, o, rfl, hro, hx⟩
      · have h0 : n * sz = 0 := by simpa using hl.symm
        refine ⟨[], a, c, rfl, by simp [RelL], by simp, hl, fun w' _ => ?_⟩
        cases a with
        | none => simp [Builtin.firstCells]
        | some a => simp [Builtin.firstCells, h0, loadCells, loadCellsFrom]
      · obtain ⟨news, k1, k2, k3⟩ := far (c := c) (hx.mono S.cl_le r hro) hl
        exact ⟨news, _, c, rfl, k1, k2, hl, k3⟩
    · cases hs
  case own b off n s =>
    split at hs
    · next hsz =>
      subst hsz
      rw [Option.map_eq_some_iff] at hs
      obtain ⟨cs, hcs, he⟩ := hs
      simp only [Prod.mk.injEq] at he
      obtain ⟨rfl, rfl⟩ := he
      obtain ⟨i, c, hi, rfl, hn, _, _⟩ := hy
      obtain ⟨hat, hl⟩ := H.read (fun _ _ q => q) hcs hi
      obtain ⟨news, k1, k2, k3⟩ := far (c := c) hat hl
      exact ⟨news, _, c, rfl, k1, k2, hl, k3⟩
    · cases hs
section
variable {P : Program}
theorem run_app_room (w w' : World) (t t' ty e e' : TypeId) (i : TypeInfo) (ht : P.underlying t = some (.slice e)) (ht' : P.underlying t' = some (.slice e')) (hi : P.info? e = some i)
    (b : Addr) (sLen sCap m c : Nat) (a : Option Addr) (news : List Value) (hf : (Builtin.firstCells i.size m (.slice a m c)).run P w = .ok news.toArray w) (hroom : sLen + m ≤ sCap)
    (hst : (storeCells (b.add (sLen * i.size)) news).run P w = .ok () w') :
    (Builtin.append_ #[t, t'] ty #[.slice (some b) sLen sCap, .slice a m c]).run P w = .ok (.slice (some b) (sLen + m) sCap) w' := by
  simp [Builtin.append_, run_underlying ht, run_underlying ht', sizeOf, typeInfo, hi, Builtin.lenOf, hroom, hf, hst]
theorem run_app_grow (w : World) (t t' ty e e' : TypeId) (i : TypeInfo) (z : Value) (ht : P.underlying t = some (.slice e)) (ht' : P.underlying t' = some (.slice e')) (hi : P.info? e = some i) (hz : i.zero = some z)
    (b : Option Addr) (sLen sCap m c : Nat) (a : Option Addr) (olds news : List Value)
    (hfo : (Builtin.firstCells i.size sLen (.slice b sLen sCap)).run P w.drew = .ok olds.toArray w.drew)
    (hf : (Builtin.firstCells i.size m (.slice a m c)).run P w.drew = .ok news.toArray w.drew) (hg : sCap < sLen + m)
    (h63 : ((sLen + m : Nat) : Int) ≤ 9223372036854775807) (hfit : Builtin.nextslicecap (sLen + m) sCap * i.bytes ≤ 281474976710656) :
    (Builtin.append_ #[t, t'] ty #[.slice b sLen sCap, .slice a m c]).run P w =
      .ok (.slice (some ⟨w.heap.size, 0, none⟩) (sLen + m) (grownCap w (sLen + m) sCap e))
        (w.drew.alloc (.cells (olds.toArray ++ news.toArray ++ Builtin.zeroCells z.cells (grownCap w (sLen + m) sCap e - (sLen + m))) e)) := by
  have hn : ¬ (sLen + m ≤ sCap) := by omega
  have h63' : ¬ (9223372036854775807 < ((sLen : Int) + (m : Int))) := by omega
  have h48' : ¬ (281474976710656 < Builtin.nextslicecap (sLen + m) sCap * i.bytes) := by omega
  simp [Builtin.append_, run_underlying ht, run_underlying ht', sizeOf, typeInfo, zeroValue, hi, hz, Builtin.lenOf, hn, h63', h48', Question.forced, hf, hfo, newRow, grownCap]
  congr 2
  apply Array.ext'
  simp [List.append_assoc]
theorem run_app_none (w : World) (t t' ty e e' : TypeId) (i : TypeInfo) (ht : P.underlying t = some (.slice e)) (ht' : P.underlying t' = some (.slice e')) (hi : P.info? e = some i)
    (a : Option Addr) (c : Nat) (hf : (Builtin.firstCells i.size 0 (.slice a 0 c)).run P w = .ok #[] w) :
    (Builtin.append_ #[t, t'] ty #[.slice none 0 0, .slice a 0 c]).run P w = .ok (.slice none 0 0) w := by
  simp [Builtin.append_, run_underlying ht, run_underlying ht', sizeOf, typeInfo, hi, Builtin.lenOf, hf]
theorem grow_res {A : Nat → Prop} {n0 : Nat} {S : Sc} {hp : Mem} {fz : Nat → Prop} (H : HR A n0 S hp fz) {p : Nat} (hn : S.ι p = none) {cs : List AV} (hpp : hp p = some ⟨cs, false⟩) {us : List Value} (hu : RelL S cs us) (h1 : ∀ x ∈ us, x.oneCell' = true) {need cap sz : Nat} (hl : cs.length = need * sz)
    (hc : need ≤ cap) {z : Array Value} (hz : z.size = sz) (el : TypeId) :
    Res A n0 S (.own p 0 need sz) hp fz (.slice (some ⟨S.w.heap.size, 0, none⟩) need cap) (S.w.drew.alloc (.cells (us.toArray ++ Builtin.zeroCells z (cap - need)) el)) := by
  have hul := relL_length hu
  have d := Ok.drew H
  have hsz : (us.toArray ++ Builtin.zeroCells z (cap - need)).size = cap * sz := by
    rw [Array.size_append, size_zeroCells, hz, List.size_toArray, hul, hl, ← Nat.add_mul]
    congr 1; omega
  have ok := Ok.alloc d.hr (p := p) hn hpp (c := us.toArray ++ Builtin.zeroCells z (cap - need)) el (hu.mono d.le) h1 (fun j u hj => by
    rw [Array.getElem?_append_left (by simpa using (List.getElem?_eq_some_iff.1 hj).1)]; simpa using hj) (by rw [Array.size_append]; simp)
  refine ⟨_, rfl, d.trans ok, ?_⟩
  simp only [Rel]
  refine ⟨⟨S.w.heap.size, 0, cs.length, (us.toArray ++ Builtin.zeroCells z (cap - need)).size⟩, cap, by simp [Sc.new, Sc.at], rfl, hc, ?_, ?_⟩
  · show 0 + 0 + cap * sz ≤ _
    rw [hsz]; show _ ≤ cap * sz; omega
  · show cs.length ≤ 0 + cap * sz
    rw [hl, Nat.zero_add]; exact Nat.mul_le_mul_right _ hc
theorem mem_push {h : Heap} {l : List Blk} {x : Blk} {f : List Nat} (hl : l.length = h.b.length) : (⟨l ++ [x], f⟩ : Heap).mem h.b.length = some x ∧ ∀ b, b < h.b.length → (⟨l ++ [x], f⟩ : Heap).mem b = l[b]? := by
  refine ⟨?_, fun b hb => ?_⟩
  · show (l ++ [x])[h.b.length]? = _
    rw [← hl]; simp
  · show (l ++ [x])[b]? = _
    rw [List.getElem?_append_left (by omega)]
theorem dom_lt {A : Nat → Prop} {n0 : Nat} {S : Sc} {h : Heap} {fz : Nat → Prop} (H : HR A n0 S h.mem fz) {b : Nat} {i : BI} (hi : S.ι b = some i) : b < h.b.length := by
  obtain ⟨k, hk⟩ := H.dom b i hi
  exact (List.getElem?_eq_some_iff.1 hk).1
theorem dom_none {A : Nat → Prop} {n0 : Nat} {S : Sc} {h : Heap} {fz : Nat → Prop} (H : HR A n0 S h.mem fz) {b : Nat} (hb : h.b.length ≤ b) : S.ι b = none := by
  cases hx : S.ι b with
  | none => rfl
  | some i => have := dom_lt H hx; omega
theorem app_ok {A : Nat → Prop} {n0 : Nat} {S : Sc} {h h' : Heap} (H : HR A n0 S h.mem h.fz) {sz bytes : Nat} {e : Env} {G : Nat → Option (List AV)} {F : CallF} {x y : IOpd} {v : AV}
    (hev : evW G F e h (.app sz bytes x y) = some (v, h')) {ux uy : Value} (hx : Rel S (opd e x) ux) (hy : Rel S (opd e y) uy)
    (t t' ty el el' : TypeId) (i : TypeInfo) (ht : P.underlying t = some (.slice el)) (ht' : P.underlying t' = some (.slice el')) (hi : P.info? el = some i) (hsz : i.size = sz) (hby : i.bytes = bytes)
    (z : Value) (hz : i.zero = some z) (hzs : z.cells.size = sz) :
    ∃ u w', (Builtin.append_ #[t, t'] ty #[ux, uy]).run P S.w = .ok u w' ∧ Res A n0 S v h'.mem h'.fz u w' := by
  subst hsz; subst hby
  simp only [evW] at hev
  split at hev
  · next m new hsl =>
    obtain ⟨news, ay, cy, rfl, hnews, hone, hnl, hfc⟩ := sliceCells_rel (P := P) H hsl hy
    have hnl' : news.length = m * i.size := by rw [relL_length hnews]; exact hnl
    have hnew : S.ι h.b.length = none := dom_none H (Nat.le_refl _)
    generalize hxv : opd e x = xv at hev hx
    cases xv <;> simp only [reduceCtorEq] at hev <;> simp only [Rel] at hx
    case nil =>
      subst hx
      split at hev
      · next hm =>
        subst hm
        simp only [Option.some.injEq, Prod.mk.injEq] at hev
        obtain ⟨rfl, rfl⟩ := hev
        have hn0 : news = [] := List.eq_nil_of_length_eq_zero (by simpa using hnl')
        subst hn0
        exact ⟨_, _, run_app_none S.w t t' ty el el' i ht ht' hi ay cy (hfc S.w rfl), S, rfl, .refl H, by simp [Rel]⟩
      · next hm =>
        split at hev
        · next hb =>
          simp only [Option.some.injEq, Prod.mk.injEq] at hev
          obtain ⟨rfl, rfl⟩ := hev
          have hb' : m * i.bytes + m ≤ 70368744177664 := by rw [← Nat.mul_succ]; simpa [boundBytes] using hb
          have hfits : Builtin.nextslicecap (0 + m) 0 * i.bytes ≤ 281474976710656 := growslice_fits (by omega) (by simp; omega)
          have hr := run_app_grow (P := P) S.w t t' ty el el' i z ht ht' hi hz none 0 0 m cy ay [] news (by simp [Builtin.firstCells]) (hfc _ rfl) (by omega) (by simp; omega) hfits
          obtain ⟨m1, m2⟩ := mem_push (h := h) (l := h.b) (x := ⟨new, false⟩) (f := h.f) rfl
          have H2 : HR A n0 S (⟨h.b ++ [⟨new, false⟩], h.f⟩ : Heap).mem h.fz := H.ext (fun b i hi => m2 b (dom_lt H hi)) (fun _ q => q)
          have res := grow_res H2 hnew m1 hnews hone hnl (grownCap_ge S.w m 0 el) hzs el
          simp only [Nat.zero_add, Array.empty_append, List.nil_append] at hr
          exact ⟨_, _, hr, res⟩
        · cases hev
    case own b off n s =>
      split at hev
      · next k hk =>
        split at hev
        · next hc =>
          obtain ⟨rfl, hd, hfz, hle, hb⟩ := hc
          simp only [Option.some.injEq, Prod.mk.injEq] at hev
          obtain ⟨rfl, rfl⟩ := hev
          obtain ⟨bi, cap, hbi, rfl, hn, hcap, hlen⟩ := hx
          have B := H.blk b k bi hk hbi
          obtain ⟨row, rt, hrow, hrs⟩ := B.row
          have hblt := (List.getElem?_eq_some_iff.1 hk).1
          have hb' : (n + m) * i.bytes + (n + m) ≤ 70368744177664 := by rw [← Nat.mul_succ]; simpa [boundBytes] using hb
          have hat : RelAt S bi.r ((k.cs.drop off).take (n * i.size)) (bi.base + off) := relAt_sub (B.cells hd) off _
          have hatl : ((k.cs.drop off).take (n * i.size)).length = n * i.size := by simp; omega
          obtain ⟨olds, o1, o2, o3⟩ := relAt_vals hat
          have hol : olds.length = n * i.size := by rw [relL_length o1, hatl]
          have hall : RelL S ((k.cs.drop off).take (n * i.size) ++ new) (olds ++ news) := relL_append o1 hnews
          have hall1 : ∀ x ∈ olds ++ news, x.oneCell' = true := fun x hx => (List.mem_append.1 hx).elim (o3 x) (hone x)
          have hlall : ((k.cs.drop off).take (n * i.size) ++ new).length = (n + m) * i.size := by rw [List.length_append, hatl, hnl, Nat.add_mul]
          obtain ⟨m1, m2⟩ := mem_push (h := h) (l := h.b.set b { k with dead := true }) (x := ⟨(k.cs.drop off).take (n * i.size) ++ new, false⟩) (f := h.f) (by simp)
          have hqb : (⟨h.b.set b { k with dead := true } ++ [⟨(k.cs.drop off).take (n * i.size) ++ new, false⟩], h.f⟩ : Heap).mem b = some { k with dead := true } := by
            rw [m2 b hblt, List.getElem?_set]; simp [hblt]
          have hqo : ∀ b', b' ≠ b → b' < h.b.length → (⟨h.b.set b { k with dead := true } ++ [⟨(k.cs.drop off).take (n * i.size) ++ new, false⟩], h.f⟩ : Heap).mem b' = h.mem b' := fun b' hne hlt => by
            rw [m2 b' hlt, List.getElem?_set, if_neg (fun e => hne e.symm)]; rfl
          have hqo' : ∀ b', b' ≠ b → b' ≠ h.b.length → (⟨h.b.set b { k with dead := true } ++ [⟨(k.cs.drop off).take (n * i.size) ++ new, false⟩], h.f⟩ : Heap).mem b' = h.mem b' := fun b' hne hne2 => by
            rcases Nat.lt_or_ge b' h.b.length with q | q
            · exact hqo b' hne q
            · show (h.b.set b _ ++ [_])[b']? = h.b[b']?
              rw [List.getElem?_eq_none (by simp; omega), List.getElem?_eq_none q]
          by_cases hroom : n + m ≤ cap
          · have hmul : (n + m) * i.size ≤ cap * i.size := Nat.mul_le_mul_right _ hroom
            rw [Nat.add_mul] at hmul
            have hst := run_storeCells_at P bi.r (bi.base + off + n * i.size) rt news 0 row S.w hrow (by omega) hone
            have hr := run_app_room (P := P) S.w _ t t' ty el el' i ht ht' hi ⟨bi.r, bi.base + off, none⟩ n cap m cy ay news (hfc S.w rfl) hroom (by rw [add_none]; exact hst)
            refine ⟨_, _, hr, _, rfl, Ok.inplace H hk hbi hd (not_fz hfz) hnew hqb m1 hqo' (base' := bi.base + off) (by rw [hlall, Nat.add_mul]; omega) ?_ ?_, ?_⟩
            · simp; omega
            · intro j v hj
              obtain ⟨u, hu1, hu2⟩ := relL_get hall j v hj
              refine ⟨u, ?_, hall1 u (List.mem_of_getElem? hu1), hu2⟩
              simp only [Nat.add_zero, List.getElem?_toArray]
              by_cases hjn : j < n * i.size
              · rw [List.getElem?_append_left (by omega)] at hu1
                have := o2 j u hu1
                rw [add_none, cell_of_row _ _ _ _ _ _ hrow] at this
                rw [List.getElem?_append_left (by simp; omega), List.getElem?_append_left (by simp; omega), List.getElem?_take, if_pos (by omega)]
                simpa using this
              · rw [List.getElem?_append_right (by omega)] at hu1
                have hjl := (List.getElem?_eq_some_iff.1 hu1).1
                rw [List.getElem?_append_left (by simp; omega), List.getElem?_append_right (by simp; omega)]
                rw [← hu1]; congr 1; simp; omega
            · simp only [Rel]
              refine ⟨⟨bi.r, bi.base + off, ((k.cs.drop off).take (n * i.size) ++ new).length, bi.rs⟩, cap, by simp [Sc.new], rfl, hroom, ?_, ?_⟩
              · show bi.base + off + 0 + cap * i.size ≤ bi.rs
                omega
              · show ((k.cs.drop off).take (n * i.size) ++ new).length ≤ 0 + cap * i.size
                rw [hlall, Nat.add_mul]; omega
          · have H1 := HR.kill H hk hqb (fun b' i' hne hi' => hqo b' hne (dom_lt H hi'))
            have hfits : Builtin.nextslicecap (n + m) cap * i.bytes ≤ 281474976710656 := growslice_fits (by omega) (by omega)
            have hfo : (Builtin.firstCells i.size n (.slice (some ⟨bi.r, bi.base + off, none⟩) n cap)).run P S.w.drew = .ok olds.toArray S.w.drew :=
              run_firstCells_some S.w.drew i.size n _ n cap olds hol (fun j v hj => o2 j v hj)
            have hr := run_app_grow (P := P) S.w t t' ty el el' i z ht ht' hi hz (some ⟨bi.r, bi.base + off, none⟩) n cap m cy ay olds news hfo (hfc _ rfl) (by omega) (by omega) hfits
            obtain ⟨S2, hw2, ok2, hr2⟩ := grow_res H1 hnew m1 hall hall1 hlall (grownCap_ge S.w (n + m) cap el) hzs el
            refine ⟨_, _, hr, S2, ?_, ok2, hr2⟩
            rw [hw2]
            congr 3
            apply Array.ext'
            simp
        · cases hev
      · cases hev
  · cases hev
end
end Go.Cv
namespace Go.Cv
theorem zeroC_rel {P : Program} {t : TypeId} {z : List AV} (h : zeroC P t = some z) : ∃ (i : TypeInfo) (zv : Value), P.info? t = some i ∧ i.zero = some zv ∧ zv.cells.size = i.size ∧ mapO avC zv.cells.toList = some z := by
  unfold zeroC at h
  split at h
  · next i hi =>
    split at h
    · next zv hz =>
      split at h
      · next hs => exact ⟨i, zv, hi, hz, hs, h⟩
      · cases h
    · cases h
  · cases h
theorem run_zeroValue {P : Program} {t : TypeId} {i : TypeInfo} {zv : Value} (hi : P.info? t = some i) (hz : i.zero = some zv) (w : World) : (zeroValue t).run P w = .ok zv w := by simp [zeroValue, typeInfo, hi, hz]
theorem newVar_res {P : Program} {A : Nat → Prop} {n0 : Nat} {S : Sc} {hp : Mem} {fz : Nat → Prop} (H : HR A n0 S hp fz) {p : Nat} (hn : S.ι p = none) {cs : List AV} (hpp : hp p = some ⟨cs, false⟩) {u : Value} (hu : RelL S cs u.cells.toList) (h1 : ∀ x ∈ u.cells.toList, x.oneCell' = true) (t : TypeId) :
    ∃ w', (newVar t u).run P S.w = .ok ⟨S.w.heap.size, 0, none⟩ w' ∧ ResQ A n0 S p [⟨cs, false⟩] (.ptr p 0) hp fz (.pointer (some ⟨S.w.heap.size, 0, none⟩)) w' := by
  have ok := Ok.alloc H hn hpp (c := u.cells) t hu h1 (fun j v hj => by simpa using hj) (by simp)
  refine ⟨S.w.alloc (.cells u.cells t), by simp [newVar, newRow], _, rfl, ok, ?_, fun b hb => by simp at hb; simp [Sc.new, hb]⟩
  simp only [Rel]
  exact ⟨⟨S.w.heap.size, 0, cs.length, u.cells.size⟩, by simp [Sc.new], rfl⟩
theorem repA_get (z : List AV) : ∀ (n j : Nat), j < n * z.length → (repA n z)[j]? = z[j % z.length]?
  | 0, j, h => by simp at h
  | n + 1, j, h => by
    have e : repA (n + 1) z = z ++ repA n z := by simp [repA, List.replicate_succ]
    rw [e]
    by_cases hj : j < z.length
    · rw [List.getElem?_append_left hj, Nat.mod_eq_of_lt hj]
    · rw [Nat.succ_mul] at h
      have hm : j % z.length = (j - z.length) % z.length := Nat.mod_eq_sub_mod (by omega)
      rw [List.getElem?_append_right (by omega), repA_get z n (j - z.length) (by omega), hm]
theorem repA_length (n : Nat) (z : List AV) : (repA n z).length = n * z.length := by simp [repA]
theorem repA_rel {S : Sc} {z : List AV} {zs : Array Value} (hz : RelL S z zs.toList) (n : Nat) : RelL S (repA n z) ((Array.range (n * zs.size)).map (zs[· % zs.size]!)).toList := by
  have hl := relL_length hz
  simp only [Array.length_toList] at hl
  refine relL_of (by simp [repA_length, hl]) fun j v u hv hu => ?_
  have hj : j < n * z.length := by rw [← repA_length n z]; exact (List.getElem?_eq_some_iff.1 hv).1
  rw [repA_get z n j hj] at hv
  rw [Array.toList_map, List.getElem?_map, Option.map_eq_some_iff] at hu
  obtain ⟨x, hx, rfl⟩ := hu
  have hx' : x = j := by
    rw [Array.toList_range] at hx
    have := List.getElem?_range (n := n * zs.size) (i := j) (by rw [hl]; exact hj)
    rw [this] at hx; cases hx; rfl
  subst hx'
  obtain ⟨u, hu1, hu2⟩ := relL_get hz _ v hv
  rw [hl]
  have : zs[x % z.length]! = u := by
    rw [Array.getElem!_eq_getD, Array.getD_eq_getD_getElem?]
    have : zs[x % z.length]? = some u := by simpa using hu1
    rw [this]; rfl
  rw [this]; exact hu2
theorem relL_one {S : Sc} {vs : List AV} {us : List Value} (h : RelL S vs us) (hv : vs.all okCell = true) : ∀ x ∈ us, x.oneCell' = true := by
  induction vs generalizing us with
  | nil => intro x hx; simp only [RelL] at h; subst h; cases hx
  | cons v vs ih =>
    intro x hx
    simp only [RelL] at h
    obtain ⟨u, r, rfl, h1, h2⟩ := h
    simp only [List.all_cons, Bool.and_eq_true] at hv
    rcases List.mem_cons.1 hx with rfl | hx
    · exact okCell_one h1 hv.1
    · exact ih h2 hv.2 x hx
theorem repA_ok {z : List AV} (hz : z.all okCell = true) (n : Nat) : (repA n z).all okCell = true := by
  rw [List.all_eq_true]
  intro x hx
  simp only [repA, List.mem_flatten] at hx
  obtain ⟨l, hl, hx⟩ := hx
  rw [List.eq_of_mem_replicate hl] at hx
  exact List.all_eq_true.1 hz x hx
def OptRel (S : Sc) : Option AV → Option Value → Prop
  | none, none => True
  | some v, some u => Rel S v u
  | _, _ => False
theorem bound_run {P : Program} {S : Sc} {d : Nat} {x : Option AV} {n : Int} (h : bound d x = some n) {u : Option Value} (hu : OptRel S x u) (y : Nat) (code : BoundsCode) (h0 : 0 ≤ n) (h1 : n ≤ y) (w : World) :
    (match u with | some v => Instr.sliceBound v y code | none => pure d : Sem Nat).run P w = .ok n.toNat w := by
  unfold bound at h
  cases x with
  | none =>
    cases u with
    | none => cases h; simp
    | some u => exact hu.elim
  | some v =>
    cases u with
    | none => exact hu.elim
    | some u =>
      cases v <;> simp only [Option.some.injEq, reduceCtorEq] at h
      subst h
      simp only [OptRel, Rel] at hu
      subst hu
      exact run_sliceBound _ _ _ _ _ h0 h1
theorem slice_ok {P : Program} {A : Nat → Prop} {n0 : Nat} {S : Sc} {hp h : Mem} {fz : Nat → Prop} (H : HR A n0 S hp fz) (hle : ∀ b k, h b = some k → hp b = some k) {sz : Nat} {x v : AV} {lo hi : Option AV} (hev : evSlice h sz x lo hi = some v) {ux : Value} (hx : Rel S x ux)
    {ulo uhi : Option Value} (hlo : OptRel S lo ulo) (hhi : OptRel S hi uhi)
    {t e : TypeId} {i : TypeInfo} (ht : P.underlying t = some (.slice e)) (hin : P.info? e = some i) (hsz : i.size = sz) :
    ∃ u, (Instr.sliceAt t ux ulo uhi none).run P S.w = .ok u S.w ∧ Rel S v u := by
  subst hsz
  unfold evSlice at hev
  split at hev
  · next n c hn hc =>
    split at hev
    · next l u hl hu =>
      split at hev
      · next hb =>
        obtain ⟨hl0, hlu, huc⟩ := hb
        -- the machine's slice, its length and room
        have hmach : ∃ a cap, ux = .slice a n cap ∧ c ≤ cap := by
          cases x <;> simp only [lenA, capA, Option.some.injEq, reduceCtorEq] at hn hc <;> simp only [Rel] at hx
          · subst hn; subst hc; exact ⟨none, 0, hx, Nat.le_refl _⟩
          · subst hn; subst hc
            obtain ⟨a, c, rfl, hle, _⟩ := hx
            exact ⟨a, c, rfl, hle⟩
          · subst hn
            obtain ⟨bi, cap, hbi, rfl, hnc, hcap, hlen⟩ := hx
            refine ⟨_, cap, rfl, ?_⟩
            split at hc
            · next k hk =>
              split at hc
              · cases hc
              · have B := H.blk _ k bi (hle _ _ hk) hbi
                have hkl := B.len
                simp only [Option.some.injEq] at hc
                split at hc
                · omega
                · next hs =>
                  subst hc
                  refine Nat.max_le.2 ⟨hnc, ?_⟩
                  refine Nat.div_le_of_le_mul ?_
                  rw [Nat.mul_comm]; omega
            · cases hc
        obtain ⟨a, cap, rfl, hccap⟩ := hmach
        have hrun : (Instr.sliceAt t (.slice a n cap) ulo uhi none).run P S.w = .ok (.slice (if cap = l.toNat then a else a.map (·.add (l.toNat * i.size))) (u.toNat - l.toNat) (cap - l.toNat)) S.w := by
          have b1 := bound_run (P := P) hu hhi cap .sliceAcap (by omega) (by omega) S.w
          have b2 := bound_run (P := P) hl hlo u.toNat .sliceB hl0 (by omega) S.w
          unfold Instr.sliceAt
          simp only [Sem.run_bind, run_underlying ht, Result.andThen_ok]
          unfold Instr.slice
          simp only [Sem.run_bind, run_underlying ht, Result.andThen_ok]
          unfold Instr.sliceBounds
          cases ulo <;> cases uhi <;> simp_all [sizeOf, typeInfo]
        refine ⟨_, hrun, ?_⟩
        have hul : u.toNat - l.toNat = (u - l).toNat := by omega
        rw [hul]
        cases x <;> simp only [reduceCtorEq, Option.some.injEq] at hev <;> simp only [Rel] at hx
        case nil =>
          subst hev
          simp only [Value.slice.injEq] at hx
          obtain ⟨rfl, rfl, rfl⟩ := hx
          simp only [capA, Option.some.injEq] at hc
          subst hc
          have : l = 0 := by omega
          have : u = 0 := by omega
          subst l; subst u
          simp [Rel]
        case imm n' cs =>
          split at hev
          · next hcl =>
            cases hev
            obtain ⟨a', c', he, hle, hx⟩ := hx
            simp only [Value.slice.injEq] at he
            obtain ⟨rfl, rfl, rfl⟩ := he
            simp only [capA, Option.some.injEq] at hc
            subst hc
            simp only [Rel]
            refine ⟨_, _, rfl, by omega, ?_⟩
            by_cases hcl' : cap = l.toNat
            · left
              have : (u - l).toNat = 0 := by omega
              simp [this]
            · rw [if_neg hcl']
              rcases hx with rfl | ⟨r, o, rfl, hro, hx⟩
              · left; simp
              · right
                exact ⟨r, o + l.toNat * i.size, by simp [add_none], hro, relAt_sub hx _ _⟩
          · cases hev
        case own b off n' s =>
          split at hev
          · next hs =>
            obtain ⟨rfl, hl'⟩ := hs
            cases hev
            obtain ⟨bi, cap', hbi, he, hle, hcap, hlen⟩ := hx
            simp only [Value.slice.injEq] at he
            obtain ⟨rfl, rfl, rfl⟩ := he
            simp only [Rel]
            have hmul : l.toNat * i.size + (cap - l.toNat) * i.size = cap * i.size := by rw [← Nat.add_mul]; congr 1; omega
            refine ⟨bi, cap - l.toNat, hbi, ?_, by omega, by omega, by omega⟩
            by_cases hcl' : cap = l.toNat
            · have : l = 0 := by omega
              subst this
              rw [if_pos hcl']; simp
            · rw [if_neg hcl']; simp [add_none, Nat.add_assoc]
          · cases hev
      · cases hev
    · cases hev
  · cases hev
end Go.Cv
namespace Go.Cv
theorem relL_mapA {C : CC} {S : Sc} (hL : Link C S.L) {e : Env} {a : Act} (hE : EnvR S C.N e a) {xs : Array Operand} {ys : List IOpd} (h : mapO (compOpd C) xs.toList = some ys) :
    RelL S (ys.map (opd e)) (xs.map a.eval).toList := by
  rw [Array.toList_map]; exact opds_rel hL hE h
section
variable {C : CC} {A : Nat → Prop} {n0 : Nat} {S : Sc} {hp h : Mem} {fz : Nat → Prop} {p : Nat} {δ : List Blk} {fr : List Nat} {e : Env} {a : Act} {G : Nat → Option (List AV)} {F : CallF} {v : AV}
theorem storeVar_run {P : Program} {t : TypeId} {i : TypeInfo} (hi : P.info? t = some i) {u : Value} (hs : u.cells.size = i.size) (ad : Addr) (w : World) : (storeVar t ad u).run P w = (storeCells ad u.cells.toList).run P w := by
  simp [storeVar, sizeOf, typeInfo, hi, hs]
theorem iaddr_ok {P : Program} {t el : TypeId} {inf : TypeInfo} (ht : P.underlying t = some (.slice el)) (hin : P.info? el = some inf) {x : AV} {k : IntKind} {j : Int} {r : AV × List Blk × List Nat}
    (hev : (match x with
      | .imm n cs => if 0 ≤ j ∧ j < (n : Int) ∧ 0 < inf.size ∧ cs.length = n * inf.size then some (AV.iptr cs (j.toNat * inf.size), [], []) else none
      | .own b off n s => if 0 ≤ j ∧ j < (n : Int) ∧ s = inf.size then some (AV.ptr b (off + j.toNat * inf.size), [], []) else none
      | _ => none) = some r) {ux : Value} (hx : Rel S x ux) :
    r.2 = ([], []) ∧ ∃ u, (Instr.indexAt t ux (.int k j)).run P S.w = .ok u S.w ∧ Rel S r.1 u := by
  have run : ∀ (r o n c : Nat), 0 ≤ j → j < (n : Int) → (Instr.indexAt t (.slice (some ⟨r, o, none⟩) n c) (.int k j)).run P S.w = .ok (.pointer (some ⟨r, o + j.toNat * inf.size, none⟩)) S.w := by
    intro r o n c h0 h1
    simp [Instr.indexAt, asIntOf, run_underlying ht, h0, h1, sizeOf, typeInfo, hin, add_none]
  cases x <;> simp only [reduceCtorEq] at hev <;> simp only [Rel] at hx
  case imm n cs =>
    split at hev
    · next hc =>
      obtain ⟨h0, h1, hp, h2'⟩ := hc
      cases hev
      obtain ⟨ad, c, rfl, hle, hx⟩ := hx
      refine ⟨rfl, ?_⟩
      rcases hx with rfl | ⟨r, o, rfl, hro, hx⟩
      · have : 0 < n * inf.size := Nat.mul_pos (by omega) hp
        simp at h2'; omega
      · exact ⟨_, run r o n c h0 h1, by simp only [Rel]; exact ⟨r, o, rfl, .inr ⟨hro, hx⟩⟩⟩
    · cases hev
  case own b off n s =>
    split at hev
    · next hc =>
      obtain ⟨h0, h1, rfl⟩ := hc
      cases hev
      obtain ⟨bi, c, hbi, rfl, hle, hcap, hlen⟩ := hx
      exact ⟨rfl, _, run _ _ n c h0 h1, by simp only [Rel]; exact ⟨bi, hbi, by rw [Nat.add_assoc]⟩⟩
    · cases hev
theorem run_eqb {P : Program} {t : TypeId} (ht : P.underlying t = some .bool) (neg : Bool) (x y : Bool) (ox oy : Operand) (w : World) :
    ((do eqGuard (if neg then .neq else .eql) t ox oy (.bool x) (.bool y); binOp (if neg then .neq else .eql) t (.bool x) (.bool y) : Sem Value)).run P w = .ok (.bool (if neg then x != y else x == y)) w := by
  cases neg
  · simp only [Bool.false_eq_true, if_false, Sem.run_bind]
    rw [show (eqGuard BinOp.eql t ox oy (.bool x) (.bool y)).run P w = .ok () w by simp [eqGuard]]
    simp [run_eql_bool (w := w) t x y ht]
  · simp only [if_true, Sem.run_bind]
    rw [show (eqGuard BinOp.neq t ox oy (.bool x) (.bool y)).run P w = .ok () w by simp [eqGuard]]
    simp [run_neq_bool (w := w) t x y ht, bne]
theorem eqCells_append : ∀ {A B A' B' : List AV}, A.length = B.length → eqCells (A ++ A') (B ++ B') = (eqCells A B).bind fun r => (eqCells A' B').map fun q => r && q
  | [], [], A', B', _ => by simp [eqCells]
  | x :: A, y :: B, A', B', h => by
    have ih := eqCells_append (A := A) (B := B) (A' := A') (B' := B') (by simpa using h)
    cases x <;> cases y <;> simp only [List.cons_append, eqCells, Option.bind_none] <;> rw [ih]
    · split
      · cases eqCells A B <;> simp [Option.bind, Bool.and_assoc, Function.comp_def]
      · simp
    · cases eqCells A B <;> simp [Option.bind, Bool.and_assoc, Function.comp_def]
theorem kindsA_len : ∀ {ls : List Bool} {A : List AV}, kindsA ls A = true → A.length = ls.length
  | [], [], _ => rfl
  | [], _ :: _, h => by simp [kindsA] at h
  | b :: ls, [], h => by cases b <;> simp [kindsA] at h
  | b :: ls, x :: A, h => by
    cases b <;> cases x <;> simp only [kindsA, Bool.false_eq_true] at h <;> simp only [List.length_cons] <;> rw [kindsA_len h]
theorem kindsA_append {l1 l2 : List Bool} : ∀ {A : List AV}, kindsA (l1 ++ l2) A = true → kindsA l1 (A.take l1.length) = true ∧ kindsA l2 (A.drop l1.length) = true := by
  induction l1 with
  | nil => exact fun h => ⟨rfl, h⟩
  | cons b l1 ih =>
    intro A h
    cases A with
    | nil => cases b <;> simp [kindsA] at h
    | cons x A => cases b <;> cases x <;> simp only [List.cons_append, kindsA, Bool.false_eq_true] at h <;> exact ih h
theorem eq_fields {P : Program} {S : Sc} {D : Nat} {go : TypeId → Option (List Bool)} {W : World}
    (hgo : ∀ (t : TypeId) (ls : List Bool), go t = some ls → ∃ g, aggT P t = some g ∧ (g = false → ls.length = 1) ∧ ∀ (A B : List AV) (v w : AV) (u u' : Value) (r : Bool), kindsA ls A = true → kindsA ls B = true → one g A = some v → one g B = some w → Rel S v u → Rel S w u' → eqCells A B = some r → (Op.equalIn D t u u').run P W = .ok r W)
    {A B : List AV} {us us' : Array Value} (hA : RelL S A us.toList) (hB : RelL S B us'.toList) :
    ∀ (fs : List Field) (off : Nat) (ls : List Bool) (r : Bool), leavesF P go off fs = some ls → kindsA ls (A.drop off) = true → kindsA ls (B.drop off) = true → off ≤ A.length → off ≤ B.length → eqCells (A.drop off) (B.drop off) = some r → (Op.eqFields D us us' fs).run P W = .ok r W
  | [], off, ls, r, h, ka, kb, _, _, hr => by
    simp only [leavesF, Option.some.injEq] at h
    subst h
    have n1 := kindsA_len ka
    have n2 := kindsA_len kb
    rw [List.eq_nil_of_length_eq_zero n1, List.eq_nil_of_length_eq_zero n2] at hr
    simp only [eqCells, Option.some.injEq] at hr
    subst hr
    simp [Op.eqFields]
  | f :: fs, off, ls, r, h, ka, kb, oa, ob, hr => by
    rw [leavesF] at h
    split at h
    · next hc =>
      obtain ⟨h1, h2⟩ := hc
      split at h
      · next l i hl1 hi =>
        split at h
        · next hs =>
          simp only [Option.map_eq_some_iff] at h
          obtain ⟨l', hl', rfl⟩ := h
          obtain ⟨g, hg, hg1, hk⟩ := hgo f.type l hl1
          have la := kindsA_len ka
          have lb := kindsA_len kb
          rw [List.length_append, List.length_drop] at la lb
          obtain ⟨ka1, ka2⟩ := kindsA_append ka
          obtain ⟨kb1, kb2⟩ := kindsA_append kb
          rw [List.drop_drop] at ka2 kb2
          have e1 : A.drop off = (A.drop off).take l.length ++ A.drop (off + l.length) := by rw [← List.drop_drop, List.take_append_drop]
          have e2 : B.drop off = (B.drop off).take l.length ++ B.drop (off + l.length) := by rw [← List.drop_drop, List.take_append_drop]
          have n1 := kindsA_len ka1
          have n2 := kindsA_len kb1
          rw [e1, e2, eqCells_append (by rw [n1, n2])] at hr
          cases hq1 : eqCells ((A.drop off).take l.length) ((B.drop off).take l.length) with
          | none => rw [hq1] at hr; cases hr
          | some r1 =>
            rw [hq1, Option.bind_some] at hr
            simp only [Option.map_eq_some_iff] at hr
            obtain ⟨r2, hr2, rfl⟩ := hr
            have one_ex : ∀ C : List AV, C.length = l.length → ∃ v, one g C = some v := fun C hC => by
              cases g
              · have := hg1 rfl
                obtain ⟨x, rfl⟩ := List.length_eq_one_iff.1 (hC.trans this)
                exact ⟨_, rfl⟩
              · exact ⟨_, rfl⟩
            obtain ⟨v, hv⟩ := one_ex _ n1
            obtain ⟨w, hw⟩ := one_ex _ n2
            have gs : (g || i.size == 1) = true := by
              cases g
              · simp [hs, hg1 rfl]
              · rfl
            obtain ⟨u, hu1, hu2⟩ := run_part_rel hg hi gs hA (off := off) (by omega) (v := v) (by rw [hs]; exact hv) W
            obtain ⟨u', hu1', hu2'⟩ := run_part_rel hg hi gs hB (off := off) (by omega) (v := w) (by rw [hs]; exact hw) W
            have hE := hk _ _ v w u u' r1 ka1 kb1 hv hw hu2 hu2' hq1
            have ih := eq_fields hgo hA hB fs (off + l.length) l' r2 hl' ka2 kb2 (by omega) (by omega) hr2
            rw [Op.eqFields, if_pos h1]
            subst h2
            simp only [Sem.run_bind, hu1, hu1', Result.andThen_ok, hE]
            cases r1
            · simp
            · simp only [Bool.not_true, Bool.false_eq_true, if_false, Bool.true_and]
              exact ih
        · cases h
      · cases h
    · cases h
theorem leaves_eq {P : Program} {S : Sc} {W : World} : ∀ (d D : Nat) (t : TypeId) (ls : List Bool), d ≤ D → leavesC P d t = some ls → ∃ g, aggT P t = some g ∧ (g = false → ls.length = 1) ∧
    ∀ (A B : List AV) (v w : AV) (u u' : Value) (r : Bool), kindsA ls A = true → kindsA ls B = true → one g A = some v → one g B = some w → Rel S v u → Rel S w u' → eqCells A B = some r → (Op.equalIn D t u u').run P W = .ok r W
  | 0, _, _, _, _, h => by cases h
  | d + 1, D, t, ls, hD, h => by
    obtain ⟨D, rfl⟩ : ∃ D', D = D' + 1 := ⟨D - 1, by omega⟩
    rw [leavesC] at h
    split at h
    · next k hk =>
      cases h
      refine ⟨false, by simp [aggT, hk], fun _ => rfl, fun A B v w u u' r hA hB hv hw h1 h2 hr => ?_⟩
      obtain ⟨x, rfl⟩ := List.length_eq_one_iff.1 (kindsA_len hA)
      obtain ⟨y, rfl⟩ := List.length_eq_one_iff.1 (kindsA_len hB)
      cases hv; cases hw
      cases v <;> simp only [kindsA, Bool.false_eq_true] at hA
      cases w <;> simp only [kindsA, Bool.false_eq_true] at hB
      simp only [eqCells] at hr
      split at hr
      · next hkk =>
        subst hkk
        simp only [Option.map_some, Option.some.injEq, Bool.and_true] at hr
        simp only [Rel] at h1 h2
        subst h1 h2 hr
        exact run_equalIn_int W D t _ _ _ _ hk
      · cases hr
    · next hk =>
      cases h
      refine ⟨false, by simp [aggT, hk], fun _ => rfl, fun A B v w u u' r hA hB hv hw h1 h2 hr => ?_⟩
      obtain ⟨x, rfl⟩ := List.length_eq_one_iff.1 (kindsA_len hA)
      obtain ⟨y, rfl⟩ := List.length_eq_one_iff.1 (kindsA_len hB)
      cases hv; cases hw
      cases v <;> simp only [kindsA, Bool.false_eq_true] at hA
      cases w <;> simp only [kindsA, Bool.false_eq_true] at hB
      simp only [eqCells, Option.map_some, Option.some.injEq, Bool.and_true] at hr
      simp only [Rel] at h1 h2
      subst h1 h2 hr
      exact run_equalIn_bool' W D t _ _ hk
    · next fs hk =>
      split at h
      · cases h
      · next hp =>
        refine ⟨true, by simp [aggT, hk], fun q => absurd q (by decide), fun A B v w u u' r hA hB hv hw h1 h2 hr => ?_⟩
        cases hv; cases hw
        simp only [Rel] at h1 h2
        obtain ⟨us, rfl, h1⟩ := h1
        obtain ⟨us', rfl, h2⟩ := h2
        have hf : P.fieldsOf t = fs := by simp [Program.fieldsOf, hk]
        rw [run_equalIn_struct W D t us us' (by rw [hf]; exact hk) (by simpa using hp), hf]
        exact eq_fields (fun t ls h => leaves_eq d D t ls (by omega) h) h1 h2 fs.toList 0 ls r h (by simpa using hA) (by simpa using hB) (Nat.zero_le _) (Nat.zero_le _) (by simpa using hr)
    · cases h
theorem run_eqs {P : Program} {S : Sc} {t : TypeId} {fs : Array Field} {ls : List Bool} (ht : P.underlying t = some (.struct fs)) (hl : leavesC P 8 t = some ls) (hg : P.eqGuardType P.depth t = false) (neg : Bool) {A B : List AV} {u u' : Value} {r : Bool}
    (ka : kindsA ls A = true) (kb : kindsA ls B = true) (h1 : Rel S (.agg A) u) (h2 : Rel S (.agg B) u') (hr : eqCells A B = some r) (ox oy : Operand) (w : World) :
    ((do eqGuard (if neg then .neq else .eql) t ox oy u u'; binOp (if neg then .neq else .eql) t u u' : Sem Value)).run P w = .ok (.bool (if neg then !r else r)) w := by
  obtain ⟨g, hg1, _, hk⟩ := leaves_eq (P := P) (S := S) (W := w) 8 10000 t ls (by decide) hl
  have : g = true := by simp [aggT, ht] at hg1; exact hg1
  subst this
  have hE := hk A B (.agg A) (.agg B) u u' r ka kb rfl rfl h1 h2 hr
  simp only [Rel] at h1 h2
  obtain ⟨us, rfl, h1⟩ := h1
  obtain ⟨us', rfl, h2⟩ := h2
  cases neg
  · simp only [Bool.false_eq_true, if_false, Sem.run_bind, run_eqGuard_agg (P := P) w _ t ox oy us us' hg, Result.andThen_ok, run_eql_struct, hE]
  · simp only [if_true, Sem.run_bind, run_eqGuard_agg (P := P) w _ t ox oy us us' hg, Result.andThen_ok, run_neq_struct, hE]
theorem nonagg_cells {S : Sc} {v : AV} {u : Value} (h : Rel S v u) (hv : (cellsA v).all okCell = true) : u.cells.size = (cellsA v).length := by
  have := relL_length (rel_cells h hv).1
  simpa using this
theorem range0 (f : Nat → Value) : Array.map f (Array.range 0) = #[] := by apply Array.ext <;> simp
theorem run_buildSlice_any {P : Program} {t el : TypeId} {i : TypeInfo} {zv : Value} {n : Nat} (ht : P.underlying t = some (.slice el)) (hi : P.info? el = some i) (hz : i.zero = some zv) (hs : zv.cells.size = i.size)
    (hn : n * i.size ≤ 16777216) (parts : Array (Nat × Value)) (c' : Array Value) (hf : Instr.fill (fun j => some (j * i.size, i.size)) ((Array.range (n * zv.cells.size)).map (zv.cells[· % zv.cells.size]!)) parts.toList = some c') (w : World) :
    (Instr.buildSlice t n parts).run P w = .ok (.slice (some ⟨w.heap.size, 0, none⟩) n n) (w.alloc (.cells c' el)) := by
  have hle : ¬ (16777216 < n * i.size) := by omega
  rw [hs] at hf
  by_cases h0 : n * i.size = 0
  · rw [h0, range0] at hf
    simp [Instr.buildSlice, run_underlying ht, sizeOf, typeInfo, hi, hle, h0, newRow, range0, hf]
  · simp [Instr.buildSlice, run_underlying ht, sizeOf, typeInfo, hi, hle, h0, newRow, run_zeroValue hi hz, hs, hf]
theorem ptr_of {S : Sc} {b off : Nat} {u : Value} (h : Rel S (.ptr b off) u) : ∃ i : BI, S.ι b = some i ∧ u = .pointer (some ⟨i.r, i.base + off, none⟩) := by simpa only [Rel] using h
theorem call_does {L : Nat → Option FuncId} (hL : Link C L) {f : Operand} {args : Array Operand} {argTypes : Array TypeId} {dst : Option Tmp} {type : TypeId} {pos : String} {after : Array Edge} {guard : Option (Nat × Bool)}
    {g : FuncId} {caps : Array Value} (hfu : a.eval f = .func (.func g) #[] caps) {n : Nat} (hn : L n = some g) {R : Value → World → Prop}
    (hc : Calls C.P g ((args.map a.eval).toList ++ caps.toList).toArray S.w fun e w' => ∃ u, e = .returned u ∧ R u w') :
    Does C.P S a ⟨dst, .call ⟨.value f, args, argTypes⟩, type, pos, after, guard⟩ R := by
  obtain ⟨fn, hfn, hname, hbody⟩ := hL.fn n g hn
  refine .inr (.inr ⟨g, _, ?_, hc⟩)
  have hb : fn.body.isNone = false := by
    cases hb : fn.body with
    | none => rw [hb] at hbody; cases hbody
    | some c => rfl
  have hbn : fn.body ≠ none := fun q => by rw [q] at hb; cases hb
  have harr : (args.map a.eval).toList ++ caps.toList = (args.map a.eval ++ caps).toList := by simp
  rw [harr, Array.toArray_toList]
  simp [execOp, resolve, hfu, Deferred.ofValue, invoke, callFunc, hfn, hbn, hname]
theorem q_ok (hL : Link C S.L) (hE : EnvR S C.N e a) (H : HR A n0 S hp fz) (hle : ∀ b k, h b = some k → hp b = some k) (hG : Gok G S) (hF : CallsOK C.P S.L G F) {o : Oper} {io : IOp} (hop : compOp C o.op = some io)
    (hev : evQ G F e h p io = some (v, δ, fr)) (hδ : ∀ x ∈ δ, hp p = some x) (hnew : δ ≠ [] → S.ι p = none) (hfr : ∀ b ∈ fr, fz b) :
    Does C.P S a o (ResQ A n0 S p δ v hp fz) := by
  obtain ⟨dst, op, type, pos, after, guard⟩ := o
  cases op <;> simp only [compOp, reduceCtorEq, Option.map_eq_some_iff] at hop
  case move x =>
    obtain ⟨y, hy, rfl⟩ := hop
    simp only [evQ, Option.some.injEq, Prod.mk.injEq] at hev
    obtain ⟨rfl, rfl, rfl⟩ := hev
    exact .value H rfl (opd_rel hL hE hy)
  case assign x =>
    obtain ⟨y, hy, rfl⟩ := hop
    simp only [evQ, Option.some.injEq, Prod.mk.injEq] at hev
    obtain ⟨rfl, rfl, rfl⟩ := hev
    exact .value H rfl (opd_rel hL hE hy)
  case pick c x y =>
    split at hop
    · next c' x' y' hc hx hy =>
      cases hop
      simp only [evQ] at hev
      split at hev
      · next t ht =>
        simp only [Option.some.injEq, Prod.mk.injEq] at hev
        obtain ⟨rfl, rfl, rfl⟩ := hev
        have rc := opd_rel hL hE hc
        rw [ht] at rc
        simp only [Rel] at rc
        refine .value H (u := if t then a.eval x else a.eval y) (by simp [execOp, rc, asBool]) ?_
        cases t
        · exact opd_rel hL hE hy
        · exact opd_rel hL hE hx
      · cases hev
    · cases hop
  case binOp op xt x y yt =>
    split at hop
    · next x' y' hx hy =>
      have rx := opd_rel hL hE hx
      have ry := opd_rel hL hE hy
      split at hop
      · next k hk =>
        cases hop
        simp only [evQ, Option.map_eq_some_iff] at hev
        obtain ⟨r, hr, he⟩ := hev
        simp only [Prod.mk.injEq] at he
        obtain ⟨rfl, rfl, rfl⟩ := he
        obtain ⟨u, hu, hv⟩ := evBin_run (P := C.P) hr S rx ry xt x y S.w
        refine .value H (u := u) ?_ hv
        show Sem.run C.P (do let q ← (do eqGuard op xt x y (a.eval x) (a.eval y); binOp op xt (a.eval x) (a.eval y) : Sem Value); pure (Next.value q)) S.w = _
        rw [Sem.run_bind, hu]; rfl
      · next hb =>
        have go : ∀ neg : Bool, op = (if neg then .neq else .eql) → evQ G F e h p (.eqb neg x' y') = some (v, δ, fr) → Does C.P S a ⟨dst, .binOp op xt x y yt, type, pos, after, guard⟩ (ResQ A n0 S p δ v hp fz) := by
          intro neg hop hev
          simp only [evQ] at hev
          split at hev
          · next p q hp hq =>
            simp only [Option.some.injEq, Prod.mk.injEq] at hev
            obtain ⟨rfl, rfl, rfl⟩ := hev
            rw [hp] at rx; rw [hq] at ry
            simp only [Rel] at rx ry
            refine .value H (u := .bool (if neg then p != q else p == q)) ?_ (by simp [Rel])
            show Sem.run C.P (do let q ← (do eqGuard op xt x y (a.eval x) (a.eval y); binOp op xt (a.eval x) (a.eval y) : Sem Value); pure (Next.value q)) S.w = _
            rw [Sem.run_bind, rx, ry, hop, run_eqb hb]; rfl
          · cases hev
        split at hop
        · cases hop; exact go false rfl hev
        · cases hop; exact go true rfl hev
        · cases hop
      · next fs hst =>
        split at hop
        · next ls hls =>
          split at hop
          · cases hop
          · next hgd =>
            have hgd : C.P.eqGuardType C.P.depth xt = false := by simpa using hgd
            have go : ∀ neg : Bool, op = (if neg then .neq else .eql) → evQ G F e h p (.eqs neg ls x' y') = some (v, δ, fr) → Does C.P S a ⟨dst, .binOp op xt x y yt, type, pos, after, guard⟩ (ResQ A n0 S p δ v hp fz) := by
              intro neg hop hev
              simp only [evQ] at hev
              split at hev
              · next p q hp hq =>
                split at hev
                · next hkk =>
                  rw [Bool.and_eq_true] at hkk
                  simp only [Option.map_eq_some_iff] at hev
                  obtain ⟨r, hr, he⟩ := hev
                  simp only [Prod.mk.injEq] at he
                  obtain ⟨rfl, rfl, rfl⟩ := he
                  rw [hp] at rx; rw [hq] at ry
                  refine .value H (u := .bool (if neg then !r else r)) ?_ (by simp [Rel])
                  show Sem.run C.P (do let q ← (do eqGuard op xt x y (a.eval x) (a.eval y); binOp op xt (a.eval x) (a.eval y) : Sem Value); pure (Next.value q)) S.w = _
                  rw [Sem.run_bind, hop, run_eqs hst hls hgd neg hkk.1 hkk.2 rx ry hr]; rfl
                · cases hev
              · cases hev
            split at hop
            · cases hop; exact go false rfl hev
            · cases hop; exact go true rfl hev
            · cases hop
        · cases hop
      · cases hop
    · cases hop
  case unOp op t x =>
    obtain ⟨y, hy, rfl⟩ := hop
    simp only [evQ, Option.map_eq_some_iff] at hev
    obtain ⟨r, hr, he⟩ := hev
    simp only [Prod.mk.injEq] at he
    obtain ⟨rfl, rfl, rfl⟩ := he
    obtain ⟨u, hu, hv⟩ := evUn_run (P := C.P) hr S (opd_rel hL hE hy) S.w
    exact .value H (u := u) (by simp [execOp, hu]) hv
  case convert s d x =>
    split at hop
    · next ks k y hs hd hy =>
      cases hop
      simp only [evQ] at hev
      split at hev
      · next k' n hn =>
        simp only [Option.some.injEq, Prod.mk.injEq] at hev
        obtain ⟨rfl, rfl, rfl⟩ := hev
        have rx := opd_rel hL hE hy
        rw [hn] at rx
        simp only [Rel] at rx
        refine .value H (u := .int k (k.wrap n)) ?_ (by simp [Rel])
        simp [execOp, rx, convert, run_underlying hs, run_underlying hd, Conv.intToInt]
      · cases hev
    · cases hop
  case extract x i =>
    obtain ⟨y, hy, rfl⟩ := hop
    simp only [evQ] at hev
    split at hev
    · next vs hvs =>
      simp only [Option.map_eq_some_iff] at hev
      obtain ⟨r, hr, he⟩ := hev
      simp only [Prod.mk.injEq] at he
      obtain ⟨rfl, rfl, rfl⟩ := he
      have rx := opd_rel hL hE hy
      rw [hvs] at rx
      simp only [Rel] at rx
      obtain ⟨us, hu, hrl⟩ := rx
      obtain ⟨u, hu1, hu2⟩ := relL_get hrl i r hr
      refine .value H (u := u) ?_ hu2
      have hu1' : us[i]? = some u := by simpa using hu1
      simp [execOp, hu, Instr.extract, hu1']
    · cases hev
  case load t x =>
    split at hop
    · next g inf y hg hi hy =>
      split at hop
      · next h1 =>
        cases hop
        simp only [evQ] at hev
        split at hev
        · next cs hcs =>
          simp only [Option.map_eq_some_iff] at hev
          obtain ⟨r, hr, he⟩ := hev
          simp only [Prod.mk.injEq] at he
          obtain ⟨rfl, rfl, rfl⟩ := he
          obtain ⟨rb, ro, hu, hat, hl⟩ := rdAt_rel H hle hG hcs (opd_rel hL hE hy)
          obtain ⟨u, hrun, hv⟩ := run_load_rel hg hi h1 hat hl hr
          refine .value H (u := u) ?_ hv
          simp [execOp, Instr.loadAt, hu, Instr.sureAddr, hrun]
        · cases hev
      · cases hop
    · cases hop
  case store t x y =>
    split at hop
    · cases hop; simp [evQ] at hev
    · cases hop
  case alloc t =>
    obtain ⟨z, hz, rfl⟩ := hop
    simp only [evQ, Option.some.injEq, Prod.mk.injEq] at hev
    obtain ⟨rfl, rfl, rfl⟩ := hev
    obtain ⟨i, zv, hi, hzv, hsz, hm⟩ := zeroC_rel hz
    obtain ⟨k1, k2⟩ := relL_mapO (S := S) hm
    obtain ⟨w', hrun, hres⟩ := newVar_res (P := C.P) H (hnew (by simp)) (hδ _ (by simp)) k1 (relL_one k1 k2) t
    refine .inl ⟨_, w', ?_, hres⟩
    simp [execOp, Instr.alloc, run_zeroValue hi hzv, hrun]
  case box t x =>
    split at hop
    · next i y hi hy =>
      cases hop
      simp only [evQ] at hev
      split at hev
      · next hc =>
        obtain ⟨hc1, hc2⟩ := hc
        simp only [Option.some.injEq, Prod.mk.injEq] at hev
        obtain ⟨rfl, rfl, rfl⟩ := hev
        obtain ⟨k1, k2⟩ := rel_cells (opd_rel hL hE hy) hc2
        obtain ⟨w', hrun, hres⟩ := newVar_res (P := C.P) H (hnew (by simp)) (hδ _ (by simp)) k1 k2 t
        refine .inl ⟨_, w', ?_, hres⟩
        simp [execOp, Instr.box, hrun]
      · cases hev
    · cases hop
  case build t ps =>
    have go : ∀ {place : Nat → Option (Nat × Nat)} {z : List AV} {l : List (Nat × Nat × IOpd)} {zv : Value}, compParts C place ps = some l → RelL S z zv.cells.toList → evQ G F e h p (.build z l) = some (v, δ, fr) →
        (∀ c', Instr.fill place zv.cells (ps.map fun (i, x) => (i, a.eval x)).toList = some c' → (Instr.build t (ps.map fun (i, x) => (i, a.eval x))).run C.P S.w = .ok (.agg c') S.w) → Does C.P S a ⟨dst, .build t ps, type, pos, after, guard⟩ (ResQ A n0 S p δ v hp fz) := by
      intro place z l zv hl hz hev hrun
      simp only [evQ, Option.map_eq_some_iff] at hev
      obtain ⟨cs, hcs, he⟩ := hev
      simp only [Prod.mk.injEq] at he
      obtain ⟨rfl, rfl, rfl⟩ := he
      obtain ⟨p1, p2⟩ := parts_rel hL hE hl
      obtain ⟨c', hf, hr⟩ := fill_rel p1 p2 hz hcs
      refine .value H (u := .agg c') ?_ (by simp only [Rel]; exact ⟨c', rfl, hr⟩)
      simp [execOp, hrun c' hf]
    split at hop
    · next fields z ht hz =>
      obtain ⟨i, zv, hi, hzv, hsz, hm⟩ := zeroC_rel hz
      split at hop
      · next pl hpl =>
        simp only [Option.map_eq_some_iff] at hop
        obtain ⟨l, hl, rfl⟩ := hop
        refine go hl (relL_mapO hm).1 hev fun c' hf => ?_
        have hpm : (fields.mapM fun f => do pure (f.offset, ← sizeOf f.type) : Sem (Array (Nat × Nat))).run C.P S.w = .ok pl.toArray S.w := by
          have : ∀ (fs : List Field) (pl : List (Nat × Nat)), mapO (fun f : Field => (C.P.info? f.type).map fun i => (f.offset, i.size)) fs = some pl → (fs.mapM fun f => do pure (f.offset, ← sizeOf f.type) : Sem (List (Nat × Nat))).run C.P S.w = .ok pl S.w := by
            intro fs
            induction fs with
            | nil => intro pl h; simp [mapO] at h; subst h; simp
            | cons f fs ih =>
              intro pl h
              simp only [mapO] at h
              split at h
              · next y ys h1 h2 =>
                cases h
                simp only [Option.map_eq_some_iff] at h1
                obtain ⟨i, hi, rfl⟩ := h1
                have hsz : (sizeOf f.type).run C.P S.w = .ok i.size S.w := by simp [sizeOf, typeInfo, hi]
                simp only [List.mapM_cons, Sem.run_bind, hsz, Result.andThen_ok, Sem.run_pure, ih ys h2]
              · cases h
          rw [Array.mapM_eq_mapM_toList]
          simp only [Sem.run_map, this _ _ hpl, Result.andThen_ok]
        simp only [Instr.build, Sem.run_bind, run_zeroValue hi hzv, Result.andThen_ok, run_underlying ht, hpm]
        have : Instr.fill (pl.toArray[·]?) zv.cells (ps.map fun (i, x) => (i, a.eval x)).toList = some c' := by simpa using hf
        simp only [this]
        rfl
      · cases hop
    · next n el z ht hz =>
      obtain ⟨i, zv, hi, hzv, hsz, hm⟩ := zeroC_rel hz
      split at hop
      · next inf hinf =>
        simp only [Option.map_eq_some_iff] at hop
        obtain ⟨l, hl, rfl⟩ := hop
        refine go hl (relL_mapO hm).1 hev fun c' hf => ?_
        simp only [Instr.build, Sem.run_bind, run_zeroValue hi hzv, Result.andThen_ok, run_underlying ht, sizeOf, typeInfo, run_program, hinf, Sem.run_pure, hf]
      · cases hop
    · cases hop
  case buildSlice t n ps =>
    split at hop
    · next el ht =>
      split at hop
      · next i z hi hz =>
        split at hop
        · next hn =>
          simp only [Option.map_eq_some_iff] at hop
          obtain ⟨l, hl, rfl⟩ := hop
          obtain ⟨i', zv, hi', hzv, hsz, hm⟩ := zeroC_rel hz
          rw [hi] at hi'; cases hi'
          simp only [evQ] at hev
          split at hev
          · next cs hcs =>
            split at hev
            · next hok =>
              simp only [Option.some.injEq, Prod.mk.injEq] at hev
              obtain ⟨rfl, rfl, rfl⟩ := hev
              obtain ⟨p1, p2⟩ := parts_rel hL hE hl
              have hrep := repA_rel (relL_mapO (S := S) hm).1 n
              rw [hsz] at hrep
              obtain ⟨c', hf, hr⟩ := fill_rel p1 p2 hrep hcs
              have h1 := relL_one hr hok
              have ok := Ok.alloc H (hnew (by simp)) (hδ _ (by simp)) (c := c') el hr h1 (fun j v hj => by simpa using hj) (by simp)
              have hcl := relL_length hr
              have hfa : ∀ (cs0 : List AV) (q : List (Nat × Nat × AV)) (cs1 : List AV), fillA cs0 q = some cs1 → cs1.length = cs0.length := by
                intro cs0 q
                induction q generalizing cs0 with
                | nil => intro cs1 h; simp [fillA] at h; subst h; rfl
                | cons p q ih =>
                  obtain ⟨o, m, x⟩ := p
                  intro cs1 h
                  simp only [fillA] at h
                  split at h
                  · rw [ih _ _ h, setAt_length]
                  · cases h
              have hlen : cs.length = n * i.size := by
                rw [hfa _ _ _ hcs, repA_length]
                have := relL_length (relL_mapO (S := S) hm).1
                simp only [Array.length_toList] at this
                rw [← this, hsz]
              have hc's : c'.size = n * i.size := by rw [← Array.length_toList, hcl, hlen]
              refine .inl ⟨.slice (some ⟨S.w.heap.size, 0, none⟩) n n, S.w.alloc (.cells c' el), ?_, _, rfl, ok, ?_, fun b hb => by simp at hb; simp [Sc.new, hb]⟩
              · have hb := run_buildSlice_any (P := C.P) ht hi hzv hsz hn (ps.map fun (i, x) => (i, a.eval x)) c' (by rw [hsz]; exact hf) S.w
                simp only [execOp, Sem.run_bind, hb, Result.andThen_ok]
                rfl
              · simp only [Rel]
                refine ⟨⟨S.w.heap.size, 0, cs.length, c'.size⟩, n, by simp [Sc.new], rfl, Nat.le_refl _, ?_, ?_⟩
                · show 0 + 0 + n * i.size ≤ c'.size
                  omega
                · show cs.length ≤ 0 + n * i.size
                  omega
            · cases hev
          · cases hev
        · cases hop
      · cases hop
    · cases hop
  case fieldAddr s x f =>
    split at hop
    · next fields y ht hy =>
      split at hop
      · next fd hfd =>
        split at hop
        · next inf hinf =>
          split at hop
          · cases hop
          · next h0 =>
            cases hop
            have rx := opd_rel hL hE hy
            have run : ∀ (r o : Nat), a.eval x = .pointer (some ⟨r, o, none⟩) → (execOp a.eval ⟨dst, .fieldAddr s x f, type, pos, after, guard⟩).run C.P S.w = .ok (.value (.pointer (some ⟨r, o + fd.offset, none⟩))) S.w := by
              intro r o hx
              simp [execOp, hx, Instr.fieldAt, run_underlying ht, hfd, Instr.sureAddr, fieldPlace, sizeOf, typeInfo, hinf, h0, add_none]
            simp only [evQ] at hev
            split at hev
            · next b o ho =>
              simp only [Option.some.injEq, Prod.mk.injEq] at hev
              obtain ⟨rfl, rfl, rfl⟩ := hev
              rw [ho] at rx
              obtain ⟨i, hi, hu⟩ := ptr_of rx
              exact .value H (run _ _ hu) (by simp only [Rel]; exact ⟨i, hi, by rw [Nat.add_assoc]⟩)
            · next cs o ho =>
              simp only [Option.some.injEq, Prod.mk.injEq] at hev
              obtain ⟨rfl, rfl, rfl⟩ := hev
              rw [ho] at rx
              simp only [Rel] at rx
              obtain ⟨r, o', hu, hx⟩ := rx
              exact .value H (run _ _ hu) (by simp only [Rel]; exact ⟨r, o', by rw [Nat.add_assoc], hx⟩)
            · cases hev
        · cases hop
      · cases hop
    · cases hop
  case field s x f =>
    split at hop
    · next fields y ht hy =>
      split at hop
      · next fd hfd =>
        split at hop
        · next inf g hinf hg =>
          split at hop
          · next h1 =>
            cases hop
            simp only [evQ] at hev
            split at hev
            · next cs hcs =>
              split at hev
              · next hle =>
                simp only [Option.map_eq_some_iff] at hev
                obtain ⟨r, hr, he⟩ := hev
                simp only [Prod.mk.injEq] at he
                obtain ⟨rfl, rfl, rfl⟩ := he
                have rx := opd_rel hL hE hy
                rw [hcs] at rx
                simp only [Rel] at rx
                obtain ⟨us, hu, hrl⟩ := rx
                obtain ⟨u, hrun, hv⟩ := run_part_rel hg hinf h1 hrl hle hr S.w
                refine .value H (u := u) ?_ hv
                simp [execOp, hu, Instr.field, run_underlying ht, hfd, asAgg, hrun]
              · cases hev
            · cases hev
          · cases hop
        · cases hop
      · cases hop
    · cases hop
  case indexAddr t x ix =>
    split at hop
    · next el y iy ht hy hiy =>
      simp only [Option.map_eq_some_iff] at hop
      obtain ⟨inf, hinf, rfl⟩ := hop
      simp only [evQ] at hev
      split at hev
      · next k j hj =>
        have ri := opd_rel hL hE hiy
        rw [hj] at ri
        simp only [Rel] at ri
        obtain ⟨_, u, hrun, hv⟩ := iaddr_ok (P := C.P) (k := k) ht hinf hev (opd_rel hL hE hy)
        exact .value H (u := u) (by simp [execOp, ri, hrun]) hv
      · cases hev
    · next n el y iy ht hy hiy =>
      simp only [Option.map_eq_some_iff] at hop
      obtain ⟨inf, hinf, rfl⟩ := hop
      simp only [evQ] at hev
      split at hev
      · next k j hj =>
        have ri := opd_rel hL hE hiy
        rw [hj] at ri
        simp only [Rel] at ri
        split at hev
        · next hb =>
          obtain ⟨hb0, hb1⟩ := hb
          have rx := opd_rel hL hE hy
          have run : ∀ (r o : Nat), a.eval x = .pointer (some ⟨r, o, none⟩) → (execOp a.eval ⟨dst, .indexAddr t x ix, type, pos, after, guard⟩).run C.P S.w = .ok (.value (.pointer (some ⟨r, o + j.toNat * inf.size, none⟩))) S.w := by
            intro r o hx
            simp [execOp, hx, ri, Instr.indexAt, asIntOf, run_underlying ht, Instr.sureAddr, hb0, hb1, sizeOf, typeInfo, hinf, add_none]
          split at hev
          · next b o ho =>
            simp only [Option.some.injEq, Prod.mk.injEq] at hev
            obtain ⟨rfl, rfl, rfl⟩ := hev
            rw [ho] at rx
            obtain ⟨i, hi, hu⟩ := ptr_of rx
            exact .value H (run _ _ hu) (by simp only [Rel]; exact ⟨i, hi, by rw [Nat.add_assoc]⟩)
          · next cs o ho =>
            simp only [Option.some.injEq, Prod.mk.injEq] at hev
            obtain ⟨rfl, rfl, rfl⟩ := hev
            rw [ho] at rx
            simp only [Rel] at rx
            obtain ⟨r, o', hu, hx⟩ := rx
            exact .value H (run _ _ hu) (by simp only [Rel]; exact ⟨r, o', by rw [Nat.add_assoc], hx⟩)
          · next g o ho =>
            simp only [Option.some.injEq, Prod.mk.injEq] at hev
            obtain ⟨rfl, rfl, rfl⟩ := hev
            rw [ho] at rx
            simp only [Rel] at rx
            exact .value H (run _ _ rx) (by simp only [Rel])
          · cases hev
        · cases hev
      · cases hev
    · cases hop
  case index t x ix =>
    have gen : ∀ (hop : (match C.P.underlying t, compOpd C x, compOpd C ix with
        | some (.array n e), some x, some i => match C.P.info? e, aggT C.P e with
          | some inf, some g => if g || inf.size == 1 then some (IOp.index g n inf.size x i) else none
          | _, _ => none
        | _, _, _ => none) = some io), Does C.P S a ⟨dst, .index t x ix, type, pos, after, guard⟩ (ResQ A n0 S p δ v hp fz) := by
      intro hop
      split at hop
      · next n el y iy ht hy hiy =>
        split at hop
        · next inf g hinf hg =>
          split at hop
          · next h1 =>
            cases hop
            simp only [evQ] at hev
            split at hev
            · next k j hj =>
              have ri := opd_rel hL hE hiy
              rw [hj] at ri
              simp only [Rel] at ri
              split at hev
              · next cs hcs =>
                split at hev
                · next hb =>
                  obtain ⟨hb0, hb1, hle⟩ := hb
                  simp only [Option.map_eq_some_iff] at hev
                  obtain ⟨r, hr, he⟩ := hev
                  simp only [Prod.mk.injEq] at he
                  obtain ⟨rfl, rfl, rfl⟩ := he
                  have rx := opd_rel hL hE hy
                  rw [hcs] at rx
                  simp only [Rel] at rx
                  obtain ⟨us, hu, hrl⟩ := rx
                  obtain ⟨u, hrun, hv⟩ := run_part_rel hg hinf h1 hrl hle hr S.w
                  refine .value H (u := u) ?_ hv
                  simp [execOp, hu, ri, Instr.index, asIntOf, run_underlying ht, hb0, hb1, sizeOf, typeInfo, hinf, hrun]
                · cases hev
              · cases hev
            · cases hev
          · cases hop
        · cases hop
      · cases hop
    cases x with
    | const cv =>
      cases cv <;> first | exact gen hop | skip
      case string s =>
        simp only at hop
        split at hop
        · next iy ht hiy =>
          cases hop
          simp only [evQ] at hev
          split at hev
          · next k j hj =>
            have ri := opd_rel hL hE hiy
            rw [hj] at ri
            simp only [Rel] at ri
            split at hev
            · next h0 =>
              simp only [Option.map_eq_some_iff] at hev
              obtain ⟨r, hr, he⟩ := hev
              simp only [Prod.mk.injEq] at he
              obtain ⟨rfl, rfl, rfl⟩ := he
              rw [List.getElem?_map, Option.map_eq_some_iff] at hr
              obtain ⟨b, hb, rfl⟩ := hr
              refine .value H (u := .int .u8 b.toNat) ?_ (by simp [Rel])
              have hb' : s[j.toNat]? = some b := by
                have hlt := (List.getElem?_eq_some_iff.1 hb).1
                have hv := (List.getElem?_eq_some_iff.1 hb).2
                have hlt' : j.toNat < s.size := by rw [Array.length_toList] at hlt; exact hlt
                rw [getElem?_pos s j.toNat hlt']
                rw [Array.getElem_toList] at hv
                exact congrArg some hv
              have hcs : a.eval (.const (.string s)) = .string s := rfl
              simp [execOp, ri, hcs, Instr.index, asIntOf, run_underlying ht, h0, hb']
            · cases hev
          · cases hev
        · cases hop
    | tmp t' => exact gen hop
    | global g => exact gen hop
    | func f => exact gen hop
  case slice t x lo hi mx =>
    cases mx with
    | some m => simp at hop
    | none =>
      simp only at hop
      split at hop
      · next el y ht hy =>
        split at hop
        · next inf hinf =>
          have go : ∀ {lo' hi' : Option IOpd}, OptRel S (lo'.map (opd e)) (lo.map a.eval) → OptRel S (hi'.map (opd e)) (hi.map a.eval) → evQ G F e h p (.slice inf.size y lo' hi') = some (v, δ, fr) →
              Does C.P S a ⟨dst, .slice t x lo hi none, type, pos, after, guard⟩ (ResQ A n0 S p δ v hp fz) := by
            intro lo' hi' h1 h2 hev
            simp only [evQ, Option.map_eq_some_iff] at hev
            obtain ⟨r, hr, he⟩ := hev
            simp only [Prod.mk.injEq] at he
            obtain ⟨rfl, rfl, rfl⟩ := he
            obtain ⟨u, hrun, hv⟩ := slice_ok (P := C.P) H hle hr (opd_rel hL hE hy) h1 h2 ht hinf rfl
            exact .value H (u := u) (by simp [execOp, hrun]) hv
          cases lo with
          | none =>
            cases hi with
            | none => cases hop; exact go (lo' := none) (hi' := none) (by simp [OptRel]) (by simp [OptRel]) hev
            | some hh =>
              simp only [Option.map_eq_some_iff] at hop
              obtain ⟨q, hq, rfl⟩ := hop
              exact go (lo' := none) (hi' := some q) (by simp [OptRel]) (opd_rel hL hE hq) hev
          | some ll =>
            cases hi with
            | none =>
              simp only [Option.map_eq_some_iff] at hop
              obtain ⟨q, hq, rfl⟩ := hop
              exact go (lo' := some q) (hi' := none) (opd_rel hL hE hq) (by simp [OptRel]) hev
            | some hh =>
              simp only at hop
              split at hop
              · next q1 q2 hq1 hq2 => cases hop; exact go (lo' := some q1) (hi' := some q2) (opd_rel hL hE hq1) (opd_rel hL hE hq2) hev
              · cases hop
        · cases hop
      · cases hop
  case makeSlice t l c =>
    split at hop
    · next el l' c' ht hl hc =>
      split at hop
      · next i z hi hz =>
        cases hop
        obtain ⟨i', zv, hi', hzv, hsz, hm⟩ := zeroC_rel hz
        rw [hi] at hi'; cases hi'
        simp only [evQ] at hev
        split at hev
        · next n m hn hm' =>
          split at hev
          · next hb =>
            obtain ⟨hb0, hb1, hb2⟩ := hb
            simp only [Option.some.injEq, Prod.mk.injEq] at hev
            obtain ⟨rfl, rfl, rfl⟩ := hev
            have rl := opd_rel hL hE hl
            have rc := opd_rel hL hE hc
            rw [hn] at rl; rw [hm'] at rc
            simp only [Rel] at rl rc
            have hb2' : m * (i.bytes : Int) + m ≤ 70368744177664 := by
              have : m * ((i.bytes : Int) + 1) ≤ 70368744177664 := by simpa [boundBytes] using hb2
              rwa [Int.mul_add, Int.mul_one] at this
            have hmb : 0 ≤ m * (i.bytes : Int) := Int.mul_nonneg (by omega) (by omega)
            have hrun := run_make (P := C.P) S.w t el i zv ht hi hzv .i64 .i64 n m hb0 hb1 (by rw [Int.mul_comm]; omega) (by omega)
            have hrel := repA_rel (relL_mapO (S := S) hm).1 m.toNat
            have hmc : madeCells zv.cells (m.toNat * i.size) = (Array.range (m.toNat * zv.cells.size)).map (zv.cells[· % zv.cells.size]!) := by rw [← hsz]; rfl
            have hok := repA_ok (relL_mapO (S := S) hm).2 m.toNat
            have ok := Ok.alloc H (hnew (by simp)) (hδ _ (by simp)) (c := madeCells zv.cells (m.toNat * i.size)) el hrel (relL_one hrel hok) (fun j u hj => by rw [hmc, ← Array.getElem?_toList]; exact hj) (by rw [hmc]; simp)
            have hlen : (repA m.toNat z).length = m.toNat * i.size := by
              rw [repA_length]
              have := relL_length (relL_mapO (S := S) hm).1
              simp only [Array.length_toList] at this
              rw [← this, hsz]
            refine .inl ⟨_, _, by simp [execOp, rl, rc, hrun]; exact ⟨rfl, rfl⟩, _, rfl, ok, ?_, fun b hb => by simp at hb; simp [Sc.new, hb]⟩
            simp only [Rel]
            refine ⟨⟨S.w.heap.size, 0, (repA m.toNat z).length, (madeCells zv.cells (m.toNat * i.size)).size⟩, m.toNat, by simp [Sc.new], rfl, by omega, ?_, ?_⟩
            · show 0 + 0 + m.toNat * i.size ≤ (madeCells zv.cells (m.toNat * i.size)).size
              rw [size_madeCells]; omega
            · show (repA m.toNat z).length ≤ 0 + m.toNat * i.size
              omega
          · cases hev
        · cases hev
      · cases hop
    · cases hop
  case makeFunc fn first cap =>
    cases fn <;> simp only [reduceCtorEq] at hop
    case func f =>
      split at hop
      · next hfz =>
        split at hop
        · next f' cap' hf hcap =>
          cases hop
          simp only [evQ, Option.some.injEq, Prod.mk.injEq] at hev
          obtain ⟨rfl, rfl, rfl⟩ := hev
          have hfe : first = #[] := Array.eq_empty_of_size_eq_zero hfz
          subst hfe
          refine .value H (u := .func (.func f) #[] (cap.map a.eval)) (by simp [execOp, Instr.makeFunc]) ?_
          simp only [Rel]
          exact ⟨f, _, hL.to f f' hf, rfl, relL_mapA hL hE hcap⟩
        · cases hop
      · cases hop
  case call c =>
    obtain ⟨callee, args, argTypes⟩ := c
    cases callee with
    | invoke r m => simp at hop
    | builtin b =>
      have hres : ∀ (ty : TypeId), (execOp a.eval ⟨dst, .call ⟨.builtin b, args, argTypes⟩, type, pos, after, guard⟩) = (builtin b argTypes type (args.map fun | .const _ => true | _ => false) (args.map a.eval)) := fun _ => rfl
      cases b <;> simp only [reduceCtorEq] at hop
      case len =>
        split at hop
        · next x t hax hat =>
          split at hop
          · next el ht =>
            simp only [Option.map_eq_some_iff] at hop
            obtain ⟨y, hy, rfl⟩ := hop
            simp only [evQ, Option.map_eq_some_iff] at hev
            obtain ⟨n, hn, he⟩ := hev
            simp only [Prod.mk.injEq] at he
            obtain ⟨rfl, rfl, rfl⟩ := he
            have rx := opd_rel hL hE hy
            have hsl : ∃ ad c, a.eval x = .slice ad n c := by
              cases hxv : opd e y <;> rw [hxv] at hn rx <;> simp only [lenA, Option.some.injEq, reduceCtorEq] at hn <;> simp only [Rel] at rx
              · subst hn; exact ⟨none, 0, rx⟩
              · subst hn; obtain ⟨ad, c, q, _⟩ := rx; exact ⟨ad, c, q⟩
              · subst hn; obtain ⟨i, c, _, q, _⟩ := rx; exact ⟨_, c, q⟩
            obtain ⟨ad, c, hsl⟩ := hsl
            have ha : args = #[x] := by rw [← Array.toArray_toList (xs := args), hax]
            have hat' : argTypes = #[t] := by rw [← Array.toArray_toList (xs := argTypes), hat]
            subst ha; subst hat'
            refine .value H (u := .int .i64 n) ?_ (by simp [Rel])
            rw [hres type]
            simp [builtin, Builtin.len_, hsl, run_underlying ht, goInt]
          · cases hop
        · cases hop
      case max =>
        split at hop
        · next x xs hxs =>
          cases hop
          simp only [evQ, Option.map_eq_some_iff] at hev
          obtain ⟨r, hr, he⟩ := hev
          simp only [Prod.mk.injEq] at he
          obtain ⟨rfl, rfl, rfl⟩ := he
          have rl := relL_mapA hL hE hxs
          simp only [List.map_cons, RelL] at rl
          obtain ⟨u, us, hus, h1, h2⟩ := rl
          obtain ⟨ru, hru, hrv⟩ := evMm_run (P := C.P) true S S.w hr h1 h2
          refine .value H (u := ru) ?_ hrv
          rw [hres type]
          simp only [builtin, Builtin.max_, hus]
          simp only [if_true] at hru
          simp [hru]
        · cases hop
      case min =>
        split at hop
        · next x xs hxs =>
          cases hop
          simp only [evQ, Option.map_eq_some_iff] at hev
          obtain ⟨r, hr, he⟩ := hev
          simp only [Prod.mk.injEq] at he
          obtain ⟨rfl, rfl, rfl⟩ := he
          have rl := relL_mapA hL hE hxs
          simp only [List.map_cons, RelL] at rl
          obtain ⟨u, us, hus, h1, h2⟩ := rl
          obtain ⟨ru, hru, hrv⟩ := evMm_run (P := C.P) false S S.w hr h1 h2
          refine .value H (u := ru) ?_ hrv
          rw [hres type]
          simp only [builtin, Builtin.min_, hus]
          simp only [Bool.false_eq_true, if_false] at hru
          simp [hru]
        · cases hop
      case append =>
        split at hop
        · split at hop
          · split at hop
            · cases hop; simp [evQ] at hev
            · cases hop
          · cases hop
        · cases hop
    | value f =>
      have go : ∀ {inl : Bool} {f' : IOpd} {as : List IOpd}, compOpd C f = some f' → mapO (compOpd C) args.toList = some as → evQ G F e h p (.call inl f' as) = some (v, δ, fr) →
          Does C.P S a ⟨dst, .call ⟨.value f, args, argTypes⟩, type, pos, after, guard⟩ (ResQ A n0 S p δ v hp fz) := by
        intro inl f' as hf has hev
        cases inl
        case true => simp [evQ] at hev
        simp only [evQ] at hev
        obtain ⟨g, caps, hfu, ⟨n, hn⟩, hcalls⟩ := evCall_ok (P := C.P) H hle hG hF hev hfr (opd_rel hL hE hf) (relL_mapA hL hE has) p
        exact call_does hL hfu hn hcalls
      simp only at hop
      split at hop
      · next n as hf has => cases hop; exact go hf has hev
      · next n as hf has => cases hop; exact go hf has hev
      · cases hop
end
section
variable {C : CC} {A : Nat → Prop} {n0 : Nat} {S : Sc} {h h' : Heap} {e : Env} {a : Act} {G : Nat → Option (List AV)} {F : CallF} {v : AV}
theorem w_ok (hL : Link C S.L) (hE : EnvR S C.N e a) (H : HR A n0 S h.mem h.fz) (hG : Gok G S) (hF : CallsOK C.P S.L G F) {o : Oper} {io : IOp} (hop : compOp C o.op = some io) (hev : evW G F e h io = some (v, h')) :
    Does C.P S a o (Res A n0 S v h'.mem h'.fz) := by
  obtain ⟨dst, op, type, pos, after, guard⟩ := o
  have hw : isW io = true := by cases io <;> first | rfl | (rename_i inl f args; cases inl <;> first | rfl | simp [evW] at hev) | simp [evW] at hev
  cases op <;> simp only [compOp, reduceCtorEq, Option.map_eq_some_iff] at hop
  case store t x y =>
    split at hop
    · next inf x' y' hi hx hy =>
      cases hop
      simp only [evW] at hev
      split at hev
      · next b off hb =>
        split at hev
        · next hc =>
          obtain ⟨hc1, hc2⟩ := hc
          simp only [Option.map_eq_some_iff] at hev
          obtain ⟨h2, hw, he⟩ := hev
          simp only [Prod.mk.injEq] at he
          obtain ⟨rfl, rfl⟩ := he
          have rx := opd_rel hL hE hx
          rw [hb] at rx
          obtain ⟨i, hi', hu⟩ := ptr_of rx
          have ry := opd_rel hL hE hy
          obtain ⟨k1, k2⟩ := rel_cells ry hc2
          obtain ⟨w', hrun, hok⟩ := Ok.store (P := C.P) H hw hi' k1 k2
          refine .inr (.inl ⟨w', ?_, _, rfl, hok, by simp [Rel, undef, RelL]⟩)
          have hs := storeVar_run (P := C.P) hi (u := a.eval y) (by rw [nonagg_cells ry hc2, hc1]) ⟨i.r, i.base + off, none⟩ S.w
          simp [execOp, Instr.storeAt, hu, Instr.sureAddr, hs, hrun]
        · cases hev
      · cases hev
    · cases hop
  case call c =>
    obtain ⟨callee, args, argTypes⟩ := c
    cases callee with
    | invoke r m => simp at hop
    | builtin b =>
      cases b <;> simp only [reduceCtorEq] at hop
      case append =>
        split at hop
        · next x y t t' hax hat =>
          split at hop
          · next el el' x' y' ht ht' hx hy =>
            split at hop
            · next i z hi hz =>
              cases hop
              obtain ⟨i', zv, hi', hzv, hsz, hm⟩ := zeroC_rel hz
              rw [hi] at hi'; cases hi'
              have ha : args = #[x, y] := by rw [← Array.toArray_toList (xs := args), hax]
              have hat' : argTypes = #[t, t'] := by rw [← Array.toArray_toList (xs := argTypes), hat]
              subst ha; subst hat'
              obtain ⟨u, w', hrun, hres'⟩ := app_ok (P := C.P) H hev (opd_rel hL hE hx) (opd_rel hL hE hy) t t' type el el' i ht ht' hi rfl rfl zv hzv hsz
              refine .inl ⟨u, w', ?_, hres'⟩
              show Sem.run C.P (builtin .append #[t, t'] type (#[x, y].map fun | .const _ => true | _ => false) (#[x, y].map a.eval)) S.w = _
              simp [builtin, hrun]
            · cases hop
          · cases hop
        · cases hop
      all_goals
        exfalso
        (repeat' split at hop)
        all_goals first
          | (obtain ⟨_, _, rfl⟩ := hop; simp [isW] at hw; done)
          | (simp only [Option.map_eq_some_iff] at hop; obtain ⟨_, _, rfl⟩ := hop; simp [isW] at hw; done)
          | (cases hop; simp [isW] at hw; done)
          | (cases hop; done)
    | value f =>
      have go : ∀ {inl : Bool} {f' : IOpd} {as : List IOpd}, compOpd C f = some f' → mapO (compOpd C) args.toList = some as → evW G F e h (.call inl f' as) = some (v, h') →
          Does C.P S a ⟨dst, .call ⟨.value f, args, argTypes⟩, type, pos, after, guard⟩ (Res A n0 S v h'.mem h'.fz) := by
        intro inl f' as hf has hev
        cases inl
        case false => simp [evW] at hev
        simp only [evW] at hev
        split at hev
        · next fi cap hfc =>
          have rf := opd_rel hL hE hf
          rw [hfc] at rf
          simp only [Rel] at rf
          obtain ⟨g, caps, hLf, hfu, hcap⟩ := rf
          exact call_does hL hfu hLf (hF.inl fi g _ h v h' hLf hev A n0 S _ rfl H hG (relL_append (relL_mapA hL hE has) hcap))
        · cases hev
      simp only at hop
      split at hop
      · next n as hf has => cases hop; exact go hf has hev
      · next n as hf has => cases hop; exact go hf has hev
      · cases hop
  all_goals
    exfalso
    (repeat' split at hop)
    all_goals first
      | contradiction
      | (obtain ⟨_, _, rfl⟩ := hop; simp [isW] at hw; done)
      | (simp only [Option.map_eq_some_iff] at hop; obtain ⟨_, _, rfl⟩ := hop; simp [isW] at hw; done)
      | (cases hop; simp [isW] at hw; done)
      | (cases hop; done)
end
end Go.Cv
namespace Go.Cv
theorem evQ_one {G : Nat → Option (List AV)} {F : CallF} {e : Env} {h : Mem} {p : Nat} {io : IOp} {v : AV} {δ : List Blk} {fr : List Nat} (hev : evQ G F e h p io = some (v, δ, fr)) : δ = [] ∨ ∃ x, δ = [x] := by
  cases io <;> simp only [evQ, Option.map_eq_some_iff, reduceCtorEq] at hev
  case call inl f args =>
    cases inl <;> simp only [evQ, reduceCtorEq] at hev
    cases hf : opd e f <;> rw [hf] at hev <;> simp only [evCall, reduceCtorEq] at hev
    split at hev
    · split at hev
      · cases hev; exact .inl rfl
      · cases hev
    · cases hev
  all_goals first
    | (cases hev; first | exact .inl rfl | exact .inr ⟨_, rfl⟩)
    | (obtain ⟨_, _, he⟩ := hev; cases he; exact .inl rfl)
    | ((repeat' split at hev) <;> first
        | (obtain ⟨_, _, he⟩ := hev; cases he; exact .inl rfl)
        | (simp only [Option.map_eq_some_iff] at hev; obtain ⟨_, _, he⟩ := hev; cases he; exact .inl rfl)
        | (cases hev; done)
        | (cases hev; exact .inl rfl)
        | (cases hev; exact .inr ⟨_, rfl⟩))
theorem tmps_put {a : Act} {d : Option Tmp} {u : Value} : (a.put d u).tmps.size = a.tmps.size := by cases d <;> simp [Act.put]
theorem envR_put {S : Sc} {N : Nat} {e : Env} {a : Act} (h : EnvR S N e a) {d : Option Nat} (hd : ∀ t, d = some t → t < N) {v : AV} {u : Value} (hv : Rel S v u) : EnvR S N (putE d v e) (a.put d u) := by
  refine ⟨by rw [tmps_put]; exact h.size, fun t => ?_⟩
  cases d with
  | none => exact h.get t
  | some s =>
    have hs := hd s rfl
    simp only [putE, getE, Act.put]
    by_cases e : t = s
    · subst e
      rw [if_pos rfl, Array.getD_eq_getD_getElem?, Array.getElem?_setIfInBounds_self_of_lt (Nat.lt_of_lt_of_le hs h.size)]
      exact hv
    · rw [if_neg e, Array.getD_eq_getD_getElem?, Array.getElem?_setIfInBounds_ne (fun x => e x.symm), ← Array.getD_eq_getD_getElem?]
      exact h.get t
theorem guard_rel {S : Sc} {N : Nat} {e : Env} {a : Act} (h : EnvR S N e a) {ops : Array Oper} {o : Oper} {g : Option (Nat × Bool)} (hg : gdst ops o.guard = some g) {b : Bool} (hb : guardV e g = some b) :
    Region.wanted o (yielded ops a.tmps) = b := by
  unfold gdst at hg
  cases hgu : o.guard with
  | none =>
    rw [hgu] at hg; cases hg
    simp only [guardV, Option.some.injEq] at hb; subst hb
    simp [Region.wanted, hgu]
  | some jw =>
    obtain ⟨j, want⟩ := jw
    rw [hgu] at hg
    simp only at hg
    split at hg
    · next t ht =>
      cases hg
      have hr := h.get t
      simp only [guardV] at hb
      simp only [Region.wanted, hgu, yielded, ht, Option.bind_some]
      split at hb
      · next b' hb' =>
        rw [hb'] at hr
        simp only [Rel] at hr
        simp only [Option.some.injEq] at hb
        rw [Array.getD_eq_getD_getElem?] at hr
        cases hx : a.tmps[t]? with
        | none => rw [hx] at hr; simp [undef] at hr
        | some u =>
          rw [hx] at hr
          simp only [Option.getD_some] at hr
          subst hr
          rw [← hb]
          cases b' <;> cases want <;> rfl
      · next hb' =>
        rw [hb'] at hr
        simp only [Rel, RelL] at hr
        obtain ⟨us, hu, hus⟩ := hr
        simp only [Option.some.injEq] at hb
        rw [Array.getD_eq_getD_getElem?] at hu
        cases hx : a.tmps[t]? with
        | none => rw [← hb]; rfl
        | some u =>
          rw [hx] at hu
          simp only [Option.getD_some] at hu
          subst hu
          rw [← hb]; rfl
      · cases hb
    · cases hg
theorem does_wp {P : Program} {S : Sc} {a : Act} {o : Oper} {R : Value → World → Prop} (h : Does P S a o R) {K : Act → World → Prop} {Q : Exit → Act → World → Prop} (hk : ∀ u w', R u w' → K (a.put o.dst u) w') : o.wp P a S.w K Q := by
  unfold Oper.wp
  rcases h with ⟨u, w', h1, h2⟩ | ⟨w', h1, h2⟩ | ⟨g, us, h1, h2⟩
  · rw [h1]; exact hk u w' h2
  · rw [h1]; exact hk undef w' h2
  · rw [h1, Oper.upon_enter]
    exact h2.mono fun e w' ⟨u, he, hr⟩ => by subst he; exact hk u w' hr
theorem evOp_ok {C : CC} {A : Nat → Prop} {n0 : Nat} {S : Sc} {h h' : Heap} {e : Env} {a : Act} {G : Nat → Option (List AV)} {F : CallF} {v : AV}
    (hL : Link C S.L) (hE : EnvR S C.N e a) (H : HR A n0 S h.mem h.fz) (hG : Gok G S) (hF : CallsOK C.P S.L G F) {o : Oper} {io : IOp} (hop : compOp C o.op = some io) (hev : evOp G F e h io = some (v, h')) :
    Does C.P S a o (Res A n0 S v h'.mem h'.fz) := by
  unfold evOp at hev
  split at hev
  · exact w_ok hL hE H hG hF hop hev
  · rw [Option.map_eq_some_iff] at hev
    obtain ⟨⟨v', δ, fr⟩, hq, he⟩ := hev
    simp only [Prod.mk.injEq] at he
    obtain ⟨rfl, rfl⟩ := he
    have hle : ∀ (b : Nat) (k : Blk), h.mem b = some k → (⟨h.b ++ δ, fr ++ h.f⟩ : Heap).mem b = some k := fun b k hb => by
      show (h.b ++ δ)[b]? = _
      rw [List.getElem?_append_left (List.getElem?_eq_some_iff.1 hb).1]; exact hb
    have H2 : HR A n0 S (⟨h.b ++ δ, fr ++ h.f⟩ : Heap).mem (⟨h.b ++ δ, fr ++ h.f⟩ : Heap).fz := H.ext (fun b i hi => by
      obtain ⟨k, hk⟩ := H.dom b i hi
      rw [hk, hle b k hk]) (fun b hb => List.mem_append_right _ hb)
    refine (q_ok hL hE H2 hle hG hF hop hq ?_ (fun _ => dom_none H (Nat.le_refl _)) (fun b hb => List.mem_append_left _ hb)).mono ?_
    · intro x hx
      show (h.b ++ δ)[h.b.length]? = _
      rcases evQ_one hq with rfl | ⟨y, rfl⟩
      · cases hx
      · simp at hx; subst hx; simp
    · rintro u w' ⟨S', hw, ok, hr, _⟩
      exact ⟨S', hw, ok, hr⟩
theorem compOper_spec {C : CC} {ops : Array Oper} {o : Oper} {io : IOper} (h : compOper C ops o = some io) : compOp C o.op = some io.op ∧ gdst ops o.guard = some io.guard ∧ io.dst = o.dst ∧ ∀ t, io.dst = some t → t < C.N := by
  unfold compOper at h
  split at h
  · next op g hop hg =>
    split at h
    · next hd => cases h; exact ⟨hop, hg, hd.symm, fun t ht => by cases ht⟩
    · next d hd =>
      split at h
      · next hlt => cases h; exact ⟨hop, hg, hd.symm, fun t ht => by cases ht; exact hlt⟩
      · cases h
  · cases h
theorem mapO_get' {α β : Type} {f : α → Option β} : ∀ {xs : List α} {ys : List β}, mapO f xs = some ys → ∀ (j : Nat) (x : α), xs[j]? = some x → ∃ y, ys[j]? = some y ∧ f x = some y
  | [], ys, h, j, x, hj => by simp at hj
  | x :: xs, ys, h, j, z, hj => by
    simp only [mapO] at h
    split at h
    · next y ys' h1 h2 =>
      cases h
      cases j with
      | zero => simp at hj; subst hj; exact ⟨y, rfl, h1⟩
      | succ j => simpa using mapO_get' h2 j z (by simpa using hj)
    · cases h
section
variable {C : CC} {A : Nat → Prop} {n0 : Nat} {G : Nat → Option (List AV)} {F : CallF} {ops : Array Oper} {l : List IOper}
theorem ops_ok (hl : mapO (compOper C ops) ops.toList = some l) {L : Nat → Option FuncId} (hL : Link C L) (hF : CallsOK C.P L G F) {Q : Exit → Act → World → Prop} {h' : Heap} {e' : Env} :
    ∀ (n k : Nat), k + n = ops.size → ∀ (e : Env) (h : Heap) (S : Sc) (a : Act), evOps G F (l.drop k) e h = some (e', h') → S.L = L → EnvR S C.N e a → HR A n0 S h.mem h.fz → Gok G S →
    (∀ a' S', Ok A n0 S S' h'.mem h'.fz → EnvR S' C.N e' a' → a'.defers = a.defers → Q .normal a' S'.w) → wpOps C.P ops Q (List.range' k n) a S.w
  | 0, k, hk, e, h, S, a, hev, hSL, hE, H, hG, hQ => by
    rw [List.drop_eq_nil_of_le (by rw [mapO_length hl]; simp; omega)] at hev
    simp only [evOps, Option.some.injEq, Prod.mk.injEq] at hev
    obtain ⟨rfl, rfl⟩ := hev
    exact hQ a S (.refl H) hE rfl
  | n + 1, k, hk, e, h, S, a, hev, hSL, hE, H, hG, hQ => by
    have hlt : k < ops.size := by omega
    have hko : ops[k]? = some ops[k] := Array.getElem?_eq_getElem hlt
    obtain ⟨io, hio, hc⟩ := mapO_get' hl k ops[k] (by rw [Array.getElem?_toList]; exact hko)
    obtain ⟨c1, c2, c3, c4⟩ := compOper_spec hc
    have hd : l.drop k = io :: l.drop (k + 1) := by
      rw [List.drop_eq_getElem_cons (List.getElem?_eq_some_iff.1 hio).1]
      rw [(List.getElem?_eq_some_iff.1 hio).2]
    rw [hd, evOps] at hev
    simp only [List.range'_succ, wpOps, hko]
    cases hg : guardV e io.guard with
    | none => rw [hg] at hev; cases hev
    | some b =>
      rw [hg] at hev
      have hwant := guard_rel hE c2 hg
      rw [hwant]
      cases b
      · simp only [Bool.false_eq_true, if_false]
        rw [← c3]
        refine ops_ok hl hL hF n (k + 1) (by omega) _ h S _ hev hSL (envR_put hE c4 (by simp [Rel, undef, RelL])) H hG fun a' S' ok hE' hdf => hQ a' S' ok hE' (hdf.trans ?_)
        cases io.dst <;> rfl
      · simp only [if_true]
        simp only at hev
        split at hev
        · next v h2 hop =>
          refine .inl (does_wp (evOp_ok (hSL ▸ hL) hE H hG (hSL ▸ hF) c1 hop) ?_)
          rintro u w' ⟨S', rfl, ok, hr⟩
          rw [← c3]
          refine ops_ok hl hL hF n (k + 1) (by omega) _ h2 S' _ hev (ok.le.L.trans hSL) (envR_put (hE.mono ok.le) c4 hr) ok.hr (hG.mono ok.le) fun a' S'' ok' hE' hdf => hQ a' S'' (ok.trans ok') hE' (hdf.trans ?_)
          cases io.dst <;> rfl
        · cases hev
theorem region_ok (hl : mapO (compOper C ops) ops.toList = some l) {S : Sc} (hL : Link C S.L) (hF : CallsOK C.P S.L G F) {Q : Exit → Act → World → Prop} {h h' : Heap} {e e' : Env} {a : Act} {id : Nat}
    (hev : evOps G F l e h = some (e', h')) (hE : EnvR S C.N e a) (H : HR A n0 S h.mem h.fz) (hG : Gok G S)
    (hQ : ∀ a' S', Ok A n0 S S' h'.mem h'.fz → EnvR S' C.N e' a' → a'.defers = a.defers → Q .normal a' S'.w) : (Code.region id ops false).wp C.P Q a S.w := by
  refine wp_region ?_
  rw [List.range_eq_range']
  exact ops_ok hl hL hF ops.size 0 (by omega) e h S a (by simpa using hev) rfl hE H hG hQ
end
end Go.Cv
namespace Go.Cv
theorem opd_congr {e e' : Env} {x : IOpd} (h : ∀ t ∈ opdT x, getE e t = getE e' t) : opd e x = opd e' x := by
  cases x <;> first | rfl | exact h _ (by simp [opdT])
theorem opds_congr {e e' : Env} {xs : List IOpd} (h : ∀ t ∈ xs.flatMap opdT, getE e t = getE e' t) : xs.map (opd e) = xs.map (opd e') :=
  List.map_congr_left fun x hx => opd_congr fun t ht => h t (List.mem_flatMap.2 ⟨x, hx, ht⟩)
theorem parts_congr {e e' : Env} {ps : List (Nat × Nat × IOpd)} (h : ∀ t ∈ ps.flatMap (fun p => opdT p.2.2), getE e t = getE e' t) :
    (ps.map fun (o, n, x) => (o, n, opd e x)) = (ps.map fun (o, n, x) => (o, n, opd e' x)) :=
  List.map_congr_left fun p hp => by
    obtain ⟨o, n, x⟩ := p
    have : opd e x = opd e' x := opd_congr fun t ht => h t (List.mem_flatMap.2 ⟨_, hp, ht⟩)
    simp [this]
theorem evQ_congr {G : Nat → Option (List AV)} {F : CallF} {e e' : Env} {h : Mem} {p : Nat} {io : IOp} (hc : ∀ t ∈ tmpsOf io, getE e t = getE e' t) : evQ G F e h p io = evQ G F e' h p io := by
  cases io <;> simp only [tmpsOf, List.mem_append, or_imp, forall_and] at hc
  case slice sz x lo hi =>
    obtain ⟨h1, h2⟩ := hc
    have hl : lo.map (opd e) = lo.map (opd e') := by
      cases lo with
      | none => rfl
      | some l => simp only [Option.map_some]; rw [opd_congr (e := e) (e' := e') fun t ht => h2 t (by simp [ht])]
    have hh : hi.map (opd e) = hi.map (opd e') := by
      cases hi with
      | none => rfl
      | some l => simp only [Option.map_some]; rw [opd_congr (e := e) (e' := e') fun t ht => h2 t (by simp [ht])]
    simp only [evQ, opd_congr h1, hl, hh]
  case build z ps => simp only [evQ, parts_congr hc]
  case bslice n sz z ps => simp only [evQ, parts_congr hc]
  case mm mx x xs => simp only [evQ, opd_congr hc.1, opds_congr hc.2]
  case call inl f as => cases inl <;> simp only [evQ, opd_congr hc.1, opds_congr hc.2]
  case mkfn f cap => simp only [evQ, opds_congr hc]
  case pick c a b => simp only [evQ, opd_congr hc.1.1, opd_congr hc.1.2, opd_congr hc.2]
  case alloc z => rfl
  case store n a v => rfl
  case app sz b x y => rfl
  all_goals first
    | simp only [evQ, opd_congr hc.1, opd_congr hc.2]
    | simp only [evQ, opd_congr hc]
theorem evW_congr {G : Nat → Option (List AV)} {F : CallF} {e e' : Env} {h : Heap} {io : IOp} (hc : ∀ t ∈ tmpsOf io, getE e t = getE e' t) : evW G F e h io = evW G F e' h io := by
  cases io <;> simp only [tmpsOf, List.mem_append, or_imp, forall_and] at hc <;> (try rfl)
  case store n a v => simp only [evW, opd_congr hc.1, opd_congr hc.2]
  case app sz b x y => simp only [evW, opd_congr hc.1, opd_congr hc.2]
  case call inl f as => cases inl <;> simp only [evW, opd_congr hc.1, opds_congr hc.2]
theorem evQ_pure {G : Nat → Option (List AV)} {F : CallF} {e : Env} {h h2 : Mem} {p p2 : Nat} {io : IOp} (hs : sens io = false) : evQ G F e h p io = evQ G F e h2 p2 io := by
  cases io <;> first | rfl | (simp [sens] at hs; done)
theorem evQ_pure_nil {G : Nat → Option (List AV)} {F : CallF} {e : Env} {h : Mem} {p : Nat} {io : IOp} (hs : sens io = false) {v : AV} {δ : List Blk} {fr : List Nat} (hev : evQ G F e h p io = some (v, δ, fr)) : δ = [] ∧ fr = [] := by
  cases io <;> (try (simp [sens] at hs; done)) <;> simp only [evQ, Option.map_eq_some_iff, reduceCtorEq] at hev
  all_goals first
    | (cases hev; exact ⟨rfl, rfl⟩)
    | (obtain ⟨_, _, he⟩ := hev; cases he; exact ⟨rfl, rfl⟩)
    | ((repeat' split at hev) <;> first
        | (obtain ⟨_, _, he⟩ := hev; cases he; exact ⟨rfl, rfl⟩)
        | (simp only [Option.map_eq_some_iff] at hev; obtain ⟨_, _, he⟩ := hev; cases he; exact ⟨rfl, rfl⟩)
        | (cases hev; done)
        | (cases hev; exact ⟨rfl, rfl⟩))
def Closed (ops : Array Oper) (ls : Nat → Bool) : Prop := ∀ i, ls i = true → ∀ o, ops[i]? = some o → ∀ e ∈ o.after, Region.binds .any e = true → ls e.on = true
def befStep (acc : Array Nat) (o : Oper) : Array Nat := acc.push (o.after.foldl (fun s e => if Region.binds .any e then s ||| 2 ^ e.on ||| acc.getD e.on 0 else s) 0)
theorem fold_bit (acc : Array Nat) (i : Nat) : ∀ (es : List Edge) (s : Nat), (es.foldl (fun s e => if Region.binds .any e then s ||| 2 ^ e.on ||| acc.getD e.on 0 else s) s).testBit i = true →
    s.testBit i = true ∨ ∃ e ∈ es, Region.binds .any e = true ∧ (e.on = i ∨ (acc.getD e.on 0).testBit i = true)
  | [], s, h => .inl h
  | e :: es, s, h => by
    simp only [List.foldl_cons] at h
    rcases fold_bit acc i es _ h with h | ⟨e', he', hb⟩
    · split at h
      · next hbind =>
        rw [Nat.testBit_or, Nat.testBit_or, Bool.or_eq_true, Bool.or_eq_true] at h
        rcases h with (h | h) | h
        · exact .inl h
        · rw [Nat.testBit_two_pow] at h
          exact .inr ⟨e, by simp, hbind, .inl (by simpa using h)⟩
        · exact .inr ⟨e, by simp, hbind, .inr h⟩
      · exact .inl h
    · exact .inr ⟨e', by simp [he'], hb⟩
theorem bef_list (ops : Array Oper) : ∀ (rest : List Oper) (k : Nat) (acc : Array Nat), ops.toList.drop k = rest → acc.size = k →
    (∀ j, j < k → ∀ i, (acc.getD j 0).testBit i = true → ∀ ls, Closed ops ls → (∀ o, ops[j]? = some o → ∀ e ∈ o.after, Region.binds .any e = true → ls e.on = true) → ls i = true) →
    ∀ j i, ((rest.foldl befStep acc).getD j 0).testBit i = true → ∀ ls, Closed ops ls → (∀ o, ops[j]? = some o → ∀ e ∈ o.after, Region.binds .any e = true → ls e.on = true) → ls i = true
  | [], k, acc, hr, hs, hacc, j, i, hb, ls, hc, he => by
    simp only [List.foldl_nil] at hb
    by_cases hj : j < k
    · exact hacc j hj i hb ls hc he
    · rw [Array.getD_eq_getD_getElem?, Array.getElem?_eq_none (by omega)] at hb
      simp at hb
  | o :: rest, k, acc, hr, hs, hacc, j, i, hb, ls, hc, he => by
    simp only [List.foldl_cons] at hb
    have hlt : k < ops.toList.length := by
      rcases Nat.lt_or_ge k ops.toList.length with q | q
      · exact q
      · rw [List.drop_eq_nil_of_le q] at hr; cases hr
    rw [List.drop_eq_getElem_cons hlt] at hr
    simp only [List.cons.injEq] at hr
    obtain ⟨ho, hrest⟩ := hr
    have hok : ops[k]? = some o := by rw [← Array.getElem?_toList, List.getElem?_eq_getElem hlt, ho]
    refine bef_list ops rest (k + 1) (befStep acc o) hrest (by simp [befStep, hs]) ?_ j i hb ls hc he
    intro j hj i hb ls hc he
    rw [Array.getD_eq_getD_getElem?] at hb
    unfold befStep at hb
    rw [Array.getElem?_push] at hb
    split at hb
    · next hjk =>
      have : j = k := by omega
      subst this
      simp only [Option.getD_some] at hb
      rw [← Array.foldl_toList] at hb
      rcases fold_bit acc i _ _ hb with hb | ⟨e, hem, hbind, hb⟩
      · simp at hb
      · have hls := he o hok e (by simpa using hem) hbind
        rcases hb with rfl | hb
        · exact hls
        · by_cases hlt' : e.on < j
          · exact hacc e.on hlt' i hb ls hc fun o' ho' e' he' hb' => hc e.on hls o' ho' e' he' hb'
          · rw [Array.getD_eq_getD_getElem?, Array.getElem?_eq_none (by omega)] at hb
            simp at hb
    · rw [← Array.getD_eq_getD_getElem?] at hb
      have hjk : j < k := by omega
      exact hacc j hjk i hb ls hc he
theorem before_spec {ops : Array Oper} {j i : Nat} (hb : ((Region.before ops).getD j 0).testBit i = true) {ls : Nat → Bool} (hc : Closed ops ls) (he : ∀ o, ops[j]? = some o → ∀ e ∈ o.after, Region.binds .any e = true → ls e.on = true) : ls i = true := by
  unfold Region.before at hb
  rw [← Array.foldl_toList] at hb
  exact bef_list ops ops.toList 0 #[] rfl rfl (fun j hj => by omega) j i hb ls hc he
structure Seq (G : Nat → Option (List AV)) (F : CallF) (l : List IOper) (E : Nat → Env) (M : Nat → Heap) (V : Nat → AV) : Prop where
  env : ∀ (i : Nat) (io : IOper), l[i]? = some io → E (i + 1) = putE io.dst (V i) (E i)
  doing : ∀ (i : Nat) (io : IOper), l[i]? = some io → (guardV (E i) io.guard = some true ∧ evOp G F (E i) (M i) io.op = some (V i, M (i + 1))) ∨ (guardV (E i) io.guard = some false ∧ V i = .tup [] ∧ M (i + 1) = M i)
theorem seq_of {G : Nat → Option (List AV)} {F : CallF} : ∀ {l : List IOper} {e e' : Env} {h h' : Heap}, evOps G F l e h = some (e', h') →
    ∃ (E : Nat → Env) (M : Nat → Heap) (V : Nat → AV), E 0 = e ∧ M 0 = h ∧ E l.length = e' ∧ M l.length = h' ∧ Seq G F l E M V
  | [], e, e', h, h', hev => by
    simp only [evOps, Option.some.injEq, Prod.mk.injEq] at hev
    exact ⟨fun _ => e, fun _ => h, fun _ => .undef, rfl, rfl, hev.1, hev.2, ⟨fun i io hi => by simp at hi, fun i io hi => by simp at hi⟩⟩
  | o :: os, e, e', h, h', hev => by
    have go : ∀ (v : AV) (h2 : Heap), evOps G F os (putE o.dst v e) h2 = some (e', h') →
        ((guardV e o.guard = some true ∧ evOp G F e h o.op = some (v, h2)) ∨ (guardV e o.guard = some false ∧ v = .tup [] ∧ h2 = h)) →
        ∃ (E : Nat → Env) (M : Nat → Heap) (V : Nat → AV), E 0 = e ∧ M 0 = h ∧ E (o :: os).length = e' ∧ M (o :: os).length = h' ∧ Seq G F (o :: os) E M V := by
      intro v h2 hr hd
      obtain ⟨E, M, V, hE0, hM0, hEn, hMn, hs⟩ := seq_of hr
      refine ⟨fun i => match i with | 0 => e | i + 1 => E i, fun i => match i with | 0 => h | i + 1 => M i, fun i => match i with | 0 => v | i + 1 => V i, rfl, rfl, hEn, hMn, ⟨?_, ?_⟩⟩
      · intro i io hi
        cases i with
        | zero => simp at hi; subst hi; exact hE0
        | succ i => exact hs.env i io (by simpa using hi)
      · intro i io hi
        cases i with
        | zero =>
          simp at hi; subst hi
          simp only [hM0]
          rcases hd with ⟨a, b⟩ | ⟨a, b, c⟩
          · exact .inl ⟨a, b⟩
          · exact .inr ⟨a, b, c⟩
        | succ i => exact hs.doing i io (by simpa using hi)
    simp only [evOps] at hev
    split at hev
    · next hg =>
      split at hev
      · next v h2 hop => exact go v h2 hev (.inl ⟨hg, hop⟩)
      · cases hev
    · next hg => exact go _ h hev (.inr ⟨hg, rfl, rfl⟩)
    · cases hev
def selE (l : List IOper) (V : Nat → AV) (ls : Nat → Bool) (e : Env) : Nat → Env
  | 0 => e
  | i + 1 => if ls i then putE ((l[i]?).bind (·.dst)) (V i) (selE l V ls e i) else selE l V ls e i
theorem getE_put {d : Option Nat} {v : AV} {e : Env} {t : Nat} : getE (putE d v e) t = if d = some t then v else getE e t := by
  cases d with
  | none => simp [putE]
  | some s =>
    simp only [putE, getE]
    by_cases h : t = s
    · subst h; simp
    · rw [if_neg h, if_neg (by simpa using fun x => h x.symm)]
theorem sel_late {l : List IOper} {V : Nat → AV} {ls : Nat → Bool} {e : Env} {t k : Nat} : ∀ {n : Nat}, k ≤ n → (∀ j, k ≤ j → j < n → ls j = true → ∀ io, l[j]? = some io → io.dst ≠ some t) → getE (selE l V ls e n) t = getE (selE l V ls e k) t := by
  intro n hkn
  induction hkn with
  | refl => intro _; rfl
  | @step n hkn ih =>
    intro h
    simp only [selE]
    have ih' := ih fun j a b => h j a (by omega)
    split
    · next hl =>
      rw [getE_put, if_neg, ih']
      intro hd
      cases hio : l[n]? with
      | none => rw [hio] at hd; cases hd
      | some io => rw [hio] at hd; exact h n hkn (by omega) hl io hio hd
    · exact ih'
theorem sel_full {G : Nat → Option (List AV)} {F : CallF} {l : List IOper} {E : Nat → Env} {M : Nat → Heap} {V : Nat → AV} (hs : Seq G F l E M V) {ls : Nat → Bool} {t : Nat} :
    ∀ {k : Nat}, k ≤ l.length → (∀ j, j < k → ∀ io, l[j]? = some io → io.dst = some t → ls j = true) → getE (selE l V ls (E 0) k) t = getE (E k) t
  | 0, _, _ => rfl
  | k + 1, hk, h => by
    have ih := sel_full hs (k := k) (by omega) fun j a => h j (by omega)
    have hio : l[k]? = some l[k] := List.getElem?_eq_getElem (by omega)
    rw [hs.env k _ hio, getE_put]
    simp only [selE]
    by_cases hd : l[k].dst = some t
    · rw [if_pos hd, if_pos (h k (by omega) _ hio hd), getE_put, hio]
      simp [hd]
    · rw [if_neg hd]
      split
      · rw [getE_put, hio]; simp [hd]; exact ih
      · exact ih
end Go.Cv
namespace Go.Cv
theorem evOp_quiet {G : Nat → Option (List AV)} {F : CallF} {e : Env} {h h' : Heap} {o : IOp} {v : AV} (hw : isW o = false) (hev : evOp G F e h o = some (v, h')) :
    ∃ δ fr, evQ G F e h.mem h.b.length o = some (v, δ, fr) ∧ h'.b = h.b ++ δ ∧ h'.f = fr ++ h.f := by
  unfold evOp at hev
  rw [if_neg (by simp [hw]), Option.map_eq_some_iff] at hev
  obtain ⟨⟨v', δ, fr⟩, hq, he⟩ := hev
  simp only [Prod.mk.injEq] at he
  obtain ⟨rfl, rfl⟩ := he
  exact ⟨δ, fr, hq, rfl, rfl⟩
theorem evOp_write {G : Nat → Option (List AV)} {F : CallF} {e : Env} {h h' : Heap} {o : IOp} {v : AV} (hw : isW o = true) (hev : evOp G F e h o = some (v, h')) : evW G F e h o = some (v, h') := by
  unfold evOp at hev
  rwa [if_pos hw] at hev
theorem seq_grows {G : Nat → Option (List AV)} {F : CallF} {l : List IOper} {E : Nat → Env} {M : Nat → Heap} {V : Nat → AV} (hs : Seq G F l E M V) {i : Nat} :
    ∀ {k : Nat}, i ≤ k → k ≤ l.length → (∀ j io, i ≤ j → j < k → l[j]? = some io → isW io.op = false) → (∃ t, (M k).b = (M i).b ++ t) ∧ ∀ b ∈ (M i).f, b ∈ (M k).f := by
  intro k hik
  induction hik with
  | refl => intro _ _; exact ⟨⟨[], by simp⟩, fun _ h => h⟩
  | @step k hik ih =>
    intro hk h
    obtain ⟨⟨t, ht⟩, hf⟩ := ih (by omega) fun j io a b => h j io a (by omega)
    have hio : l[k]? = some l[k] := List.getElem?_eq_getElem (by omega)
    rcases hs.doing k _ hio with ⟨_, hop⟩ | ⟨_, _, hm⟩
    · obtain ⟨δ, fr, _, h1, h2⟩ := evOp_quiet (h k _ hik (by omega) hio) hop
      refine ⟨⟨t ++ δ, by rw [h1, ht]; simp⟩, fun b hb => by rw [h2]; exact List.mem_append_right _ (hf b hb)⟩
    · rw [hm]; exact ⟨⟨t, ht⟩, hf⟩
theorem seq_stays {G : Nat → Option (List AV)} {F : CallF} {l : List IOper} {E : Nat → Env} {M : Nat → Heap} {V : Nat → AV} (hs : Seq G F l E M V) {i : Nat} :
    ∀ {k : Nat}, i ≤ k → k ≤ l.length → (∀ j io, i ≤ j → j < k → l[j]? = some io → sens io.op = false) → M k = M i := by
  intro k hik
  induction hik with
  | refl => intro _ _; rfl
  | @step k hik ih =>
    intro hk h
    have ih' := ih (by omega) fun j io a b => h j io a (by omega)
    have hio : l[k]? = some l[k] := List.getElem?_eq_getElem (by omega)
    have hsn := h k _ hik (by omega) hio
    have hw : isW l[k].op = false := by
      generalize l[k].op = o at hsn
      cases o <;> first | rfl | (simp [sens] at hsn; done)
    rcases hs.doing k _ hio with ⟨_, hop⟩ | ⟨_, _, hm⟩
    · obtain ⟨δ, fr, hq, h1, h2⟩ := evOp_quiet hw hop
      obtain ⟨rfl, rfl⟩ := evQ_pure_nil hsn hq
      rw [← ih']
      cases hM : M (k + 1) with
      | mk b f =>
        rw [hM] at h1 h2
        cases hM' : M k with
        | mk b' f' =>
          rw [hM'] at h1 h2
          simp at h1 h2
          rw [h1, h2]
    · rw [hm, ih']
section
variable {C : CC} {A : Nat → Prop} {n0 : Nat} {G : Nat → Option (List AV)} {F : CallF} {ops : Array Oper} {l : List IOper}
def Lone (E : Nat → Env) (i j : Nat) (x y : IOper) : Prop :=
  ∃ dx g n ax gx dy m ay vy gy, x = ⟨dx, .load g n ax, gx⟩ ∧ y = ⟨dy, .store m ay vy, gy⟩ ∧ apart (opd (E i) ax) (opd (E j) ay) = true
structure Free (ops : Array Oper) (l : List IOper) (E : Nat → Env) : Prop where
  back : ∀ i o, ops[i]? = some o → ∀ e ∈ o.after, Region.binds .any e = true → e.on < i
  pair : ∀ i j x y, i < j → l[i]? = some x → l[j]? = some y → (((Region.before ops).getD j 0).testBit i = true ∨ (indT x y = true ∧ (indM x y = true ∨ Lone E i j x y))) ∧ ¬ (isW x.op = true ∧ sens y.op = true ∧ isW y.op = false)
theorem slot_keeps {G : Nat → Option (List AV)} {F : CallF} {l : List IOper} {E : Nat → Env} {M : Nat → Heap} {V : Nat → AV} (hs : Seq G F l E M V) {i : Nat} {a : IOpd} :
    ∀ {k : Nat}, i ≤ k → k ≤ l.length → (∀ m z, i ≤ m → m < k → l[m]? = some z → ∀ t ∈ opdT a, z.dst ≠ some t) → opd (E k) a = opd (E i) a := by
  intro k hik
  induction hik with
  | refl => intro _ _; rfl
  | @step k hik ih =>
    intro hk h
    have hio : l[k]? = some l[k] := List.getElem?_eq_getElem (by omega)
    rw [← ih (by omega) fun m z a b => h m z a (by omega)]
    refine opd_congr fun t ht => ?_
    rw [hs.env k _ hio, getE_put, if_neg (h k _ hik (by omega) hio t ht)]
theorem chk_mem {e : Env} {ops : List IOper} {chk : List (Nat × Nat)} (h : chkOk e ops chk = true) {i j : Nat} (hm : (i, j) ∈ chk) :
    (match ops[i]?, ops[j]? with | some ⟨_, .load _ _ a, _⟩, some ⟨_, .store _ b _, _⟩ => apart (opd e a) (opd e b) | _, _ => false) = true := by
  induction chk with
  | nil => cases hm
  | cons p r ih =>
    obtain ⟨i', j'⟩ := p
    simp only [chkOk, Bool.and_eq_true] at h
    rcases List.mem_cons.1 hm with he | hm
    · cases he; exact h.1
    · exact ih h.2 hm
theorem free_of {chk : List (Nat × Nat)} (h : drawOk ops l chk = true) {E : Nat → Env} {M : Nat → Heap} {V : Nat → AV} (hs : Seq G F l E M V) (hchk : chkOk (E l.length) l chk = true) : Free ops l E := by
  unfold drawOk at h
  simp only [Bool.and_eq_true, List.all_eq_true, List.mem_range] at h
  obtain ⟨h1, h2⟩ := h
  refine ⟨fun i o ho e he hb => ?_, fun i j x y hij hx hy => ?_⟩
  · have hlt : i < ops.size := by
      rcases Nat.lt_or_ge i ops.size with q | q
      · exact q
      · simp [Array.getElem?_eq_none q] at ho
    have := h1 i hlt
    rw [ho] at this
    have := List.all_eq_true.1 this e (by simpa using he)
    simpa [hb] using this
  · have hlt : j < l.length := (List.getElem?_eq_some_iff.1 hy).1
    have := h2 j hlt i hij
    rw [hx, hy] at this
    simp only [Bool.and_eq_true, Bool.or_eq_true, Bool.not_eq_true', Bool.and_eq_false_iff, Bool.not_eq_false'] at this
    refine ⟨?_, fun ⟨a, b, c⟩ => ?_⟩
    · rcases this.1 with q | ⟨q1, q2 | ⟨q2, q3⟩⟩
      · exact .inl q
      · exact .inr ⟨q1, .inl q2⟩
      · refine .inr ⟨q1, .inr ?_⟩
        have hm : (i, j) ∈ chk := by simpa using q2
        have hc := chk_mem hchk hm
        rw [hx, hy] at hc
        unfold loneS at q3
        rw [hx, hy] at q3
        split at q3
        · next dx g n ax gx dy m ay vy gy h3 h4 =>
          cases h3; cases h4
          simp only at hc
          have hall := List.all_eq_true.1 q3
          have ha : opd (E l.length) ax = opd (E i) ax := slot_keeps hs (by omega) (Nat.le_refl _) fun m z him hml hz t ht => by
            have := hall m (List.mem_range.2 hml)
            rw [hz] at this
            simp only [Bool.and_eq_true, Bool.or_eq_true, decide_eq_true_eq] at this
            have := this.1.resolve_left (by omega)
            simpa using List.all_eq_true.1 this t ht
          have hb : opd (E l.length) ay = opd (E j) ay := slot_keeps hs (by omega) (Nat.le_refl _) fun m z him hml hz t ht => by
            have := hall m (List.mem_range.2 hml)
            rw [hz] at this
            simp only [Bool.and_eq_true, Bool.or_eq_true, decide_eq_true_eq] at this
            have := this.2.resolve_left (by omega)
            simpa using List.all_eq_true.1 this t ht
          rw [ha, hb] at hc
          exact ⟨dx, g, n, ax, gx, dy, m, ay, vy, gy, rfl, rfl, hc⟩
        · cases q3
    · rcases this.2 with (q | q) | q
      · rw [a] at q; cases q
      · rw [b] at q; cases q
      · rw [c] at q; cases q
theorem indT_spec {x y : IOper} (h : indT x y = true) : (∀ d, x.dst = some d → d ∉ readsOf y ∧ y.dst ≠ some d) ∧ (∀ d, y.dst = some d → d ∉ readsOf x) := by
  unfold indT at h
  simp only [Bool.and_eq_true] at h
  obtain ⟨h1, h2⟩ := h
  refine ⟨fun d hd => ?_, fun d hd => ?_⟩
  · rw [hd] at h1
    simpa using h1
  · rw [hd] at h2
    simpa using h2
theorem indM_spec {x y : IOper} (h : indM x y = true) : ¬ (isW x.op = true ∧ sens y.op = true) ∧ ¬ (sens x.op = true ∧ isW y.op = true) := by
  unfold indM at h
  simp only [Bool.and_eq_true, Bool.not_eq_true'] at h
  obtain ⟨h3, h4⟩ := h
  refine ⟨fun ⟨a, b⟩ => ?_, fun ⟨a, b⟩ => ?_⟩
  · rw [a, b] at h3; cases h3
  · rw [a, b] at h4; cases h4
theorem load_nil {G : Nat → Option (List AV)} {F : CallF} {e : Env} {h : Mem} {p : Nat} {g : Bool} {n : Nat} {ax : IOpd} {v : AV} {δ : List Blk} {fr : List Nat} (hq : evQ G F e h p (.load g n ax) = some (v, δ, fr)) : δ = [] := by
  simp only [evQ] at hq
  split at hq
  · simp only [Option.map_eq_some_iff] at hq; obtain ⟨_, _, he⟩ := hq; cases he; rfl
  · cases hq
theorem load_nil' {G : Nat → Option (List AV)} {F : CallF} {e : Env} {h : Mem} {p : Nat} {g : Bool} {n : Nat} {ax : IOpd} {v : AV} {δ : List Blk} {fr : List Nat} (hq : evQ G F e h p (.load g n ax) = some (v, δ, fr)) : fr = [] := by
  simp only [evQ] at hq
  split at hq
  · simp only [Option.map_eq_some_iff] at hq; obtain ⟨_, _, he⟩ := hq; cases he; rfl
  · cases hq
theorem isW_sens {o : IOp} (h : isW o = true) : sens o = true := by cases o <;> first | rfl | (rename_i inl f as; cases inl <;> rfl) | (simp [isW] at h; done)
structure Inv (C : CC) (A : Nat → Prop) (n0 : Nat) (ops : Array Oper) (l : List IOper) (E : Nat → Env) (M : Nat → Heap) (V : Nat → AV) (L : Nat → Option FuncId) (G : Nat → Option (List AV)) (ls : Nat → Bool) (S : Sc) (a : Act) (k : Nat) : Prop where
  closed : Closed ops ls
  L : S.L = L
  env : EnvR S C.N (selE l V ls (E 0) l.length) a
  le : k ≤ l.length
  hr : HR A n0 S (M k).mem (M k).fz
  wr : ∀ i io, l[i]? = some io → isW io.op = true → (ls i = true → i < k) ∧ (ls i = false → k ≤ i)
  qu : ∀ i io, l[i]? = some io → sens io.op = true → isW io.op = false → i < k
  ids : ∀ i io, l[i]? = some io → sens io.op = true → isW io.op = false → ls i = false → (M i).b.length < (M (i + 1)).b.length → S.ι (M i).b.length = none
  g : Gok G S
def ins (ls : Nat → Bool) (i : Nat) : Nat → Bool := fun j => if j = i then true else ls j
theorem ready_closed {ls : Nat → Bool} (hc : Closed ops ls) {i : Nat} (hr : ∀ o, ops[i]? = some o → ∀ e ∈ o.after, Region.binds .any e = true → ls e.on = true) : Closed ops (ins ls i) := by
  intro j hj o ho e he hb
  unfold ins at hj ⊢
  split
  · rfl
  · split at hj
    · next hji => subst hji; exact hr o ho e he hb
    · exact hc j hj o ho e he hb
theorem inv_step (hl : mapO (compOper C ops) ops.toList = some l) {E : Nat → Env} (hfree : Free ops l E) {M : Nat → Heap} {V : Nat → AV} (hs : Seq G F l E M V) {L : Nat → Option FuncId} (hL : Link C L) (hF : CallsOK C.P L G F)
    {ls : Nat → Bool} {S : Sc} {a : Act} {k : Nat} (I : Inv C A n0 ops l E M V L G ls S a k) {i : Nat} (hi : i < l.length) (hun : ls i = false)
    (hrd : ∀ o, ops[i]? = some o → ∀ e ∈ o.after, Region.binds .any e = true → ls e.on = true)
    {Q : Exit → Act → World → Prop} {K : Act → World → Prop}
    (hK : ∀ (S' : Sc) (u : Value) (k' : Nat), S.Le S' → Go.RowKit.Below n0 S.w S'.w → Inv C A n0 ops l E M V L G (ins ls i) S' (a.put ((ops[i]?).bind (·.dst)) u) k' → K (a.put ((ops[i]?).bind (·.dst)) u) S'.w) :
    wpOp C.P ops Q i K a S.w := by
  have hio : l[i]? = some l[i] := List.getElem?_eq_getElem hi
  generalize hx : l[i] = io at hio
  obtain ⟨o, ho, hc⟩ := mapO_get hl i io hio
  rw [Array.getElem?_toList] at ho
  obtain ⟨c1, c2, c3, c4⟩ := compOper_spec hc
  have hdst : (ops[i]?).bind (·.dst) = o.dst := by rw [ho]; rfl
  rw [hdst] at hK
  -- what stands ahead of it is done, what it stands ahead of isn't
  have ahead : ∀ j y, j < i → l[j]? = some y → ls j = true ∨ (indT y io = true ∧ (indM y io = true ∨ Lone E j i y io)) := fun j y hj hy => by
    rcases (hfree.pair j i y io hj hy hio).1 with q | q
    · exact .inl (before_spec q I.closed hrd)
    · exact .inr q
  have behind : ∀ j y, i < j → l[j]? = some y → ls j = false ∨ (indT io y = true ∧ (indM io y = true ∨ Lone E i j io y)) := fun j y hj hy => by
    cases hlj : ls j with
    | false => exact .inl rfl
    | true =>
      rcases (hfree.pair i j io y hj hio hy).1 with q | q
      · have := before_spec q I.closed (fun o' ho' e he hb => I.closed j hlj o' ho' e he hb)
        rw [hun] at this; cases this
      · exact .inr q
  -- the slots that it looks at are as in the text's order
  have hreads : ∀ t ∈ readsOf io, getE (selE l V ls (E 0) l.length) t = getE (E i) t := by
    intro t ht
    rw [sel_late (k := i) (by omega) ?_, sel_full hs (by omega) ?_]
    · intro j hj y hy hd
      rcases ahead j y hj hy with q | ⟨q, _⟩
      · exact q
      · exact absurd ht ((indT_spec q).1 t hd).1
    · intro j hij hjn hlj y hy hd
      rcases Nat.lt_or_ge i j with q | q
      · rcases behind j y q hy with r | ⟨r, _⟩
        · rw [r] at hlj; cases hlj
        · exact absurd ht ((indT_spec r).2 t hd)
      · have : j = i := by omega
        subst this
        rw [hun] at hlj; cases hlj
  have hgv : guardV (selE l V ls (E 0) l.length) io.guard = guardV (E i) io.guard := by
    cases hgd : io.guard with
    | none => rfl
    | some p =>
      simp only [guardV]
      rw [hreads p.1 (by simp [readsOf, hgd])]
  have htm : ∀ t ∈ tmpsOf io.op, getE (selE l V ls (E 0) l.length) t = getE (E i) t := fun t ht => hreads t (List.mem_append_left _ ht)
  -- the slots behind it
  have hsel : ∀ t, getE (selE l V (ins ls i) (E 0) l.length) t = getE (putE io.dst (V i) (selE l V ls (E 0) l.length)) t := by
    have lo : ∀ m, m ≤ i → selE l V (ins ls i) (E 0) m = selE l V ls (E 0) m := by
      intro m
      induction m with
      | zero => intro _; rfl
      | succ m ih =>
        intro hm
        simp only [selE, ih (by omega)]
        have : ins ls i m = ls m := by unfold ins; rw [if_neg (by omega)]
        rw [this]
    have hi1 : selE l V (ins ls i) (E 0) (i + 1) = putE io.dst (V i) (selE l V ls (E 0) i) := by
      simp only [selE, lo i (Nat.le_refl _), ins, if_true, hio]; rfl
    have hi2 : selE l V ls (E 0) (i + 1) = selE l V ls (E 0) i := by simp only [selE, hun]; rfl
    intro t
    rw [getE_put]
    by_cases hd : io.dst = some t
    · rw [if_pos hd, sel_late (k := i + 1) (by omega) ?_, hi1, getE_put, if_pos hd]
      intro j hij hjn hlj y hy hyd
      have hlj' : ls j = true := by unfold ins at hlj; rwa [if_neg (by omega)] at hlj
      rcases behind j y (by omega) hy with r | ⟨r, _⟩
      · rw [r] at hlj'; cases hlj'
      · exact absurd hyd ((indT_spec r).1 t hd).2
    · rw [if_neg hd]
      have up : ∀ m, i + 1 ≤ m → getE (selE l V (ins ls i) (E 0) m) t = getE (selE l V ls (E 0) m) t := by
        intro m hm
        induction hm with
        | refl => rw [hi1, hi2, getE_put, if_neg hd]
        | @step m hm ih =>
          have hm' : i + 1 ≤ m := hm
          simp only [selE]
          have : ins ls i m = ls m := by unfold ins; rw [if_neg (by omega)]
          rw [this]
          split
          · rw [getE_put, getE_put, ih]
          · exact ih
      exact up _ (by omega)
  have henv : ∀ {S' : Sc} {u : Value}, S.Le S' → Rel S' (V i) u → EnvR S' C.N (selE l V (ins ls i) (E 0) l.length) (a.put o.dst u) := fun hle hv => by
    have := envR_put (I.env.mono hle) c4 hv
    rw [← c3]
    exact ⟨this.size, fun t => by rw [hsel t]; exact this.get t⟩
  have hclosed := ready_closed I.closed hrd
  -- its new stage
  have insj : ∀ j, j ≠ i → ins ls i j = ls j := fun j hj => by unfold ins; rw [if_neg hj]
  have insi : ins ls i i = true := by unfold ins; rw [if_pos rfl]
  have hsensDone : isW io.op = true → ∀ j y, j < i → l[j]? = some y → sens y.op = true → ls j = true ∨ ∃ g n ax, y.op = .load g n ax := fun hw j y hj hy hsy => by
    rcases ahead j y hj hy with q | ⟨_, q | ⟨dx, g, n, ax, gx, _, _, _, _, _, q, _, _⟩⟩
    · exact .inl q
    · exact absurd ⟨hsy, hw⟩ (indM_spec q).2
    · exact .inr ⟨g, n, ax, by rw [q]⟩
  have hMk : isW io.op = true → k ≤ i ∧ M i = M k := fun hw => by
    have hki := (I.wr i io hio hw).2 hun
    refine ⟨hki, seq_stays hs hki (by omega) fun j y hkj hji hy => ?_⟩
    cases hsy : sens y.op with
    | false => rfl
    | true =>
      exfalso
      cases hwy : isW y.op with
      | true =>
        rcases hsensDone hw j y hji hy hsy with q | ⟨g, n, ax, q⟩
        · have := (I.wr j y hy hwy).1 q
          omega
        · rw [q] at hwy; cases hwy
      | false => have := I.qu j y hy hsy hwy; omega
  have stageW : isW io.op = true → ∀ {S' : Sc} {u : Value}, S.Le S' → Rel S' (V i) u → HR A n0 S' (M (i + 1)).mem (M (i + 1)).fz → Inv C A n0 ops l E M V L G (ins ls i) S' (a.put o.dst u) (i + 1) := by
    intro hw S' u hle hv hh
    refine ⟨hclosed, hle.L.trans I.L, henv hle hv, by omega, hh, ?_, ?_, ?_, I.g.mono hle⟩
    · intro j y hy hwy
      by_cases hji : j = i
      · subst hji; exact ⟨fun _ => by omega, fun q => by rw [insi] at q; cases q⟩
      · rw [insj j hji]
        refine ⟨fun q => ?_, fun q => ?_⟩
        · have := (I.wr j y hy hwy).1 q
          have := (hMk hw).1
          omega
        · rcases Nat.lt_or_ge j i with r | r
          · rcases hsensDone hw j y r hy (isW_sens hwy) with z | ⟨g, n, ax, z⟩
            · rw [q] at z; cases z
            · rw [z] at hwy; cases hwy
          · omega
    · intro j y hy hsy hwy
      have := I.qu j y hy hsy hwy
      have := (hMk hw).1
      omega
    · intro j y hy hsy hwy q hlen
      by_cases hji : j = i
      · subst hji; rw [insi] at q; cases q
      · rw [insj j hji] at q
        have h1 := I.qu j y hy hsy hwy
        have h2 := (hMk hw).1
        rcases hsensDone hw j y (by omega) hy hsy with z | ⟨g, n, ax, z⟩
        · rw [q] at z; cases z
        · exfalso
          rcases hs.doing j y hy with ⟨_, hop⟩ | ⟨_, _, hm⟩
          · rw [z] at hop
            obtain ⟨δ, fr, hq, hb, _⟩ := evOp_quiet rfl hop
            have := load_nil hq
            subst this
            rw [hb] at hlen; simp at hlen
          · rw [hm] at hlen; omega
  have stageQ : isW io.op = false → ∀ {S' : Sc} {u : Value}, S.Le S' → Rel S' (V i) u → HR A n0 S' (M k).mem (M k).fz →
      (∀ j y, l[j]? = some y → sens y.op = true → isW y.op = false → j ≠ i → ls j = false → (M j).b.length < (M (j + 1)).b.length → S'.ι (M j).b.length = none) → Inv C A n0 ops l E M V L G (ins ls i) S' (a.put o.dst u) k := by
    intro hw S' u hle hv hh hids
    refine ⟨hclosed, hle.L.trans I.L, henv hle hv, I.le, hh, ?_, I.qu, ?_, I.g.mono hle⟩
    · intro j y hy hwy
      by_cases hji : j = i
      · subst hji; rw [hio] at hy; cases hy; rw [hw] at hwy; cases hwy
      · rw [insj j hji]; exact I.wr j y hy hwy
    · intro j y hy hsy hwy q hlen
      by_cases hji : j = i
      · subst hji; rw [insi] at q; cases q
      · rw [insj j hji] at q
        exact hids j y hy hsy hwy hji q hlen
  -- the step
  unfold wpOp
  rw [ho]
  simp only
  rcases hs.doing i io hio with ⟨hg, hop⟩ | ⟨hg, hv0, hm0⟩
  · have hwant := guard_rel I.env c2 (hgv.trans hg)
    rw [hwant, if_pos rfl]
    cases hw : isW io.op with
    | true =>
      have hev := evOp_write hw hop
      rw [← evW_congr htm] at hev
      have hki := hMk hw
      have hr' : HR A n0 S (M i).mem (M i).fz := by rw [hki.2]; exact I.hr
      refine .inl (does_wp (w_ok (I.L ▸ hL) I.env hr' I.g (I.L ▸ hF) c1 hev) ?_)
      rintro u w' ⟨S', rfl, ok, hv⟩
      exact hK S' u (i + 1) ok.le ok.below (stageW hw ok.le hv ok.hr)
    | false =>
      obtain ⟨δ, fr, hq, hb, hf⟩ := evOp_quiet hw hop
      rw [← evQ_congr htm] at hq
      cases hsn : sens io.op with
      | true =>
        have hik := I.qu i io hio hsn hw
        by_cases hld : ∃ g n ax, io.op = .load g n ax
        · -- a read: what was written since lies elsewhere
          obtain ⟨g, n, ax, hld⟩ := hld
          have hax : ∀ t ∈ opdT ax, t ∈ tmpsOf io.op := fun t ht => by rw [hld]; exact ht
          have hopd : opd (selE l V ls (E 0) l.length) ax = opd (E i) ax := opd_congr fun t ht => htm t (hax t ht)
          have hq2 : evQ G F (selE l V ls (E 0) l.length) (M k).mem (M i).b.length io.op = some (V i, δ, fr) := by
            rw [← hq, hld]
            simp only [evQ, hopd]
            rw [hld] at hq
            simp only [evQ, hopd] at hq
            rw [show rdAt G (M k).mem n (opd (E i) ax) = rdAt G (M i).mem n (opd (E i) ax) from ?_]
            cases hpa : opd (E i) ax <;> simp only [rdAt]
            case ptr b off =>
              rw [hpa] at hq
              have hsome : ∃ blk, (M i).mem b = some blk := by
                simp only [rdAt, rdBlk] at hq
                cases hx : (M i).mem b with
                | none => rw [hx] at hq; simp at hq
                | some blk => exact ⟨blk, rfl⟩
              obtain ⟨blk, hblk⟩ := hsome
              have key : ∀ m, i ≤ m → m ≤ k → (M m).mem b = some blk := by
                intro m him
                induction him with
                | refl => intro _; exact hblk
                | @step m him ih =>
                  intro hmk
                  have him' : i ≤ m := him
                  have ih := ih (by omega)
                  have hml : m < l.length := by have := I.le; omega
                  have hiom : l[m]? = some l[m] := List.getElem?_eq_getElem hml
                  rcases hs.doing m _ hiom with ⟨_, hopm⟩ | ⟨_, _, hmm⟩
                  · cases hwm : isW l[m].op with
                    | false =>
                      obtain ⟨δ', fr', _, hb', _⟩ := evOp_quiet hwm hopm
                      show (M (m + 1)).b[b]? = _
                      rw [hb', List.getElem?_append_left (List.getElem?_eq_some_iff.1 ih).1]; exact ih
                    | true =>
                      have hmi : m ≠ i := fun e => by subst e; rw [hio] at hiom; cases hiom; rw [hw] at hwm; cases hwm
                      have hlm : ls m = true := by
                        cases q : ls m with
                        | true => rfl
                        | false => have := (I.wr m _ hiom hwm).2 q; omega
                      rcases behind m _ (by omega) hiom with r | ⟨_, r | ⟨dx, g', n', ax', gx, dy, m', ay, vy, gy, e1, e2, e3⟩⟩
                      · rw [r] at hlm; cases hlm
                      · exact absurd ⟨hsn, hwm⟩ (indM_spec r).2
                      · rw [e1] at hld
                        simp only [IOp.load.injEq] at hld
                        obtain ⟨rfl, rfl, rfl⟩ := hld
                        rw [hpa] at e3
                        have hw' := evOp_write hwm hopm
                        rw [e2] at hw'
                        simp only [evW] at hw'
                        cases hay : opd (E m) ay <;> rw [hay] at hw' e3 <;> simp only [apart, reduceCtorEq] at hw' e3
                        case ptr c off' =>
                          have hbc : b ≠ c := by simpa using e3
                          split at hw'
                          · simp only [Option.map_eq_some_iff] at hw'
                            obtain ⟨h2, hwr, he⟩ := hw'
                            simp only [Prod.mk.injEq] at he
                            obtain ⟨_, rfl⟩ := he
                            unfold wrBlk at hwr
                            split at hwr
                            · split at hwr
                              · simp only [Option.some.injEq] at hwr
                                rw [← hwr]
                                show (List.set _ c _)[b]? = _
                                rw [List.getElem?_set, if_neg (fun q => hbc q.symm)]; exact ih
                              · cases hwr
                            · cases hwr
                          · cases hw'
                  · rw [hmm]; exact ih
              have hk' := key k (Nat.le_of_lt hik) (Nat.le_refl _)
              simp only [rdBlk, hk', hblk]
          have hδ0 : δ = [] ∧ fr = [] := by rw [hld] at hq; exact ⟨load_nil hq, load_nil' hq⟩
          obtain ⟨rfl, rfl⟩ := hδ0
          refine .inl (does_wp (q_ok (I.L ▸ hL) I.env I.hr (fun _ _ q => q) I.g (I.L ▸ hF) c1 hq2 (fun x hx => by cases hx) (fun q => absurd rfl q) (fun b hb => by cases hb)) ?_)
          rintro u w' ⟨S', rfl, ok, hv, hid⟩
          refine hK S' u k ok.le ok.below (stageQ hw ok.le hv ok.hr ?_)
          intro j y hy hsy hwy hji hlj hlen
          rw [hid _ (.inl rfl)]
          exact I.ids j y hy hsy hwy hlj hlen
        -- it makes, or calls: nothing is written yet
        have hnw : ∀ j y, i ≤ j → j < k → l[j]? = some y → isW y.op = false := by
          intro j y hij hjk hy
          cases hwy : isW y.op with
          | false => rfl
          | true =>
            exfalso
            have hji : j ≠ i := fun e => by subst e; rw [hio] at hy; cases hy; rw [hw] at hwy; cases hwy
            cases hlj : ls j with
            | false => have := (I.wr j y hy hwy).2 hlj; omega
            | true =>
              rcases behind j y (by omega) hy with r | ⟨_, r | ⟨dx, g', n', ax', gx, _, _, _, _, _, e1, _, _⟩⟩
              · rw [r] at hlj; cases hlj
              · exact absurd ⟨hsn, hwy⟩ (indM_spec r).2
              · exact hld ⟨g', n', ax', by rw [e1]⟩
        obtain ⟨⟨t0, ht0⟩, hf0⟩ := seq_grows hs (Nat.le_of_lt hik) I.le hnw
        obtain ⟨⟨t1, ht1⟩, hf1⟩ := seq_grows hs (show i + 1 ≤ k by omega) I.le fun j y hij => hnw j y (by omega)
        have hle : ∀ b x, (M i).mem b = some x → (M k).mem b = some x := fun b x hx => by
          show (M k).b[b]? = _
          rw [ht0, List.getElem?_append_left (List.getElem?_eq_some_iff.1 hx).1]; exact hx
        refine .inl (does_wp (q_ok (I.L ▸ hL) I.env I.hr hle I.g (I.L ▸ hF) c1 hq ?_ ?_ ?_) ?_)
        · intro x hx
          show (M k).b[(M i).b.length]? = _
          rw [ht1, hb]
          rcases evQ_one hq with rfl | ⟨y, rfl⟩
          · cases hx
          · simp at hx; subst hx; simp
        · intro hne
          refine I.ids i io hio hsn hw hun ?_
          rw [hb]
          cases δ with
          | nil => exact absurd rfl hne
          | cons y ys => simp
        · intro b hbf
          exact hf1 b (by rw [hf]; exact List.mem_append_left _ hbf)
        · rintro u w' ⟨S', rfl, ok, hv, hid⟩
          refine hK S' u k ok.le ok.below (stageQ hw ok.le hv ok.hr ?_)
          intro j y hy hsy hwy hji hlj hlen
          have hnone := I.ids j y hy hsy hwy hlj hlen
          rw [hid _ ?_]; exact hnone
          rcases evQ_one hq with hδ | ⟨z, hδ⟩
          · exact .inl hδ
          · right
            have hlen' : (M (i + 1)).b.length = (M i).b.length + 1 := by rw [hb, hδ]; simp
            have hjk := I.qu j y hy hsy hwy
            have hkl := I.le
            rcases Nat.lt_or_ge i j with q | q
            · obtain ⟨⟨t2, ht2⟩, _⟩ := seq_grows hs (show i + 1 ≤ j by omega) (by omega) fun m y' a b => hnw m y' (by omega) (by omega)
              rw [ht2]; simp; omega
            · have hjw : ∀ m y', j + 1 ≤ m → m < i → l[m]? = some y' → isW y'.op = false := by
                intro m y' hjm hmi hy'
                cases hwy' : isW y'.op with
                | false => rfl
                | true => exact absurd ⟨hwy', hsn, hw⟩ (hfree.pair m i y' io hmi hy' hio).2
              obtain ⟨⟨t2, ht2⟩, _⟩ := seq_grows hs (show j + 1 ≤ i by omega) (by omega) hjw
              have : (M i).b.length = (M (j + 1)).b.length + t2.length := by rw [ht2]; simp
              omega
      | false =>
        obtain ⟨rfl, rfl⟩ := evQ_pure_nil hsn hq
        rw [evQ_pure (h2 := (M k).mem) (p2 := 0) hsn] at hq
        refine .inl (does_wp (q_ok (I.L ▸ hL) I.env I.hr (fun _ _ q => q) I.g (I.L ▸ hF) c1 hq (fun x hx => by cases hx) (fun q => absurd rfl q) (fun b hb => by cases hb)) ?_)
        rintro u w' ⟨S', rfl, ok, hv, hid⟩
        refine hK S' u k ok.le ok.below (stageQ hw ok.le hv ok.hr ?_)
        intro j y hy hsy hwy hji hlj hlen
        rw [hid _ (.inl rfl)]
        exact I.ids j y hy hsy hwy hlj hlen
  · have hwant := guard_rel I.env c2 (hgv.trans hg)
    rw [hwant]
    simp only [Bool.false_eq_true, if_false]
    have hv : Rel S (V i) undef := by rw [hv0]; simp [Rel, undef, RelL]
    cases hw : isW io.op with
    | true =>
      refine hK S undef (i + 1) (.refl S) (.refl _ _) (stageW hw (.refl S) hv ?_)
      rw [hm0, (hMk hw).2]; exact I.hr
    | false =>
      exact hK S undef k (.refl S) (.refl _ _) (stageQ hw (.refl S) hv I.hr fun j y hy hsy hwy hji hlj hlen => I.ids j y hy hsy hwy hlj hlen)
end
end Go.Cv
namespace Go.Cv
section
variable {C : CC} {A : Nat → Prop} {n0 : Nat} {G : Nat → Option (List AV)} {F : CallF} {ops : Array Oper} {l : List IOper}
theorem put_defers (a : Act) (d : Option Tmp) (u : Value) : (a.put d u).defers = a.defers := by cases d <;> rfl
theorem mem_ready {listed : Array Bool} (hsz : listed.size = ops.size) {i : Nat} :
    i ∈ Region.ready .any ops listed ↔ i < ops.size ∧ listed.getD i false = false ∧ ∀ o, ops[i]? = some o → ∀ e ∈ o.after, Region.binds .any e = true → listed.getD e.on false = true := by
  unfold Region.ready
  rw [List.mem_filter, List.mem_range]
  constructor
  · rintro ⟨hi, h⟩
    simp only [Bool.and_eq_true, Bool.not_eq_true'] at h
    obtain ⟨h1, h2⟩ := h
    refine ⟨hi, ?_, fun o ho e he hb => ?_⟩
    · rw [Array.getD_eq_getD_getElem?] at h1 ⊢
      rw [Array.getElem?_eq_getElem (by omega)] at h1 ⊢
      exact h1
    · rw [ho] at h2
      simp only [Option.map_some, Option.getD_some] at h2
      have := Array.all_eq_true_iff_forall_mem.1 h2 e he
      simpa [hb] using this
  · rintro ⟨hi, h1, h2⟩
    refine ⟨hi, ?_⟩
    simp only [Bool.and_eq_true, Bool.not_eq_true']
    refine ⟨?_, ?_⟩
    · rw [Array.getD_eq_getD_getElem?] at h1 ⊢
      rw [Array.getElem?_eq_getElem (by omega)] at h1 ⊢
      exact h1
    · rw [Array.getElem?_eq_getElem hi]
      simp only [Option.map_some, Option.getD_some]
      refine Array.all_eq_true_iff_forall_mem.2 fun e he => ?_
      cases hb : Region.binds .any e with
      | false => rfl
      | true => simpa using h2 _ (Array.getElem?_eq_getElem hi) e he hb
def left (n : Nat) (ls : Nat → Bool) : Nat := ((List.range n).filter fun i => !ls i).length
theorem left_ins {n : Nat} {ls : Nat → Bool} {i : Nat} (hi : i < n) (hu : ls i = false) : left n (ins ls i) + 1 ≤ left n ls := by
  unfold left
  induction n with
  | zero => omega
  | succ n ih =>
    rw [List.range_succ, List.filter_append, List.filter_append, List.length_append, List.length_append]
    by_cases h : i = n
    · subst h
      have h1 : (List.filter (fun j => !ins ls i j) (List.range i)) = List.filter (fun j => !ls j) (List.range i) := List.filter_congr fun j hj => by
        have := List.mem_range.1 hj
        unfold ins; rw [if_neg (by omega)]
      rw [h1]
      simp [ins, hu]
    · have := ih (by omega)
      have h2 : ins ls i n = ls n := by unfold ins; rw [if_neg (fun q => h q.symm)]
      simp only [List.filter_cons, h2, List.filter_nil]
      omega
theorem any_ok (hl : mapO (compOper C ops) ops.toList = some l) {E : Nat → Env} (hfree : Free ops l E) {M : Nat → Heap} {V : Nat → AV} (hs : Seq G F l E M V) {L : Nat → Option FuncId} (hL : Link C L) (hF : CallsOK C.P L G F)
    {Q : Exit → Act → World → Prop} {S0 : Sc} {df : List Deferred} (hQ : ∀ a' S', Ok A n0 S0 S' (M l.length).mem (M l.length).fz → EnvR S' C.N (E l.length) a' → a'.defers = df → Q .normal a' S'.w) :
    ∀ (fuel : Nat) (listed : Array Bool) (S : Sc) (a : Act) (k : Nat), listed.size = ops.size → left ops.size (fun i => listed.getD i false) ≤ fuel →
      Inv C A n0 ops l E M V L G (fun i => listed.getD i false) S a k → S0.Le S → Go.RowKit.Below n0 S0.w S.w → a.defers = df → wpAny C.P .any ops Q fuel listed a S.w := by
  have hll : l.length = ops.size := by rw [mapO_length hl]; simp
  have done : ∀ (listed : Array Bool) (S : Sc) (a : Act) (k : Nat), listed.size = ops.size → Region.ready .any ops listed = [] →
      Inv C A n0 ops l E M V L G (fun i => listed.getD i false) S a k → S0.Le S → Go.RowKit.Below n0 S0.w S.w → a.defers = df → Q .normal a S.w := by
    intro listed S a k hsz hr I hle hbe hdf
    have all : ∀ i, i < ops.size → listed.getD i false = true := by
      intro i
      induction i using Nat.strongRecOn with
      | _ i ih =>
        intro hi
        cases hli : listed.getD i false with
        | true => rfl
        | false =>
          have : i ∈ Region.ready .any ops listed := (mem_ready hsz).2 ⟨hi, hli, fun o ho e he hb => ih e.on (hfree.back i o ho e he hb) (by have := hfree.back i o ho e he hb; omega)⟩
          rw [hr] at this; cases this
    have hM : M l.length = M k := seq_stays hs I.le (Nat.le_refl _) fun j y hkj hj hy => by
      cases hsy : sens y.op with
      | false => rfl
      | true =>
        exfalso
        cases hwy : isW y.op with
        | true => have := (I.wr j y hy hwy).1 (all j (by omega)); omega
        | false => have := I.qu j y hy hsy hwy; omega
    refine hQ a S ⟨hle, by rw [hM]; exact I.hr, hbe⟩ ⟨I.env.size, fun t => ?_⟩ hdf
    have := I.env.get t
    rwa [sel_full hs (Nat.le_refl _) fun j hj _ _ _ => all j (by omega)] at this
  have step : ∀ (fuel : Nat) (listed : Array Bool) (S : Sc) (a : Act) (k : Nat), listed.size = ops.size → left ops.size (fun i => listed.getD i false) ≤ fuel + 1 →
      Inv C A n0 ops l E M V L G (fun i => listed.getD i false) S a k → S0.Le S → Go.RowKit.Below n0 S0.w S.w → a.defers = df →
      (∀ (listed' : Array Bool) (S' : Sc) (a' : Act) (k' : Nat), listed'.size = ops.size → left ops.size (fun i => listed'.getD i false) ≤ fuel →
        Inv C A n0 ops l E M V L G (fun i => listed'.getD i false) S' a' k' → S0.Le S' → Go.RowKit.Below n0 S0.w S'.w → a'.defers = df → wpAny C.P .any ops Q fuel listed' a' S'.w) →
      ∀ i ∈ Region.ready .any ops listed, wpOp C.P ops Q i (wpAny C.P .any ops Q fuel (listed.setIfInBounds i true)) a S.w := by
    intro fuel listed S a k hsz hfu I hle hbe hdf ih i hi
    obtain ⟨h1, h2, h3⟩ := (mem_ready hsz).1 hi
    refine inv_step hl hfree hs hL hF I (by omega) h2 h3 fun S' u k' le be I' => ?_
    have hfn : (fun j => (listed.setIfInBounds i true).getD j false) = ins (fun j => listed.getD j false) i := by
      funext j
      unfold ins
      by_cases hj : j = i
      · subst hj
        rw [if_pos rfl, Array.getD_eq_getD_getElem?, Array.getElem?_setIfInBounds_self_of_lt (by omega)]; rfl
      · rw [if_neg hj, Array.getD_eq_getD_getElem?, Array.getElem?_setIfInBounds_ne (fun q => hj q.symm), ← Array.getD_eq_getD_getElem?]
    refine ih _ S' _ k' (by simpa using hsz) ?_ (by rw [hfn]; exact I') (hle.trans le) (hbe.trans be) (by rw [put_defers]; exact hdf)
    rw [hfn]
    have := left_ins (ls := fun j => listed.getD j false) h1 h2
    omega
  intro fuel
  induction fuel with
  | zero =>
    intro listed S a k hsz hfu I hle hbe hdf
    have hr : Region.ready .any ops listed = [] := by
      apply List.eq_nil_iff_forall_not_mem.2
      intro i hi
      obtain ⟨h1, h2, h3⟩ := (mem_ready hsz).1 hi
      have := left_ins (ls := fun j => listed.getD j false) h1 h2
      omega
    exact ⟨hr, done listed S a k hsz hr I hle hbe hdf⟩
  | succ fuel ih =>
    intro listed S a k hsz hfu I hle hbe hdf
    exact ⟨fun hr => done listed S a k hsz hr I hle hbe hdf, step fuel listed S a k hsz hfu I hle hbe hdf ih⟩
theorem draw_ok (hm : C.P.follows .mixedOrders = true) (hl : mapO (compOper C ops) ops.toList = some l) {chk : List (Nat × Nat)} (hdr : drawOk ops l chk = true) {S : Sc} (hL : Link C S.L) (hF : CallsOK C.P S.L G F) {Q : Exit → Act → World → Prop} {h h' : Heap} {e e' : Env} {a : Act} {id : Nat}
    (hev : evOps G F l e h = some (e', h')) (hchk : chkOk e' l chk = true) (hE : EnvR S C.N e a) (H : HR A n0 S h.mem h.fz) (hG : Gok G S)
    (hQ : ∀ a' S', Ok A n0 S S' h'.mem h'.fz → EnvR S' C.N e' a' → a'.defers = a.defers → Q .normal a' S'.w) : (Code.region id ops true).wp C.P Q a S.w := by
  refine wp_region_any hm ?_
  obtain ⟨E, M, V, hE0, hM0, hEn, hMn, hs⟩ := seq_of hev
  have hll : l.length = ops.size := by rw [mapO_length hl]; simp
  have hfree := free_of hdr hs (by rw [hEn]; exact hchk)
  have dr := Ok.drew H
  -- the first write
  obtain ⟨k, hkl, hk1, hk2⟩ : ∃ k, k ≤ l.length ∧ (∀ j io, j < k → l[j]? = some io → isW io.op = false) ∧ (∀ io, l[k]? = some io → isW io.op = true) := by
    have : ∀ (l : List IOper), ∃ k, k ≤ l.length ∧ (∀ (j : Nat) (io : IOper), j < k → l[j]? = some io → isW io.op = false) ∧ (∀ (io : IOper), l[k]? = some io → isW io.op = true) := by
      intro l
      induction l with
      | nil => exact ⟨0, Nat.le_refl _, fun j io hj => by omega, fun io hio => by simp at hio⟩
      | cons x l ih =>
        cases hx : isW x.op with
        | true => exact ⟨0, by simp, fun j io hj => by omega, fun io hio => by simp at hio; subst hio; exact hx⟩
        | false =>
          obtain ⟨k, h1, h2, h3⟩ := ih
          refine ⟨k + 1, by simpa using h1, fun j io hj hio => ?_, fun io hio => h3 io (by simpa using hio)⟩
          cases j with
          | zero => simp at hio; subst hio; exact hx
          | succ j => exact h2 j io (by omega) (by simpa using hio)
    exact this l
  obtain ⟨⟨t, ht⟩, hf⟩ := seq_grows hs (Nat.zero_le k) hkl fun j io _ hj hio => hk1 j io hj hio
  have hS : (S.at S.w.drew).w = S.w.drew := rfl
  have hls : (fun i => (Array.replicate ops.size false).getD i false) = fun _ => false := by
    funext i
    rw [Array.getD_eq_getD_getElem?, Array.getElem?_replicate]
    split <;> rfl
  have hsel : selE l V (fun _ => false) (E 0) l.length = E 0 := by
    generalize l.length = n
    induction n with
    | zero => rfl
    | succ n ih => simp only [selE]; exact ih
  have I : Inv C A n0 ops l E M V S.L G (fun i => (Array.replicate ops.size false).getD i false) (S.at S.w.drew) a k := by
    rw [hls]
    refine ⟨fun i hi => Bool.noConfusion hi, rfl, ?_, hkl, ?_, ?_, ?_, ?_, hG.mono dr.le⟩
    · rw [hsel, hE0]; exact hE.mono dr.le
    · refine dr.hr.ext (fun b i hi => ?_) (fun b hb => hf b (by rw [hM0]; exact hb))
      obtain ⟨x, hx⟩ := dr.hr.dom b i hi
      show (M k).b[b]? = h.b[b]?
      rw [ht, hM0, List.getElem?_append_left (List.getElem?_eq_some_iff.1 hx).1]
    · intro i io hio hw
      refine ⟨fun q => Bool.noConfusion q, fun _ => ?_⟩
      rcases Nat.lt_or_ge i k with q | q
      · rw [hk1 i io q hio] at hw; cases hw
      · exact q
    · intro i io hio hsn hw
      rcases Nat.lt_or_ge i k with q | q
      · exact q
      · exfalso
        have hlt := (List.getElem?_eq_some_iff.1 hio).1
        have hk := hk2 l[k] (List.getElem?_eq_getElem (by omega))
        rcases Nat.lt_or_ge k i with r | r
        · exact (hfree.pair k i l[k] io r (List.getElem?_eq_getElem (by omega)) hio).2 ⟨hk, hsn, hw⟩
        · have : k = i := by omega
          subst this
          rw [hk2 io hio] at hw; cases hw
    · intro i io hio hsn hw _ hlen
      have hik : i ≤ k := by
        rcases Nat.lt_or_ge k i with q | q
        · have hlt := (List.getElem?_eq_some_iff.1 hio).1
          exact absurd ⟨hk2 l[k] (List.getElem?_eq_getElem (by omega)), hsn, hw⟩ (hfree.pair k i l[k] io q (List.getElem?_eq_getElem (by omega)) hio).2
        · exact q
      obtain ⟨⟨t2, ht2⟩, _⟩ := seq_grows hs (Nat.zero_le i) (by omega) fun j io _ hj hio => hk1 j io (by omega) hio
      exact dom_none dr.hr (by rw [ht2, hM0]; simp)
  have hdone := any_ok hl hfree hs hL hF (S0 := S.at S.w.drew) (df := a.defers) (Q := Q) (fun a' S' ok hE' hd => hQ a' S' (dr.trans (by rw [hMn] at ok; exact ok)) (by rw [hEn] at hE'; exact hE') hd)
    ops.size (Array.replicate ops.size false) (S.at S.w.drew) a k (by simp) (by unfold left; exact Nat.le_trans (List.length_filter_le _ _) (by simp)) I (.refl _) (.refl _ _) rfl
  exact hdone
end
end Go.Cv
namespace Go.Cv
def exOf : Ex → Exit
  | .norm => .normal
  | .ret => .ret
  | .exit id => .exit id
theorem getE_keep (l : List Nat) (e : Env) (t : Nat) : getE (keepE l e) t = if t ∈ l then getE e t else .undef := by
  unfold keepE
  induction l with
  | nil => simp [getE]
  | cons x l ih =>
    simp only [List.map_cons, getE, ih, List.mem_cons]
    by_cases h : t = x
    · subst h; simp
    · simp [h]
theorem envR_keep {S : Sc} {N : Nat} {e : Env} {a : Act} (h : EnvR S N e a) (l : List Nat) : EnvR S N (keepE l e) a :=
  ⟨h.size, fun t => by
    rw [getE_keep]
    split
    · exact h.get t
    · simp [Rel]⟩
section
variable {P : Program} {L : Nat → Option FuncId} {G : Nat → Option (List AV)} {T : Tbl}
def CodeOK (P : Program) (L : Nat → Option FuncId) (G : Nat → Option (List AV)) (E : IC → Env → Heap → Option (Ex × Env × Heap)) : Prop :=
  ∀ (C : CC), C.P = P → Link C L → ∀ (c : Code) (ic : IC), compC C c = some (erase ic) → ∀ (e : Env) (h : Heap) (x : Ex) (e' : Env) (h' : Heap), E ic e h = some (x, e', h') →
    ∀ (A : Nat → Prop) (n0 : Nat) (S : Sc) (a : Act), S.L = L → EnvR S C.N e a → HR A n0 S h.mem h.fz → Gok G S →
    ∀ (Q : Exit → Act → World → Prop), (∀ a' S', Ok A n0 S S' h'.mem h'.fz → EnvR S' C.N e' a' → a'.defers = a.defers → Q (exOf x) a' S'.w) → c.wp P Q a S.w
def LoopOK (P : Program) (L : Nat → Option FuncId) (G : Nat → Option (List AV)) (E : IC → Env → Heap → Option (Ex × Env × Heap)) (k : Nat) : Prop :=
  ∀ (C : CC), C.P = P → Link C L → ∀ (c : Code) (keep : List Nat) (ic : IC), compC C c = some (erase ic) → ∀ (e : Env) (h : Heap) (x : Ex) (e' : Env) (h' : Heap), E (.loop keep ic) e h = some (x, e', h') →
    ∀ (A : Nat → Prop) (n0 : Nat) (S : Sc) (a : Act), S.L = L → EnvR S C.N e a → HR A n0 S h.mem h.fz → Gok G S →
    ∀ (Q : Exit → Act → World → Prop), (∀ a' S', Ok A n0 S S' h'.mem h'.fz → EnvR S' C.N e' a' → a'.defers = a.defers → Q (exOf x) a' S'.w) → Code.rounds P c Q k a S.w
theorem then_of {P : Program} {Q : Exit → Act → World → Prop} {K : Act → World → Prop} {x : Ex} {a : Act} {w : World} (h : x ≠ .norm → Q (exOf x) a w) (k : x = .norm → K a w) : Exit.then K Q (exOf x) a w := by
  cases x
  · exact k rfl
  · exact h (by simp)
  · exact h (by simp)
theorem code_step (hm : P.follows .mixedOrders = true) {k : Nat} (hF : CallsOK P L G (callB G T (ev G T k))) (ih : CodeOK P L G (ev G T k)) (ihl : LoopOK P L G (ev G T k) k) :
    CodeOK P L G (ev G T (k + 1)) ∧ LoopOK P L G (ev G T (k + 1)) (k + 1) := by
  have lp : LoopOK P L G (ev G T (k + 1)) (k + 1) := by
    intro C hP hL c keep ic hc e h x e' h' hev A n0 S a hSL hE H hG Q hQ
    rw [ev_loop] at hev
    cases hb : ev G T k ic (keepE keep e) h with
    | none => rw [hb] at hev; cases hev
    | some r =>
      obtain ⟨y, e1, h1⟩ := r
      rw [hb, Option.bind_some] at hev
      rw [rounds_succ]
      refine ih C hP hL c ic hc _ h y e1 h1 hb A n0 S a hSL (envR_keep hE keep) H hG _ fun a1 S1 ok1 hE1 hd1 => ?_
      refine then_of (P := P) (fun hy => ?_) (fun hy => ?_)
      · have : thenB (ev G T k (.loop keep ic)) (y, e1, h1) = some (y, e1, h1) := by cases y <;> first | rfl | exact absurd rfl hy
        rw [this] at hev
        simp only [Option.some.injEq, Prod.mk.injEq] at hev
        obtain ⟨rfl, rfl, rfl⟩ := hev
        exact hQ a1 S1 ok1 hE1 hd1
      · subst hy
        exact ihl C hP hL c keep ic hc e1 h1 x e' h' hev A n0 S1 a1 (ok1.le.L.trans hSL) hE1 ok1.hr (hG.mono ok1.le) Q fun a2 S2 ok2 hE2 hd2 => hQ a2 S2 (ok1.trans ok2) hE2 (hd2.trans hd1)
  refine ⟨?_, lp⟩
  intro C hP hL c ic hc e h x e' h' hev A n0 S a hSL hE H hG Q hQ
  cases c <;> simp only [compC, reduceCtorEq, Option.map_eq_some_iff] at hc
  case skip =>
    cases ic <;> simp only [erase, Option.some.injEq, reduceCtorEq] at hc
    cases hev; exact wp_skip (hQ a S (.refl H) hE rfl)
  case ret =>
    cases ic <;> simp only [erase, Option.some.injEq, reduceCtorEq] at hc
    cases hev; exact wp_ret (hQ a S (.refl H) hE rfl)
  case exit id =>
    cases ic <;> simp only [erase, Option.some.injEq, reduceCtorEq, IC.exit.injEq] at hc
    subst hc
    cases hev; exact wp_exit (hQ a S (.refl H) hE rfl)
  case region id ops draw =>
    have go : ∀ {l : List IOper} {keep : List Nat} {chk : List (Nat × Nat)}, mapO (compOper C ops) ops.toList = some l → (draw = true → drawOk ops l chk = true) → ev G T (k + 1) (.reg l keep chk) e h = some (x, e', h') → (Code.region id ops draw).wp P Q a S.w := by
      intro l keep chk hl hd hev
      rw [ev_reg] at hev
      cases hb : evOps G (callB G T (ev G T k)) l e h with
      | none => rw [hb] at hev; cases hev
      | some r =>
        obtain ⟨e1, h1⟩ := r
        rw [hb] at hev
        simp only [Option.bind_some] at hev
        split at hev
        · next hck =>
          simp only [Option.some.injEq, Prod.mk.injEq] at hev
          obtain ⟨rfl, rfl, rfl⟩ := hev
          subst hP
          have hQ' : ∀ a' S', Ok A n0 S S' h1.mem h1.fz → EnvR S' C.N e1 a' → a'.defers = a.defers → Q .normal a' S'.w := fun a' S' ok hE' hdf => hQ a' S' ok (envR_keep hE' keep) hdf
          cases draw with
          | false => exact region_ok hl (hSL ▸ hL) (hSL ▸ hF) hb hE H hG hQ'
          | true => exact draw_ok hm hl (hd rfl) (hSL ▸ hL) (hSL ▸ hF) hb hck hE H hG hQ'
        · cases hev
    split at hc
    · next l hl =>
      split at hc
      · next hdr =>
        split at hc
        · next hd =>
          cases ic <;> simp only [erase, Option.some.injEq, reduceCtorEq, IC.reg.injEq] at hc
          obtain ⟨rfl, _, rfl⟩ := hc
          exact go hl (fun _ => hd) hev
        · cases ic <;> simp only [erase, Option.some.injEq, reduceCtorEq] at hc
          cases hev
      · next hdr =>
        cases ic <;> simp only [erase, Option.some.injEq, reduceCtorEq, IC.reg.injEq] at hc
        obtain ⟨rfl, _, rfl⟩ := hc
        exact go hl (fun q => absurd q hdr) hev
    · cases ic <;> simp only [erase, Option.some.injEq, reduceCtorEq] at hc
      cases hev
  case seq p q =>
    split at hc
    · next ip iq hp hq =>
      cases ic <;> simp only [erase, Option.some.injEq, reduceCtorEq, IC.seq.injEq] at hc
      rename_i ia ib
      obtain ⟨rfl, rfl⟩ := hc
      rw [ev_seq] at hev
      cases hb : ev G T k ia e h with
      | none => rw [hb] at hev; cases hev
      | some r =>
        obtain ⟨y, e1, h1⟩ := r
        rw [hb, Option.bind_some] at hev
        refine wp_seq (ih C hP hL p ia hp e h y e1 h1 hb A n0 S a hSL hE H hG _ fun a1 S1 ok1 hE1 hd1 => ?_)
        refine then_of (P := P) (fun hy => ?_) (fun hy => ?_)
        · have : thenB (ev G T k ib) (y, e1, h1) = some (y, e1, h1) := by cases y <;> first | rfl | exact absurd rfl hy
          rw [this] at hev
          simp only [Option.some.injEq, Prod.mk.injEq] at hev
          obtain ⟨rfl, rfl, rfl⟩ := hev
          exact hQ a1 S1 ok1 hE1 hd1
        · subst hy
          exact ih C hP hL q ib hq e1 h1 x e' h' hev A n0 S1 a1 (ok1.le.L.trans hSL) hE1 ok1.hr (hG.mono ok1.le) Q fun a2 S2 ok2 hE2 hd2 => hQ a2 S2 (ok1.trans ok2) hE2 (hd2.trans hd1)
    · cases hc
  case cond co p q =>
    split at hc
    · next io ip iq ho hp hq =>
      cases ic <;> simp only [erase, Option.some.injEq, reduceCtorEq, IC.cond.injEq] at hc
      rename_i oc ia ib
      obtain ⟨rfl, rfl, rfl⟩ := hc
      rw [ev_cond] at hev
      have hr := opd_rel (hSL ▸ hL) hE ho
      cases hv : opd e io <;> rw [hv] at hev hr <;> simp only [reduceCtorEq] at hev
      case bool t =>
        simp only [Rel] at hr
        cases t
        · exact wp_cond_false hr (ih C hP hL q ib hq e h x e' h' (by simpa using hev) A n0 S a hSL hE H hG Q hQ)
        · exact wp_cond_true hr (ih C hP hL p ia hp e h x e' h' (by simpa using hev) A n0 S a hSL hE H hG Q hQ)
    · cases hc
  case block id p =>
    obtain ⟨ip, hp, hc⟩ := hc
    cases ic <;> simp only [erase, reduceCtorEq, IC.block.injEq] at hc
    rename_i id' ia
    obtain ⟨rfl, rfl⟩ := hc
    rw [ev_block] at hev
    cases hb : ev G T k ia e h with
    | none => rw [hb] at hev; cases hev
    | some r =>
      obtain ⟨y, e1, h1⟩ := r
      rw [hb] at hev
      simp only [Option.bind_some, Option.some.injEq, Prod.mk.injEq] at hev
      obtain ⟨rfl, rfl, rfl⟩ := hev
      refine wp_block (ih C hP hL p ia hp e h y e1 h1 hb A n0 S a hSL hE H hG _ fun a1 S1 ok1 hE1 hd1 => ?_)
      have hq1 := hQ a1 S1 ok1 hE1 hd1
      cases y with
      | norm => exact hq1
      | ret => exact hq1
      | exit j =>
        simp only [Ex.inBlock] at hq1
        simp only [exOf, Exit.inBlock]
        split at hq1
        · next hj => subst hj; simpa [exOf] using hq1
        · next hj => simpa [hj, exOf] using hq1
  case loop p =>
    obtain ⟨ip, hp, hc⟩ := hc
    cases ic <;> simp only [erase, reduceCtorEq, IC.loop.injEq] at hc
    rename_i keep ia
    obtain ⟨_, rfl⟩ := hc
    exact wp_loop_rounds (k + 1) (lp C hP hL p keep ia hp e h x e' h' hev A n0 S a hSL hE H hG Q hQ)
structure ProgOK (P : Program) (L : Nat → Option FuncId) (T : Tbl) : Prop where
  fn : ∀ f g, L f = some g → ∃ (C : CC) (fn : Func) (c : Code) (fi : IFn), C.P = P ∧ Link C L ∧ P.funcs[g]? = some fn ∧ C.N ≤ fn.ntmps ∧ fn.body = some c ∧ T f = some fi ∧ compC C c = some (erase fi.body) ∧ mapO (compRes P) fn.results.toList = some fi.res
theorem numE_get : ∀ (vs : List AV) (n t : Nat), getE (numE n vs) t = if n ≤ t then vs.getD (t - n) .undef else .undef
  | [], n, t => by simp [numE, getE]
  | v :: vs, n, t => by
    simp only [numE, getE]
    by_cases h : t = n
    · subst h; simp
    · rw [if_neg h, numE_get vs (n + 1) t]
      by_cases h2 : n + 1 ≤ t
      · rw [if_pos h2, if_pos (by omega), show t - n = (t - (n + 1)) + 1 by omega]; simp
      · rw [if_neg h2, if_neg (by omega)]
theorem env_start {S : Sc} {vs : List AV} {us : List Value} (h : RelL S vs us) {N : Nat} : EnvR S N (numE 0 vs) { tmps := us.toArray ++ Array.replicate (N - us.toArray.size) undef, defers := [] } := by
  refine ⟨by simp; omega, fun t => ?_⟩
  rw [numE_get]
  simp only [Nat.zero_le, if_true, Nat.sub_zero]
  by_cases ht : t < vs.length
  · have hv : vs[t]? = some vs[t] := List.getElem?_eq_getElem ht
    obtain ⟨u, hu, hr⟩ := relL_get h t _ hv
    rw [List.getD_eq_getElem?_getD, hv, Array.getD_eq_getD_getElem?, Array.getElem?_append_left (by simpa using (List.getElem?_eq_some_iff.1 hu).1)]
    simp only [List.getElem?_toArray, hu, Option.getD_some]
    exact hr
  · rw [List.getD_eq_getElem?_getD, List.getElem?_eq_none (by omega)]
    simp [Rel]
theorem one_load {P : Program} {S : Sc} {hp : Mem} {fz : Nat → Prop} {A : Nat → Prop} {n0 : Nat} (H : HR A n0 S hp fz) {G : Nat → Option (List AV)} (hG : Gok G S) {N : Nat} {e : Env} {a : Act} (hE : EnvR S N e a) {h : Heap} (hh : hp = h.mem) {rv : ResultVar} {ir : IRes} (hc : compRes P rv = some ir) {v : AV} (hv : resOf G e h ir = some v) :
    ∃ u, (match rv with | .tmp t => pure (a.tmps.getD t undef) | .cell ad t => do loadVar t (← asAddr (a.tmps.getD ad undef)) : Sem Value).run P S.w = .ok u S.w ∧ Rel S v u := by
  subst hh
  cases rv with
  | tmp t =>
    simp only [compRes, Option.some.injEq] at hc; subst hc
    simp only [resOf, Option.some.injEq] at hv; subst hv
    exact ⟨_, rfl, hE.get t⟩
  | cell t ty =>
    simp only [compRes] at hc
    split at hc
    · next g i hg hi =>
      split at hc
      · next h1 =>
        cases hc
        simp only [resOf] at hv
        split at hv
        · next b off hb =>
          split at hv
          · next cs hcs =>
            have hr := hE.get t
            rw [hb] at hr
            obtain ⟨r, o, hu, hat, hl⟩ := rdAt_rel H (fun _ _ q => q) hG hcs hr
            obtain ⟨u, hrun, hv'⟩ := run_load_rel hg hi h1 hat hl hv
            refine ⟨u, ?_, hv'⟩
            simp [hu, asAddr, hrun]
          · cases hv
        · cases hv
      · cases hc
    · cases hc
theorem results_ok {P : Program} {S : Sc} {A : Nat → Prop} {n0 : Nat} {h : Heap} (H : HR A n0 S h.mem h.fz) {G : Nat → Option (List AV)} (hG : Gok G S) {N : Nat} {e : Env} {a : Act} (hE : EnvR S N e a) {fn : Func} {rs : List IRes} (hc : mapO (compRes P) fn.results.toList = some rs) {vs : List AV} (hv : resL G e h rs = some vs) :
    ∃ u, (results fn a.tmps).run P S.w = .ok u S.w ∧ Rel S (pack vs) u := by
  have key : ∀ (rvs : List ResultVar) (rs : List IRes) (vs : List AV), mapO (compRes P) rvs = some rs → resL G e h rs = some vs →
      ∃ us, (rvs.mapM fun | .tmp t => pure (a.tmps.getD t undef) | .cell ad t => do loadVar t (← asAddr (a.tmps.getD ad undef)) : Sem (List Value)).run P S.w = .ok us S.w ∧ RelL S vs us := by
    intro rvs
    induction rvs with
    | nil => intro rs vs h1 h2; simp [mapO] at h1; subst h1; simp [resL] at h2; subst h2; exact ⟨[], by simp, by simp [RelL]⟩
    | cons rv rvs ih =>
      intro rs vs h1 h2
      simp only [mapO] at h1
      split at h1
      · next ir irs h3 h4 =>
        cases h1
        simp only [resL] at h2
        split at h2
        · next v vs' h5 h6 =>
          cases h2
          obtain ⟨us, hu, hr⟩ := ih irs vs' h4 h6
          obtain ⟨u, hu1, hr1⟩ := one_load (P := P) H hG hE rfl h3 h5
          refine ⟨u :: us, ?_, by simp only [RelL]; exact ⟨u, us, rfl, hr1, hr⟩⟩
          simp only [List.mapM_cons, Sem.run_bind, hu1, Result.andThen_ok, hu, Sem.run_pure]
        · cases h2
      · cases h1
  obtain ⟨us, hu, hr⟩ := key fn.results.toList rs vs hc hv
  have hl := relL_length hr
  unfold results
  rw [Array.mapM_eq_mapM_toList]
  rw [Sem.run_bind, Sem.run_map]
  erw [hu]
  refine ⟨_, rfl, ?_⟩
  show Rel S (pack vs) (if h : us.toArray.size = 1 then us.toArray[0] else .tuple us.toArray)
  by_cases h1 : us.toArray.size = 1
  · rw [dif_pos h1]
    obtain ⟨u, rfl⟩ : ∃ u, us = [u] := List.length_eq_one_iff.1 (by simpa using h1)
    obtain ⟨v, rfl⟩ : ∃ v, vs = [v] := List.length_eq_one_iff.1 (by simpa using hl.symm)
    simp only [RelL] at hr
    obtain ⟨u', r, he, h2, _⟩ := hr
    cases he
    exact h2
  · rw [dif_neg h1]
    have hp : pack vs = .tup vs := by
      unfold pack
      split
      · next v => exfalso; simp at hl h1; omega
      · rfl
    rw [hp]
    simp only [Rel]
    exact ⟨us.toArray, rfl, by simpa using hr⟩
theorem calls_step (hP : ProgOK P L T) {k : Nat} (ih : CodeOK P L G (ev G T k)) : CallsOK P L G (callB G T (ev G T k)) := by
  have main : ∀ (inl : Bool) (f : Nat) (g : FuncId) (args : List AV) (h : Heap) (r : AV) (h' : Heap), L f = some g → callB G T (ev G T k) inl f args h = some (r, h') → ∀ (A : Nat → Prop) (n0 : Nat) (S : Sc) (us : List Value), S.L = L → HR A n0 S h.mem h.fz →
      Gok G S → RelL S args us → ∃ (vs : List AV) (h1 : Heap), (if inl then r = pack vs ∧ h' = h1 else snap h1.mem (pack vs) = some r) ∧ Calls P g us.toArray S.w fun e w' => ∃ u, e = .returned u ∧ Res A n0 S (pack vs) h1.mem h1.fz u w' := by
    intro inl f g args h r h' hLf hcall A n0 S us hSL H hG hu
    obtain ⟨C, fn, c, fi, hCP, hLC, hfn, hN, hbody, hT, hcomp, hres⟩ := hP.fn f g hLf
    rw [callB_bind, hT, Option.bind_some] at hcall
    cases hb : ev G T k fi.body (numE 0 args) h with
    | none => rw [hb] at hcall; cases hcall
    | some q =>
      obtain ⟨x, e1, h1⟩ := q
      rw [hb, Option.bind_some] at hcall
      have hx : ∃ vs, resL G e1 h1 fi.res = some vs ∧ (if inl then some (pack vs, h1) else (snap h1.mem (pack vs)).map fun r => (r, Heap.nil)) = some (r, h') ∧ (x = .norm ∨ x = .ret) := by
        cases x <;> simp only [callEnd, reduceCtorEq] at hcall
        · cases hr : resL G e1 h1 fi.res with
          | none => rw [hr] at hcall; cases hcall
          | some vs => rw [hr, Option.bind_some] at hcall; exact ⟨vs, rfl, hcall, .inl rfl⟩
        · cases hr : resL G e1 h1 fi.res with
          | none => rw [hr] at hcall; cases hcall
          | some vs => rw [hr, Option.bind_some] at hcall; exact ⟨vs, rfl, hcall, .inr rfl⟩
      obtain ⟨vs, hvs, hend, hx⟩ := hx
      refine ⟨vs, h1, ?_, ?_⟩
      · cases inl
        · simp only [Bool.false_eq_true, if_false, Option.map_eq_some_iff] at hend ⊢
          obtain ⟨q, hq, he⟩ := hend
          cases he; exact hq
        · simp only [if_true, Option.some.injEq, Prod.mk.injEq] at hend ⊢
          exact ⟨hend.1.symm, hend.2.symm⟩
      · have hE := env_start hu (N := fn.ntmps)
        have hE' : EnvR S C.N (numE 0 args) { tmps := us.toArray ++ Array.replicate (fn.ntmps - us.toArray.size) undef, defers := [] } := ⟨Nat.le_trans hN hE.size, hE.get⟩
        refine calls_of_wp hfn hbody (ih C hCP hLC c fi.body hcomp _ h x e1 h1 hb A n0 S _ hSL hE' H hG _ ?_)
        intro a1 S1 ok1 hE1 hd1
        obtain ⟨u, hu1, hu2⟩ := results_ok (P := P) ok1.hr (hG.mono ok1.le) hE1 hres hvs
        rcases hx with rfl | rfl
        · exact ⟨hd1, u, hu1, u, rfl, S1, rfl, ok1, hu2⟩
        · exact ⟨hd1, u, hu1, u, rfl, S1, rfl, ok1, hu2⟩
  refine ⟨?_, ?_⟩
  · intro f g args r h' hLf hcall w A us hA hG hu
    have H0 : HR A w.heap.size ⟨L, w, A, noι⟩ Heap.nil.mem Heap.nil.fz :=
      ⟨fun b k i hb => by simp [Heap.nil, Heap.mem] at hb, fun b i hi => by simp [noι] at hi, fun b b' k k' i i' hb => by simp [Heap.nil, Heap.mem] at hb,
       fun r hr => ⟨hA r hr, fun _ => hr, fun b k i hb => by simp [Heap.nil, Heap.mem] at hb⟩, Nat.le_refl _⟩
    obtain ⟨vs, h1, hsn, hc⟩ := main false f g args .nil r h' hLf hcall A w.heap.size ⟨L, w, A, noι⟩ us rfl H0 hG hu
    simp only [Bool.false_eq_true, if_false] at hsn
    refine hc.mono ?_
    rintro e w' ⟨u, rfl, S', rfl, ok, hr⟩
    have hsh : Shut S' ⟨L, S'.w, fun r => A r ∨ w.heap.size ≤ r ∧ r < S'.w.heap.size, noι⟩ := ⟨ok.le.L.symm, rfl, rfl, fun r hr => by
      obtain ⟨x, y, _⟩ := ok.hr.ro r hr
      rcases Nat.lt_or_ge r w.heap.size with q | q
      · exact .inl (y q)
      · exact .inr ⟨q, x⟩⟩
    refine ⟨u, rfl, ok.below, ?_⟩
    refine snapA_rel hsh (snapG_rel ok.hr (fun _ _ q => q) hsh 3) (pack vs) r u hsn ?_ hr
    intro b _ i hi ⟨k, hk, _⟩
    have B := ok.hr.blk b k i hk hi
    obtain ⟨_, _, hrow, _⟩ := B.row
    exact .inr ⟨B.low, row_lt hrow⟩
  · intro f g args h r h' hLf hcall A n0 S us hSL H hG hu
    obtain ⟨vs, h1, hsn, hc⟩ := main true f g args h r h' hLf hcall A n0 S us hSL H hG hu
    simp only [if_true] at hsn
    obtain ⟨rfl, rfl⟩ := hsn
    exact hc
theorem all_ok (hm : P.follows .mixedOrders = true) (hP : ProgOK P L T) : ∀ k, CodeOK P L G (ev G T k) ∧ LoopOK P L G (ev G T k) k
  | 0 => by
    constructor
    · intro C _ _ c ic _ e h x e' h' hev; cases hev
    · intro C _ _ c keep ic _ e h x e' h' hev; cases hev
  | k + 1 => code_step hm (calls_step hP (all_ok hm hP k).1) (all_ok hm hP k).1 (all_ok hm hP k).2
theorem run_sound (hm : P.follows .mixedOrders = true) (hP : ProgOK P L T) {f : Nat} {g : FuncId} {args : List AV} {r : AV} (hLf : L f = some g) (hr : run G T f args = some r)
    (w : World) (A : Nat → Prop) (hA : ∀ r, A r → r < w.heap.size) (hG : Gok G ⟨L, w, A, noι⟩) {us : List Value} (hu : RelL ⟨L, w, A, noι⟩ args us) :
    Calls P g us.toArray w fun e w' => ∃ u, e = .returned u ∧ Go.RowKit.Below w.heap.size w w' ∧ Rel ⟨L, w', fun r => A r ∨ w.heap.size ≤ r ∧ r < w'.heap.size, noι⟩ r u := by
  unfold run at hr
  rw [Option.map_eq_some_iff] at hr
  obtain ⟨⟨r', h'⟩, hc, rfl⟩ := hr
  obtain ⟨k, hk⟩ := ((CF_sup G T false f args .nil).sup _).1 hc
  exact (calls_step hP (all_ok hm hP k).1).shut f g args r' h' hLf hk w A us hA hG hu
end
end Go.Cv
