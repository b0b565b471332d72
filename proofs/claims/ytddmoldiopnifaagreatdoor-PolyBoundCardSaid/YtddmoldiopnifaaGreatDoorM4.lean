/-
  A part of the proof of the statements of this seat (texts that the law's own text leans on): no condition.
-/
import Derived.Test.YtddmoldiopnifaaGreatDoorM3
set_option linter.unusedVariables false
set_option linter.unusedSimpArgs false
namespace Go.Cv
section
variable {C : CC} {A : Nat → Prop} {n0 : Nat} {G : Nat → Option (List AV)} {F : CallF} {ops : Array Oper} {l : List IOper}
theorem put_defers (a : Act) (d : Option Tmp) (u : Value) : (a.put d u).defers = a.defers := by cases d <;> rfl
theorem mem_ready {listed : Array Bool} (hsz : listed.size = ops.size) {i : Nat} :
    i ∈ Region.ready .any ops listed ↔ i < ops.size ∧ listed.getD i false = false ∧ ∀ o, ops[i]? = some o → ∀ e ∈ o.after, Region.binds .any e = true → listed.getD e.on false = true := by
  unfold Region.ready
  rw [List.mem_filter, List.mem_range]
  constructor
  · rintro ⟨hi, h⟩
    simp only [Bool.and_eq_true, Bool.not_eq_true'] at h
    obtain ⟨h1, h2⟩ := h
    refine ⟨hi, ?_, fun o ho e he hb => ?_⟩
    · rw [Array.getD_eq_getD_getElem?] at h1 ⊢
      rw [Array.getElem?_eq_getElem (by omega)] at h1 ⊢
      exact h1
    · rw [ho] at h2
      simp only [Option.map_some, Option.getD_some] at h2
      have := Array.all_eq_true_iff_forall_mem.1 h2 e he
      simpa [hb] using this
  · rintro ⟨hi, h1, h2⟩
    refine ⟨hi, ?_⟩
    simp only [Bool.and_eq_true, Bool.not_eq_true']
    refine ⟨?_, ?_⟩
    · rw [Array.getD_eq_getD_getElem?] at h1 ⊢
      rw [Array.getElem?_eq_getElem (by omega)] at h1 ⊢
      exact h1
    · rw [Array.getElem?_eq_getElem hi]
      simp only [Option.map_some, Option.getD_some]
      refine Array.all_eq_true_iff_forall_mem.2 fun e he => ?_
      cases hb : Region.binds .any e with
      | false => rfl
      | true => simpa using h2 _ (Array.getElem?_eq_getElem hi) e he hb
def left (n : Nat) (ls : Nat → Bool) : Nat := ((List.range n).filter fun i => !ls i).length
theorem left_ins {n : Nat} {ls : Nat → Bool} {i : Nat} (hi : i < n) (hu : ls i = false) : left n (ins ls i) + 1 ≤ left n ls := by
  unfold left
  induction n with
  | zero => omega
  | succ n ih =>
    rw [List.range_succ, List.filter_append, List.filter_append, List.length_append, List.length_append]
    by_cases h : i = n
    · subst h
      have h1 : (List.filter (fun j => !ins ls i j) (List.range i)) = List.filter (fun j => !ls j) (List.range i) := List.filter_congr fun j hj => by
        have := List.mem_range.1 hj
        unfold ins; rw [if_neg (by omega)]
      rw [h1]
      simp [ins, hu]
    · have := ih (by omega)
      have h2 : ins ls i n = ls n := by unfold ins; rw [if_neg (fun q => h q.symm)]
      simp only [List.filter_cons, h2, List.filter_nil]
      omega
theorem any_ok (hl : mapO (compOper C ops) ops.toList = some l) {E : Nat → Env} (hfree : Free ops l E) {M : Nat → Heap} {V : Nat → AV} (hs : Seq G F l E M V) {L : Nat → Option FuncId} (hL : Link C L) (hF : CallsOK C.P L G F)
    {Q : Exit → Act → World → Prop} {S0 : Sc} {df : List Deferred} (hQ : ∀ a' S', Ok A n0 S0 S' (M l.length).mem (M l.length).fz → EnvR S' C.N (E l.length) a' → a'.defers = df → Q .normal a' S'.w) :
    ∀ (fuel : Nat) (listed : Array Bool) (S : Sc) (a : Act) (k : Nat), listed.size = ops.size → left ops.size (fun i => listed.getD i false) ≤ fuel →
      Inv C A n0 ops l E M V L G (fun i => listed.getD i false) S a k → S0.Le S → Go.RowKit.Below n0 S0.w S.w → a.defers = df → wpAny C.P .any ops Q fuel listed a S.w := by
  have hll : l.length = ops.size := by rw [mapO_length hl]; simp
  have done : ∀ (listed : Array Bool) (S : Sc) (a : Act) (k : Nat), listed.size = ops.size → Region.ready .any ops listed = [] →
      Inv C A n0 ops l E M V L G (fun i => listed.getD i false) S a k → S0.Le S → Go.RowKit.Below n0 S0.w S.w → a.defers = df → Q .normal a S.w := by
    intro listed S a k hsz hr I hle hbe hdf
    have all : ∀ i, i < ops.size → listed.getD i false = true := by
      intro i
      induction i using Nat.strongRecOn with
      | _ i ih =>
        intro hi
        cases hli : listed.getD i false with
        | true => rfl
        | false =>
          have : i ∈ Region.ready .any ops listed := (mem_ready hsz).2 ⟨hi, hli, fun o ho e he hb => ih e.on (hfree.back i o ho e he hb) (by have := hfree.back i o ho e he hb; omega)⟩
          rw [hr] at this; cases this
    have hM : M l.length = M k := seq_stays hs I.le (Nat.le_refl _) fun j y hkj hj hy => by
      cases hsy : sens y.op with
      | false => rfl
      | true =>
        exfalso
        cases hwy : isW y.op with
        | true => have := (I.wr j y hy hwy).1 (all j (by omega)); omega
        | false => have := I.qu j y hy hsy hwy; omega
    refine hQ a S ⟨hle, by rw [hM]; exact I.hr, hbe⟩ ⟨I.env.size, fun t => ?_⟩ hdf
    have := I.env.get t
    rwa [sel_full hs (Nat.le_refl _) fun j hj _ _ _ => all j (by omega)] at this
  have step : ∀ (fuel : Nat) (listed : Array Bool) (S : Sc) (a : Act) (k : Nat), listed.size = ops.size → left ops.size (fun i => listed.getD i false) ≤ fuel + 1 →
      Inv C A n0 ops l E M V L G (fun i => listed.getD i false) S a k → S0.Le S → Go.RowKit.Below n0 S0.w S.w → a.defers = df →
      (∀ (listed' : Array Bool) (S' : Sc) (a' : Act) (k' : Nat), listed'.size = ops.size → left ops.size (fun i => listed'.getD i false) ≤ fuel →
        Inv C A n0 ops l E M V L G (fun i => listed'.getD i false) S' a' k' → S0.Le S' → Go.RowKit.Below n0 S0.w S'.w → a'.defers = df → wpAny C.P .any ops Q fuel listed' a' S'.w) →
      ∀ i ∈ Region.ready .any ops listed, wpOp C.P ops Q i (wpAny C.P .any ops Q fuel (listed.setIfInBounds i true)) a S.w := by
    intro fuel listed S a k hsz hfu I hle hbe hdf ih i hi
    obtain ⟨h1, h2, h3⟩ := (mem_ready hsz).1 hi
    refine inv_step hl hfree hs hL hF I (by omega) h2 h3 fun S' u k' le be I' => ?_
    have hfn : (fun j => (listed.setIfInBounds i true).getD j false) = ins (fun j => listed.getD j false) i := by
      funext j
      unfold ins
      by_cases hj : j = i
      · subst hj
        rw [if_pos rfl, Array.getD_eq_getD_getElem?, Array.getElem?_setIfInBounds_self_of_lt (by omega)]; rfl
      · rw [if_neg hj, Array.getD_eq_getD_getElem?, Array.getElem?_setIfInBounds_ne (fun q => hj q.symm), ← Array.getD_eq_getD_getElem?]
    refine ih _ S' _ k' (by simpa using hsz) ?_ (by rw [hfn]; exact I') (hle.trans le) (hbe.trans be) (by rw [put_defers]; exact hdf)
    rw [hfn]
    have := left_ins (ls := fun j => listed.getD j false) h1 h2
    omega
  intro fuel
  induction fuel with
  | zero =>
    intro listed S a k hsz hfu I hle hbe hdf
    have hr : Region.ready .any ops listed = [] := by
      apply List.eq_nil_iff_forall_not_mem.2
      intro i hi
      obtain ⟨h1, h2, h3⟩ := (mem_ready hsz).1 hi
      have := left_ins (ls := fun j => listed.getD j false) h1 h2
      omega
    exact ⟨hr, done listed S a k hsz hr I hle hbe hdf⟩
  | succ fuel ih =>
    intro listed S a k hsz hfu I hle hbe hdf
    exact ⟨fun hr => done listed S a k hsz hr I hle hbe hdf, step fuel listed S a k hsz hfu I hle hbe hdf ih⟩
theorem draw_ok (hm : C.P.follows .mixedOrders = true) (hl : mapO (compOper C ops) ops.toList = some l) {chk : List (Nat × Nat)} (hdr : drawOk ops l chk = true) {S : Sc} (hL : Link C S.L) (hF : CallsOK C.P S.L G F) {Q : Exit → Act → World → Prop} {h h' : Heap} {e e' : Env} {a : Act} {id : Nat}
    (hev : evOps G F l e h = some (e', h')) (hchk : chkOk e' l chk = true) (hE : EnvR S C.N e a) (H : HR A n0 S h.mem h.fz) (hG : Gok G S)
    (hQ : ∀ a' S', Ok A n0 S S' h'.mem h'.fz → EnvR S' C.N e' a' → a'.defers = a.defers → Q .normal a' S'.w) : (Code.region id ops true).wp C.P Q a S.w := by
  refine wp_region_any hm ?_
  obtain ⟨E, M, V, hE0, hM0, hEn, hMn, hs⟩ := seq_of hev
  have hll : l.length = ops.size := by rw [mapO_length hl]; simp
  have hfree := free_of hdr hs (by rw [hEn]; exact hchk)
  have dr := Ok.drew H
  -- the first write
  obtain ⟨k, hkl, hk1, hk2⟩ : ∃ k, k ≤ l.length ∧ (∀ j io, j < k → l[j]? = some io → isW io.op = false) ∧ (∀ io, l[k]? = some io → isW io.op = true) := by
    have : ∀ (l : List IOper), ∃ k, k ≤ l.length ∧ (∀ (j : Nat) (io : IOper), j < k → l[j]? = some io → isW io.op = false) ∧ (∀ (io : IOper), l[k]? = some io → isW io.op = true) := by
      intro l
      induction l with
      | nil => exact ⟨0, Nat.le_refl _, fun j io hj => by omega, fun io hio => by simp at hio⟩
      | cons x l ih =>
        cases hx : isW x.op with
        | true => exact ⟨0, by simp, fun j io hj => by omega, fun io hio => by simp at hio; subst hio; exact hx⟩
        | false =>
          obtain ⟨k, h1, h2, h3⟩ := ih
          refine ⟨k + 1, by simpa using h1, fun j io hj hio => ?_, fun io hio => h3 io (by simpa using hio)⟩
          cases j with
          | zero => simp at hio; subst hio; exact hx
          | succ j => exact h2 j io (by omega) (by simpa using hio)
    exact this l
  obtain ⟨⟨t, ht⟩, hf⟩ := seq_grows hs (Nat.zero_le k) hkl fun j io _ hj hio => hk1 j io hj hio
  have hS : (S.at S.w.drew).w = S.w.drew := rfl
  have hls : (fun i => (Array.replicate ops.size false).getD i false) = fun _ => false := by
    funext i
    rw [Array.getD_eq_getD_getElem?, Array.getElem?_replicate]
    split <;> rfl
  have hsel : selE l V (fun _ => false) (E 0) l.length = E 0 := by
    generalize l.length = n
    induction n with
    | zero => rfl
    | succ n ih => simp only [selE]; exact ih
  have I : Inv C A n0 ops l E M V S.L G (fun i => (Array.replicate ops.size false).getD i false) (S.at S.w.drew) a k := by
    rw [hls]
    refine ⟨fun i hi => Bool.noConfusion hi, rfl, ?_, hkl, ?_, ?_, ?_, ?_, hG.mono dr.le⟩
    · rw [hsel, hE0]; exact hE.mono dr.le
    · refine dr.hr.ext (fun b i hi => ?_) (fun b hb => hf b (by rw [hM0]; exact hb))
      obtain ⟨x, hx⟩ := dr.hr.dom b i hi
      show (M k).b[b]? = h.b[b]?
      rw [ht, hM0, List.getElem?_append_left (List.getElem?_eq_some_iff.1 hx).1]
    · intro i io hio hw
      refine ⟨fun q => Bool.noConfusion q, fun _ => ?_⟩
      rcases Nat.lt_or_ge i k with q | q
      · rw [hk1 i io q hio] at hw; cases hw
      · exact q
    · intro i io hio hsn hw
      rcases Nat.lt_or_ge i k with q | q
      · exact q
      · exfalso
        have hlt := (List.getElem?_eq_some_iff.1 hio).1
        have hk := hk2 l[k] (List.getElem?_eq_getElem (by omega))
        rcases Nat.lt_or_ge k i with r | r
        · exact (hfree.pair k i l[k] io r (List.getElem?_eq_getElem (by omega)) hio).2 ⟨hk, hsn, hw⟩
        · have : k = i := by omega
          subst this
          rw [hk2 io hio] at hw; cases hw
    · intro i io hio hsn hw _ hlen
      have hik : i ≤ k := by
        rcases Nat.lt_or_ge k i with q | q
        · have hlt := (List.getElem?_eq_some_iff.1 hio).1
          exact absurd ⟨hk2 l[k] (List.getElem?_eq_getElem (by omega)), hsn, hw⟩ (hfree.pair k i l[k] io q (List.getElem?_eq_getElem (by omega)) hio).2
        · exact q
      obtain ⟨⟨t2, ht2⟩, _⟩ := seq_grows hs (Nat.zero_le i) (by omega) fun j io _ hj hio => hk1 j io (by omega) hio
      exact dom_none dr.hr (by rw [ht2, hM0]; simp)
  have hdone := any_ok hl hfree hs hL hF (S0 := S.at S.w.drew) (df := a.defers) (Q := Q) (fun a' S' ok hE' hd => hQ a' S' (dr.trans (by rw [hMn] at ok; exact ok)) (by rw [hEn] at hE'; exact hE') hd)
    ops.size (Array.replicate ops.size false) (S.at S.w.drew) a k (by simp) (by unfold left; exact Nat.le_trans (List.length_filter_le _ _) (by simp)) I (.refl _) (.refl _ _) rfl
  exact hdone
end
end Go.Cv
namespace Go.Cv
def exOf : Ex → Exit
  | .norm => .normal
  | .ret => .ret
  | .exit id => .exit id
theorem getE_keep (l : List Nat) (e : Env) (t : Nat) : getE (keepE l e) t = if t ∈ l then getE e t else .undef := by
  unfold keepE
  induction l with
  | nil => simp [getE]
  | cons x l ih =>
    simp only [List.map_cons, getE, ih, List.mem_cons]
    by_cases h : t = x
    · subst h; simp
    · simp [h]
theorem envR_keep {S : Sc} {N : Nat} {e : Env} {a : Act} (h : EnvR S N e a) (l : List Nat) : EnvR S N (keepE l e) a :=
  ⟨h.size, fun t => by
    rw [getE_keep]
    split
    · exact h.get t
    · simp [Rel]⟩
section
variable {P : Program} {L : Nat → Option FuncId} {G : Nat → Option (List AV)} {T : Tbl}
def CodeOK (P : Program) (L : Nat → Option FuncId) (G : Nat → Option (List AV)) (E : IC → Env → Heap → Option (Ex × Env × Heap)) : Prop :=
  ∀ (C : CC), C.P = P → Link C L → ∀ (c : Code) (ic : IC), compC C c = some (erase ic) → ∀ (e : Env) (h : Heap) (x : Ex) (e' : Env) (h' : Heap), E ic e h = some (x, e', h') →
    ∀ (A : Nat → Prop) (n0 : Nat) (S : Sc) (a : Act), S.L = L → EnvR S C.N e a → HR A n0 S h.mem h.fz → Gok G S →
    ∀ (Q : Exit → Act → World → Prop), (∀ a' S', Ok A n0 S S' h'.mem h'.fz → EnvR S' C.N e' a' → a'.defers = a.defers → Q (exOf x) a' S'.w) → c.wp P Q a S.w
def LoopOK (P : Program) (L : Nat → Option FuncId) (G : Nat → Option (List AV)) (E : IC → Env → Heap → Option (Ex × Env × Heap)) (k : Nat) : Prop :=
  ∀ (C : CC), C.P = P → Link C L → ∀ (c : Code) (keep : List Nat) (ic : IC), compC C c = some (erase ic) → ∀ (e : Env) (h : Heap) (x : Ex) (e' : Env) (h' : Heap), E (.loop keep ic) e h = some (x, e', h') →
    ∀ (A : Nat → Prop) (n0 : Nat) (S : Sc) (a : Act), S.L = L → EnvR S C.N e a → HR A n0 S h.mem h.fz → Gok G S →
    ∀ (Q : Exit → Act → World → Prop), (∀ a' S', Ok A n0 S S' h'.mem h'.fz → EnvR S' C.N e' a' → a'.defers = a.defers → Q (exOf x) a' S'.w) → Code.rounds P c Q k a S.w
theorem then_of {P : Program} {Q : Exit → Act → World → Prop} {K : Act → World → Prop} {x : Ex} {a : Act} {w : World} (h : x ≠ .norm → Q (exOf x) a w) (k : x = .norm → K a w) : Exit.then K Q (exOf x) a w := by
  cases x
  · exact k rfl
  · exact h (by simp)
  · exact h (by simp)
theorem code_step (hm : P.follows .mixedOrders = true) {k : Nat} (hF : CallsOK P L G (callB G T (ev G T k))) (ih : CodeOK P L G (ev G T k)) (ihl : LoopOK P L G (ev G T k) k) :
    CodeOK P L G (ev G T (k + 1)) ∧ LoopOK P L G (ev G T (k + 1)) (k + 1) := by
  have lp : LoopOK P L G (ev G T (k + 1)) (k + 1) := by
    intro C hP hL c keep ic hc e h x e' h' hev A n0 S a hSL hE H hG Q hQ
    rw [ev_loop] at hev
    cases hb : ev G T k ic (keepE keep e) h with
    | none => rw [hb] at hev; cases hev
    | some r =>
      obtain ⟨y, e1, h1⟩ := r
      rw [hb, Option.bind_some] at hev
      rw [rounds_succ]
      refine ih C hP hL c ic hc _ h y e1 h1 hb A n0 S a hSL (envR_keep hE keep) H hG _ fun a1 S1 ok1 hE1 hd1 => ?_
      refine then_of (P := P) (fun hy => ?_) (fun hy => ?_)
      · have : thenB (ev G T k (.loop keep ic)) (y, e1, h1) = some (y, e1, h1) := by cases y <;> first | rfl | exact absurd rfl hy
        rw [this] at hev
        simp only [Option.some.injEq, Prod.mk.injEq] at hev
        obtain ⟨rfl, rfl, rfl⟩ := hev
        exact hQ a1 S1 ok1 hE1 hd1
      · subst hy
        exact ihl C hP hL c keep ic hc e1 h1 x e' h' hev A n0 S1 a1 (ok1.le.L.trans hSL) hE1 ok1.hr (hG.mono ok1.le) Q fun a2 S2 ok2 hE2 hd2 => hQ a2 S2 (ok1.trans ok2) hE2 (hd2.trans hd1)
  refine ⟨?_, lp⟩
  intro C hP hL c ic hc e h x e' h' hev A n0 S a hSL hE H hG Q hQ
  cases c <;> simp only [compC, reduceCtorEq, Option.map_eq_some_iff] at hc
  case skip =>
    cases ic <;> simp only [erase, Option.some.injEq, reduceCtorEq] at hc
    cases hev; exact wp_skip (hQ a S (.refl H) hE rfl)
  case ret =>
    cases ic <;> simp only [erase, Option.some.injEq, reduceCtorEq] at hc
    cases hev; exact wp_ret (hQ a S (.refl H) hE rfl)
  case exit id =>
    cases ic <;> simp only [erase, Option.some.injEq, reduceCtorEq, IC.exit.injEq] at hc
    subst hc
    cases hev; exact wp_exit (hQ a S (.refl H) hE rfl)
  case region id ops draw =>
    have go : ∀ {l : List IOper} {keep : List Nat} {chk : List (Nat × Nat)}, mapO (compOper C ops) ops.toList = some l → (draw = true → drawOk ops l chk = true) → ev G T (k + 1) (.reg l keep chk) e h = some (x, e', h') → (Code.region id ops draw).wp P Q a S.w := by
      intro l keep chk hl hd hev
      rw [ev_reg] at hev
      cases hb : evOps G (callB G T (ev G T k)) l e h with
      | none => rw [hb] at hev; cases hev
      | some r =>
        obtain ⟨e1, h1⟩ := r
        rw [hb] at hev
        simp only [Option.bind_some] at hev
        split at hev
        · next hck =>
          simp only [Option.some.injEq, Prod.mk.injEq] at hev
          obtain ⟨rfl, rfl, rfl⟩ := hev
          subst hP
          have hQ' : ∀ a' S', Ok A n0 S S' h1.mem h1.fz → EnvR S' C.N e1 a' → a'.defers = a.defers → Q .normal a' S'.w := fun a' S' ok hE' hdf => hQ a' S' ok (envR_keep hE' keep) hdf
          cases draw with
          | false => exact region_ok hl (hSL ▸ hL) (hSL ▸ hF) hb hE H hG hQ'
          | true => exact draw_ok hm hl (hd rfl) (hSL ▸ hL) (hSL ▸ hF) hb hck hE H hG hQ'
        · cases hev
    split at hc
    · next l hl =>
      split at hc
      · next hdr =>
        split at hc
        · next hd =>
          cases ic <;> simp only [erase, Option.some.injEq, reduceCtorEq, IC.reg.injEq] at hc
          obtain ⟨rfl, _, rfl⟩ := hc
          exact go hl (fun _ => hd) hev
        · cases ic <;> simp only [erase, Option.some.injEq, reduceCtorEq] at hc
          cases hev
      · next hdr =>
        cases ic <;> simp only [erase, Option.some.injEq, reduceCtorEq, IC.reg.injEq] at hc
        obtain ⟨rfl, _, rfl⟩ := hc
        exact go hl (fun q => absurd q hdr) hev
    · cases ic <;> simp only [erase, Option.some.injEq, reduceCtorEq] at hc
      cases hev
  case seq p q =>
    split at hc
    · next ip iq hp hq =>
      cases ic <;> simp only [erase, Option.some.injEq, reduceCtorEq, IC.seq.injEq] at hc
      rename_i ia ib
      obtain ⟨rfl, rfl⟩ := hc
      rw [ev_seq] at hev
      cases hb : ev G T k ia e h with
      | none => rw [hb] at hev; cases hev
      | some r =>
        obtain ⟨y, e1, h1⟩ := r
        rw [hb, Option.bind_some] at hev
        refine wp_seq (ih C hP hL p ia hp e h y e1 h1 hb A n0 S a hSL hE H hG _ fun a1 S1 ok1 hE1 hd1 => ?_)
        refine then_of (P := P) (fun hy => ?_) (fun hy => ?_)
        · have : thenB (ev G T k ib) (y, e1, h1) = some (y, e1, h1) := by cases y <;> first | rfl | exact absurd rfl hy
          rw [this] at hev
          simp only [Option.some.injEq, Prod.mk.injEq] at hev
          obtain ⟨rfl, rfl, rfl⟩ := hev
          exact hQ a1 S1 ok1 hE1 hd1
        · subst hy
          exact ih C hP hL q ib hq e1 h1 x e' h' hev A n0 S1 a1 (ok1.le.L.trans hSL) hE1 ok1.hr (hG.mono ok1.le) Q fun a2 S2 ok2 hE2 hd2 => hQ a2 S2 (ok1.trans ok2) hE2 (hd2.trans hd1)
    · cases hc
  case cond co p q =>
    split at hc
    · next io ip iq ho hp hq =>
      cases ic <;> simp only [erase, Option.some.injEq, reduceCtorEq, IC.cond.injEq] at hc
      rename_i oc ia ib
      obtain ⟨rfl, rfl, rfl⟩ := hc
      rw [ev_cond] at hev
      have hr := opd_rel (hSL ▸ hL) hE ho
      cases hv : opd e io <;> rw [hv] at hev hr <;> simp only [reduceCtorEq] at hev
      case bool t =>
        simp only [Rel] at hr
        cases t
        · exact wp_cond_false hr (ih C hP hL q ib hq e h x e' h' (by simpa using hev) A n0 S a hSL hE H hG Q hQ)
        · exact wp_cond_true hr (ih C hP hL p ia hp e h x e' h' (by simpa using hev) A n0 S a hSL hE H hG Q hQ)
    · cases hc
  case block id p =>
    obtain ⟨ip, hp, hc⟩ := hc
    cases ic <;> simp only [erase, reduceCtorEq, IC.block.injEq] at hc
    rename_i id' ia
    obtain ⟨rfl, rfl⟩ := hc
    rw [ev_block] at hev
    cases hb : ev G T k ia e h with
    | none => rw [hb] at hev; cases hev
    | some r =>
      obtain ⟨y, e1, h1⟩ := r
      rw [hb] at hev
      simp only [Option.bind_some, Option.some.injEq, Prod.mk.injEq] at hev
      obtain ⟨rfl, rfl, rfl⟩ := hev
      refine wp_block (ih C hP hL p ia hp e h y e1 h1 hb A n0 S a hSL hE H hG _ fun a1 S1 ok1 hE1 hd1 => ?_)
      have hq1 := hQ a1 S1 ok1 hE1 hd1
      cases y with
      | norm => exact hq1
      | ret => exact hq1
      | exit j =>
        simp only [Ex.inBlock] at hq1
        simp only [exOf, Exit.inBlock]
        split at hq1
        · next hj => subst hj; simpa [exOf] using hq1
        · next hj => simpa [hj, exOf] using hq1
  case loop p =>
    obtain ⟨ip, hp, hc⟩ := hc
    cases ic <;> simp only [erase, reduceCtorEq, IC.loop.injEq] at hc
    rename_i keep ia
    obtain ⟨_, rfl⟩ := hc
    exact wp_loop_rounds (k + 1) (lp C hP hL p keep ia hp e h x e' h' hev A n0 S a hSL hE H hG Q hQ)
structure ProgOK (P : Program) (L : Nat → Option FuncId) (T : Tbl) : Prop where
  fn : ∀ f g, L f = some g → ∃ (C : CC) (fn : Func) (c : Code) (fi : IFn), C.P = P ∧ Link C L ∧ P.funcs[g]? = some fn ∧ C.N ≤ fn.ntmps ∧ fn.body = some c ∧ T f = some fi ∧ compC C c = some (erase fi.body) ∧ mapO (compRes P) fn.results.toList = some fi.res
theorem numE_get : ∀ (vs : List AV) (n t : Nat), getE (numE n vs) t = if n ≤ t then vs.getD (t - n) .undef else .undef
  | [], n, t => by simp [numE, getE]
  | v :: vs, n, t => by
    simp only [numE, getE]
    by_cases h : t = n
    · subst h; simp
    · rw [if_neg h, numE_get vs (n + 1) t]
      by_cases h2 : n + 1 ≤ t
      · rw [if_pos h2, if_pos (by omega), show t - n = (t - (n + 1)) + 1 by omega]; simp
      · rw [if_neg h2, if_neg (by omega)]
theorem env_start {S : Sc} {vs : List AV} {us : List Value} (h : RelL S vs us) {N : Nat} : EnvR S N (numE 0 vs) { tmps := us.toArray ++ Array.replicate (N - us.toArray.size) undef, defers := [] } := by
  refine ⟨by simp; omega, fun t => ?_⟩
  rw [numE_get]
  simp only [Nat.zero_le, if_true, Nat.sub_zero]
  by_cases ht : t < vs.length
  · have hv : vs[t]? = some vs[t] := List.getElem?_eq_getElem ht
    obtain ⟨u, hu, hr⟩ := relL_get h t _ hv
    rw [List.getD_eq_getElem?_getD, hv, Array.getD_eq_getD_getElem?, Array.getElem?_append_left (by simpa using (List.getElem?_eq_some_iff.1 hu).1)]
    simp only [List.getElem?_toArray, hu, Option.getD_some]
    exact hr
  · rw [List.getD_eq_getElem?_getD, List.getElem?_eq_none (by omega)]
    simp [Rel]
theorem one_load {P : Program} {S : Sc} {hp : Mem} {fz : Nat → Prop} {A : Nat → Prop} {n0 : Nat} (H : HR A n0 S hp fz) {G : Nat → Option (List AV)} (hG : Gok G S) {N : Nat} {e : Env} {a : Act} (hE : EnvR S N e a) {h : Heap} (hh : hp = h.mem) {rv : ResultVar} {ir : IRes} (hc : compRes P rv = some ir) {v : AV} (hv : resOf G e h ir = some v) :
    ∃ u, (match rv with | .tmp t => pure (a.tmps.getD t undef) | .cell ad t => do loadVar t (← asAddr (a.tmps.getD ad undef)) : Sem Value).run P S.w = .ok u S.w ∧ Rel S v u := by
  subst hh
  cases rv with
  | tmp t =>
    simp only [compRes, Option.some.injEq] at hc; subst hc
    simp only [resOf, Option.some.injEq] at hv; subst hv
    exact ⟨_, rfl, hE.get t⟩
  | cell t ty =>
    simp only [compRes] at hc
    split at hc
    · next g i hg hi =>
      split at hc
      · next h1 =>
        cases hc
        simp only [resOf] at hv
        split at hv
        · next b off hb =>
          split at hv
          · next cs hcs =>
            have hr := hE.get t
            rw [hb] at hr
            obtain ⟨r, o, hu, hat, hl⟩ := rdAt_rel H (fun _ _ q => q) hG hcs hr
            obtain ⟨u, hrun, hv'⟩ := run_load_rel hg hi h1 hat hl hv
            refine ⟨u, ?_, hv'⟩
            simp [hu, asAddr, hrun]
          · cases hv
        · cases hv
      · cases hc
    · cases hc
theorem results_ok {P : Program} {S : Sc} {A : Nat → Prop} {n0 : Nat} {h : Heap} (H : HR A n0 S h.mem h.fz) {G : Nat → Option (List AV)} (hG : Gok G S) {N : Nat} {e : Env} {a : Act} (hE : EnvR S N e a) {fn : Func} {rs : List IRes} (hc : mapO (compRes P) fn.results.toList = some rs) {vs : List AV} (hv : resL G e h rs = some vs) :
    ∃ u, (results fn a.tmps).run P S.w = .ok u S.w ∧ Rel S (pack vs) u := by
  have key : ∀ (rvs : List ResultVar) (rs : List IRes) (vs : List AV), mapO (compRes P) rvs = some rs → resL G e h rs = some vs →
      ∃ us, (rvs.mapM fun | .tmp t => pure (a.tmps.getD t undef) | .cell ad t => do loadVar t (← asAddr (a.tmps.getD ad undef)) : Sem (List Value)).run P S.w = .ok us S.w ∧ RelL S vs us := by
    intro rvs
    induction rvs with
    | nil => intro rs vs h1 h2; simp [mapO] at h1; subst h1; simp [resL] at h2; subst h2; exact ⟨[], by simp, by simp [RelL]⟩
    | cons rv rvs ih =>
      intro rs vs h1 h2
      simp only [mapO] at h1
      split at h1
      · next ir irs h3 h4 =>
        cases h1
        simp only [resL] at h2
        split at h2
        · next v vs' h5 h6 =>
          cases h2
          obtain ⟨us, hu, hr⟩ := ih irs vs' h4 h6
          obtain ⟨u, hu1, hr1⟩ := one_load (P := P) H hG hE rfl h3 h5
          refine ⟨u :: us, ?_, by simp only [RelL]; exact ⟨u, us, rfl, hr1, hr⟩⟩
          simp only [List.mapM_cons, Sem.run_bind, hu1, Result.andThen_ok, hu, Sem.run_pure]
        · cases h2
      · cases h1
  obtain ⟨us, hu, hr⟩ := key fn.results.toList rs vs hc hv
  have hl := relL_length hr
  unfold results
  rw [Array.mapM_eq_mapM_toList]
  rw [Sem.run_bind, Sem.run_map]
  erw [hu]
  refine ⟨_, rfl, ?_⟩
  show Rel S (pack vs) (if h : us.toArray.size = 1 then us.toArray[0] else .tuple us.toArray)
  by_cases h1 : us.toArray.size = 1
  · rw [dif_pos h1]
    obtain ⟨u, rfl⟩ : ∃ u, us = [u] := List.length_eq_one_iff.1 (by simpa using h1)
    obtain ⟨v, rfl⟩ : ∃ v, vs = [v] := List.length_eq_one_iff.1 (by simpa using hl.symm)
    simp only [RelL] at hr
    obtain ⟨u', r, he, h2, _⟩ := hr
    cases he
    exact h2
  · rw [dif_neg h1]
    have hp : pack vs = .tup vs := by
      unfold pack
      split
      · next v => exfalso; simp at hl h1; omega
      · rfl
    rw [hp]
    simp only [Rel]
    exact ⟨us.toArray, rfl, by simpa using hr⟩
theorem calls_step (hP : ProgOK P L T) {k : Nat} (ih : CodeOK P L G (ev G T k)) : CallsOK P L G (callB G T (ev G T k)) := by
  have main : ∀ (inl : Bool) (f : Nat) (g : FuncId) (args : List AV) (h : Heap) (r : AV) (h' : Heap), L f = some g → callB G T (ev G T k) inl f args h = some (r, h') → ∀ (A : Nat → Prop) (n0 : Nat) (S : Sc) (us : List Value), S.L = L → HR A n0 S h.mem h.fz →
      Gok G S → RelL S args us → ∃ (vs : List AV) (h1 : Heap), (if inl then r = pack vs ∧ h' = h1 else snap h1.mem (pack vs) = some r) ∧ Calls P g us.toArray S.w fun e w' => ∃ u, e = .returned u ∧ Res A n0 S (pack vs) h1.mem h1.fz u w' := by
    intro inl f g args h r h' hLf hcall A n0 S us hSL H hG hu
    obtain ⟨C, fn, c, fi, hCP, hLC, hfn, hN, hbody, hT, hcomp, hres⟩ := hP.fn f g hLf
    rw [callB_bind, hT, Option.bind_some] at hcall
    cases hb : ev G T k fi.body (numE 0 args) h with
    | none => rw [hb] at hcall; cases hcall
    | some q =>
      obtain ⟨x, e1, h1⟩ := q
      rw [hb, Option.bind_some] at hcall
      have hx : ∃ vs, resL G e1 h1 fi.res = some vs ∧ (if inl then some (pack vs, h1) else (snap h1.mem (pack vs)).map fun r => (r, Heap.nil)) = some (r, h') ∧ (x = .norm ∨ x = .ret) := by
        cases x <;> simp only [callEnd, reduceCtorEq] at hcall
        · cases hr : resL G e1 h1 fi.res with
          | none => rw [hr] at hcall; cases hcall
          | some vs => rw [hr, Option.bind_some] at hcall; exact ⟨vs, rfl, hcall, .inl rfl⟩
        · cases hr : resL G e1 h1 fi.res with
          | none => rw [hr] at hcall; cases hcall
          | some vs => rw [hr, Option.bind_some] at hcall; exact ⟨vs, rfl, hcall, .inr rfl⟩
      obtain ⟨vs, hvs, hend, hx⟩ := hx
      refine ⟨vs, h1, ?_, ?_⟩
      · cases inl
        · simp only [Bool.false_eq_true, if_false, Option.map_eq_some_iff] at hend ⊢
          obtain ⟨q, hq, he⟩ := hend
          cases he; exact hq
        · simp only [if_true, Option.some.injEq, Prod.mk.injEq] at hend ⊢
          exact ⟨hend.1.symm, hend.2.symm⟩
      · have hE := env_start hu (N := fn.ntmps)
        have hE' : EnvR S C.N (numE 0 args) { tmps := us.toArray ++ Array.replicate (fn.ntmps - us.toArray.size) undef, defers := [] } := ⟨Nat.le_trans hN hE.size, hE.get⟩
        refine calls_of_wp hfn hbody (ih C hCP hLC c fi.body hcomp _ h x e1 h1 hb A n0 S _ hSL hE' H hG _ ?_)
        intro a1 S1 ok1 hE1 hd1
        obtain ⟨u, hu1, hu2⟩ := results_ok (P := P) ok1.hr (hG.mono ok1.le) hE1 hres hvs
        rcases hx with rfl | rfl
        · exact ⟨hd1, u, hu1, u, rfl, S1, rfl, ok1, hu2⟩
        · exact ⟨hd1, u, hu1, u, rfl, S1, rfl, ok1, hu2⟩
  refine ⟨?_, ?_⟩
  · intro f g args r h' hLf hcall w A us hA hG hu
    have H0 : HR A w.heap.size ⟨L, w, A, noι⟩ Heap.nil.mem Heap.nil.fz :=
      ⟨fun b k i hb => by simp [Heap.nil, Heap.mem] at hb, fun b i hi => by simp [noι] at hi, fun b b' k k' i i' hb => by simp [Heap.nil, Heap.mem] at hb,
       fun r hr => ⟨hA r hr, fun _ => hr, fun b k i hb => by simp [Heap.nil, Heap.mem] at hb⟩, Nat.le_refl _⟩
    obtain ⟨vs, h1, hsn, hc⟩ := main false f g args .nil r h' hLf hcall A w.heap.size ⟨L, w, A, noι⟩ us rfl H0 hG hu
    simp only [Bool.false_eq_true, if_false] at hsn
    refine hc.mono ?_
    rintro e w' ⟨u, rfl, S', rfl, ok, hr⟩
    have hsh : Shut S' ⟨L, S'.w, fun r => A r ∨ w.heap.size ≤ r ∧ r < S'.w.heap.size, noι⟩ := ⟨ok.le.L.symm, rfl, rfl, fun r hr => by
      obtain ⟨x, y, _⟩ := ok.hr.ro r hr
      rcases Nat.lt_or_ge r w.heap.size with q | q
      · exact .inl (y q)
      · exact .inr ⟨q, x⟩⟩
    refine ⟨u, rfl, ok.below, ?_⟩
    refine snapA_rel hsh (snapG_rel ok.hr (fun _ _ q => q) hsh 3) (pack vs) r u hsn ?_ hr
    intro b _ i hi ⟨k, hk, _⟩
    have B := ok.hr.blk b k i hk hi
    obtain ⟨_, _, hrow, _⟩ := B.row
    exact .inr ⟨B.low, row_lt hrow⟩
  · intro f g args h r h' hLf hcall A n0 S us hSL H hG hu
    obtain ⟨vs, h1, hsn, hc⟩ := main true f g args h r h' hLf hcall A n0 S us hSL H hG hu
    simp only [if_true] at hsn
    obtain ⟨rfl, rfl⟩ := hsn
    exact hc
theorem all_ok (hm : P.follows .mixedOrders = true) (hP : ProgOK P L T) : ∀ k, CodeOK P L G (ev G T k) ∧ LoopOK P L G (ev G T k) k
  | 0 => by
    constructor
    · intro C _ _ c ic _ e h x e' h' hev; cases hev
    · intro C _ _ c keep ic _ e h x e' h' hev; cases hev
  | k + 1 => code_step hm (calls_step hP (all_ok hm hP k).1) (all_ok hm hP k).1 (all_ok hm hP k).2
theorem run_sound (hm : P.follows .mixedOrders = true) (hP : ProgOK P L T) {f : Nat} {g : FuncId} {args : List AV} {r : AV} (hLf : L f = some g) (hr : run G T f args = some r)
    (w : World) (A : Nat → Prop) (hA : ∀ r, A r → r < w.heap.size) (hG : Gok G ⟨L, w, A, noι⟩) {us : List Value} (hu : RelL ⟨L, w, A, noι⟩ args us) :
    Calls P g us.toArray w fun e w' => ∃ u, e = .returned u ∧ Go.RowKit.Below w.heap.size w w' ∧ Rel ⟨L, w', fun r => A r ∨ w.heap.size ≤ r ∧ r < w'.heap.size, noι⟩ r u := by
  unfold run at hr
  rw [Option.map_eq_some_iff] at hr
  obtain ⟨⟨r', h'⟩, hc, rfl⟩ := hr
  obtain ⟨k, hk⟩ := ((CF_sup G T false f args .nil).sup _).1 hc
  exact (calls_step hP (all_ok hm hP k).1).shut f g args r' h' hLf hk w A us hA hG hu
end
end Go.Cv
