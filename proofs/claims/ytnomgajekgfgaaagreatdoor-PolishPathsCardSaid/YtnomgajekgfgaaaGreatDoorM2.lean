/-
 A part of the proof of the statements of this seat (texts that the law's own text leans on): no condition.
-/
import Derived.Test.YtnomgajekgfgaaaGreatDoorM1
import Derived.ProofKit
import Derived.WalkKit
import Derived.RangeFuncIn
import Derived.RangeFuncRecord
import Derived.RangeFuncLeaves
import Derived.RangeFuncBound
set_option linter.unusedVariables false
set_option linter.unusedSimpArgs false
namespace Go.Cv
structure BI where
 r : Nat
 base : Nat
 len : Nat
 rs : Nat
structure YB where
 l : Nat
 r : Loop
 ro : Nat→Prop
 hp : Nat→Option Obj
 ι : Nat→Option BI
structure LK where
 f : Nat→Option FuncId
 y : Option YB:=none
instance : CoeFun LK (fun _ => Nat→Option FuncId):=⟨LK.f⟩
def LK.cut (L : LK) : LK:=⟨L.f,none⟩
structure Sc where
 L : LK
 w : World
 ro : Nat→Prop
 ι : Nat→Option BI
def Sc.cl (S : Sc) : Sc:={ S with ι:=fun _ => none }
def Sc.ny (S : Sc) : Sc:={ S with L:=S.L.cut }
mutual
def Rel (S : Sc) : AV→Value→Prop
 | .undef,_ => True
 | .int k n,u => u = .int k n
 | .bool b,u => u = .bool b
 | .fl k b,u => u = .float k b
 | .nil,u => u = .slice none 0 0
 | .imm n cs,u => ∃ a c,u = .slice a n c∧n≤c∧(cs = []∨∃ r o,a = some ⟨r,o,none⟩∧S.ro r∧RelAt S.cl r cs o)
 | .own b off n sz,u => ∃ i c,S.ι b = some i∧u = .slice (some ⟨i.r,i.base + off,none⟩) n c∧n≤c∧i.base + off + c * sz≤i.rs∧i.len≤off + c * sz
 | .ptr b off,u => ∃ i,S.ι b = some i∧u = .pointer (some ⟨i.r,i.base + off,none⟩)
 | .iptr cs off,u => ∃ r o,u = .pointer (some ⟨r,o + off,none⟩)∧(cs = []∨S.ro r∧RelAt S.cl r cs o)
 | .gptr g off,u => u = .pointer (some ⟨g,off,none⟩)
 | .agg cs,u => ∃ us,u = .agg us∧RelL S cs us.toList
 | .tup cs,u => ∃ us,u = .tuple us∧RelL S cs us.toList
 | .fn f cap,u => ∃ g us,S.L f = some g∧u = .func (.func g) #[] us∧RelL S.ny cap us.toList
 | .np,u => u = .pointer none
 | .nf,u => u = .nilFunc
 | .nan k,u => ∃ b,u = .float k b∧(k.format.read b).isNaN = true
 | .yv,u => ∃ b,S.L.y = some b∧u = .func (.yield b.l) #[] #[]
def RelL (S : Sc) : List AV→List Value→Prop
 | [],us => us = []
 | v :: vs,us => ∃ u r,us = u :: r∧Rel S v u∧RelL S vs r
def RelAt (S : Sc) (b : Nat) : List AV→Nat→Prop
 | [],_ => True
 | v :: vs,o => (∃ u,S.w.cell? ⟨b,o,none⟩ = some u∧u.oneCell' = true∧Rel S.ny v u)∧RelAt S b vs (o + 1)
end
structure Sc.Le (S S' : Sc) : Prop where
 L : S'.L = S.L
 ro : ∀ r,S.ro r→S'.ro r
 cells : ∀ r,S.ro r→S'.w.heap[r]? = S.w.heap[r]?
 ι : ∀ (b : Nat) (i : BI),S.ι b = some i→S'.ι b = some i
theorem Sc.Le.cl {S S' : Sc} (h : S.Le S') : S.cl.Le S'.cl:=⟨h.L,h.ro,h.cells,fun b i x => by simp [Sc.cl] at x⟩
theorem Sc.cl_le (S : Sc) : S.cl.Le S:=⟨rfl,fun _ h => h,fun _ _ => rfl,fun b i x => by simp [Sc.cl] at x⟩
theorem Sc.Le.refl (S : Sc) : S.Le S:=⟨rfl,fun _ h => h,fun _ _ => rfl,fun _ _ h => h⟩
theorem Sc.Le.trans {a b c : Sc} (h : a.Le b) (k : b.Le c) : a.Le c :=
 ⟨k.L.trans h.L,fun r x => k.ro r (h.ro r x),fun r x => (k.cells r (h.ro r x)).trans (h.cells r x),fun b i x => k.ι b i (h.ι b i x)⟩
structure Sc.Lw (S S' : Sc) : Prop where
 f : S'.L.f = S.L.f
 y : ∀ p,S.L.y = some p→S'.L.y = some p
 ro : ∀ r,S.ro r→(S'.ro r∧S'.w.heap[r]? = S.w.heap[r]?)∨∀ o,S.w.cell? ⟨r,o,none⟩ = none
 ι : ∀ (b : Nat) (i : BI),S.ι b = some i→S'.ι b = some i
theorem Sc.Lw.cl {S S' : Sc} (h : S.Lw S') : S.cl.Lw S'.cl:=⟨h.f,h.y,h.ro,fun b i x => by simp [Sc.cl] at x⟩
theorem Sc.Lw.ny {S S' : Sc} (h : S.Lw S') : S.ny.Lw S'.ny:=⟨h.f,fun p x => by simp [Sc.ny,LK.cut] at x,h.ro,h.ι⟩
theorem Sc.Le.lw {S S' : Sc} (h : S.Le S') : S.Lw S':=⟨by rw [h.L],fun p x => by rw [h.L]; exact x,fun r x => .inl ⟨h.ro r x,h.cells r x⟩,h.ι⟩
theorem Sc.ny_lw (S : Sc) : S.ny.Lw S:=⟨rfl,fun p x => by simp [Sc.ny,LK.cut] at x,fun r x => .inl ⟨x,rfl⟩,fun _ _ x => x⟩
theorem Sc.Le.ny {S S' : Sc} (h : S.Le S') : S.ny.Le S'.ny:=⟨by simp only [Sc.ny]; rw [h.L],h.ro,h.cells,h.ι⟩
theorem Zuy {S : Sc} {b : Nat} {v : AV} {vs : List AV} {o : Nat} (h : RelAt S b (v :: vs) o) : ¬ ∀ o,S.w.cell? ⟨b,o,none⟩ = none:=by
 intro q
 simp only [RelAt] at h
 obtain ⟨⟨u,h1,_⟩,_⟩:=h
 rw [q] at h1; cases h1
mutual
theorem Rel.gmono {S S' : Sc} (h : S.Lw S') : ∀ (v : AV) (u : Value),Rel S v u→Rel S' v u
 | .undef,_,_ => by simp only [Rel]
 | .int k n,u,x => by simpa only [Rel] using x
 | .bool b,u,x => by simpa only [Rel] using x
 | .fl k b,u,x => by simpa only [Rel] using x
 | .nil,u,x => by simpa only [Rel] using x
 | .imm n cs,u,x => by
  simp only [Rel] at x ⊢
  obtain ⟨a,c,e,hn,hx⟩:=x
  refine ⟨a,c,e,hn,?_⟩
  rcases hx with hx | ⟨r,o,ea,hr,hc⟩
  ·exact .inl hx
  ·match cs,hc with
   | [],_ => exact .inl rfl
   | v :: vs,hc =>
    rcases h.ro r hr with q | q
    ·exact .inr ⟨r,o,ea,q.1,RelAt.gmono h.cl r q (v :: vs) o hc⟩
    ·exact (Zuy (S:=S.cl) hc q).elim
 | .own b off n sz,u,x => by
  simp only [Rel] at x ⊢
  obtain ⟨i,c,hi,hx⟩:=x
  exact ⟨i,c,h.ι b i hi,hx⟩
 | .ptr b off,u,x => by
  simp only [Rel] at x ⊢
  obtain ⟨i,hi,hx⟩:=x
  exact ⟨i,h.ι b i hi,hx⟩
 | .iptr cs off,u,x => by
  simp only [Rel] at x ⊢
  obtain ⟨r,o,e,hx⟩:=x
  refine ⟨r,o,e,?_⟩
  rcases hx with hx | ⟨hr,hc⟩
  ·exact .inl hx
  ·match cs,hc with
   | [],_ => exact .inl rfl
   | v :: vs,hc =>
    rcases h.ro r hr with q | q
    ·exact .inr ⟨q.1,RelAt.gmono h.cl r q (v :: vs) o hc⟩
    ·exact (Zuy (S:=S.cl) hc q).elim
 | .gptr g off,u,x => by simpa only [Rel] using x
 | .agg cs,u,x => by
  simp only [Rel] at x ⊢
  obtain ⟨us,e,hx⟩:=x
  exact ⟨us,e,RelL.gmono h cs us.toList hx⟩
 | .tup cs,u,x => by
  simp only [Rel] at x ⊢
  obtain ⟨us,e,hx⟩:=x
  exact ⟨us,e,RelL.gmono h cs us.toList hx⟩
 | .fn f cs,u,x => by
  simp only [Rel] at x ⊢
  obtain ⟨g,us,hg,e,hx⟩:=x
  exact ⟨g,us,by rw [h.f]; exact hg,e,RelL.gmono h.ny cs us.toList hx⟩
 | .np,u,x => by simpa only [Rel] using x
 | .nf,u,x => by simpa only [Rel] using x
 | .nan k,u,x => by simpa only [Rel] using x
 | .yv,u,x => by
  simp only [Rel] at x ⊢
  obtain ⟨b,hy,e⟩:=x
  exact ⟨b,h.y _ hy,e⟩
theorem RelL.gmono {S S' : Sc} (h : S.Lw S') : ∀ (vs : List AV) (us : List Value),RelL S vs us→RelL S' vs us
 | [],us,x => by simpa only [RelL] using x
 | v :: vs,us,x => by
  simp only [RelL] at x ⊢
  obtain ⟨u,r,e,h1,h2⟩:=x
  exact ⟨u,r,e,Rel.gmono h v u h1,RelL.gmono h vs r h2⟩
theorem RelAt.gmono {S S' : Sc} (h : S.Lw S') (b : Nat) (hb : S'.ro b∧S'.w.heap[b]? = S.w.heap[b]?) : ∀ (vs : List AV) (o : Nat),RelAt S b vs o→RelAt S' b vs o
 | [],o,x => by simp only [RelAt]
 | v :: vs,o,x => by
  simp only [RelAt] at x ⊢
  obtain ⟨⟨u,h1,h2,h3⟩,h4⟩:=x
  exact ⟨⟨u,by rw [← h1]; exact World.cell?_of_block hb.2,h2,Rel.gmono h.ny v u h3⟩,RelAt.gmono h b hb vs (o + 1) h4⟩
end
theorem Rel.mono {S S' : Sc} (h : S.Le S') (v : AV) (u : Value) (x : Rel S v u) : Rel S' v u:=Rel.gmono h.lw v u x
theorem RelL.mono {S S' : Sc} (h : S.Le S') (vs : List AV) (us : List Value) (x : RelL S vs us) : RelL S' vs us:=RelL.gmono h.lw vs us x
theorem RelAt.mono {S S' : Sc} (h : S.Le S') (b : Nat) (hb : S.ro b) (vs : List AV) (o : Nat) (x : RelAt S b vs o) : RelAt S' b vs o:=RelAt.gmono h.lw b ⟨h.ro b hb,h.cells b hb⟩ vs o x
theorem Rel.up {S : Sc} {v : AV} {u : Value} (h : Rel S.ny v u) : Rel S v u:=Rel.gmono S.ny_lw v u h
theorem RelL.up {S : Sc} {vs : List AV} {us : List Value} (h : RelL S.ny vs us) : RelL S vs us:=RelL.gmono S.ny_lw vs us h
theorem Zam {S : Sc} {b : Nat} : ∀ {vs : List AV} {o : Nat},RelAt S b vs o↔∀ j v,vs[j]? = some v→∃ u,S.w.cell? ⟨b,o + j,none⟩ = some u∧u.oneCell' = true∧Rel S.ny v u
 | [],o => by simp [RelAt]
 | v :: vs,o => by
  simp only [RelAt]
  constructor
  ·rintro ⟨h0,h1⟩ j x hj
   cases j with
   | zero => simp at hj; subst hj; simpa using h0
   | succ j =>
    simp at hj
    have:=Zam.1 h1 j x hj
    rwa [show o + 1 + j = o + (j + 1) by omega] at this
  ·intro h
   refine ⟨by simpa using h 0 v rfl,Zam.2 fun j x hj => ?_⟩
   have:=h (j + 1) x (by simpa using hj)
   rwa [show o + (j + 1) = o + 1 + j by omega] at this
theorem ZmJ {S : Sc} {b : Nat} {vs : List AV} {o : Nat} : RelAt S.ny b vs o↔RelAt S b vs o:=by
 rw [Zam,Zam]; exact Iff.rfl
theorem Rel.down {S : Sc} {v : AV} {u : Value} (hv : okCell v = true) (h : Rel S v u) : Rel S.ny v u:=by
 cases v <;> simp only [okCell,Bool.false_eq_true] at hv <;> simp only [Rel] at h ⊢
 case imm n cs =>
  obtain ⟨a,c,e,hn,hx⟩:=h
  refine ⟨a,c,e,hn,hx.imp id ?_⟩
  rintro ⟨r,o,ea,hr,hc⟩
  exact ⟨r,o,ea,hr,ZmJ (S:=S.cl).2 hc⟩
 case iptr cs off =>
  obtain ⟨r,o,e,hx⟩:=h
  refine ⟨r,o,e,hx.imp id ?_⟩
  rintro ⟨hr,hc⟩
  exact ⟨hr,ZmJ (S:=S.cl).2 hc⟩
 all_goals exact h
theorem RelL.down {S : Sc} : ∀ {vs : List AV} {us : List Value},vs.all okCell = true→RelL S vs us→RelL S.ny vs us
 | [],us,_,h => by simpa only [RelL] using h
 | v :: vs,us,hv,h => by
  simp only [RelL] at h ⊢
  simp only [List.all_cons,Bool.and_eq_true] at hv
  obtain ⟨u,r,e,h1,h2⟩:=h
  exact ⟨u,r,e,Rel.down hv.1 h1,RelL.down hv.2 h2⟩
theorem RelL.cellV {S : Sc} : ∀ {vs : List AV} {us : List Value},RelL S vs us→RelL S.ny (vs.map Cv.cellV) us
 | [],us,h => by simpa only [RelL,List.map_nil] using h
 | v :: vs,us,h => by
  simp only [RelL,List.map_cons] at h ⊢
  obtain ⟨u,r,e,h1,h2⟩:=h
  refine ⟨u,r,e,?_,RelL.cellV h2⟩
  unfold Cv.cellV
  by_cases hv : okCell v = true
  ·rw [if_pos hv]; exact Rel.down hv h1
  ·rw [if_neg hv]; simp only [Rel]
theorem Zat {S : Sc} : ∀ {vs : List AV} {us : List Value},RelL S vs us→us.length = vs.length
 | [],us,h => by simp only [RelL] at h; subst h; rfl
 | v :: vs,us,h => by
  simp only [RelL] at h
  obtain ⟨u,r,rfl,_,h2⟩:=h
  simp [Zat h2]
theorem ZhG {S : Sc} : ∀ {vs : List AV} {us : List Value},RelL S vs us→∀ (j : Nat) (v : AV),vs[j]? = some v→∃ u,us[j]? = some u∧Rel S v u
 | [],us,h,j,v,hj => by simp at hj
 | v :: vs,us,h,j,x,hj => by
  simp only [RelL] at h
  obtain ⟨u,r,rfl,h1,h2⟩:=h
  cases j with
  | zero => simp at hj; subst hj; exact ⟨u,rfl,h1⟩
  | succ j => simpa using ZhG h2 j x (by simpa using hj)
theorem Zrf {S : Sc} : ∀ {vs : List AV} {us : List Value},us.length = vs.length→(∀ (j : Nat) (v : AV) (u : Value),vs[j]? = some v→us[j]? = some u→Rel S v u)→RelL S vs us
 | [],us,h,_ => by simp only [RelL]; exact List.length_eq_zero_iff.1 h
 | v :: vs,[],h,_ => by simp at h
 | v :: vs,u :: us,h,k => by
  simp only [RelL]
  exact ⟨u,us,rfl,k 0 v u rfl rfl,Zrf (by simpa using h) fun j x y hx hy => k (j + 1) x y (by simpa using hx) (by simpa using hy)⟩
theorem Zli {S : Sc} : ∀ {vs vs' : List AV} {us us' : List Value},RelL S vs us→RelL S vs' us'→RelL S (vs ++ vs') (us ++ us')
 | [],vs',us,us',h,k => by simp only [RelL] at h; subst h; exact k
 | v :: vs,vs',us,us',h,k => by
  simp only [RelL] at h
  obtain ⟨u,r,rfl,h1,h2⟩:=h
  simp only [List.cons_append,RelL]
  exact ⟨u,r ++ us',rfl,h1,Zli h2 k⟩
theorem ZeR (b o n : Nat) : (⟨b,o,none⟩ : Addr).add n = ⟨b,o + n,none⟩:=by
 unfold Addr.add
 split
 ·next h => subst h; rfl
 ·rfl
theorem ZmK {S : Sc} {b : Nat} : ∀ {vs : List AV} {o : Nat},RelAt S b vs o →
  ∃ us : List Value,RelL S.ny vs us∧(∀ j u,us[j]? = some u→S.w.cell? ((⟨b,o,none⟩ : Addr).add j) = some u)∧∀ u ∈ us,u.oneCell' = true
 | [],o,_ => ⟨[],by simp only [RelL],by simp,by simp⟩
 | v :: vs,o,h => by
  simp only [RelAt] at h
  obtain ⟨⟨u,h1,h2,h3⟩,h4⟩:=h
  obtain ⟨us,k1,k2,k3⟩:=ZmK h4
  refine ⟨u :: us,?_,?_,?_⟩
  ·simp only [RelL]; exact ⟨u,us,rfl,h3,k1⟩
  ·intro j x hj
   cases j with
   | zero => simp at hj; subst hj; rw [ZeR]; exact h1
   | succ j =>
    have:=k2 j x (by simpa using hj)
    rw [ZeR] at this ⊢
    rwa [show o + 1 + j = o + (j + 1) by omega] at this
  ·intro x hx
   rcases List.mem_cons.1 hx with rfl | hx
   ·exact h2
   ·exact k3 x hx
theorem ZlZ {S : Sc} {b : Nat} {vs : List AV} {o : Nat} (h : RelAt S b vs o) (i n : Nat) : RelAt S b ((vs.drop i).take n) (o + i) :=
 Zam.2 fun j v hj => by
  have hj' : vs[i + j]? = some v:=by
   rw [List.getElem?_take] at hj
   split at hj
   ·rwa [List.getElem?_drop] at hj
   ·cases hj
  have:=Zam.1 h (i + j) v hj'
  rwa [show o + (i + j) = o + i + j by omega] at this
theorem ZoO {S : Sc} {v : AV} {u : Value} (h : Rel S v u) (hv : okCell v = true) : u.oneCell' = true:=by
 cases v <;> simp only [okCell,Bool.false_eq_true] at hv <;> simp only [Rel] at h
 all_goals first
  | (subst h; rfl)
  | (obtain ⟨a,c,rfl,_⟩:=h; rfl)
  | (obtain ⟨i,c,_,rfl,_⟩:=h; rfl)
  | (obtain ⟨i,_,rfl⟩:=h; rfl)
  | (obtain ⟨g,us,_,rfl,_⟩:=h; rfl)
  | (obtain ⟨b,rfl,_⟩:=h; rfl)
theorem Zyx {u : Value} (h : ∀ us,u≠.agg us) : u.cells = #[u]:=by
 cases u <;> first | rfl | exact absurd rfl (h _)
theorem Zoq {S : Sc} {v : AV} {u : Value} (h : Rel S v u) (hv : (cellsA v).all okCell = true) :
  RelL S (cellsA v) u.cells.toList∧∀ x ∈ u.cells.toList,x.oneCell' = true:=by
 have hone : ∀ {vs : List AV} {us : List Value},RelL S vs us→vs.all okCell = true→∀ x ∈ us,x.oneCell' = true:=by
  intro vs
  induction vs with
  | nil => intro us h _ x hx; simp only [RelL] at h; subst h; cases hx
  | cons v vs ih =>
   intro us h hv x hx
   simp only [RelL] at h
   obtain ⟨u,r,rfl,h1,h2⟩:=h
   simp only [List.all_cons,Bool.and_eq_true] at hv
   rcases List.mem_cons.1 hx with rfl | hx
   ·exact ZoO h1 hv.1
   ·exact ih h2 hv.2 x hx
 cases v
 case agg cs =>
  simp only [Rel] at h
  obtain ⟨us,rfl,h⟩:=h
  exact ⟨h,hone h hv⟩
 all_goals
  simp only [cellsA,List.all_cons,List.all_nil,Bool.and_true] at hv
  have h1:=ZoO h hv
  have hc : u.cells = #[u]:=Zyx (by rintro us rfl; simp [Value.oneCell'] at h1)
  rw [hc]
  exact ⟨by simp only [cellsA,RelL]; exact ⟨u,[],rfl,h,rfl⟩,by simp [h1]⟩
structure BOk (n0 : Nat) (S : Sc) (k : Blk) (i : BI) : Prop where
 len : k.cs.length = i.len
 low : n0≤i.r
 fit : i.base + i.len≤i.rs
 row : ∃ c e,S.w.heap[i.r]? = some (.cells c e (0,0))∧c.size = i.rs
 cells : k.dead = false→RelAt S i.r k.cs i.base
structure HR (A : Nat→Prop) (n0 : Nat) (S : Sc) (hp : Mem) (fz : Nat→Prop) : Prop where
 blk : ∀ (b : Nat) (k : Blk) (i : BI),hp b = some k→S.ι b = some i→BOk n0 S k i
 dom : ∀ (b : Nat) (i : BI),S.ι b = some i→∃ k,hp b = some k
 inj : ∀ (b b' : Nat) (k k' : Blk) (i i' : BI),hp b = some k→hp b' = some k'→S.ι b = some i→S.ι b' = some i'→k.dead = false→k'.dead = false→i.r = i'.r→b = b'
 ro : ∀ r,S.ro r→r < S.w.heap.size∧(r < n0→A r)∧∀ (b : Nat) (k : Blk) (i : BI),hp b = some k→S.ι b = some i→k.dead = false→¬ fz b→i.r≠r
 old : n0≤S.w.heap.size
theorem Zha {w : World} {r : Nat} {o : Obj} (h : w.heap[r]? = some o) : r < w.heap.size:=by
 rcases Nat.lt_or_ge r w.heap.size with x | x
 ·exact x
 ·simp [Array.getElem?_eq_none x] at h
theorem HR.ext {A : Nat→Prop} {n0 : Nat} {S : Sc} {hp hp' : Mem} {fz fz' : Nat→Prop} (H : HR A n0 S hp fz) (he : ∀ (b : Nat) (i : BI),S.ι b = some i→hp' b = hp b) (hf : ∀ b,fz b→fz' b) : HR A n0 S hp' fz':=by
 have e : ∀ {b : Nat} {k : Blk} {i : BI},hp' b = some k→S.ι b = some i→hp b = some k:=fun hb hi => by rw [← he _ _ hi]; exact hb
 exact ⟨fun b k i hb hi => H.blk b k i (e hb hi) hi,fun b i hi => by rw [he b i hi]; exact H.dom b i hi,
  fun b b' k k' i i' hb hb' hi hi' => H.inj b b' k k' i i' (e hb hi) (e hb' hi') hi hi',
  fun r hr => let ⟨x,y,z⟩:=H.ro r hr; ⟨x,y,fun b k i hb hi hd hz => z b k i (e hb hi) hi hd fun q => hz (hf b q)⟩,H.old⟩
theorem HR.read {A : Nat→Prop} {n0 : Nat} {S : Sc} {hp hq : Mem} {fz : Nat→Prop} (H : HR A n0 S hp fz) (hle : ∀ b k,hq b = some k→hp b = some k) {b off n : Nat} {cs : List AV} (hr : rdBlk hq b off n = some cs) {i : BI} (hi : S.ι b = some i) :
  RelAt S i.r cs (i.base + off)∧cs.length = n:=by
 unfold rdBlk at hr
 cases hb : hq b with
 | none => simp [hb] at hr
 | some k =>
  simp only [hb] at hr
  split at hr
  ·cases hr
  ·next hd =>
   split at hr
   ·next hl =>
    cases hr
    have B:=H.blk b k i (hle b k hb) hi
    exact ⟨ZlZ (B.cells (by simpa using hd)) off n,by simp; omega⟩
   ·cases hr
end Go.Cv
namespace Go.Cv
structure CC where
 P : Program
 toS : FuncId→Option Nat
 inl : Nat→Bool
 dyn : Bool
 N : Nat
 inr : Bool:=false
def avC : Value→Option AV
 | .int k n => some (.int k n)
 | .bool b => some (.bool b)
 | .float k b => some (.fl k b)
 | .slice none 0 0 => some .nil
 | .pointer none => some .np
 | .nilFunc => some .nf
 | _ => none
def mapO {α β : Type} (f : α→Option β) : List α→Option (List β)
 | [] => some []
 | x :: xs => match f x,mapO f xs with
  | some y,some ys => some (y :: ys)
  | _,_ => none
def compOpd (C : CC) : Operand→Option IOpd
 | .tmp t => some (.t t)
 | .const v => (avC v).map .c
 | .global g => some (.g g)
 | .func f => (C.toS f).map .f
def aggT (P : Program) (t : TypeId) : Option Bool :=
 match P.underlying t with
 | some (.struct _) => some true
 | some (.array _ _) => some true
 | some _ => some false
 | none => none
def compParts (C : CC) (place : Nat→Option (Nat × Nat)) (ps : Array (Nat × Operand)) : Option (List (Nat × Nat × IOpd)) :=
 mapO (fun (i,x) => match place i,compOpd C x with
  | some (o,n),some y => some (o,n,y)
  | _,_ => none) ps.toList
def zeroC (P : Program) (t : TypeId) : Option (List AV) :=
 match P.info? t with
 | some i => match i.zero with
  | some z => if z.cells.size = i.size then mapO avC z.cells.toList else none
  | none => none
 | none => none
def placesOf (P : Program) (fields : Array Field) : Option (List (Nat × Nat)) :=
 mapO (fun f => (P.info? f.type).map fun i => (f.offset,i.size)) fields.toList
def leavesF (P : Program) (go : TypeId→Option (List Bool)) : Nat→List Field→Option (List Bool)
 | _,[] => some []
 | off,f :: fs => if f.name ≠ "_" ∧ f.offset = off then match go f.type,P.info? f.type with
   | some l,some i => if i.size = l.length then (leavesF P go (off + l.length) fs).map (l ++ ·) else none
   | _,_ => none
  else none
def leavesC (P : Program) : Nat→TypeId→Option (List Bool)
 | 0,_ => none
 | d + 1,t => match P.underlying t with
  | some (.int _) => some [false]
  | some .bool => some [true]
  | some (.struct fs) => if P.stoodInHeld t then none else leavesF P (leavesC P d) 0 fs.toList
  | _ => none
def compOp (C : CC) : Op→Option IOp
 | .move x => (compOpd C x).map .mov
 | .assign x => (compOpd C x).map .mov
 | .pick c a b => match compOpd C c,compOpd C a,compOpd C b with
  | some c,some a,some b => some (.pick c a b)
  | _,_,_ => none
 | .binOp op xt x y _ => match compOpd C x,compOpd C y with
  | some x,some y => match C.P.underlying xt with
   | some (.int _) => some (.bin op x y)
   | some .bool => match op with
    | .eql => some (.eqb false x y)
    | .neq => some (.eqb true x y)
    | _ => none
   | some (.struct _) => match leavesC C.P 8 xt with
    | some ls => if C.P.eqGuardType C.P.depth xt then none else match op with
     | .eql => some (.eqs false ls x y)
     | .neq => some (.eqs true ls x y)
     | _ => none
    | none => none
   | _ => none
  | _,_ => none
 | .unOp op _ x => (compOpd C x).map (.un op)
 | .convert s d x => match C.P.underlying s,C.P.underlying d,compOpd C x with
  | some (.int _),some (.int k),some x => some (.cvt k x)
  | _,_,_ => none
 | .extract x i => (compOpd C x).map fun x => .ext x i
 | .load t a => match aggT C.P t,C.P.info? t,compOpd C a with
  | some g,some i,some a => if g || i.size == 1 then some (.load g i.size a) else none
  | _,_,_ => none
 | .store t a v => match C.P.info? t,compOpd C a,compOpd C v with
  | some i,some a,some v => some (.store i.size a v)
  | _,_,_ => none
 | .alloc t => (zeroC C.P t).map .alloc
 | .box t x => match C.P.info? t,compOpd C x with
  | some i,some x => some (.box i.size x)
  | _,_ => none
 | .build t ps => match C.P.underlying t,zeroC C.P t with
  | some (.struct fields),some z => match placesOf C.P fields with
   | some pl => (compParts C (pl[·]?) ps).map (.build z)
   | none => none
  | some (.array _ e),some z => match C.P.info? e with
   | some i => (compParts C (fun j => some (j * i.size,i.size)) ps).map (.build z)
   | none => none
  | _,_ => none
 | .buildSlice t n ps => match C.P.underlying t with
  | some (.slice e) => match C.P.info? e,zeroC C.P e with
   | some i,some z => if n * i.size≤16777216 then (compParts C (fun j => some (j * i.size,i.size)) ps).map (.bslice n i.size z) else none
   | _,_ => none
  | _ => none
 | .fieldAddr s x f => match C.P.underlying s,compOpd C x with
  | some (.struct fields),some x => match fields[f]? with
   | some f => match C.P.info? f.type with
    | some i => if i.size = 0 then none else some (.faddr f.offset x)
    | none => none
   | none => none
  | _,_ => none
 | .field s x f => match C.P.underlying s,compOpd C x with
  | some (.struct fields),some x => match fields[f]? with
   | some f => match C.P.info? f.type,aggT C.P f.type with
    | some i,some g => if g || i.size == 1 then some (.field g f.offset i.size x) else none
    | _,_ => none
   | none => none
  | _,_ => none
 | .indexAddr t x i => match C.P.underlying t,compOpd C x,compOpd C i with
  | some (.slice e),some x,some i => (C.P.info? e).map fun inf => .iaddr inf.size x i
  | some (.array n e),some x,some i => (C.P.info? e).map fun inf => .iaddrA n inf.size x i
  | _,_,_ => none
 | .index t (.const (.string s)) i => match C.P.underlying t,compOpd C i with
  | some .string,some i => some (.strix (s.data.toList.map (·.toNat)) i)
  | _,_ => none
 | .index t x i => match C.P.underlying t,compOpd C x,compOpd C i with
  | some (.array n e),some x,some i => match C.P.info? e,aggT C.P e with
   | some inf,some g => if g || inf.size == 1 then some (.index g n inf.size x i) else none
   | _,_ => none
  | _,_,_ => none
 | .slice t x lo hi none => match C.P.underlying t,compOpd C x with
  | some (.slice e),some x => match C.P.info? e with
   | some i => match lo,hi with
    | none,none => some (.slice i.size x none none)
    | some l,none => (compOpd C l).map fun l => .slice i.size x (some l) none
    | none,some h => (compOpd C h).map fun h => .slice i.size x none (some h)
    | some l,some h => match compOpd C l,compOpd C h with
     | some l,some h => some (.slice i.size x (some l) (some h))
     | _,_ => none
   | none => none
  | _,_ => none
 | .makeSlice t l c => match C.P.underlying t,compOpd C l,compOpd C c with
  | some (.slice e),some l,some c => match C.P.info? e,zeroC C.P e with
   | some i,some z => some (.mk i.size i.bytes z l c)
   | _,_ => none
  | _,_,_ => none
 | .makeFunc (.func f) first cap => if first.size = 0 then (match C.toS f,mapO (compOpd C) cap.toList with
   | some f,some cap => some (.mkfn f cap)
   | _,_ => none) else none
 | .call { callee:=.builtin .len,args,argTypes } => match args.toList,argTypes.toList with
  | [x],[t] => match C.P.underlying t with
   | some (.slice _) => (compOpd C x).map .len
   | _ => none
  | _,_ => none
 | .call { callee:=.builtin .max,args,.. } => match mapO (compOpd C) args.toList with
  | some (x :: xs) => some (.mm true x xs)
  | _ => none
 | .call { callee:=.builtin .min,args,.. } => match mapO (compOpd C) args.toList with
  | some (x :: xs) => some (.mm false x xs)
  | _ => none
 | .call { callee:=.builtin .append,args,argTypes } => match args.toList,argTypes.toList with
  | [x,y],[t,t'] => match C.P.underlying t,C.P.underlying t',compOpd C x,compOpd C y with
   | some (.slice e),some (.slice _),some x,some y => match C.P.info? e,zeroC C.P e with
    | some i,some _ => if i.bytes = 0 then none else some (.app i.size i.bytes x y)
    | _,_ => none
   | _,_,_,_ => none
  | _,_ => none
 | .call { callee:=.value f,args,.. } => match compOpd C f,mapO (compOpd C) args.toList with
  | some (.f n),some as => some (.call (C.inl n) (.f n) as)
  | some (.t n),some as => some (.call C.dyn (.t n) as)
  | _,_ => none
 | _ => none
def gdst (ops : Array Oper) : Option (Nat × Bool)→Option (Option (Nat × Bool))
 | none => some none
 | some (j,want) => match (ops[j]?).bind (·.dst) with
  | some t => some (some (t,want))
  | none => none
def compOper (C : CC) (ops : Array Oper) (o : Oper) : Option IOper :=
 match compOp C o.op,gdst ops o.guard with
 | some op,some g => match o.dst with
  | none => some ⟨none,op,g⟩
  | some d => if d < C.N then some ⟨some d,op,g⟩ else none
 | _,_ => none
def opdT : IOpd→List Nat
 | .t n => [n]
 | _ => []
def tmpsOf : IOp→List Nat
 | .mov x => opdT x
 | .pick c a b => opdT c ++ opdT a ++ opdT b
 | .bin _ x y => opdT x ++ opdT y
 | .eqb _ x y => opdT x ++ opdT y
 | .eqs _ _ x y => opdT x ++ opdT y
 | .un _ x => opdT x
 | .cvt _ x => opdT x
 | .ext x _ => opdT x
 | .load _ _ a => opdT a
 | .store _ a v => opdT a ++ opdT v
 | .alloc _ => []
 | .box _ x => opdT x
 | .build _ ps => ps.flatMap fun p => opdT p.2.2
 | .bslice _ _ _ ps => ps.flatMap fun p => opdT p.2.2
 | .faddr _ x => opdT x
 | .field _ _ _ x => opdT x
 | .iaddr _ x i => opdT x ++ opdT i
 | .iaddrA _ _ x i => opdT x ++ opdT i
 | .index _ _ _ x i => opdT x ++ opdT i
 | .strix _ i => opdT i
 | .slice _ x lo hi => opdT x ++ (lo.toList ++ hi.toList).flatMap opdT
 | .mk _ _ _ l c => opdT l ++ opdT c
 | .len x => opdT x
 | .mm _ x xs => opdT x ++ xs.flatMap opdT
 | .app _ _ x y => opdT x ++ opdT y
 | .call _ f as => opdT f ++ as.flatMap opdT
 | .mkfn _ cap => cap.flatMap opdT
def readsOf (o : IOper) : List Nat:=tmpsOf o.op ++ (o.guard.map (·.1)).toList
def sens : IOp→Bool
 | .load _ _ _ | .store _ _ _ | .alloc _ | .box _ _ | .bslice _ _ _ _ | .slice _ _ _ _ | .mk _ _ _ _ _ | .app _ _ _ _ | .call _ _ _ => true
 | _ => false
def indT (x y : IOper) : Bool :=
 (match x.dst with
  | some d => !(readsOf y).contains d && y.dst != some d
  | none => true) &&
 (match y.dst with
  | some d => !(readsOf x).contains d
  | none => true)
def indM (x y : IOper) : Bool:=!(isW x.op && sens y.op) && !(sens x.op && isW y.op)
def loneS (l : List IOper) (i j : Nat) : Bool :=
 match l[i]?,l[j]? with
 | some ⟨_,.load _ _ a,_⟩,some ⟨_,.store _ b _,_⟩ =>
  (List.range l.length).all fun m => match l[m]? with
   | some z => (decide (m < i) || (opdT a).all fun t => z.dst != some t) && (decide (m < j) || (opdT b).all fun t => z.dst != some t)
   | none => true
 | _,_ => false
def chkOf (ops : Array Oper) (l : List IOper) : List (Nat × Nat) :=
 let b:=Region.before ops
 (List.range l.length).flatMap fun j => (List.range j).filterMap fun i => match l[i]?,l[j]? with
  | some x,some y => if (b.getD j 0).testBit i || indM x y then none else some (i,j)
  | _,_ => none
def drawOk (ops : Array Oper) (l : List IOper) (chk : List (Nat × Nat)) : Bool :=
 let b:=Region.before ops
 ((List.range ops.size).all fun i => match ops[i]? with
  | some o => o.after.toList.all fun e => !Region.binds .any e || decide (e.on < i)
  | none => true) &&
 ((List.range l.length).all fun j => (List.range j).all fun i => match l[i]?,l[j]? with
  | some x,some y => ((b.getD j 0).testBit i || (indT x y && (indM x y || (chk.contains (i,j) && loneS l i j)))) && !(isW x.op && sens y.op && !isW y.op)
  | _,_ => true)
def compC (C : CC) : Code→Option IC
 | .skip => some .skip
 | .ret => some .ret
 | .exit id => some (.exit id)
 | .region _ ops draw => match mapO (compOper C ops) ops.toList with
  | some l => if draw then (if drawOk ops l (chkOf ops l) then some (.reg l [] (chkOf ops l)) else some .fail) else some (.reg l [] [])
  | none => some .fail
 | .seq a b => match compC C a,compC C b with
  | some a,some b => some (.seq a b)
  | _,_ => none
 | .cond c a b => match compOpd C c,compC C a,compC C b with
  | some c,some a,some b => some (.cond c a b)
  | _,_,_ => none
 | .block id a => (compC C a).map (.block id)
 | .loop a => (compC C a).map (.loop [])
 | .rangeFunc g ps a b => if C.inr = false∧ps.toList.all (fun p => decide (p < C.N)) = true then (match compOpd C g,compC { C with inr:=true } a,compC { C with inr:=true } b with
  | some g,some a,some b => some (.rangeF g ps.toList a b)
  | _,_,_ => none) else none
 | _ => none
def erase : IC→IC
 | .reg ops _ chk => .reg ops [] chk
 | .seq a b => .seq (erase a) (erase b)
 | .cond c a b => .cond c (erase a) (erase b)
 | .block id a => .block id (erase a)
 | .loop _ a => .loop [] (erase a)
 | .rangeF g ps a b => .rangeF g ps (erase a) (erase b)
 | c => c
def compRes (P : Program) : ResultVar→Option IRes
 | .tmp t => some (.tmp t)
 | .cell t ty => match aggT P ty,P.info? ty with
  | some g,some i => if g || i.size == 1 then some (.cell t g i.size) else none
  | _,_ => none
theorem Zey {α β : Type} {f : α→Option β} : ∀ {xs : List α} {ys : List β},mapO f xs = some ys→ys.length = xs.length
 | [],ys,h => by simp [mapO] at h; subst h; rfl
 | x :: xs,ys,h => by
  simp only [mapO] at h
  split at h
  ·next y ys' h1 h2 => cases h; simp [Zey h2]
  ·cases h
theorem ZpG {α β : Type} {f : α→Option β} : ∀ {xs : List α} {ys : List β},mapO f xs = some ys→∀ (j : Nat) (y : β),ys[j]? = some y→∃ x,xs[j]? = some x∧f x = some y
 | [],ys,h,j,y,hj => by simp [mapO] at h; subst h; simp at hj
 | x :: xs,ys,h,j,y,hj => by
  simp only [mapO] at h
  split at h
  ·next y' ys' h1 h2 =>
   cases h
   cases j with
   | zero => simp at hj; subst hj; exact ⟨x,rfl,h1⟩
   | succ j => simpa using ZpG h2 j y (by simpa using hj)
  ·cases h
theorem Zym {S : Sc} {v : Value} {x : AV} (h : avC v = some x) : Rel S x v∧okCell x = true:=by
 unfold avC at h
 split at h <;> cases h <;> simp [Rel,okCell]
theorem ZgW {S : Sc} {us : List Value} {vs : List AV} (h : mapO avC us = some vs) : RelL S vs us∧vs.all okCell = true:=by
 induction us generalizing vs with
 | nil => simp [mapO] at h; subst h; simp [RelL]
 | cons u us ih =>
  simp only [mapO] at h
  split at h
  ·next y ys h1 h2 =>
   cases h
   obtain ⟨a,b⟩:=Zym (S:=S) h1
   obtain ⟨c,d⟩:=ih h2
   exact ⟨by simp only [RelL]; exact ⟨u,us,rfl,a,c⟩,by simp [b,d]⟩
  ·cases h
structure Link (C : CC) (L : LK) : Prop where
 to : ∀ g f,C.toS g = some f→L f = some g
 fn : ∀ f g,L f = some g→∃ fn,C.P.funcs[g]? = some fn∧fn.name ≠ "runtime.NumGoroutine"
structure EnvR (S : Sc) (N : Nat) (e : Env) (a : Act) : Prop where
 size : N≤a.tmps.size
 get : ∀ t,Rel S (getE e t) (a.tmps.getD t undef)
theorem EnvR.mono {S S' : Sc} {N : Nat} {e : Env} {a : Act} (h : S.Le S') (k : EnvR S N e a) : EnvR S' N e a:=⟨k.size,fun t => (k.get t).mono h⟩
theorem Zar {C : CC} {S : Sc} (hL : Link C S.L) {e : Env} {a : Act} (hE : EnvR S C.N e a) {x : Operand} {y : IOpd} (h : compOpd C x = some y) : Rel S (opd e y) (a.eval x):=by
 cases x with
 | tmp t => simp [compOpd] at h; subst h; exact hE.get t
 | const v =>
  simp only [compOpd,Option.map_eq_some_iff] at h
  obtain ⟨z,hz,rfl⟩:=h
  exact (Zym hz).1
 | global g => simp [compOpd] at h; subst h; simp [opd,Rel,Act.eval]
 | func f =>
  simp only [compOpd,Option.map_eq_some_iff] at h
  obtain ⟨z,hz,rfl⟩:=h
  simp only [opd,Rel,Act.eval]
  exact ⟨f,#[],hL.to f z hz,rfl,by simp [RelL]⟩
theorem ZCb {C : CC} {S : Sc} (hL : Link C S.L) {e : Env} {a : Act} (hE : EnvR S C.N e a) {xs : List Operand} {ys : List IOpd} (h : mapO (compOpd C) xs = some ys) :
  RelL S (ys.map (opd e)) (xs.map a.eval) :=
 Zrf (by simp [Zey h]) fun j v u hv hu => by
  rw [List.getElem?_map] at hv hu
  simp only [Option.map_eq_some_iff] at hv hu
  obtain ⟨y,hy,rfl⟩:=hv
  obtain ⟨x,hx,rfl⟩:=hu
  obtain ⟨x',hx',hc⟩:=ZpG h j y hy
  rw [hx] at hx'; cases hx'
  exact Zar hL hE hc
def Sc.at (S : Sc) (w' : World) : Sc:={ S with w:=w' }
def Sc.new (S : Sc) (w' : World) (p : Nat) (i : BI) : Sc:={ S with w:=w',ι:=fun b => if b = p then some i else S.ι b }
structure Ok (A : Nat→Prop) (n0 : Nat) (S : Sc) (S' : Sc) (hp : Mem) (fz : Nat→Prop) : Prop where
 le : S.Le S'
 hr : HR A n0 S' hp fz
 below : Go.RowKit.Below n0 S.w S'.w
theorem Ok.refl {A : Nat→Prop} {n0 : Nat} {S : Sc} {hp : Mem} {fz : Nat→Prop} (H : HR A n0 S hp fz) : Ok A n0 S S hp fz:=⟨.refl S,H,.refl _ _⟩
theorem Ok.trans {A : Nat→Prop} {n0 : Nat} {S S1 S2 : Sc} {hp1 hp2 : Mem} {fz1 fz2 : Nat→Prop} (a : Ok A n0 S S1 hp1 fz1) (b : Ok A n0 S1 S2 hp2 fz2) : Ok A n0 S S2 hp2 fz2:=⟨a.le.trans b.le,b.hr,a.below.trans b.below⟩
theorem Ok.drew {A : Nat→Prop} {n0 : Nat} {S : Sc} {hp : Mem} {fz : Nat→Prop} (H : HR A n0 S hp fz) : Ok A n0 S (S.at S.w.drew) hp fz:=by
 have le : S.Le (S.at S.w.drew):=⟨rfl,fun _ x => x,fun _ _ => rfl,fun _ _ x => x⟩
 exact ⟨le,⟨fun b k i hb hi => let B:=H.blk b k i hb hi; ⟨B.len,B.low,B.fit,B.row,fun hd => Zam.2 fun j v hj => let ⟨u,x,y,z⟩:=Zam.1 (B.cells hd) j v hj; ⟨u,x,y,z.mono le.ny⟩⟩,H.dom,H.inj,H.ro,H.old⟩,(Go.RowKit.Below.refl _ _).drew⟩
theorem Sc.new_le {S : Sc} {w' : World} {p : Nat} {i : BI} (hp : S.ι p = none) (hw : ∀ r,S.ro r→w'.heap[r]? = S.w.heap[r]?) : S.Le (S.new w' p i) :=
 ⟨rfl,fun _ x => x,hw,fun b j x => by
  show (if b = p then some i else S.ι b) = _
  rw [if_neg (fun e => by subst e; rw [hp] at x; cases x)]; exact x⟩
theorem Sc.new_cases {S : Sc} {w' : World} {p : Nat} {i : BI} {b : Nat} {j : BI} (h : (S.new w' p i).ι b = some j) : (b = p∧j = i)∨(b≠p∧S.ι b = some j):=by
 change (if b = p then some i else S.ι b) = some j at h
 split at h
 ·next e => cases h; exact .inl ⟨e,rfl⟩
 ·next e => exact .inr ⟨e,h⟩
theorem Ok.alloc {A : Nat→Prop} {n0 : Nat} {S : Sc} {hp : Mem} {fz : Nat→Prop} (H : HR A n0 S hp fz) {p : Nat} (hn : S.ι p = none) {cs : List AV} (hpp : hp p = some ⟨cs,false⟩) {c : Array Value} (t : TypeId) {us : List Value} (hu : RelL S.ny cs us) (h1 : ∀ x ∈ us,x.oneCell' = true)
  (hc : ∀ (j : Nat) (u : Value),us[j]? = some u→c[j]? = some u) (hs : us.length≤c.size) :
  Ok A n0 S (S.new (S.w.alloc (.cells c t)) p ⟨S.w.heap.size,0,cs.length,c.size⟩) hp fz:=by
 have hold : ∀ r,r < S.w.heap.size→(S.w.alloc (.cells c t)).heap[r]? = S.w.heap[r]?:=fun r hr => heap_alloc_old _ _ hr
 have le : S.Le (S.new (S.w.alloc (.cells c t)) p ⟨S.w.heap.size,0,cs.length,c.size⟩):=Sc.new_le hn fun r hr => hold r (H.ro r hr).1
 refine ⟨le,⟨?_,?_,?_,?_,?_⟩,(Go.RowKit.Below.refl _ _).alloc H.old _⟩
 ·intro b k i hb hi
  rcases Sc.new_cases hi with ⟨rfl,rfl⟩ | ⟨_,hi⟩
  ·rw [hpp] at hb; cases hb
   refine ⟨rfl,H.old,by simp; rw [← Zat hu]; exact hs,⟨c,t,heap_alloc_new _ _,rfl⟩,fun _ => Zam.2 fun j v hj => ?_⟩
   obtain ⟨u,a,b'⟩:=ZhG hu j v hj
   refine ⟨u,?_,h1 u (List.mem_of_getElem? a),b'.mono le.ny⟩
   show (S.w.alloc (.cells c t)).cell? ⟨S.w.heap.size,0 + j,none⟩ = _
   rw [Nat.zero_add,cell_of_row _ _ _ _ _ _ (heap_alloc_new _ _)]
   exact hc j u a
  ·have B:=H.blk b k i hb hi
   obtain ⟨c',t',hc',hs'⟩:=B.row
   have hk:=hold i.r (Zha hc')
   exact ⟨B.len,B.low,B.fit,⟨c',t',by show (S.w.alloc _).heap[i.r]? = _; rw [hk]; exact hc',hs'⟩,fun hd => Zam.2 fun j v hj => by
    obtain ⟨u,a,b',d⟩:=Zam.1 (B.cells hd) j v hj
    exact ⟨u,by rw [← a]; exact World.cell?_of_block hk,b',d.mono le.ny⟩⟩
 ·intro b i hi
  rcases Sc.new_cases hi with ⟨rfl,rfl⟩ | ⟨_,hi⟩
  ·exact ⟨_,hpp⟩
  ·exact H.dom b i hi
 ·intro b b' k k' i i' hb hb' hi hi' hd hd' hr
  rcases Sc.new_cases hi with ⟨rfl,rfl⟩ | ⟨_,y⟩ <;> rcases Sc.new_cases hi' with ⟨rfl,rfl⟩ | ⟨_,y'⟩
  ·rfl
  ·obtain ⟨_,_,q,_⟩:=(H.blk b' k' i' hb' y').row
   have:=Zha q; simp at hr; omega
  ·obtain ⟨_,_,q,_⟩:=(H.blk b k i hb y).row
   have:=Zha q; simp at hr; omega
  ·exact H.inj b b' k k' i i' hb hb' y y' hd hd' hr
 ·intro r hr
  obtain ⟨a,b,d⟩:=H.ro r hr
  refine ⟨by simp [Sc.new]; omega,b,fun b' k i hb hi hd hz => ?_⟩
  rcases Sc.new_cases hi with ⟨rfl,rfl⟩ | ⟨_,hi⟩
  ·simp; omega
  ·exact d b' k i hb hi hd hz
 ·show n0≤(S.w.alloc _).heap.size
  have:=H.old; simp; omega
end Go.Cv
namespace Go.Cv
theorem Zbm {w : World} {r : Nat} {c : Array Value} {t : TypeId} {fr : Nat × Nat} (c' : Array Value) (h : w.heap[r]? = some (.cells c t fr)) : (w.setRow r c').heap[r]? = some (.cells c' t fr):=by
 simp only [World.setRow,Array.getElem?_modify,if_true,h]; rfl
theorem ZaW {w : World} {r s : Nat} (c' : Array Value) (h : s≠r) : (w.setRow r c').heap[s]? = w.heap[s]?:=by
 simp only [World.setRow,Array.getElem?_modify]
 rw [if_neg (by omega)]
theorem Zpm {n0 : Nat} {w : World} {r : Nat} (c' : Array Value) (h : n0≤r) : Go.RowKit.Below n0 w (w.setRow r c') :=
 ⟨rfl,rfl,rfl,by simp,fun k hk => ZaW c' (by omega)⟩
theorem Ok.write {A : Nat→Prop} {n0 : Nat} {S : Sc} {hp hq : Mem} {fz : Nat→Prop} (H : HR A n0 S hp fz) {b : Nat} {k : Blk} {i : BI} (hb : hp b = some k) (hi : S.ι b = some i) (hd : k.dead = false) (hf : ¬ fz b)
  {cs' : List AV} (hlen : cs'.length = k.cs.length) (hqb : hq b = some ⟨cs',false⟩) (hqo : ∀ b',b'≠b→hq b' = hp b') {c' : Array Value} (hs : c'.size = i.rs)
  (hc : ∀ (j : Nat) (v : AV),cs'[j]? = some v→∃ u,c'[i.base + j]? = some u∧u.oneCell' = true∧Rel S.ny v u) :
  Ok A n0 S (S.at (S.w.setRow i.r c')) hq fz:=by
 have B:=H.blk b k i hb hi
 obtain ⟨c,t,hrow,hsz⟩:=B.row
 have hro : ∀ r,S.ro r→r≠i.r:=fun r hr e => (H.ro r hr).2.2 b k i hb hi hd hf e.symm
 have le : S.Le (S.at (S.w.setRow i.r c')):=⟨rfl,fun _ x => x,fun r hr => ZaW c' (hro r hr),fun _ _ x => x⟩
 have cases' : ∀ {b' : Nat} {k' : Blk},hq b' = some k'→(b'≠b∧hp b' = some k')∨(b' = b∧k' = ⟨cs',false⟩):=by
  intro b' k' hk
  by_cases e : b' = b
  ·subst e; rw [hqb] at hk; cases hk; exact .inr ⟨rfl,rfl⟩
  ·rw [hqo b' e] at hk; exact .inl ⟨e,hk⟩
 refine ⟨le,⟨?_,?_,?_,?_,by show n0≤(S.w.setRow _ _).heap.size; have:=H.old; simp; omega⟩,Zpm c' B.low⟩
 ·intro b' k' i' hk hi'
  have hi' : S.ι b' = some i':=hi'
  rcases cases' hk with ⟨hne,hk⟩ | ⟨rfl,rfl⟩
  ·have B':=H.blk b' k' i' hk hi'
   obtain ⟨c1,t1,hrow1,hsz1⟩:=B'.row
   refine ⟨B'.len,B'.low,B'.fit,?_,?_⟩
   ·by_cases e : i'.r = i.r
    ·rw [e] at hrow1; rw [hrow] at hrow1; cases hrow1
     exact ⟨c',t,by show (S.w.setRow _ _).heap[i'.r]? = _; rw [e]; exact Zbm c' hrow,by rw [hs,← hsz,hsz1]⟩
    ·exact ⟨c1,t1,by show (S.w.setRow _ _).heap[i'.r]? = _; rw [ZaW c' e]; exact hrow1,hsz1⟩
   ·intro hd'
    have hne' : i'.r≠i.r:=fun e => hne (H.inj b' b k' k i' i hk hb hi' hi hd' hd e)
    exact Zam.2 fun j v hj => by
     obtain ⟨u,x,y,z⟩:=Zam.1 (B'.cells hd') j v hj
     exact ⟨u,by rw [← x]; exact World.cell?_of_block (ZaW c' hne'),y,z.mono le.ny⟩
  ·rw [hi] at hi'; cases hi'
   refine ⟨by show cs'.length = _; rw [hlen]; exact B.len,B.low,B.fit,⟨c',t,Zbm c' hrow,hs⟩,fun _ => Zam.2 fun j v hj => ?_⟩
   obtain ⟨u,x,y,z⟩:=hc j v hj
   refine ⟨u,?_,y,z.mono le.ny⟩
   show (S.w.setRow i.r c').cell? ⟨i.r,i.base + j,none⟩ = _
   rw [cell_of_row _ _ _ _ _ _ (Zbm c' hrow)]
   exact x
 ·intro b' i' hi'
  by_cases e : b' = b
  ·subst e; exact ⟨_,hqb⟩
  ·rw [hqo b' e]; exact H.dom b' i' hi'
 ·intro b1 b2 k1 k2 i1 i2 h1 h2 e1 e2 d1 d2 hr
  have e1 : S.ι b1 = some i1:=e1
  have e2 : S.ι b2 = some i2:=e2
  rcases cases' h1 with ⟨_,g1⟩ | ⟨g1,g1'⟩ <;> rcases cases' h2 with ⟨_,g2⟩ | ⟨g2,g2'⟩
  ·exact H.inj b1 b2 k1 k2 i1 i2 g1 g2 e1 e2 d1 d2 hr
  ·exact H.inj b1 b2 k1 k i1 i2 g1 (g2 ▸ hb) e1 e2 d1 hd hr
  ·exact H.inj b1 b2 k k2 i1 i2 (g1 ▸ hb) g2 e1 e2 hd d2 hr
  ·rw [g1,g2]
 ·intro r hr
  obtain ⟨x,y,z⟩:=H.ro r hr
  refine ⟨by show r < (S.w.setRow _ _).heap.size; simpa using x,y,fun b' k' i' hk hi' hd' hz => ?_⟩
  rcases cases' hk with ⟨_,hk⟩ | ⟨rfl,rfl⟩
  ·exact z b' k' i' hk hi' hd' hz
  ·exact z b' k i' hb hi' hd hz
theorem Ok.inplace {A : Nat→Prop} {n0 : Nat} {S : Sc} {hp hq : Mem} {fz : Nat→Prop} (H : HR A n0 S hp fz) {b p : Nat} {k : Blk} {i : BI} (hb : hp b = some k) (hi : S.ι b = some i) (hd : k.dead = false) (hf : ¬ fz b)
  (hn : S.ι p = none) {cs' : List AV} (hqb : hq b = some { k with dead:=true }) (hqp : hq p = some ⟨cs',false⟩) (hqo : ∀ b',b'≠b→b'≠p→hq b' = hp b')
  {base' : Nat} (hfit : base' + cs'.length≤i.rs) {c' : Array Value} (hs : c'.size = i.rs)
  (hc : ∀ (j : Nat) (v : AV),cs'[j]? = some v→∃ u,c'[base' + j]? = some u∧u.oneCell' = true∧Rel S.ny v u) :
  Ok A n0 S (S.new (S.w.setRow i.r c') p ⟨i.r,base',cs'.length,i.rs⟩) hq fz:=by
 have B:=H.blk b k i hb hi
 obtain ⟨c,t,hrow,hsz⟩:=B.row
 have hro : ∀ r,S.ro r→r≠i.r:=fun r hr e => (H.ro r hr).2.2 b k i hb hi hd hf e.symm
 have le : S.Le (S.new (S.w.setRow i.r c') p ⟨i.r,base',cs'.length,i.rs⟩):=Sc.new_le hn fun r hr => ZaW c' (hro r hr)
 have hbp : b≠p:=fun e => by subst e; rw [hn] at hi; cases hi
 have cases' : ∀ {b' : Nat} {k' : Blk} {i' : BI},hq b' = some k'→(S.new (S.w.setRow i.r c') p ⟨i.r,base',cs'.length,i.rs⟩).ι b' = some i' →
   (b'≠b∧b'≠p∧hp b' = some k'∧S.ι b' = some i')∨(b' = b∧k' = { k with dead:=true }∧i' = i)∨(b' = p∧k' = ⟨cs',false⟩∧i' = ⟨i.r,base',cs'.length,i.rs⟩):=by
  intro b' k' i' hk hi'
  rcases Sc.new_cases hi' with ⟨rfl,rfl⟩ | ⟨hne,hi'⟩
  ·rw [hqp] at hk; cases hk; exact .inr (.inr ⟨rfl,rfl,rfl⟩)
  ·by_cases e : b' = b
   ·subst e
    rw [hqb] at hk; cases hk
    rw [hi] at hi'; cases hi'
    exact .inr (.inl ⟨rfl,rfl,rfl⟩)
   ·rw [hqo b' e hne] at hk; exact .inl ⟨e,hne,hk,hi'⟩
 refine ⟨le,⟨?_,?_,?_,?_,by show n0≤(S.w.setRow _ _).heap.size; have:=H.old; simp; omega⟩,Zpm c' B.low⟩
 ·intro b' k' i' hk hi'
  rcases cases' hk hi' with ⟨hne,hnp,hk,hi'⟩ | ⟨rfl,rfl,rfl⟩ | ⟨rfl,rfl,rfl⟩
  ·have B':=H.blk b' k' i' hk hi'
   obtain ⟨c1,t1,hrow1,hsz1⟩:=B'.row
   refine ⟨B'.len,B'.low,B'.fit,?_,?_⟩
   ·by_cases e : i'.r = i.r
    ·rw [e] at hrow1; rw [hrow] at hrow1; cases hrow1
     exact ⟨c',t,by show (S.w.setRow _ _).heap[i'.r]? = _; rw [e]; exact Zbm c' hrow,by rw [hs,← hsz,hsz1]⟩
    ·exact ⟨c1,t1,by show (S.w.setRow _ _).heap[i'.r]? = _; rw [ZaW c' e]; exact hrow1,hsz1⟩
   ·intro hd'
    have hne' : i'.r≠i.r:=fun e => hne (H.inj b' b k' k i' i hk hb hi' hi hd' hd e)
    exact Zam.2 fun j v hj => by
     obtain ⟨u,x,y,z⟩:=Zam.1 (B'.cells hd') j v hj
     exact ⟨u,by rw [← x]; exact World.cell?_of_block (ZaW c' hne'),y,z.mono le.ny⟩
  ·exact ⟨B.len,B.low,B.fit,⟨c',t,Zbm c' hrow,hs⟩,fun hd => by cases hd⟩
  ·refine ⟨rfl,B.low,hfit,⟨c',t,Zbm c' hrow,hs⟩,fun _ => Zam.2 fun j v hj => ?_⟩
   obtain ⟨u,x,y,z⟩:=hc j v hj
   refine ⟨u,?_,y,z.mono le.ny⟩
   show (S.w.setRow i.r c').cell? ⟨i.r,base' + j,none⟩ = _
   rw [cell_of_row _ _ _ _ _ _ (Zbm c' hrow)]
   exact x
 ·intro b' i' hi'
  rcases Sc.new_cases hi' with ⟨rfl,rfl⟩ | ⟨hne,hi'⟩
  ·exact ⟨_,hqp⟩
  ·by_cases e : b' = b
   ·subst e; exact ⟨_,hqb⟩
   ·rw [hqo b' e hne]; exact H.dom b' i' hi'
 ·intro b1 b2 k1 k2 i1 i2 h1 h2 e1 e2 d1 d2 hr
  rcases cases' h1 e1 with ⟨n1,_,g1,f1⟩ | ⟨g1,g1',f1⟩ | ⟨g1,g1',f1⟩ <;> rcases cases' h2 e2 with ⟨n2,_,g2,f2⟩ | ⟨g2,g2',f2⟩ | ⟨g2,g2',f2⟩
  ·exact H.inj b1 b2 k1 k2 i1 i2 g1 g2 f1 f2 d1 d2 hr
  ·subst g2'; cases d2
  ·subst f2; exact absurd (H.inj b1 b k1 k i1 i g1 hb f1 hi d1 hd hr) n1
  ·subst g1'; cases d1
  ·rw [g1,g2]
  ·subst g1'; cases d1
  ·subst f1; exact absurd (H.inj b2 b k2 k i2 i g2 hb f2 hi d2 hd hr.symm) n2
  ·subst g2'; cases d2
  ·rw [g1,g2]
 ·intro r hr
  obtain ⟨x,y,z⟩:=H.ro r hr
  refine ⟨by show r < (S.w.setRow _ _).heap.size; simpa using x,y,fun b' k' i' hk hi' hd' hz => ?_⟩
  rcases cases' hk hi' with ⟨_,_,hk,hi'⟩ | ⟨rfl,rfl,rfl⟩ | ⟨rfl,rfl,rfl⟩
  ·exact z b' k' i' hk hi' hd' hz
  ·cases hd'
  ·exact z b k i hb hi hd hf
theorem HR.kill {A : Nat→Prop} {n0 : Nat} {S : Sc} {hp hq : Mem} {fz : Nat→Prop} (H : HR A n0 S hp fz) {b : Nat} {k : Blk} (hb : hp b = some k) (hqb : hq b = some { k with dead:=true }) (hqo : ∀ b' i,b'≠b→S.ι b' = some i→hq b' = hp b') :
  HR A n0 S hq fz:=by
 have cases' : ∀ {b' : Nat} {k' : Blk} {i' : BI},hq b' = some k'→S.ι b' = some i'→(b'≠b∧hp b' = some k')∨(b' = b∧k' = { k with dead:=true }):=by
  intro b' k' i' hk hi
  by_cases e : b' = b
  ·subst e; rw [hqb] at hk; cases hk; exact .inr ⟨rfl,rfl⟩
  ·rw [hqo b' i' e hi] at hk; exact .inl ⟨e,hk⟩
 refine ⟨?_,?_,?_,?_,H.old⟩
 ·intro b' k' i hk hi
  rcases cases' hk hi with ⟨_,hk⟩ | ⟨rfl,rfl⟩
  ·exact H.blk b' k' i hk hi
  ·have B:=H.blk b' k i hb hi
   exact ⟨B.len,B.low,B.fit,B.row,fun hd => by cases hd⟩
 ·intro b' i hi
  by_cases e : b' = b
  ·subst e; exact ⟨_,hqb⟩
  ·rw [hqo b' i e hi]; exact H.dom b' i hi
 ·intro b1 b2 k1 k2 i1 i2 h1 h2 e1 e2 d1 d2 hr
  rcases cases' h1 e1 with ⟨_,g1⟩ | ⟨g1,g1'⟩ <;> rcases cases' h2 e2 with ⟨_,g2⟩ | ⟨g2,g2'⟩
  ·exact H.inj b1 b2 k1 k2 i1 i2 g1 g2 e1 e2 d1 d2 hr
  ·subst g2'; cases d2
  ·subst g1'; cases d1
  ·rw [g1,g2]
 ·intro r hr
  obtain ⟨x,y,z⟩:=H.ro r hr
  refine ⟨x,y,fun b' k' i hk hi hd' hz => ?_⟩
  rcases cases' hk hi with ⟨_,hk⟩ | ⟨rfl,rfl⟩
  ·exact z b' k' i hk hi hd' hz
  ·cases hd'
theorem Zma : ∀ (vs : List AV) (cs : List AV) (off : Nat),(setAt cs off vs).length = cs.length
 | [],cs,off => rfl
 | v :: vs,cs,off => by simp [setAt,Zma vs]
theorem ZuG : ∀ (vs : List AV) (cs : List AV) (off : Nat),off + vs.length≤cs.length→∀ j,(setAt cs off vs)[j]? = if off≤j∧j < off + vs.length then vs[j - off]? else cs[j]?
 | [],cs,off,_,j => by simp [setAt]; omega
 | v :: vs,cs,off,h,j => by
  simp only [List.length_cons] at h
  rw [setAt,ZuG vs _ _ (by simp; omega)]
  by_cases h1 : off + 1≤j∧j < off + 1 + vs.length
  ·rw [if_pos h1,if_pos (by simp; omega),show j - off = (j - (off + 1)) + 1 by omega,List.getElem?_cons_succ]
  ·rw [if_neg h1,List.getElem?_set]
   by_cases h2 : off = j
   ·subst h2; rw [if_pos rfl,if_pos (by omega),if_pos (by simp)]; simp
   ·rw [if_neg h2,if_neg (by simp; omega)]
def Heap.fz (h : Heap) : Nat→Prop:=fun b => b ∈ h.f
theorem ZDu {h : Heap} {b : Nat} (hf : h.f.contains b = false) : ¬ h.fz b:=by
 unfold Heap.fz
 simpa using hf
theorem ZEW {h : Heap} {b : Nat} {k' : Blk} {f : List Nat} (hb : b < h.b.length) : (⟨h.b.set b k',f⟩ : Heap).mem b = some k'∧∀ b',b'≠b→(⟨h.b.set b k',f⟩ : Heap).mem b' = h.mem b':=by
 refine ⟨?_,fun b' hne => ?_⟩
 ·show (h.b.set b k')[b]? = _
  rw [List.getElem?_set]; simp [hb]
 ·show (h.b.set b k')[b']? = _
  rw [List.getElem?_set,if_neg (fun e => hne e.symm)]; rfl
theorem Ok.store {P : Program} {A : Nat→Prop} {n0 : Nat} {S : Sc} {h h' : Heap} (H : HR A n0 S h.mem h.fz) {b off : Nat} {vs : List AV} (hw : wrBlk h b off vs = some h') {i : BI} (hi : S.ι b = some i)
  {us : List Value} (hu : RelL S.ny vs us) (h1 : ∀ x ∈ us,x.oneCell' = true) :
  ∃ w',(storeCells ⟨i.r,i.base + off,none⟩ us).run P S.w = .ok () w'∧Ok A n0 S (S.at w') h'.mem h'.fz:=by
 unfold wrBlk at hw
 cases hb : h.b[b]? with
 | none => simp [hb] at hw
 | some k =>
  simp only [hb] at hw
  split at hw
  ·next hc =>
   obtain ⟨hd,hfz,hle⟩:=hc
   cases hw
   have B:=H.blk b k i hb hi
   obtain ⟨c,t,hrow,hsz⟩:=B.row
   have hul:=Zat hu
   have hrl : ∀ (j : Nat) (v : AV),k.cs[j]? = some v→∃ u,c[i.base + j]? = some u∧u.oneCell' = true∧Rel S.ny v u:=fun j v hj => by
    obtain ⟨u,x,y,z⟩:=Zam.1 (B.cells hd) j v hj
    rw [cell_of_row _ _ _ _ _ _ hrow] at x
    exact ⟨u,x,y,z⟩
   have hfit:=B.fit
   have hlen:=B.len
   obtain ⟨m1,m2⟩:=ZEW (h:=h) (k':={ k with cs:=setAt k.cs off vs }) (f:=h.f) (List.getElem?_eq_some_iff.1 hb).1
   refine ⟨_,run_storeCells_at P i.r (i.base + off) t us 0 c S.w hrow (by omega) h1,Ok.write H hb hi hd (ZDu hfz) (Zma vs k.cs off) (by rw [m1,hd]) m2 ?_ ?_⟩
   ·simp; omega
   ·intro j v hj
    rw [ZuG vs k.cs off hle] at hj
    simp only [Nat.add_zero,List.getElem?_toArray]
    split at hj
    ·next hr =>
     obtain ⟨u,hx,hy⟩:=ZhG hu _ v hj
     refine ⟨u,?_,h1 u (List.mem_of_getElem? hx),hy⟩
     rw [List.getElem?_append_left (by simp; omega),List.getElem?_append_right (by simp; omega)]
     rw [show i.base + j - (List.take (i.base + off) c.toList).length = j - off by simp; omega]
     exact hx
    ·next hr =>
     obtain ⟨u,hx,hy⟩:=hrl j v hj
     have hjl:=(List.getElem?_eq_some_iff.1 hj).1
     refine ⟨u,?_,hy⟩
     by_cases hlt : j < off
     ·rw [List.getElem?_append_left (by simp; omega),List.getElem?_append_left (by simp; omega),List.getElem?_take,if_pos (by omega)]
      simpa using hx
     ·rw [List.getElem?_append_right (by simp; omega),List.getElem?_drop]
      rw [show i.base + off + us.length + (i.base + j - (List.take (i.base + off) c.toList ++ us).length) = i.base + j by simp; omega]
      simpa using hx
  ·cases hw
theorem HR.addRo {A : Nat→Prop} {n0 : Nat} {S : Sc} {hp : Mem} {fz : Nat→Prop} (H : HR A n0 S hp fz) (R : Nat→Prop) (hR : ∀ r,R r→∃ (b : Nat) (k : Blk) (i : BI),hp b = some k∧S.ι b = some i∧k.dead = false∧fz b∧i.r = r) :
  Ok A n0 S { S with ro:=fun r => S.ro r∨R r } hp fz:=by
 have le : S.Le { S with ro:=fun r => S.ro r∨R r }:=⟨rfl,fun _ x => .inl x,fun _ _ => rfl,fun _ _ x => x⟩
 refine ⟨le,⟨fun b k i hb hi => let B:=H.blk b k i hb hi; ⟨B.len,B.low,B.fit,B.row,fun hd => Zam.2 fun j v hj => let ⟨u,x,y,z⟩:=Zam.1 (B.cells hd) j v hj; ⟨u,x,y,z.mono le.ny⟩⟩,H.dom,H.inj,?_,H.old⟩,.refl _ _⟩
 rintro r (hr | hr)
 ·exact H.ro r hr
 ·obtain ⟨b,k,i,hb,hi,hd,hz,rfl⟩:=hR r hr
  have B:=H.blk b k i hb hi
  obtain ⟨c,t,hrow,_⟩:=B.row
  refine ⟨Zha hrow,fun hlt => absurd B.low (by omega),fun b' k' i' hb' hi' hd' hz' e => ?_⟩
  have:=H.inj b' b k' k i' i hb' hb hi' hi hd' hd e
  subst this
  exact hz' hz
theorem HR.below {A : Nat→Prop} {n0 : Nat} {S : Sc} {hp : Mem} {fz : Nat→Prop} (H : HR A n0 S hp fz) {w' : World} (hb : Go.RowKit.Below S.w.heap.size S.w w') :
  Ok A n0 S { S with w:=w',ro:=fun r => S.ro r∨S.w.heap.size≤r∧r < w'.heap.size } hp fz:=by
 have hlt : ∀ r,S.ro r→r < S.w.heap.size:=fun r hr => (H.ro r hr).1
 have le : S.Le { S with w:=w',ro:=fun r => S.ro r∨S.w.heap.size≤r∧r < w'.heap.size }:=⟨rfl,fun _ x => .inl x,fun r hr => hb.block r (hlt r hr),fun _ _ x => x⟩
 refine ⟨le,⟨?_,H.dom,H.inj,?_,Nat.le_trans H.old hb.size⟩,hb.mono H.old⟩
 ·intro b k i hk hi
  have B:=H.blk b k i hk hi
  obtain ⟨c,t,hrow,hsz⟩:=B.row
  have he:=hb.block i.r (Zha hrow)
  exact ⟨B.len,B.low,B.fit,⟨c,t,he.trans hrow,hsz⟩,fun hd => Zam.2 fun j v hj => by
   obtain ⟨u,x,y,z⟩:=Zam.1 (B.cells hd) j v hj
   exact ⟨u,by rw [← x]; exact World.cell?_of_block he,y,z.mono le.ny⟩⟩
 ·rintro r (hr | ⟨x,y⟩)
  ·obtain ⟨a,b,c⟩:=H.ro r hr
   exact ⟨Nat.lt_of_lt_of_le a hb.size,b,c⟩
  ·refine ⟨y,fun q => absurd H.old (by omega),fun b k i hk hi hd hz e => ?_⟩
   obtain ⟨_,_,hrow,_⟩:=(H.blk b k i hk hi).row
   have:=Zha hrow; omega
end Go.Cv
namespace Go.Cv
def Gok (G : Nat→Option (List AV)) (S : Sc) : Prop:=(∀ g cs,G g = some cs→S.ro g∧RelAt S.cl g cs 0)∧∀ b,S.L.y = some b→S.ro b.l∧S.w.heap[b.l]? = some (.loop b.r)∧(∀ r,b.ro r→S.ro r∧S.w.heap[r]? = b.hp r)∧∀ k i,b.ι k = some i→S.ι k = some i
theorem Gok.mono {G : Nat→Option (List AV)} {S S' : Sc} (h : S.Le S') (k : Gok G S) : Gok G S' :=
 ⟨fun g cs e => ⟨h.ro g (k.1 g cs e).1,(k.1 g cs e).2.mono h.cl g (k.1 g cs e).1⟩,fun b e => by
  rw [h.L] at e
  obtain ⟨x,y,z,v⟩:=k.2 b e
  exact ⟨h.ro _ x,(h.cells _ x).trans y,fun r hr => ⟨h.ro r (z r hr).1,(h.cells r (z r hr).1).trans (z r hr).2⟩,fun q i hq => h.ι q i (v q i hq)⟩⟩
def Res (A : Nat→Prop) (n0 : Nat) (S : Sc) (v : AV) (hp : Mem) (fz : Nat→Prop) (u : Value) (w' : World) : Prop:=∃ S',S'.w = w'∧Ok A n0 S S' hp fz∧Rel S' v u
def ResI (A : Nat→Prop) (n0 : Nat) (S : Sc) (N : Nat) (v : AV) (hp : Mem) (fz : Nat→Prop) (u : Value) (w' : World) : Prop:=∃ S',S'.w = w'∧Ok A n0 S S' hp fz∧Rel S' v u∧∀ b,b≠N→S'.ι b = S.ι b
def ResQ (A : Nat→Prop) (n0 : Nat) (S : Sc) (p : Nat) (δ : List Blk) (v : AV) (hp : Mem) (fz : Nat→Prop) (u : Value) (w' : World) : Prop:=∃ S',S'.w = w'∧Ok A n0 S S' hp fz∧Rel S' v u∧∀ b,δ = []∨b≠p→S'.ι b = S.ι b
def Goes (P : Program) (g : FuncId) (us : Array Value) (w : World) (R : Value→World→Prop) : Prop :=
 (∃ fn,P.funcs[g]? = some fn∧fn.name ≠ "runtime.NumGoroutine" ∧ fn.body.isSome = true∧Calls P g us w fun e w' => ∃ u,e = .returned u∧R u w') ∨
 (∃ u w',(callFunc g us).run P w = .ok (.value u) w'∧R u w')
theorem Goes.mono {P : Program} {g : FuncId} {us : Array Value} {w : World} {R R' : Value→World→Prop} (h : Goes P g us w R) (hr : ∀ u w',R u w'→R' u w') : Goes P g us w R':=by
 rcases h with ⟨fn,h1,h2,h3,h4⟩ | ⟨u,w',h1,h2⟩
 ·exact .inl ⟨fn,h1,h2,h3,h4.mono fun e w' ⟨u,he,hq⟩ => ⟨u,he,hr u w' hq⟩⟩
 ·exact .inr ⟨u,w',h1,hr u w' h2⟩
def Does (P : Program) (S : Sc) (a : Act) (o : Oper) (R : Value→World→Prop) : Prop :=
 (∃ u w',(execOp a.eval o).run P S.w = .ok (.value u) w'∧R u w') ∨
 (∃ w',(execOp a.eval o).run P S.w = .ok .skip w'∧R undef w') ∨
 (∃ g us,(execOp a.eval o).run P S.w = .ok (.enter g us) S.w∧Calls P g us S.w fun e w' => ∃ u,e = .returned u∧R u w') ∨
 (∃ l f tmps assign body,(execOp a.eval o).run P S.w = .ok (.round l f tmps assign body) S.w∧∀ n,RoundIn Fence.wide n P l f tmps assign body S.w fun e w' => ∃ u,e = .returned u∧R u w')
theorem Does.mono {P : Program} {S : Sc} {a : Act} {o : Oper} {R R' : Value→World→Prop} (h : Does P S a o R) (hr : ∀ u w',R u w'→R' u w') : Does P S a o R':=by
 rcases h with ⟨u,w',h1,h2⟩ | ⟨w',h1,h2⟩ | ⟨g,us,h1,h2⟩ | ⟨l,f,tm,as,bo,h1,h2⟩
 ·exact .inl ⟨u,w',h1,hr _ _ h2⟩
 ·exact .inr (.inl ⟨w',h1,hr _ _ h2⟩)
 ·exact .inr (.inr (.inl ⟨g,us,h1,h2.mono fun e w' ⟨u,x,y⟩ => ⟨u,x,hr _ _ y⟩⟩))
 ·exact .inr (.inr (.inr ⟨l,f,tm,as,bo,h1,fun n => (h2 n).mono fun e w' ⟨u,x,y⟩ => ⟨u,x,hr _ _ y⟩⟩))
theorem ResQ.same {A : Nat→Prop} {n0 : Nat} {S : Sc} {hp : Mem} {fz : Nat→Prop} (H : HR A n0 S hp fz) (p : Nat) (δ : List Blk) {v : AV} {u : Value} (hr : Rel S v u) : ResQ A n0 S p δ v hp fz u S.w:=⟨S,rfl,.refl H,hr,fun _ _ => rfl⟩
theorem Does.value {P : Program} {A : Nat→Prop} {n0 : Nat} {S : Sc} {hp : Mem} {fz : Nat→Prop} {p : Nat} {δ : List Blk} (H : HR A n0 S hp fz) {a : Act} {o : Oper} {v : AV} {u : Value} (hr : (execOp a.eval o).run P S.w = .ok (.value u) S.w) (hv : Rel S v u) :
  Does P S a o (ResQ A n0 S p δ v hp fz):=.inl ⟨u,S.w,hr,.same H p δ hv⟩
theorem ZyL {P : Program} {op : BinOp} {x y v : AV} (h : evBin op x y = some v) (S : Sc) {a b : Value} (hx : Rel S x a) (hy : Rel S y b) (t : TypeId) (ox oy : Operand) (w : World) :
  ∃ u,((do eqGuard op t ox oy a b; binOp op t a b : Sem Value)).run P w = .ok u w∧Rel S v u:=by
 unfold evBin at h
 split at h
 ·next k m k' n =>
  simp only [Rel] at hx hy
  subst hx; subst hy
  have hg : (eqGuard op t ox oy (.int k m) (.int k' n)).run P w = .ok () w:=by
   unfold eqGuard
   cases op <;> simp
  simp only [Sem.run_bind,hg,Result.andThen_ok]
  by_cases hs : isSh op = true
  ·rw [if_pos hs] at h
   unfold shI at h
   split at h
   ·cases h
   ·next h0 =>
    cases op <;> simp only [isSh,Bool.false_eq_true] at hs <;> cases h
    all_goals simp only [binOp,Op.shift,if_neg h0]; exact ⟨_,rfl,by simp [Rel]⟩
  ·rw [if_neg hs] at h
   split at h
   ·next hk =>
    subst hk
    unfold arI at h
    cases op <;> simp only [isSh,not_true_eq_false] at hs <;> simp only [Option.some.injEq,reduceCtorEq] at h
    case quo =>
     split at h
     ·cases h
     ·next h0 => cases h; simp only [binOp,Op.intDiv,if_neg h0,ne_eq,not_true_eq_false,if_false]; exact ⟨_,rfl,by simp [Rel]⟩
    case rem =>
     split at h
     ·cases h
     ·next h0 => cases h; simp only [binOp,Op.intDiv,if_neg h0,ne_eq,not_true_eq_false,if_false]; exact ⟨_,rfl,by simp [Rel]⟩
    all_goals
     subst h
     simp only [binOp,Op.intArith,Op.intBits,Op.intCmp,ne_eq,not_true_eq_false,if_false]
     exact ⟨_,rfl,by simp [Rel]⟩
   ·cases h
 ·cases h
theorem ZBn {P : Program} {op : UnOp} {x v : AV} (h : evUn op x = some v) (S : Sc) {a : Value} (hx : Rel S x a) (w : World) : ∃ u,(Op.unary op a).run P w = .ok u w∧Rel S v u:=by
 unfold evUn at h
 split at h
 ·next k n =>
  simp only [Rel] at hx; subst hx
  cases op <;> simp only [Option.some.injEq,reduceCtorEq] at h
  all_goals subst h; simp only [Op.unary,Op.intArith,Op.intBits]; exact ⟨_,rfl,by simp [Rel]⟩
 ·next b =>
  simp only [Rel] at hx; subst hx
  cases op <;> simp only [Option.some.injEq,reduceCtorEq] at h
  subst h; simp only [Op.unary]; exact ⟨_,rfl,by simp [Rel]⟩
 ·cases h
theorem Zsx {P : Program} (mx : Bool) (S : Sc) (w : World) : ∀ {xs : List AV} {x v : AV} (_ : evMm mx x xs = some v) {a : Value} {as : List Value} (_ : Rel S x a) (_ : RelL S xs as),
  ∃ u,(as.foldlM (if mx then Builtin.max2 else Builtin.min2) a : Sem Value).run P w = .ok u w∧Rel S v u
 | [],x,v,h,a,as,hx,hs => by
  simp only [RelL] at hs; subst hs
  have : x = v:=by cases x <;> simpa [evMm] using h
  subst this
  exact ⟨a,rfl,hx⟩
 | y :: ys,x,v,h,a,as,hx,hs => by
  cases x <;> (try simp only [evMm,reduceCtorEq] at h)
  case int k m =>
   cases y <;> (try simp only [evMm,reduceCtorEq] at h)
   case int k' n =>
    simp only [RelL] at hs
    obtain ⟨u,r,rfl,h1,h2⟩:=hs
    simp only [Rel] at h1 hx; subst h1; subst hx
    have:=Zsx (P:=P) mx S w h (a:=.int k (if mx then (if n > m then n else m) else (if n < m then n else m))) (as:=r) (by simp [Rel]) h2
    obtain ⟨u,hu,hv⟩:=this
    refine ⟨u,?_,hv⟩
    rw [← hu]
    simp only [List.foldlM_cons,Sem.run_bind]
    cases mx
    ·simp [Builtin.min2]
    ·simp [Builtin.max2]
theorem ZwQ {G : Nat→Option (List AV)} {A : Nat→Prop} {n0 : Nat} {S : Sc} {hp hq : Mem} {fz : Nat→Prop} (H : HR A n0 S hp fz) (hle : ∀ b k,hq b = some k→hp b = some k) (hG : Gok G S) {n : Nat} {p : AV} {cs : List AV} (hr : rdAt G hq n p = some cs) {u : Value} (hpu : Rel S p u) :
  ∃ r o,u = .pointer (some ⟨r,o,none⟩)∧RelAt S r cs o∧cs.length = n:=by
 cases p <;> simp only [rdAt,reduceCtorEq] at hr <;> simp only [Rel] at hpu
 case ptr b off =>
  obtain ⟨i,hi,rfl⟩:=hpu
  exact ⟨_,_,rfl,H.read hle hr hi⟩
 case iptr l off =>
  split at hr
  ·next hl =>
   cases hr
   obtain ⟨r,o,rfl,hx⟩:=hpu
   refine ⟨r,o + off,rfl,?_,by simp; omega⟩
   rcases hx with rfl | ⟨hro,hx⟩
   ·simp [RelAt]
   ·exact (ZlZ hx off n).mono S.cl_le r hro
  ·cases hr
 case gptr g off =>
  split at hr
  ·next l hl =>
   split at hr
   ·next hle =>
    cases hr
    subst hpu
    refine ⟨g,off,rfl,?_,by simp; omega⟩
    have:=ZlZ ((hG.1 g l hl).2.mono S.cl_le g (hG.1 g l hl).1) off n
    rwa [Nat.zero_add] at this
   ·cases hr
  ·cases hr
theorem ZzA {S : Sc} {g : Bool} {cs : List AV} {v : AV} (h : one g cs = some v) {us : List Value} (hu : RelL S cs us) (hl : g = true∨cs.length = 1) :
  Rel S v (if g then .agg us.toArray else us.getD 0 undef):=by
 cases g
 ·simp only [one,Bool.false_eq_true,if_false] at h ⊢
  split at h
  ·cases h
   simp only [RelL] at hu
   obtain ⟨u,r,rfl,h1,h2⟩:=hu
   simpa using h1
  ·cases h
 ·simp only [one,if_true] at h ⊢
  cases h
  simp only [Rel]
  exact ⟨us.toArray,rfl,by simpa using hu⟩
theorem Zou {P : Program} {t : TypeId} {g : Bool} (h : aggT P t = some g) (w : World) : (isAgg t).run P w = .ok g w:=by
 unfold aggT at h
 unfold isAgg
 cases hu : P.underlying t with
 | none => simp [hu] at h
 | some d =>
  simp only [Sem.run_bind,run_underlying hu,Result.andThen_ok]
  rw [hu] at h
  cases d <;> simp at h <;> subst h <;> rfl
theorem Zpt {P : Program} {S : Sc} {t : TypeId} {g : Bool} {inf : TypeInfo} (hg : aggT P t = some g) (hi : P.info? t = some inf) (h1 : (g || inf.size == 1) = true)
  {r o : Nat} {cs : List AV} (hc : RelAt S r cs o) (hl : cs.length = inf.size) {v : AV} (hv : one g cs = some v) :
  ∃ u,(loadVar t ⟨r,o,none⟩).run P S.w = .ok u S.w∧Rel S v u:=by
 obtain ⟨us,k1,k2,k3⟩:=ZmK hc
 have hul:=Zat k1
 have hvr:=(ZzA hv k1 (by cases g <;> simp at h1 ⊢; omega)).up
 refine ⟨_,?_,hvr⟩
 cases g
 ·simp only [Bool.false_or,beq_iff_eq] at h1
  have h0 : us[0]? = some (us.getD 0 undef):=by
   cases us with
   | nil => simp at hul; omega
   | cons u us => rfl
  have:=k2 0 _ h0
  rw [ZeR] at this
  simp only [loadVar,Sem.run_bind,Zou hg,Result.andThen_ok,Bool.false_eq_true,if_false,run_load]
  rw [Nat.add_zero] at this
  rw [this]
 ·have hload:=run_loadCells_list (P:=P) S.w ⟨r,o,none⟩ us k2
  rw [hul,hl] at hload
  simp only [loadVar,Sem.run_bind,Zou hg,Result.andThen_ok,if_true,sizeOf,typeInfo,run_program,hi,Sem.run_pure,hload]
theorem Zjm {P : Program} {S : Sc} {t : TypeId} {g : Bool} {inf : TypeInfo} (hg : aggT P t = some g) (hi : P.info? t = some inf) (h1 : (g || inf.size == 1) = true)
  {us : Array Value} {cs : List AV} (hu : RelL S cs us.toList) {off : Nat} (hl : off + inf.size≤cs.length) {v : AV} (hv : one g ((cs.drop off).take inf.size) = some v) (w : World) :
  ∃ u,(part t us off).run P w = .ok u w∧Rel S v u:=by
 have hul:=Zat hu
 have hsub : RelL S ((cs.drop off).take inf.size) ((us.toList.drop off).take inf.size):=Zrf (by simp [hul]) fun j x y hx hy => by
  rw [List.getElem?_take] at hx hy
  split at hx
  ·next hj =>
   rw [if_pos hj] at hy
   rw [List.getElem?_drop] at hx hy
   obtain ⟨u,hu1,hu2⟩:=ZhG hu _ x hx
   rw [hy] at hu1; cases hu1; exact hu2
  ·cases hx
 have hvr:=ZzA hv hsub (by cases g <;> simp at h1 ⊢; omega)
 refine ⟨_,?_,hvr⟩
 cases g
 ·simp only [Bool.false_or,beq_iff_eq] at h1
  have hlt : off < us.size:=by rw [← Array.length_toList,hul]; omega
  simp only [part,Sem.run_bind,Zou hg,Result.andThen_ok,Bool.false_eq_true,if_false]
  rw [Array.getElem?_eq_getElem hlt]
  simp [h1,hlt]
 ·simp only [part,Sem.run_bind,Zou hg,Result.andThen_ok,if_true,sizeOf,typeInfo,run_program,hi,Sem.run_pure]
  congr 2
  apply Array.ext'
  simp only [Array.toList_extract,List.extract_eq_take_drop]
  simp
def setAtV (c : Array Value) (off : Nat) : List Value→Array Value
 | [] => c
 | v :: vs => setAtV (c.setIfInBounds off v) (off + 1) vs
theorem Zpr (off : Nat) : ∀ (vs : List Value) (k : Nat) (c : Array Value),(vs.zipIdx k).foldl (fun cs (c,j) => cs.setIfInBounds (off + j) c) c = setAtV c (off + k) vs
 | [],k,c => rfl
 | v :: vs,k,c => by
  simp only [List.zipIdx_cons,List.foldl_cons,setAtV]
  rw [Zpr off vs (k + 1)]
  rfl
theorem ZrZ {S : Sc} : ∀ {xs : List AV} {us : List Value} {cs : List AV} {c : Array Value} {off : Nat},RelL S xs us→RelL S cs c.toList→RelL S (setAt cs off xs) (setAtV c off us).toList
 | [],us,cs,c,off,h,k => by simp only [RelL] at h; subst h; exact k
 | x :: xs,us,cs,c,off,h,k => by
  simp only [RelL] at h
  obtain ⟨u,r,rfl,h1,h2⟩:=h
  simp only [setAt,setAtV]
  refine ZrZ h2 (Zrf (by simp [Zat k]) fun j v u' hv hu' => ?_)
  rw [Array.toList_setIfInBounds] at hu'
  rw [List.getElem?_set] at hv hu'
  split at hv
  ·next e =>
   rw [if_pos e] at hu'
   split at hv
   ·next hlt =>
    cases hv
    split at hu'
    ·cases hu'; exact h1
    ·cases hu'
   ·cases hv
  ·next e =>
   rw [if_neg e] at hu'
   obtain ⟨u'',hx,hy⟩:=ZhG k j v hv
   rw [hu'] at hx; cases hx; exact hy
theorem Zsz {S : Sc} {place : Nat→Option (Nat × Nat)} : ∀ {ps : List (Nat × Value)} {qs : List (Nat × Nat × AV)} {cs cs' : List AV} {c : Array Value},
  ps.length = qs.length→(∀ (j : Nat) (i : Nat) (u : Value) (o n : Nat) (x : AV),ps[j]? = some (i,u)→qs[j]? = some (o,n,x)→place i = some (o,n)∧Rel S x u) →
  RelL S cs c.toList→fillA cs qs = some cs'→∃ c',Instr.fill place c ps = some c'∧RelL S cs' c'.toList
 | [],[],cs,cs',c,_,_,hc,h => by simp [fillA] at h; subst h; exact ⟨c,rfl,hc⟩
 | [],_ :: _,_,_,_,hl,_,_,_ => by simp at hl
 | _ :: _,[],_,_,_,hl,_,_,_ => by simp at hl
 | (i,u) :: ps,(o,n,x) :: qs,cs,cs',c,hl,hq,hc,h => by
  simp only [fillA] at h
  split at h
  ·next hif =>
   obtain ⟨hn,hok,hle⟩:=hif
   obtain ⟨hp,hr⟩:=hq 0 i u o n x rfl rfl
   obtain ⟨hcells,_⟩:=Zoq hr hok
   have hlen:=Zat hcells
   have hcl:=Zat hc
   simp only [Array.length_toList] at hlen hcl
   have hneg : (u.cells.size≠n || decide (o + u.cells.size > c.size)) = false:=by
    simp only [Bool.or_eq_false_iff,decide_eq_false_iff_not]
    omega
   simp only [Instr.fill,hp]
   rw [if_neg (by simpa using hneg)]
   have hfold : u.cells.zipIdx.foldl (fun cs (c,j) => cs.setIfInBounds (o + j) c) c = setAtV c o u.cells.toList:=by
    rw [← Array.foldl_toList,Array.toList_zipIdx]
    exact Zpr o u.cells.toList 0 c
   rw [hfold]
   exact Zsz (by simpa using hl) (fun j => hq (j + 1)) (ZrZ hcells hc) h
  ·cases h
theorem Zuq {C : CC} {S : Sc} (hL : Link C S.L) {e : Env} {a : Act} (hE : EnvR S C.N e a) {place : Nat→Option (Nat × Nat)} {ps : Array (Nat × Operand)} {l : List (Nat × Nat × IOpd)} (h : compParts C place ps = some l) :
  ((ps.map fun (i,x) => (i,a.eval x)).toList).length = (l.map fun (o,n,x) => (o,n,opd e x)).length ∧
  ∀ (j : Nat) (i : Nat) (u : Value) (o n : Nat) (x : AV),((ps.map fun (i,x) => (i,a.eval x)).toList)[j]? = some (i,u)→(l.map fun (o,n,x) => (o,n,opd e x))[j]? = some (o,n,x)→place i = some (o,n)∧Rel S x u:=by
 refine ⟨by simp [Zey h],fun j i u o n x h1 h2 => ?_⟩
 rw [Array.toList_map,List.getElem?_map,Option.map_eq_some_iff] at h1
 rw [List.getElem?_map,Option.map_eq_some_iff] at h2
 obtain ⟨⟨i',xo⟩,h1,e1⟩:=h1
 obtain ⟨⟨o',n',y⟩,h2,e2⟩:=h2
 cases e1; cases e2
 obtain ⟨q,hq,hf⟩:=ZpG h j _ h2
 rw [h1] at hq; cases hq
 simp only at hf
 split at hf
 ·next hp hc => cases hf; exact ⟨hp,Zar hL hE hc⟩
 ·cases hf
end Go.Cv
namespace Go.Cv
theorem ZpP (g : Nat→Nat→Nat→Nat→Option AV) : ∀ l,snapA.go g l = snapL g l
 | [] => rfl
 | v :: vs => by simp only [snapA.go,snapL]; rw [ZpP g vs]
theorem Zoe (g : Nat→List Nat) : ∀ l,reachA.go g l = reachL g l
 | [] => rfl
 | v :: vs => by simp only [reachA.go,reachL]; rw [Zoe g vs]
structure Shut (S S0 : Sc) : Prop where
 L : S0.L.f = S.L.f
 w : S0.w = S.w
 ι : S0.ι = fun _ => none
 ro : ∀ r,S.ro r→S0.ro r
theorem Shut.lw {S S0 : Sc} (h : Shut S S0) : S.cl.ny.Lw S0:=⟨h.L,fun p x => by simp [Sc.ny,LK.cut] at x,fun r hr => .inl ⟨h.ro r hr,by rw [h.w]; rfl⟩,fun b i x => by simp [Sc.ny,Sc.cl] at x⟩
theorem Shut.self {S S0 : Sc} (h : Shut S S0) : S0.cl = S0:=by
 obtain ⟨L,w,ro,ι⟩:=S0
 have:=h.ι
 simp only at this
 subst this
 rfl
theorem Shut.ny {S S0 : Sc} (h : Shut S S0) : Shut S.ny S0.ny:=⟨h.L,h.w,h.ι,h.ro⟩
def Cov (S S0 : Sc) (h : Mem) (b : Nat) : Prop:=∀ i : BI,S.ι b = some i→(∃ k : Blk,h b = some k∧k.dead = false)→S0.ro i.r
mutual
theorem Zrm {S S0 : Sc} {h : Mem} (h0 : Shut S S0) {sn : Nat→Nat→Nat→Nat→Option AV} {gr : Nat→List Nat}
  (hg : ∀ b off n sz x u,sn b off n sz = some x→(∀ b' ∈ gr b,Cov S S0 h b')→Rel S.ny (.own b off n sz) u→Rel S0.ny x u) :
  ∀ (v : AV) (v' : AV) (u : Value),snapA sn v = some v'→(∀ b' ∈ reachA gr v,Cov S S0 h b')→Rel S v u→Rel S0 v' u
 | .undef,v',u,hh,_,hr => by simp [snapA] at hh
 | .int k n,v',u,hh,_,hr => by simp [snapA] at hh; subst hh; simpa only [Rel] using hr
 | .bool b,v',u,hh,_,hr => by simp [snapA] at hh; subst hh; simpa only [Rel] using hr
 | .fl k b,v',u,hh,_,hr => by simp [snapA] at hh; subst hh; simpa only [Rel] using hr
 | .nil,v',u,hh,_,hr => by simp [snapA] at hh; subst hh; simpa only [Rel] using hr
 | .np,v',u,hh,_,hr => by simp [snapA] at hh; subst hh; simpa only [Rel] using hr
 | .nf,v',u,hh,_,hr => by simp [snapA] at hh; subst hh; simpa only [Rel] using hr
 | .nan k,v',u,hh,_,hr => by simp [snapA] at hh; subst hh; simpa only [Rel] using hr
 | .imm n cs,v',u,hh,_,hr => by
  simp [snapA] at hh; subst hh
  have:=Rel.gmono h0.lw (.imm n cs) u (Rel.down rfl (by simpa only [Rel,Sc.cl] using hr))
  exact this
 | .own b off n sz,v',u,hh,hc,hr => by
  simp only [snapA] at hh
  exact (hg b off n sz v' u hh (by simpa only [reachA] using hc) (by simp only [Rel] at hr ⊢; exact hr)).up
 | .ptr b off,v',u,hh,_,hr => by simp [snapA] at hh
 | .iptr cs off,v',u,hh,_,hr => by simp [snapA] at hh
 | .gptr g off,v',u,hh,_,hr => by simp [snapA] at hh
 | .agg cs,v',u,hh,hc,hr => by
  simp only [snapA,ZpP,Option.map_eq_some_iff] at hh
  obtain ⟨cs',hh,rfl⟩:=hh
  simp only [Rel] at hr ⊢
  obtain ⟨us,e,hr⟩:=hr
  exact ⟨us,e,Zmb h0 hg cs cs' us.toList hh (by simpa only [reachA,Zoe] using hc) hr⟩
 | .tup cs,v',u,hh,hc,hr => by
  simp only [snapA,ZpP,Option.map_eq_some_iff] at hh
  obtain ⟨cs',hh,rfl⟩:=hh
  simp only [Rel] at hr ⊢
  obtain ⟨us,e,hr⟩:=hr
  exact ⟨us,e,Zmb h0 hg cs cs' us.toList hh (by simpa only [reachA,Zoe] using hc) hr⟩
 | .fn f cs,v',u,hh,hc,hr => by
  simp only [snapA,ZpP,Option.map_eq_some_iff] at hh
  obtain ⟨cs',hh,rfl⟩:=hh
  simp only [Rel] at hr ⊢
  obtain ⟨g,us,hgL,e,hr⟩:=hr
  exact ⟨g,us,by rw [h0.L]; exact hgL,e,Zmb h0.ny hg cs cs' us.toList hh (show ∀ b' ∈ reachL gr cs,Cov S S0 h b' by simpa only [reachA,Zoe] using hc) hr⟩
 | .yv,v',u,hh,_,hr => by simp [snapA] at hh
theorem Zmb {S S0 : Sc} {h : Mem} (h0 : Shut S S0) {sn : Nat→Nat→Nat→Nat→Option AV} {gr : Nat→List Nat}
  (hg : ∀ b off n sz x u,sn b off n sz = some x→(∀ b' ∈ gr b,Cov S S0 h b')→Rel S.ny (.own b off n sz) u→Rel S0.ny x u) :
  ∀ (vs vs' : List AV) (us : List Value),snapL sn vs = some vs'→(∀ b' ∈ reachL gr vs,Cov S S0 h b')→RelL S vs us→RelL S0 vs' us
 | [],vs',us,hh,_,hr => by simp [snapL] at hh; subst hh; simpa only [RelL] using hr
 | v :: vs,vs',us,hh,hc,hr => by
  simp only [snapL] at hh
  split at hh
  ·next a b ha hb =>
   cases hh
   simp only [RelL] at hr ⊢
   obtain ⟨u,r,e,h1,h2⟩:=hr
   exact ⟨u,r,e,Zrm h0 hg v a u ha (fun b' hm => hc b' (by simp only [reachL]; exact List.mem_append_left _ hm)) h1,
    Zmb h0 hg vs b r hb (fun b' hm => hc b' (by simp only [reachL]; exact List.mem_append_right _ hm)) h2⟩
  ·cases hh
end
theorem ZrU {g : Nat→List Nat} {b : Nat} : ∀ {l : List AV},b ∈ reachL g l↔∃ v ∈ l,b ∈ reachA g v
 | [] => by simp [reachL]
 | v :: vs => by
         simp only [reachL,List.mem_append,ZrU (l:=vs),List.mem_cons]; constructor
         ·rintro (h | ⟨x,hx,h⟩)
          ·exact ⟨v,.inl rfl,h⟩
          ·exact ⟨x,.inr hx,h⟩
         ·rintro ⟨x,rfl | hx,h⟩
          ·exact .inl h
          ·exact .inr ⟨x,hx,h⟩
theorem ZuL {sn : Nat→Nat→Nat→Nat→Option AV} : ∀ {vs vs' : List AV},snapL sn vs = some vs'→vs'.length = vs.length∧∀ (j : Nat) (x : AV),vs'[j]? = some x→∃ v,vs[j]? = some v∧snapA sn v = some x
 | [],vs',h => by simp [snapL] at h; subst h; simp
 | v :: vs,vs',h => by
  simp only [snapL] at h
  split at h
  ·next a b ha hb =>
   cases h
   obtain ⟨h1,h2⟩:=ZuL hb
   refine ⟨by simp [h1],fun j x hj => ?_⟩
   cases j with
   | zero => simp at hj; subst hj; exact ⟨v,rfl,ha⟩
   | succ j => simpa using h2 j x (by simpa using hj)
  ·cases h
theorem Zrn {A : Nat→Prop} {n0 : Nat} {S S0 : Sc} {hp h : Mem} {fz : Nat→Prop} (H : HR A n0 S hp fz) (hle : ∀ b k,h b = some k→hp b = some k) (h0 : Shut S S0) : ∀ (d : Nat) (b off n sz : Nat) (x : AV) (u : Value),snapG h d b off n sz = some x →
  (∀ b' ∈ reachG h d b,Cov S S0 h b')→Rel S.ny (.own b off n sz) u→Rel S0.ny x u
 | 0,b,off,n,sz,x,u,hs,_,_ => by simp [snapG] at hs
 | d + 1,b,off,n,sz,x,u,hs,hc,hr => by
  simp only [snapG] at hs
  split at hs
  ·next cs hcs =>
   rw [Option.map_eq_some_iff] at hs
   obtain ⟨cs',hs,rfl⟩:=hs
   simp only [Rel] at hr ⊢
   obtain ⟨i,c,hi,rfl,hn,_,_⟩:=hr
   obtain ⟨hat,hlen⟩:=H.read hle hcs hi
   have hk : ∃ k : Blk,h b = some k∧k.dead = false∧(k.cs.drop off).take (n * sz) = cs:=by
    unfold rdBlk at hcs
    cases hb : h b with
    | none => simp [hb] at hcs
    | some k =>
     simp only [hb] at hcs
     split at hcs
     ·cases hcs
     ·next hd =>
      split at hcs
      ·cases hcs; exact ⟨k,rfl,by simpa using hd,rfl⟩
      ·cases hcs
   obtain ⟨k,hb,hd,hkc⟩:=hk
   refine ⟨_,c,rfl,hn,.inr ⟨i.r,i.base + off,rfl,hc b (by simp [reachG]) i hi ⟨k,hb,hd⟩,?_⟩⟩
   rw [h0.ny.self]
   obtain ⟨hl,hget⟩:=ZuL hs
   refine Zam.2 fun j y hj => ?_
   obtain ⟨v,hv,hsn⟩:=hget j y hj
   obtain ⟨u,hu1,hu2,hu3⟩:=Zam.1 hat j v hv
   refine ⟨u,by show S0.w.cell? _ = _; rw [h0.w]; exact hu1,hu2,Zrm h0.ny (Zrn H hle h0 d) v y u hsn (fun b' hm => hc b' ?_) hu3⟩
   simp only [reachG,hb]
   refine List.mem_cons_of_mem _ (ZrU.2 ⟨v,?_,hm⟩)
   rw [← hkc] at hv
   exact List.mem_of_mem_drop (List.mem_of_mem_take (List.mem_of_getElem? hv))
  ·cases hs
theorem ZuM {A : Nat→Prop} {n0 : Nat} {S S0 : Sc} {hp h : Mem} {fz : Nat→Prop} (H : HR A n0 S hp fz) (hle : ∀ b k,h b = some k→hp b = some k) (h0 : Shut S S0) {vs vs' : List AV} {us : List Value} (hs : snaps h vs = some vs') (hr : RelL S vs us)
  (hc : ∀ b' ∈ reachL (reachG h 3) vs,Cov S S0 h b') : RelL S0 vs' us :=
 Zmb h0 (Zrn H hle h0 3) vs vs' us hs hc hr
mutual
theorem ZwS {S S' : Sc} (hL : S'.L.f = S.L.f) : ∀ (v : AV) (u : Value),refA v = false→Rel S v u→Rel S' v u
 | .undef,u,h,hr => by simp [refA] at h
 | .int k n,u,h,hr => by simpa only [Rel] using hr
 | .bool b,u,h,hr => by simpa only [Rel] using hr
 | .fl k b,u,h,hr => by simpa only [Rel] using hr
 | .nil,u,h,hr => by simpa only [Rel] using hr
 | .np,u,h,hr => by simpa only [Rel] using hr
 | .nf,u,h,hr => by simpa only [Rel] using hr
 | .nan k,u,h,hr => by simpa only [Rel] using hr
 | .imm n cs,u,h,hr => by simp [refA] at h
 | .own b off n sz,u,h,hr => by simp [refA] at h
 | .ptr b off,u,h,hr => by simp [refA] at h
 | .iptr cs off,u,h,hr => by simp [refA] at h
 | .gptr g off,u,h,hr => by simp [refA] at h
 | .agg cs,u,h,hr => by
  simp only [Rel] at hr ⊢
  obtain ⟨us,e,hr⟩:=hr
  exact ⟨us,e,Zop hL cs us.toList (by simpa only [refA] using h) hr⟩
 | .tup cs,u,h,hr => by
  simp only [Rel] at hr ⊢
  obtain ⟨us,e,hr⟩:=hr
  exact ⟨us,e,Zop hL cs us.toList (by simpa only [refA] using h) hr⟩
 | .fn f cs,u,h,hr => by
  simp only [Rel] at hr ⊢
  obtain ⟨g,us,hg,e,hr⟩:=hr
  exact ⟨g,us,by rw [hL]; exact hg,e,Zop (S:=S.ny) (S':=S'.ny) hL cs us.toList (by simpa only [refA] using h) hr⟩
 | .yv,u,h,hr => by simp [refA] at h
theorem Zop {S S' : Sc} (hL : S'.L.f = S.L.f) : ∀ (vs : List AV) (us : List Value),refA.go vs = false→RelL S vs us→RelL S' vs us
 | [],us,h,hr => by simpa only [RelL] using hr
 | v :: vs,us,h,hr => by
  simp only [refA.go,Bool.or_eq_false_iff] at h
  simp only [RelL] at hr ⊢
  obtain ⟨u,r,e,h1,h2⟩:=hr
  exact ⟨u,r,e,ZwS hL v u h.1 h1,Zop hL vs r h.2 h2⟩
end
def noι : Nat→Option BI:=fun _ => none
structure CallsOK (P : Program) (L : LK) (G : Nat→Option (List AV)) (F : CallF) : Prop where
 shut : ∀ (f : Nat) (g : FuncId) (args : List AV) (r : AV) (h' : Heap),L f = some g→F false f args .nil = some (r,h')→∀ (w : World) (A : Nat→Prop) (us : List Value),(∀ r,A r→r < w.heap.size) →
  Gok G ⟨L.cut,w,A,noι⟩→RelL ⟨L.cut,w,A,noι⟩ args us →
  Goes P g us.toArray w fun u w' => Go.RowKit.Below w.heap.size w w'∧Rel ⟨L.cut,w',fun r => A r∨w.heap.size≤r∧r < w'.heap.size,noι⟩ r u
 inl : ∀ (f : Nat) (g : FuncId) (args : List AV) (h : Heap) (r : AV) (h' : Heap),L f = some g→F true f args h = some (r,h')→∀ (A : Nat→Prop) (n0 : Nat) (S : Sc) (us : List Value),S.L = L→HR A n0 S h.mem h.fz →
  Gok G S→RelL S args us→Goes P g us.toArray S.w fun u w' => Res A n0 S r h'.mem h'.fz u w'
 yld : ∀ (args : List AV) (h : Heap) (r : AV) (h' : Heap),F true 0 args h = some (r,h')→∀ (A : Nat→Prop) (n0 : Nat) (S : Sc) (us : List Value) (b : YB),S.L = L→L.y = some b→HR A n0 S h.mem h.fz →
  Gok G S→RelL S args us→∃ f tmps assign body,(Instr.yield b.l us.toArray).run P S.w = .ok (.round b.l f tmps assign body) S.w∧∀ n,RoundIn Fence.wide n P b.l f tmps assign body S.w fun e w' => ∃ u,e = .returned u∧Res A n0 S r h'.mem h'.fz u w'
theorem ZyM {P : Program} {G : Nat→Option (List AV)} {F : CallF} {A : Nat→Prop} {n0 : Nat} {S : Sc} {hp h : Mem} {fz : Nat→Prop} (H : HR A n0 S hp fz) (hle : ∀ b k,h b = some k→hp b = some k) (hG : Gok G S) (hF : CallsOK P S.L G F) {f : AV} {args : List AV} {r : AV} {δ : List Blk} {fr : List Nat}
  (hc : evCall F h f args = some (r,δ,fr)) (hfr : ∀ b ∈ fr,fz b) {fu : Value} {us : List Value} (hf : Rel S f fu) (hu : RelL S args us) (p : Nat) :
  ∃ g caps,fu = .func (.func g) #[] caps∧(∃ n,S.L n = some g)∧Goes P g (us ++ caps.toList).toArray S.w fun u w' => ResQ A n0 S p δ r hp fz u w':=by
 cases f <;> simp only [evCall,reduceCtorEq] at hc
 case fn f cap =>
  simp only [Rel] at hf
  obtain ⟨g,caps,hL,rfl,hcap⟩:=hf
  have hall:=Zli hu hcap.up
  refine ⟨g,caps,rfl,⟨f,hL⟩,?_⟩
  split at hc
  ·next as has =>
   split at hc
   ·next r' h'' hr =>
    simp only [Option.some.injEq,Prod.mk.injEq] at hc
    obtain ⟨rfl,rfl,rfl⟩:=hc
    by_cases hre : refA r' = true
    ·rw [if_pos hre] at hfr
     have ok1:=H.addRo (fun r => ∃ (b : Nat) (k : Blk) (i : BI),hp b = some k∧S.ι b = some i∧k.dead = false∧fz b∧i.r = r) (fun r hr => hr)
     generalize hS1 : ({ S with ro:=fun r => S.ro r∨∃ (b : Nat) (k : Blk) (i : BI),hp b = some k∧S.ι b = some i∧k.dead = false∧fz b∧i.r = r } : Sc) = S1 at ok1
     have hw1 : S1.w = S.w:=by rw [← hS1]
     have hι1 : S1.ι = S.ι:=by rw [← hS1]
     have hL1 : S1.L = S.L:=by rw [← hS1]
     have hro1 : ∀ (b : Nat) (k : Blk) (i : BI),hp b = some k→S.ι b = some i→k.dead = false→fz b→S1.ro i.r:=fun b k i a1 a2 a3 a4 => by rw [← hS1]; exact .inr ⟨b,k,i,a1,a2,a3,a4,rfl⟩
     have hs0 : Shut S ⟨S.L.cut,S.w,S1.ro,noι⟩:=⟨rfl,rfl,rfl,fun r hr => ok1.le.ro r hr⟩
     have hrel:=ZuM H hle hs0 has hall (fun b' hm i hi ⟨k,hk,hd⟩ => hro1 b' k i (hle _ _ hk) hi hd (hfr b' hm))
     refine (hF.shut f g as r' h'' hL hr S.w S1.ro _ (fun r hx => by have:=(ok1.hr.ro r hx).1; rwa [hw1] at this) ?_ hrel).mono ?_
     ·refine ⟨fun g' cs e => ?_,fun b e => by cases e⟩
      obtain ⟨x,y⟩:=hG.1 g' cs e
      exact ⟨ok1.le.ro g' x,RelAt.gmono hs0.lw g' ⟨ok1.le.ro g' x,rfl⟩ cs 0 (ZmJ.2 y)⟩
     ·rintro u w' ⟨hb,hr⟩
      have hb' : Go.RowKit.Below S1.w.heap.size S1.w w':=by rw [hw1]; exact hb
      have ok:=HR.below ok1.hr hb'
      refine ⟨_,rfl,ok1.trans ok,Rel.gmono ?_ _ _ hr,fun b _ => by show S1.ι b = _; rw [hι1]⟩
      refine ⟨by show S1.L.f = _; rw [hL1]; rfl,fun p x => (by cases x),fun r x => .inl ⟨?_,rfl⟩,fun b i x => by simp [noι] at x⟩
      show S1.ro r∨S1.w.heap.size≤r∧r < w'.heap.size
      rw [hw1]; exact x
    ·have hs0 : Shut S ⟨S.L.cut,S.w,fun r => r < S.w.heap.size,noι⟩:=⟨rfl,rfl,rfl,fun r hr => (H.ro r hr).1⟩
     have hrel:=ZuM H hle hs0 has hall (fun b' hm i hi ⟨k,hk,hd⟩ => by
      obtain ⟨_,_,hrow,_⟩:=(H.blk b' k i (hle _ _ hk) hi).row
      exact Zha hrow)
     refine (hF.shut f g as r' h'' hL hr S.w _ _ (fun r hx => hx) ?_ hrel).mono ?_
     ·refine ⟨fun g' cs e => ?_,fun b e => by cases e⟩
      obtain ⟨x,y⟩:=hG.1 g' cs e
      exact ⟨(H.ro g' x).1,RelAt.gmono hs0.lw g' ⟨(H.ro g' x).1,rfl⟩ cs 0 (ZmJ.2 y)⟩
     ·rintro u w' ⟨hb,hr⟩
      have ok:=HR.below H hb
      exact ⟨_,rfl,ok,by refine ZwS (S:=⟨S.L.cut,w',fun r => r < S.w.heap.size∨S.w.heap.size≤r∧r < w'.heap.size,noι⟩) ?_ r' u (by simpa using hre) hr; rfl,fun _ _ => rfl⟩
   ·cases hc
  ·cases hc
end Go.Cv
namespace Go.Cv
theorem cell?_heap {w w' : World} (h : w'.heap = w.heap) (a : Addr) : w'.cell? a = w.cell? a:=by simp [World.cell?,h]
theorem ZrH {P : Program} {A : Nat→Prop} {n0 : Nat} {S : Sc} {hp : Mem} {fz : Nat→Prop} (H : HR A n0 S hp fz) {sz m : Nat} {y : AV} {new : List AV} (hs : sliceCells hp sz y = some (m,new)) {uy : Value} (hy : Rel S y uy) :
  ∃ (news : List Value) (a : Option Addr) (c : Nat),uy = .slice a m c∧RelL S.ny new news∧(∀ x ∈ news,x.oneCell' = true)∧new.length = m * sz ∧
   ∀ w' : World,w'.heap = S.w.heap→(Builtin.firstCells sz m uy).run P w' = .ok news.toArray w':=by
 have far : ∀ {r o : Nat} {cs : List AV} {c : Nat},RelAt S r cs o→cs.length = m * sz→∃ news : List Value,RelL S.ny cs news∧(∀ x ∈ news,x.oneCell' = true) ∧
   ∀ w' : World,w'.heap = S.w.heap→(Builtin.firstCells sz m (.slice (some ⟨r,o,none⟩) m c)).run P w' = .ok news.toArray w':=by
  intro r o cs c hat hl
  obtain ⟨us,k1,k2,k3⟩:=ZmK hat
  refine ⟨us,k1,k3,fun w' hw => ?_⟩
  exact run_firstCells_some w' sz m _ m c us (by rw [Zat k1]; exact hl) (fun j v hj => by rw [cell?_heap hw]; exact k2 j v hj)
 cases y <;> simp only [sliceCells,reduceCtorEq] at hs <;> simp only [Rel] at hy
 case nil =>
  simp only [Option.some.injEq,Prod.mk.injEq] at hs
  obtain ⟨rfl,rfl⟩:=hs
  subst hy
  exact ⟨[],none,0,rfl,by simp [RelL],by simp,by simp,fun w' _ => by simp [Builtin.firstCells]⟩
 case imm n cs =>
  split at hs
  ·next hl =>
   simp only [Option.some.injEq,Prod.mk.injEq] at hs
   obtain ⟨rfl,rfl⟩:=hs
   obtain ⟨a,c,rfl,hn,hx⟩:=hy
   rcases hx with rfl | ⟨r,o,rfl,hro,hx⟩
   ·have h0 : n * sz = 0:=by simpa using hl.symm
    refine ⟨[],a,c,rfl,by simp [RelL],by simp,hl,fun w' _ => ?_⟩
    cases a with
    | none => simp [Builtin.firstCells]
    | some a => simp [Builtin.firstCells,h0,loadCells,loadCellsFrom]
   ·obtain ⟨news,k1,k2,k3⟩:=far (c:=c) (hx.mono S.cl_le r hro) hl
    exact ⟨news,_,c,rfl,k1,k2,hl,k3⟩
  ·cases hs
 case own b off n s =>
  split at hs
  ·next hsz =>
   subst hsz
   rw [Option.map_eq_some_iff] at hs
   obtain ⟨cs,hcs,he⟩:=hs
   simp only [Prod.mk.injEq] at he
   obtain ⟨rfl,rfl⟩:=he
   obtain ⟨i,c,hi,rfl,hn,_,_⟩:=hy
   obtain ⟨hat,hl⟩:=H.read (fun _ _ q => q) hcs hi
   obtain ⟨news,k1,k2,k3⟩:=far (c:=c) hat hl
   exact ⟨news,_,c,rfl,k1,k2,hl,k3⟩
  ·cases hs
section
variable {P : Program}
theorem ZuD (w w' : World) (t t' ty e e' : TypeId) (i : TypeInfo) (ht : P.underlying t = some (.slice e)) (ht' : P.underlying t' = some (.slice e')) (hi : P.info? e = some i)
  (b : Addr) (sLen sCap m c : Nat) (a : Option Addr) (news : List Value) (hf : (Builtin.firstCells i.size m (.slice a m c)).run P w = .ok news.toArray w) (hroom : sLen + m≤sCap)
  (hst : (storeCells (b.add (sLen * i.size)) news).run P w = .ok () w') :
  (Builtin.append_ #[t,t'] ty #[.slice (some b) sLen sCap,.slice a m c]).run P w = .ok (.slice (some b) (sLen + m) sCap) w':=by
 simp [Builtin.append_,run_underlying ht,run_underlying ht',sizeOf,typeInfo,hi,Builtin.lenOf,hroom,hf,hst]
theorem Zps (w : World) (t t' ty e e' : TypeId) (i : TypeInfo) (z : Value) (ht : P.underlying t = some (.slice e)) (ht' : P.underlying t' = some (.slice e')) (hi : P.info? e = some i) (hz : i.zero = some z)
  (b : Option Addr) (sLen sCap m c : Nat) (a : Option Addr) (olds news : List Value)
  (hfo : (Builtin.firstCells i.size sLen (.slice b sLen sCap)).run P w.drew = .ok olds.toArray w.drew)
  (hf : (Builtin.firstCells i.size m (.slice a m c)).run P w.drew = .ok news.toArray w.drew) (hg : sCap < sLen + m)
  (h63 : ((sLen + m : Nat) : Int)≤9223372036854775807) (hfit : Builtin.nextslicecap (sLen + m) sCap * i.bytes≤281474976710656) :
  (Builtin.append_ #[t,t'] ty #[.slice b sLen sCap,.slice a m c]).run P w =
   .ok (.slice (some ⟨w.heap.size,0,none⟩) (sLen + m) (grownCap w (sLen + m) sCap e))
    (w.drew.alloc (.cells (olds.toArray ++ news.toArray ++ Builtin.zeroCells z.cells (grownCap w (sLen + m) sCap e - (sLen + m))) e)):=by
 have hn : ¬ (sLen + m≤sCap):=by omega
 have h63' : ¬ (9223372036854775807 < ((sLen : Int) + (m : Int))):=by omega
 have h48' : ¬ (281474976710656 < Builtin.nextslicecap (sLen + m) sCap * i.bytes):=by omega
 simp [Builtin.append_,run_underlying ht,run_underlying ht',sizeOf,typeInfo,zeroValue,hi,hz,Builtin.lenOf,hn,h63',h48',Question.forced,hf,hfo,newRow,grownCap]
 congr 2
 apply Array.ext'
 simp [List.append_assoc]
theorem ZuC (w : World) (t t' ty e e' : TypeId) (i : TypeInfo) (ht : P.underlying t = some (.slice e)) (ht' : P.underlying t' = some (.slice e')) (hi : P.info? e = some i)
  (a : Option Addr) (c : Nat) (hf : (Builtin.firstCells i.size 0 (.slice a 0 c)).run P w = .ok #[] w) :
  (Builtin.append_ #[t,t'] ty #[.slice none 0 0,.slice a 0 c]).run P w = .ok (.slice none 0 0) w:=by
 simp [Builtin.append_,run_underlying ht,run_underlying ht',sizeOf,typeInfo,hi,Builtin.lenOf,hf]
theorem Zww {A : Nat→Prop} {n0 : Nat} {S : Sc} {hp : Mem} {fz : Nat→Prop} (H : HR A n0 S hp fz) {p : Nat} (hn : S.ι p = none) {cs : List AV} (hpp : hp p = some ⟨cs,false⟩) {us : List Value} (hu : RelL S.ny cs us) (h1 : ∀ x ∈ us,x.oneCell' = true) {need cap sz : Nat} (hl : cs.length = need * sz)
  (hc : need≤cap) {z : Array Value} (hz : z.size = sz) (el : TypeId) :
  ResI A n0 S p (.own p 0 need sz) hp fz (.slice (some ⟨S.w.heap.size,0,none⟩) need cap) (S.w.drew.alloc (.cells (us.toArray ++ Builtin.zeroCells z (cap - need)) el)):=by
 have hul:=Zat hu
 have d:=Ok.drew H
 have hsz : (us.toArray ++ Builtin.zeroCells z (cap - need)).size = cap * sz:=by
  rw [Array.size_append,size_zeroCells,hz,List.size_toArray,hul,hl,← Nat.add_mul]
  congr 1; omega
 have ok:=Ok.alloc d.hr (p:=p) hn hpp (c:=us.toArray ++ Builtin.zeroCells z (cap - need)) el (hu.mono d.le.ny) h1 (fun j u hj => by
  rw [Array.getElem?_append_left (by simpa using (List.getElem?_eq_some_iff.1 hj).1)]; simpa using hj) (by rw [Array.size_append]; simp)
 refine ⟨_,rfl,d.trans ok,?_,fun b hb => by simp [Sc.new,Sc.at,hb]⟩
 simp only [Rel]
 refine ⟨⟨S.w.heap.size,0,cs.length,(us.toArray ++ Builtin.zeroCells z (cap - need)).size⟩,cap,by simp [Sc.new,Sc.at],rfl,hc,?_,?_⟩
 ·show 0 + 0 + cap * sz≤_
  rw [hsz]; show _≤cap * sz; omega
 ·show cs.length≤0 + cap * sz
  rw [hl,Nat.zero_add]; exact Nat.mul_le_mul_right _ hc
theorem ZwF {h : Heap} {l : List Blk} {x : Blk} {f : List Nat} (hl : l.length = h.b.length) : (⟨l ++ [x],f⟩ : Heap).mem h.b.length = some x∧∀ b,b < h.b.length→(⟨l ++ [x],f⟩ : Heap).mem b = l[b]?:=by
 refine ⟨?_,fun b hb => ?_⟩
 ·show (l ++ [x])[h.b.length]? = _
  rw [← hl]; simp
 ·show (l ++ [x])[b]? = _
  rw [List.getElem?_append_left (by omega)]
theorem ZyH {A : Nat→Prop} {n0 : Nat} {S : Sc} {h : Heap} {fz : Nat→Prop} (H : HR A n0 S h.mem fz) {b : Nat} {i : BI} (hi : S.ι b = some i) : b < h.b.length:=by
 obtain ⟨k,hk⟩:=H.dom b i hi
 exact (List.getElem?_eq_some_iff.1 hk).1
theorem Zsu {A : Nat→Prop} {n0 : Nat} {S : Sc} {h : Heap} {fz : Nat→Prop} (H : HR A n0 S h.mem fz) {b : Nat} (hb : h.b.length≤b) : S.ι b = none:=by
 cases hx : S.ι b with
 | none => rfl
 | some i => have:=ZyH H hx; omega
theorem ZGz {A : Nat→Prop} {n0 : Nat} {S : Sc} {h h' : Heap} (H : HR A n0 S h.mem h.fz) {sz bytes : Nat} {e : Env} {G : Nat→Option (List AV)} {F : CallF} {x y : IOpd} {v : AV}
  (hev : evW G F e h (.app sz bytes x y) = some (v,h')) {ux uy : Value} (hx : Rel S (opd e x) ux) (hy : Rel S (opd e y) uy)
  (t t' ty el el' : TypeId) (i : TypeInfo) (ht : P.underlying t = some (.slice el)) (ht' : P.underlying t' = some (.slice el')) (hi : P.info? el = some i) (hsz : i.size = sz) (hby : i.bytes = bytes)
  (z : Value) (hz : i.zero = some z) (hzs : z.cells.size = sz) (h0 : 0 < i.bytes) :
  ∃ u w',(Builtin.append_ #[t,t'] ty #[ux,uy]).run P S.w = .ok u w'∧ResI A n0 S h.b.length v h'.mem h'.fz u w':=by
 subst hsz; subst hby
 simp only [evW] at hev
 split at hev
 ·next m new hsl =>
  obtain ⟨news,ay,cy,rfl,hnews,hone,hnl,hfc⟩:=ZrH (P:=P) H hsl hy
  have hnl' : news.length = m * i.size:=by rw [Zat hnews]; exact hnl
  have hnew : S.ι h.b.length = none:=Zsu H (Nat.le_refl _)
  generalize hxv : opd e x = xv at hev hx
  cases xv <;> simp only [reduceCtorEq] at hev <;> simp only [Rel] at hx
  case nil =>
   subst hx
   split at hev
   ·next hm =>
    subst hm
    simp only [Option.some.injEq,Prod.mk.injEq] at hev
    obtain ⟨rfl,rfl⟩:=hev
    have hn0 : news = []:=List.eq_nil_of_length_eq_zero (by simpa using hnl')
    subst hn0
    exact ⟨_,_,ZuC S.w t t' ty el el' i ht ht' hi ay cy (hfc S.w rfl),S,rfl,.refl H,by simp [Rel],fun _ _ => rfl⟩
   ·next hm =>
    split at hev
    ·next hb =>
     simp only [Option.some.injEq,Prod.mk.injEq] at hev
     obtain ⟨rfl,rfl⟩:=hev
     have hb' : m * i.bytes≤140737488355328:=by simpa [boundApp] using hb
     have hb2:=Nat.le_mul_of_pos_right m h0
     have hfits : Builtin.nextslicecap (0 + m) 0 * i.bytes≤281474976710656:=growslice_fits (by omega) (by simp; omega)
     have hr:=Zps (P:=P) S.w t t' ty el el' i z ht ht' hi hz none 0 0 m cy ay [] news (by simp [Builtin.firstCells]) (hfc _ rfl) (by omega) (by simp; omega) hfits
     obtain ⟨m1,m2⟩:=ZwF (h:=h) (l:=h.b) (x:=⟨new,false⟩) (f:=h.f) rfl
     have H2 : HR A n0 S (⟨h.b ++ [⟨new,false⟩],h.f⟩ : Heap).mem h.fz:=H.ext (fun b i hi => m2 b (ZyH H hi)) (fun _ q => q)
     have res:=Zww H2 hnew m1 hnews hone hnl (grownCap_ge S.w m 0 el) hzs el
     simp only [Nat.zero_add,Array.empty_append,List.nil_append] at hr
     exact ⟨_,_,hr,res⟩
    ·cases hev
  case own b off n s =>
   split at hev
   ·next k hk =>
    split at hev
    ·next hc =>
     obtain ⟨rfl,hd,hfz,hle,hb⟩:=hc
     simp only [Option.some.injEq,Prod.mk.injEq] at hev
     obtain ⟨rfl,rfl⟩:=hev
     obtain ⟨bi,cap,hbi,rfl,hn,hcap,hlen⟩:=hx
     have B:=H.blk b k bi hk hbi
     obtain ⟨row,rt,hrow,hrs⟩:=B.row
     have hblt:=(List.getElem?_eq_some_iff.1 hk).1
     have hb' : (n + m) * i.bytes≤140737488355328:=by simpa [boundApp] using hb
     have hb2:=Nat.le_mul_of_pos_right (n + m) h0
     have hat : RelAt S bi.r ((k.cs.drop off).take (n * i.size)) (bi.base + off):=ZlZ (B.cells hd) off _
     have hatl : ((k.cs.drop off).take (n * i.size)).length = n * i.size:=by simp; omega
     obtain ⟨olds,o1,o2,o3⟩:=ZmK hat
     have hol : olds.length = n * i.size:=by rw [Zat o1,hatl]
     have hall : RelL S.ny ((k.cs.drop off).take (n * i.size) ++ new) (olds ++ news):=Zli o1 hnews
     have hall1 : ∀ x ∈ olds ++ news,x.oneCell' = true:=fun x hx => (List.mem_append.1 hx).elim (o3 x) (hone x)
     have hlall : ((k.cs.drop off).take (n * i.size) ++ new).length = (n + m) * i.size:=by rw [List.length_append,hatl,hnl,Nat.add_mul]
     obtain ⟨m1,m2⟩:=ZwF (h:=h) (l:=h.b.set b { k with dead:=true }) (x:=⟨(k.cs.drop off).take (n * i.size) ++ new,false⟩) (f:=h.f) (by simp)
     have hqb : (⟨h.b.set b { k with dead:=true } ++ [⟨(k.cs.drop off).take (n * i.size) ++ new,false⟩],h.f⟩ : Heap).mem b = some { k with dead:=true }:=by
      rw [m2 b hblt,List.getElem?_set]; simp [hblt]
     have hqo : ∀ b',b'≠b→b' < h.b.length→(⟨h.b.set b { k with dead:=true } ++ [⟨(k.cs.drop off).take (n * i.size) ++ new,false⟩],h.f⟩ : Heap).mem b' = h.mem b':=fun b' hne hlt => by
      rw [m2 b' hlt,List.getElem?_set,if_neg (fun e => hne e.symm)]; rfl
     have hqo' : ∀ b',b'≠b→b'≠h.b.length→(⟨h.b.set b { k with dead:=true } ++ [⟨(k.cs.drop off).take (n * i.size) ++ new,false⟩],h.f⟩ : Heap).mem b' = h.mem b':=fun b' hne hne2 => by
      rcases Nat.lt_or_ge b' h.b.length with q | q
      ·exact hqo b' hne q
      ·show (h.b.set b _ ++ [_])[b']? = h.b[b']?
       rw [List.getElem?_eq_none (by simp; omega),List.getElem?_eq_none q]
     by_cases hroom : n + m≤cap
     ·have hmul : (n + m) * i.size≤cap * i.size:=Nat.mul_le_mul_right _ hroom
      rw [Nat.add_mul] at hmul
      have hst:=run_storeCells_at P bi.r (bi.base + off + n * i.size) rt news 0 row S.w hrow (by omega) hone
      have hr:=ZuD (P:=P) S.w _ t t' ty el el' i ht ht' hi ⟨bi.r,bi.base + off,none⟩ n cap m cy ay news (hfc S.w rfl) hroom (by rw [ZeR]; exact hst)
      refine ⟨_,_,hr,_,rfl,Ok.inplace H hk hbi hd (ZDu hfz) hnew hqb m1 hqo' (base':=bi.base + off) (by rw [hlall,Nat.add_mul]; omega) ?_ ?_,?_,fun b hb => by simp [Sc.new,hb]⟩
      ·simp; omega
      ·intro j v hj
       obtain ⟨u,hu1,hu2⟩:=ZhG hall j v hj
       refine ⟨u,?_,hall1 u (List.mem_of_getElem? hu1),hu2⟩
       simp only [Nat.add_zero,List.getElem?_toArray]
       by_cases hjn : j < n * i.size
       ·rw [List.getElem?_append_left (by omega)] at hu1
        have:=o2 j u hu1
        rw [ZeR,cell_of_row _ _ _ _ _ _ hrow] at this
        rw [List.getElem?_append_left (by simp; omega),List.getElem?_append_left (by simp; omega),List.getElem?_take,if_pos (by omega)]
        simpa using this
       ·rw [List.getElem?_append_right (by omega)] at hu1
        have hjl:=(List.getElem?_eq_some_iff.1 hu1).1
        rw [List.getElem?_append_left (by simp; omega),List.getElem?_append_right (by simp; omega)]
        rw [← hu1]; congr 1; simp; omega
      ·simp only [Rel]
       refine ⟨⟨bi.r,bi.base + off,((k.cs.drop off).take (n * i.size) ++ new).length,bi.rs⟩,cap,by simp [Sc.new],rfl,hroom,?_,?_⟩
       ·show bi.base + off + 0 + cap * i.size≤bi.rs
        omega
       ·show ((k.cs.drop off).take (n * i.size) ++ new).length≤0 + cap * i.size
        rw [hlall,Nat.add_mul]; omega
     ·have H1:=HR.kill H hk hqb (fun b' i' hne hi' => hqo b' hne (ZyH H hi'))
      have hfits : Builtin.nextslicecap (n + m) cap * i.bytes≤281474976710656:=growslice_fits (by omega) (by omega)
      have hfo : (Builtin.firstCells i.size n (.slice (some ⟨bi.r,bi.base + off,none⟩) n cap)).run P S.w.drew = .ok olds.toArray S.w.drew :=
       run_firstCells_some S.w.drew i.size n _ n cap olds hol (fun j v hj => o2 j v hj)
      have hr:=Zps (P:=P) S.w t t' ty el el' i z ht ht' hi hz (some ⟨bi.r,bi.base + off,none⟩) n cap m cy ay olds news hfo (hfc _ rfl) (by omega) (by omega) hfits
      obtain ⟨S2,hw2,ok2,hr2,hid2⟩:=Zww H1 hnew m1 hall hall1 hlall (grownCap_ge S.w (n + m) cap el) hzs el
      refine ⟨_,_,hr,S2,?_,ok2,hr2,hid2⟩
      rw [hw2]
      congr 3
      apply Array.ext'
      simp
    ·cases hev
   ·cases hev
 ·cases hev
end
end Go.Cv
