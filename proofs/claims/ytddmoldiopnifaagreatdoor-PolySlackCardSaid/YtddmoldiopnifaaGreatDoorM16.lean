/-
 A part of the proof of the statements of this seat (texts that the law's own text leans on): no condition.
-/
import Derived.Test.YtddmoldiopnifaaGreatDoorM15
set_option linter.unusedVariables false
set_option linter.unusedSimpArgs false
namespace Go.Cv
def hL (F : Fm) (L : Int) : Int:=((2 ^ (F.low - L).toNat : Nat) : Int)
theorem Zip (F : Fm) (L : Int) : 0 < hL F L:=by have:=Nat.two_pow_pos (F.low - L).toNat; unfold hL; omega
theorem ZCu (F : Fm) {d : Dy} (hn : d.n = false) (h0 : d.m≠0) {L : Int} (l1 : L < F.low) (l2 : L < d.e) (hf : F.fin (rndW F 4 d).1) :
  (F1 F : Int) * iv (F.vl (rndW F 4 d).1) L≤F1 F * iv d L + 2 * iv d L + F1 F * hL F L∧(F.low≤d.e→(F1 F : Int) * iv (F.vl (rndW F 4 d).1) L≤F1 F * iv d L + 2 * iv d L):=by
 obtain ⟨A,U,W,e0,u,ex,S,_⟩:=ZAv F h0 l1 l2
 obtain ⟨b,fl,r,g,R⟩:=S.all 4 (by omega) (by omega)
 have hb : b = !ex:=by rw [R.b4 rfl,hn]; rfl
 have hov : ¬ F.i0≤e0 + b.toNat:=by
  intro q
  rw [r,if_pos q,hn] at hf
  exact Zlq F false (by rw [ZlM]; exact hf)
 rw [if_neg hov] at r
 have e : (rndW F 4 d).1 = e0 + b.toNat + F.sgn false:=by rw [r,hn]
 have hv : iv (F.vl (rndW F 4 d).1) L = ((magN F (e0 + b.toNat) * 2 ^ (F.low - L).toNat : Nat) : Int):=by
  rw [ZbA hf,e,(Zmb (F:=F) (s:=e0 + b.toNat) false (by omega) (by omega)).1]; simp
 have hA : iv d L = (A : Int):=by
  unfold iv; rw [hn,S.hA]; simp
 rw [hv,hA]
 unfold hL
 have hw:=S.worth
 have hw1:=S.worth1
 have hlo:=R.lo
 have hhi:=R.hi
 have hU:=S.hU
 have hlou:=S.lou
 have hF1 : F1 F = 2 * 2 ^ F.fr:=by unfold F1; rw [Nat.pow_succ]; omega
 cases ex
 ·subst hb
  simp only [Bool.not_false,Bool.toNat_true]
  rw [hw1 rfl,Nat.add_mul,Nat.one_mul]
  have m1:=Nat.mul_le_mul_left (F1 F) hlo
  have key : u = F.low∨F1 F * U≤2 * A:=by
   rcases S.wc with q | q
   ·exact Or.inl q
   ·right
    have:=Nat.mul_le_mul_right U q
    rw [hF1,Nat.mul_assoc]
    omega
  have ex2 : F.low≤d.e→u = F.low→False:=fun q1 q2 => by
   have hx:=R.exi
   have hd : A = d.m * 2 ^ (d.e - u).toNat * U:=by
    rw [S.hA,hU,Nat.mul_assoc,← Nat.pow_add]
    congr 2
    have:=S.hL
    omega
   have hlt : d.m * 2 ^ (d.e - u).toNat < W + 1:=by rw [hd] at hhi; exact Nat.lt_of_mul_lt_mul_right hhi
   have hge : W≤d.m * 2 ^ (d.e - u).toNat:=by
    rw [hd] at hlo
    exact Nat.le_of_mul_le_mul_right hlo (by rw [hU]; exact Nat.two_pow_pos _)
   have : d.m * 2 ^ (d.e - u).toNat = W:=by omega
   rw [this] at hd
   exact absurd (hx.2 hd) (by decide)
  have m2 : F1 F * (W * U + U) = F1 F * (W * U) + F1 F * U:=Nat.mul_add ..
  refine ⟨?_,fun q => ?_⟩
  ·rcases key with k | k
   ·have hU2 : U = 2 ^ (F.low - L).toNat:=by rw [hU,k]
    rw [← hU2]
    rw [← Int.natCast_mul,← Int.natCast_mul,← Int.natCast_mul,m2]
    omega
   ·have:=Nat.zero_le (F1 F * 2 ^ (F.low - L).toNat)
    rw [← Int.natCast_mul,← Int.natCast_mul,← Int.natCast_mul,m2]
    omega
  ·rcases key with k | k
   ·exact absurd (ex2 q k) id
   ·rw [← Int.natCast_mul,← Int.natCast_mul,m2]
    omega
 ·subst hb
  simp only [Bool.not_true,Bool.toNat_false,Nat.add_zero]
  have hx:=R.exi.1 rfl
  rw [hw,← hx]
  have:=Nat.zero_le (F1 F * 2 ^ (F.low - L).toNat)
  rw [← Int.natCast_mul,← Int.natCast_mul]
  omega
theorem ZAK (F : Fm) {d : Dy} {K : Int} (hK : LoE d K) (hn : d.n = false) (hf : F.fin (sumW F 4 d).1) {L : Int} (l1 : L < F.low) (l2 : L < K) :
  (F1 F : Int) * iv (F.vl (sumW F 4 d).1) L≤F1 F * iv d L + 2 * iv d L + F1 F * hL F L∧(F.low≤K→(F1 F : Int) * iv (F.vl (sumW F 4 d).1) L≤F1 F * iv d L + 2 * iv d L):=by
 unfold sumW at hf ⊢
 by_cases h0 : d.m = 0
 ·rw [if_pos h0,(ZaH F _).2.2.2,Zah h0,Zah rfl]
  have:=Zip F L
  have:=Int.mul_nonneg (Int.natCast_nonneg (F1 F)) (Int.le_of_lt this)
  omega
 ·rw [if_neg h0] at hf ⊢
  have k:=ZiG hK h0
  obtain ⟨g1,g2⟩:=ZCu F hn h0 l1 (by omega) hf
  exact ⟨g1,fun q => g2 (by omega)⟩
theorem ZCq (F : Fm) {a b : Nat} (ha : a < 2 * F.sg) (hb : b < 2 * F.sg) (na : (F.vl a).n = false) (nb : (F.vl b).n = false) (hf : F.fin (uA F a b)) {L : Int} (hL : L≤-4000) :
  (F1 F : Int) * iv (F.vl (uA F a b)) L≤F1 F * (iv (F.vl a) L + iv (F.vl b) L) + 2 * (iv (F.vl a) L + iv (F.vl b) L):=by
 have hF:=Zak F
 obtain ⟨fa,fb⟩:=Zjc F 4 hf
 have hna:=Zbo L na
 have hnb:=Zbo L nb
 unfold uA addW at hf ⊢
 rw [Zok F 4 (Zat.1 fa) (Zat.1 fb)] at hf ⊢
 by_cases hz : F.cls a = 1∧F.cls b = 1∧F.ng a = F.ng b
 ·rw [if_pos hz,(ZaH F _).2.2.2,Zah rfl]
  have:=Int.mul_nonneg (Int.natCast_nonneg (F1 F)) (Int.add_nonneg hna hnb)
  omega
 ·rw [if_neg hz] at hf ⊢
  obtain ⟨i1,l1⟩:=Zbx (ZaB fa) (ZaB fb)
  have nz:=ZcT (ZbX F a) (ZbX F b)
  have hn:=ZnI nz l1 (by rw [i1]; have:=Zbo F.low na; have:=Zbo F.low nb; omega)
  have g:=(ZAK F l1 hn hf (L:=L) (by omega) (by omega)).2 (Int.le_refl _)
  rw [(Zbx (LoEv fa (by omega)) (LoEv fb (by omega))).1] at g
  exact g
theorem ZFo (F : Fm) {a b : Nat} (ha : a < 2 * F.sg) (hb : b < 2 * F.sg) (na : (F.vl a).n = false) (nb : (F.vl b).n = false) (hf : F.fin (uM F a b)) {K L : Int} (hK : K≤-4000) (hL' : L≤-4000) :
  (F1 F : Int) * iv (F.vl (uM F a b)) (K + L)≤F1 F * (iv (F.vl a) K * iv (F.vl b) L) + 2 * (iv (F.vl a) K * iv (F.vl b) L) + F1 F * hL F (K + L):=by
 have hF:=Zak F
 obtain ⟨fa,fb⟩:=ZoR F 4 hf
 have hp:=Int.mul_nonneg (Zbo K na) (Zbo L nb)
 unfold uM mulW2 at hf ⊢
 rw [ZsR F 4 (Zat.1 fa) (Zat.1 fb)] at hf ⊢
 by_cases hz : F.cls a = 1∨F.cls b = 1
 ·rw [if_pos hz,(ZaH F _).2.2.2,Zah rfl]
  have:=Int.mul_nonneg (Int.natCast_nonneg (F1 F)) hp
  have:=Int.mul_nonneg (Int.natCast_nonneg (F1 F)) (Int.le_of_lt (Zip F (K + L)))
  omega
 ·rw [if_neg hz] at hf ⊢
  obtain ⟨i1,l1⟩:=Zbb (ZaB fa) (ZaB fb)
  have nz:=ZbB (F.vl a) (F.vl b)
  have hn:=ZnI nz l1 (by rw [i1]; exact Int.mul_nonneg (Zbo _ na) (Zbo _ nb))
  have g:=(ZAK F l1 hn hf (L:=K + L) (by omega) (by omega)).1
  rw [(Zbb (LoEv fa (by omega)) (LoEv fb (by omega))).1] at g
  exact g
theorem ZFq (F : Fm) {w : Nat} (hw : w < 2 * F.sg) (nw : (F.vl w).n = false) (hf : F.fin (uS F w)) {L : Int} (hL' : L≤-4000) :
  (F1 F : Int) * (F1 F * iv (F.vl (uS F w)) L)≤F1 F * iv (F.vl w) L + 2 * iv (F.vl w) L + F1 F * (F1 F * hL F L):=by
 have hF:=Zak F
 have fw:=Zpk F 4 hf
 have cw:=Zat.1 fw
 have hU : (0 : Int)≤F1 F:=Int.natCast_nonneg _
 have hh:=Int.mul_nonneg hU (Int.mul_nonneg hU (Int.le_of_lt (Zip F L)))
 unfold uS scaW at hf ⊢
 rw [if_neg (by omega)] at hf ⊢
 by_cases h1 : F.cls w = 4∨F.cls w = 1
 ·rw [if_pos h1]
  simp only
  rw [Zah ((Zct hw fw).1 (by omega)),Int.mul_zero,Int.mul_zero]
  omega
 ·rw [if_neg h1] at hf ⊢
  have h0 : (F.vl w).m≠0:=fun q => h1 (Or.inr ((Zct hw fw).2 q))
  have hs0 : (shD (F.vl w) (-(F.fr + 1 : Nat))).m≠0:=by unfold shD; rw [if_neg h0]; exact h0
  have hn : (shD (F.vl w) (-(F.fr + 1 : Nat))).n = false:=by unfold shD; rw [if_neg h0]; exact nw
  obtain ⟨_,l1⟩:=Ztu (k:=F.fr + 1) (ZaB fw)
  have k:=ZiG l1 hs0
  have g:=(ZCu F hn hs0 (L:=L) (by omega) (by omega) hf).1
  obtain ⟨i3,_⟩:=Ztu (k:=F.fr + 1) (L:=L + (F.fr + 1 : Nat)) (LoEv fw (by omega))
  rw [show L + ((F.fr + 1 : Nat) : Int) - ((F.fr + 1 : Nat) : Int) = L by omega] at i3
  have i4:=ZkB (L:=L + (F.fr + 1 : Nat)) (L':=L) (LoEv (F:=F) fw (by omega)) (by omega)
  rw [show (L + ((F.fr + 1 : Nat) : Int) - L).toNat = F.fr + 1 by omega,i3] at i4
  have e1 : ((2 ^ (F.fr + 1) : Nat) : Int) = (F1 F : Int):=rfl
  rw [e1] at i4
  rw [i4]
  generalize iv (shD (F.vl w) (-((F.fr + 1 : Nat) : Int))) L = y at *
  generalize iv (F.vl (rndW F 4 (shD (F.vl w) (-((F.fr + 1 : Nat) : Int)))).1) L = r at *
  have g2:=Int.mul_le_mul_of_nonneg_left g hU
  generalize (F1 F : Int) = U at *
  rw [Int.mul_add,Int.mul_add] at g2
  have e2 : U * (2 * y) = 2 * (y * U):=by grind
  have e3 : U * (U * y) = U * (y * U):=by grind
  omega
theorem ZCs (F : Fm) {p : Nat × Nat} (hf : F.fin (uN F p)) {L : Int} (hL' : L≤-4000) {B : Int} (hB : NB (iv (F.vl p.1) L) (iv (F.vl p.2) L) B) :
  (F1 F : Int) * iv (F.vl (uN F p)) L≤F1 F * B + 3 * B + F1 F * hL F L:=by
 have hF:=Zak F
 obtain ⟨f1,f2⟩:=ZtX F hf
 have hU : (0 : Int)≤F1 F:=Int.natCast_nonneg _
 have hh:=Int.mul_nonneg hU (Int.le_of_lt (Zip F L))
 obtain ⟨hB0,hB1⟩:=hB
 have hB2:=Int.mul_nonneg hU hB0
 unfold uN at hf ⊢
 rw [Zoj F 4 f1 f2] at hf ⊢
 unfold rtW at hf ⊢
 by_cases h0 : (sqD F p.1 p.2).m = 0
 ·rw [if_pos h0]
  show (F1 F : Int) * iv (F.vl 0) L≤_
  have e : F.vl 0 = ⟨false,0,0⟩:=(ZaH F false).2.2.2
  rw [e,Zah rfl]; omega
 ·rw [if_neg h0] at hf ⊢
  have l0 : LoE (sqD F p.1 p.2) (F.low + F.low):=(Zbx (Zbb (ZaB f1) (ZaB f1)).2 (Zbb (ZaB f2) (ZaB f2)).2).2
  have le:=ZiG l0 h0
  have hsq:=Zut F (LoEv f1 (show L≤-2000 by omega)) (LoEv f2 (show L≤-2000 by omega))
  have hn:=Zod F p.1 p.2
  rw [← hsq,ZBs hn] at hB1
  generalize sqD F p.1 p.2 = d at *
  have hP : rootP d.e = 130 + (d.e % 2).toNat:=rfl
  obtain ⟨P,hPe⟩ : ∃ P,P = rootP d.e:=⟨_,rfl⟩
  obtain ⟨M,hM⟩ : ∃ M,M = d.m * 2 ^ P:=⟨_,rfl⟩
  obtain ⟨r1,r2⟩:=Zic M
  have hM0 : M≠0:=by rw [hM]; exact Nat.mul_ne_zero h0 (Nat.pos_iff_ne_zero.1 (Nat.two_pow_pos _))
  have hbM : blen M = blen d.m + P:=by rw [hM]; exact Zam h0 P
  have hb0:=Zbg h0
  have hQ0 : isq M≠0:=fun q => by
   rw [q] at r2
   have : M = 0:=by omega
   exact hM0 this
  obtain ⟨b1,b2⟩:=ZzG r1 r2 hM0 hQ0
  unfold rootW at hf ⊢
  rw [← hPe,← hM] at hf ⊢
  obtain ⟨E,hE⟩ : ∃ E,E = (d.e - (P : Nat)) / 2:=⟨_,rfl⟩
  rw [← hE] at hf ⊢
  have hE2 : 2 * E = d.e - P:=by omega
  have hm : 2 * isq M + (!decide (isq M * isq M = M)).toNat≠0:=by omega
  have hs1 : (!decide (isq M * isq M = M)).toNat≤1:=by cases decide (isq M * isq M = M) <;> decide
  have hsw : sW F 4 false (isq M) (!decide (isq M * isq M = M)) E = rndW F 4 (mkD false (2 * isq M + (!decide (isq M * isq M = M)).toNat) (E - 1)):=by
   have hb2 : blen (isq M) + 1≤blen (2 * isq M + (!decide (isq M * isq M = M)).toNat):=by
    have h1:=Zam hQ0 1
    have h2:=Zax (show isq M * 2 ^ 1≤2 * isq M + (!decide (isq M * isq M = M)).toNat by omega)
    omega
   rw [Zpi F 4 false (E - 1) (by omega)]
   have:=ZjE F 4 false (Q:=2 * isq M + (!decide (isq M * isq M = M)).toNat) (j:=1) false (E - 1) (by omega)
   have hd : (2 * isq M + (!decide (isq M * isq M = M)).toNat) / 2 ^ 1 = isq M:=by omega
   have hm2 : decide ((2 * isq M + (!decide (isq M * isq M = M)).toNat) % 2 ^ 1≠0) = !decide (isq M * isq M = M):=by
    cases decide (isq M * isq M = M)
    ·simp
    ·simp
   rw [hd,hm2,Bool.false_or,show E - 1 + ((1 : Nat) : Int) = E by omega] at this
   exact this
  rw [hsw] at hf ⊢
  have hlo : (mkD false (2 * isq M + (!decide (isq M * isq M = M)).toNat) (E - 1)).m≠0:=fun q => hm (Zys.1 q)
  have hle : E - 1≤(mkD false (2 * isq M + (!decide (isq M * isq M = M)).toNat) (E - 1)).e:=ZiG (ZfA (Int.le_refl _)) hlo
  have g:=(ZCu F (Zww hm _) hlo (L:=L) (by omega) (by omega) hf).1
  rw [ZlT (n:=false) (m:=2 * isq M + (!decide (isq M * isq M = M)).toNat) (e:=E - 1) (L:=L) (by omega)] at g
  simp only [Bool.false_eq_true,if_false,Int.one_mul] at g
  refine Int.le_trans g ?_
  -- what is rounded is not much above the root
  have hQ : 2 ^ 62≤isq M:=Zau.1 (by omega)
  obtain ⟨b,rfl⟩ : ∃ b : Nat,B = (b : Int):=⟨B.toNat,by omega⟩
  have e4 : d.m * 2 ^ (d.e - 2 * L).toNat = 4 * M * (2 ^ (E - 1 - L).toNat * 2 ^ (E - 1 - L).toNat):=by
   have e3 : (2 : Nat) ^ (d.e - 2 * L).toNat = 4 * (2 ^ P * (2 ^ (E - 1 - L).toNat * 2 ^ (E - 1 - L).toNat)):=by
    rw [show (4 : Nat) = 2 ^ 2 from rfl,← Nat.pow_add,← Nat.pow_add,← Nat.pow_add]; congr 1; omega
   rw [hM,e3]
   grind
  rw [← Int.natCast_mul] at hB1
  have hB1:=Int.ofNat_le.1 hB1
  rw [e4] at hB1
  generalize 2 ^ (E - 1 - L).toNat = z at *
  have q1 : 2 * isq M * z≤b:=by
   refine Nat.mul_self_le_mul_self_iff.1 (Nat.le_trans ?_ hB1)
   have e5 : 2 * isq M * z * (2 * isq M * z) = 4 * (isq M * isq M) * (z * z):=by grind
   rw [e5]
   exact Nat.mul_le_mul_right _ (Nat.mul_le_mul_left _ r1)
  have q2 : z * 2 ^ 63≤b:=Nat.le_trans (by rw [Nat.mul_comm]; exact Nat.mul_le_mul_right _ (by omega)) q1
  have q3 : (2 * isq M + (!decide (isq M * isq M = M)).toNat) * z≤b + z:=by
   rw [Nat.add_mul]
   have:=Nat.mul_le_mul_right z hs1
   omega
  have hFv : F1 F = 16777216∨F1 F = 9007199254740992:=by cases F; exact Or.inl rfl; exact Or.inr rfl
  generalize (2 * isq M + (!decide (isq M * isq M = M)).toNat) * z = Y at *
  generalize hL F L = h at *
  rcases hFv with f | f <;> rw [f] <;> omega
end Go.Cv
namespace Go.Cv
theorem Zzd {d1 d2 w1 w2 C U h : Int} (hU : 1≤U) (hh : 0≤h) (h0 : NB d1 d2 C) (h1 : 2 * U * ((d1 - w1).natAbs : Int)≤2 * (w1.natAbs : Int) + U * h) (h2 : 2 * U * ((d2 - w2).natAbs : Int)≤2 * (w2.natAbs : Int) + U * h) :
  NB ((U - 1) * w1) ((U - 1) * w2) (U * C + U * h):=by
 have hUh:=Int.mul_nonneg (show 0≤U by omega) hh
 have one : ∀ d w : Int,2 * U * ((d - w).natAbs : Int)≤2 * (w.natAbs : Int) + U * h→(2 * ((U - 1) * w)).natAbs≤(2 * U * (d.natAbs : Int) + U * h).natAbs:=fun d w q => by
  have e : (w.natAbs : Int)≤(d.natAbs : Int) + ((d - w).natAbs : Int):=by omega
  have e2:=Int.mul_le_mul_of_nonneg_left e (show 0≤2 * U by omega)
  rw [Int.mul_add] at e2
  have e3 : ((2 * ((U - 1) * w)).natAbs : Int) = 2 * U * (w.natAbs : Int) - 2 * (w.natAbs : Int):=by
   rw [Int.natAbs_mul,Int.natAbs_mul]
   push_cast
   have : ((U - 1).natAbs : Int) = U - 1:=by omega
   rw [this]
   grind
  have e4:=Int.mul_nonneg (show 0≤2 * U by omega) (Int.natCast_nonneg d.natAbs)
  omega
 have a1 : NB (2 * U * (d1.natAbs : Int)) (2 * U * (d2.natAbs : Int)) (2 * U * C):=(h0.parts (x:=(d1.natAbs : Int)) (y:=(d2.natAbs : Int)) (by omega) (by omega)).scale (by omega)
 have a2 : NB (U * h) (U * h) (2 * (U * h)):=by
  refine ⟨by omega,?_⟩
  have:=Int.mul_nonneg hUh hUh
  grind
 have a3:=(a1.add a2).parts (one d1 w1 h1) (one d2 w2 h2)
 refine NB.unscale (k:=2) ?_ (by decide)
 exact a3.mono (by grind)
theorem ZuM {w1 w2 X V : Int} (hV : 0 < V) (h : NB (V * w1) (V * w2) X) : ∃ B : Int,NB w1 w2 B∧V * B≤X + V:=by
 refine ⟨X / V + 1,?_,?_⟩
 ·refine NB.unscale (k:=V) (h.mono ?_) hV
  have:=Int.mul_ediv_add_emod X V
  have:=Int.emod_lt_of_pos X hV
  rw [Int.mul_add]; omega
 ·have:=Int.mul_ediv_add_emod X V
  have:=Int.emod_nonneg X (show V≠0 by omega)
  rw [Int.mul_add]; omega
theorem ZyM {F : Fm} {EN RZ a h Pb R Pw Qw A I M W E : Int} (hEN : 0≤EN) (hRZ : 0≤RZ) (ha : 0≤a) (hh : 1000000000 * (F1 F : Int)≤h)
  (p1 : ((F1 F : Int) - 1) * Pb≤F1 F * RZ + F1 F * h + ((F1 F : Int) - 1)) (p2 : ((F1 F : Int) - 1) * R≤F1 F * (Pb + a) + F1 F * h + ((F1 F : Int) - 1))
  (m1 : (F1 F : Int) * M≤F1 F * EN + 2 * EN + F1 F * h) (w1 : (F1 F : Int) * Pw≤F1 F * Pb + 3 * Pb + F1 F * h) (w2 : (F1 F : Int) * Qw≤F1 F * R + 3 * R + F1 F * h)
  (a1 : (F1 F : Int) * A≤F1 F * (Pw + Qw) + 2 * (Pw + Qw)) (i1 : (F1 F : Int) * (F1 F * I)≤F1 F * A + 2 * A + F1 F * (F1 F * h)) (w3 : (F1 F : Int) * W≤F1 F * (I + 2 * h) + 2 * (I + 2 * h)) (e1 : (F1 F : Int) * E≤F1 F * (M + W) + 2 * (M + W)) :
  1024 * (F1 F * E)≤1024 * (F1 F * EN) + 5120 * EN + 2050 * RZ + 1026 * a + 4200 * (F1 F * h)∧1048576 * R≤1048577 * (RZ + a) + 3145728 * h:=by
 have hFv : (F1 F : Int) = 16777216∨(F1 F : Int) = 9007199254740992:=by cases F; exact Or.inl rfl; exact Or.inr rfl
 generalize (F1 F : Int) = U at *
 rcases hFv with rfl | rfl <;> constructor <;> omega
theorem ZyL {F : Fm} {EN h Pw Qw A I M W E O : Int} (hEN : 0≤EN) (hh : 1000000000 * (F1 F : Int)≤h) (p0 : 0≤Pw) (q0 : 0≤Qw) (hP : Pw≤O) (hQ : Qw≤O)
  (m1 : (F1 F : Int) * M≤F1 F * EN + 2 * EN + F1 F * h)
  (a1 : (F1 F : Int) * A≤F1 F * (Pw + Qw) + 2 * (Pw + Qw)) (i1 : (F1 F : Int) * (F1 F * I)≤F1 F * A + 2 * A + F1 F * (F1 F * h)) (w3 : (F1 F : Int) * W≤F1 F * (I + 2 * h) + 2 * (I + 2 * h)) (e1 : (F1 F : Int) * E≤F1 F * (M + W) + 2 * (M + W)) :
  1024 * (F1 F * E)≤1024 * (F1 F * EN) + 5120 * EN + 2060 * O + 4200 * (F1 F * h):=by
 have hFv : (F1 F : Int) = 16777216∨(F1 F : Int) = 9007199254740992:=by cases F; exact Or.inl rfl; exact Or.inr rfl
 generalize (F1 F : Int) = U at *
 rcases hFv with rfl | rfl <;> omega
theorem ZEX {F : Fm} {m : Nat} (hm : m≤40) {R R' RZ rz Rr sr tr a al s' t' h : Int} (hs : 0≤sr) (ht : 0≤tr) (hal : 0≤al) (hh : 0≤h)
  (h1 : 1048576 * R'≤1048577 * (RZ + a) + 3145728 * h) (hz : 1073741824 * RZ≤1073741825 * Rr) (hr : 1048576 * Rr≤(1048576 + 8 * m) * sr + (5 * 1048576 + 64 * m) * tr) (ha : 1073741824 * a≤1073741825 * al)
  (hs' : 1073741823 * (sr + al)≤1073741824 * s') (ht' : 1073741823 * (tr + h)≤1073741824 * t') :
  1048576 * R'≤(1048576 + 8 * (m + 1 : Nat)) * s' + (5 * 1048576 + 64 * (m + 1 : Nat)) * t':=by
 have b1 : (m : Int) * sr≤40 * sr:=Int.mul_le_mul_of_nonneg_right (by omega) hs
 have b2 : (m : Int) * tr≤40 * tr:=Int.mul_le_mul_of_nonneg_right (by omega) ht
 have b3:=Int.mul_le_mul_of_nonneg_left hs' (Int.natCast_nonneg m)
 have b4:=Int.mul_le_mul_of_nonneg_left ht' (Int.natCast_nonneg m)
 have c1:=Int.mul_nonneg (Int.natCast_nonneg m) hs
 have c2:=Int.mul_nonneg (Int.natCast_nonneg m) ht
 have c3:=Int.mul_nonneg (Int.natCast_nonneg m) hal
 have c4:=Int.mul_nonneg (Int.natCast_nonneg m) hh
 have e1 : (1048576 + 8 * (m : Int)) * sr = 1048576 * sr + 8 * (m * sr):=by grind
 have e2 : (5 * 1048576 + 64 * (m : Int)) * tr = 5 * 1048576 * tr + 64 * (m * tr):=by grind
 have e3 : (1048576 + 8 * ((m + 1 : Nat) : Int)) * s' = 1048584 * s' + 8 * (m * s'):=by push_cast; grind
 have e4 : (5 * 1048576 + 64 * ((m + 1 : Nat) : Int)) * t' = (5 * 1048576 + 64) * t' + 64 * (m * t'):=by push_cast; grind
 have e5 : (m : Int) * (1073741823 * (sr + al)) = 1073741823 * (m * sr) + 1073741823 * (m * al):=by grind
 have e6 : (m : Int) * (1073741823 * (tr + h)) = 1073741823 * (m * tr) + 1073741823 * (m * h):=by grind
 have e7 : (m : Int) * (1073741824 * s') = 1073741824 * (m * s'):=by grind
 have e8 : (m : Int) * (1073741824 * t') = 1073741824 * (m * t'):=by grind
 rw [e1,e2] at hr
 rw [e5,e7] at b3
 rw [e6,e8] at b4
 rw [e3,e4]
 generalize (m : Int) * sr = x1 at *
 generalize (m : Int) * tr = x2 at *
 generalize (m : Int) * al = x3 at *
 generalize (m : Int) * h = x4 at *
 generalize (m : Int) * s' = x5 at *
 generalize (m : Int) * t' = x6 at *
 clear e1 e2 e3 e4 e5 e6 e7 e8
 omega
theorem ZEW {F : Fm} {m : Nat} (hm : m≤40) {E' EN Er RZ Rr sr tr a al s' t' h : Int} (hs : 0≤sr) (ht : 0≤tr) (hal : 0≤al) (hh : 0≤h) (hEr : 0≤Er)
  (h1 : 1024 * (F1 F * E')≤1024 * (F1 F * EN) + 5120 * EN + 2050 * RZ + 1026 * a + 4200 * (F1 F * h)) (hn : 32768 * EN≤32769 * Er)
  (hz : 1073741824 * RZ≤1073741825 * Rr) (hr : 1048576 * Rr≤(1048576 + 8 * m) * sr + (5 * 1048576 + 64 * m) * tr) (ha : 1073741824 * a≤1073741825 * al)
  (he : 64 * (F1 F * Er)≤256 * (m * sr) + (384 + m) * (F1 F * tr))
  (hs' : 1073741823 * (sr + al)≤1073741824 * s') (ht' : 1073741823 * (tr + h)≤1073741824 * t') :
  64 * (F1 F * E')≤256 * ((m + 1 : Nat) * s') + (384 + (m + 1 : Nat)) * (F1 F * t'):=by
 have b1 : (m : Int) * sr≤40 * sr:=Int.mul_le_mul_of_nonneg_right (by omega) hs
 have b2 : (m : Int) * tr≤40 * tr:=Int.mul_le_mul_of_nonneg_right (by omega) ht
 have b3:=Int.mul_le_mul_of_nonneg_left hs' (Int.natCast_nonneg m)
 have b4:=Int.mul_le_mul_of_nonneg_left ht' (Int.natCast_nonneg m)
 have c1:=Int.mul_nonneg (Int.natCast_nonneg m) hs
 have c2:=Int.mul_nonneg (Int.natCast_nonneg m) ht
 have c3:=Int.mul_nonneg (Int.natCast_nonneg m) hal
 have c4:=Int.mul_nonneg (Int.natCast_nonneg m) hh
 have e1 : (1048576 + 8 * (m : Int)) * sr = 1048576 * sr + 8 * (m * sr):=by grind
 have e2 : (5 * 1048576 + 64 * (m : Int)) * tr = 5 * 1048576 * tr + 64 * (m * tr):=by grind
 have e3 : ((m + 1 : Nat) : Int) * s' = s' + m * s':=by push_cast; grind
 have e5 : (m : Int) * (1073741823 * (sr + al)) = 1073741823 * (m * sr) + 1073741823 * (m * al):=by grind
 have e6 : (m : Int) * (1073741823 * (tr + h)) = 1073741823 * (m * tr) + 1073741823 * (m * h):=by grind
 have e7 : (m : Int) * (1073741824 * s') = 1073741824 * (m * s'):=by grind
 have e8 : (m : Int) * (1073741824 * t') = 1073741824 * (m * t'):=by grind
 have hFv : (F1 F : Int) = 16777216∨(F1 F : Int) = 9007199254740992:=by cases F; exact Or.inl rfl; exact Or.inr rfl
 rw [e1,e2] at hr
 rw [e5,e7] at b3
 rw [e6,e8] at b4
 rw [e3]
 have g1 : (384 + (m : Int)) * (F1 F * tr) = 384 * (F1 F * tr) + F1 F * (m * tr):=by grind
 have g2 : (384 + ((m + 1 : Nat) : Int)) * (F1 F * t') = 385 * (F1 F * t') + F1 F * (m * t'):=by push_cast; grind
 rw [g1] at he
 rw [g2]
 generalize (m : Int) * sr = x1 at *
 generalize (m : Int) * tr = x2 at *
 generalize (m : Int) * al = x3 at *
 generalize (m : Int) * h = x4 at *
 generalize (m : Int) * s' = x5 at *
 generalize (m : Int) * t' = x6 at *
 clear e1 e2 e3 e5 e6 e7 e8 g1 g2
 generalize (F1 F : Int) = U at *
 rcases hFv with rfl | rfl <;> omega
end Go.Cv
namespace Go.Cv
variable {G : Nat→Option (List AV)} {T : Tbl} {g : Nat}
def cut100 (d : Dy) : Dy:=if blen d.m≤100 then d else mkD d.n (d.m / 2 ^ (blen d.m - 100)) (d.e + (blen d.m - 100 : Nat))
def rtN (d : Dy) : Nat:=(max 0 (202 - (blen d.m : Int)) + (d.e - max 0 (202 - (blen d.m : Int))) % 2).toNat
noncomputable def rtR (d : Dy) : Nat:=isq (d.m * 2 ^ rtN d)
noncomputable def rt100 (d : Dy) : Dy:=if d.m = 0 then ⟨false,0,0⟩ else mkD false (rtR d / 2 ^ (blen (rtR d) - 100)) ((d.e - (rtN d : Nat)) / 2 + (blen (rtR d) - 100 : Nat))
theorem Zku {d : Dy} (nz : Nz d) (hn : d.n = false) : (cut100 d).n = false∧Nz (cut100 d)∧∀ L,LoE d L→LoE (cut100 d) L∧1073741823 * iv d L≤1073741824 * iv (cut100 d) L∧iv (cut100 d) L≤iv d L:=by
 unfold cut100
 by_cases h : blen d.m≤100
 ·rw [if_pos h]
  refine ⟨hn,nz,fun L hl => ⟨hl,?_,Int.le_refl _⟩⟩
  have:=Zbo L hn
  omega
 ·rw [if_neg h]
  obtain ⟨s,hs⟩ : ∃ s,s = blen d.m - 100:=⟨_,rfl⟩
  rw [← hs]
  have h0 : d.m≠0:=fun q => by rw [q,Zai] at h; omega
  have hQb : blen (d.m / 2 ^ s) = 100:=by rw [Zaj]; omega
  have hQ : 2 ^ 99≤d.m / 2 ^ s:=Zau.1 (by omega)
  have hm : d.m / 2 ^ s≠0:=by omega
  refine ⟨by rw [Zww hm,hn],ZnE _ _ _,fun L hl => ?_⟩
  have le:=ZiG hl h0
  refine ⟨ZfA (by omega),?_⟩
  rw [ZlT (by omega),hn,ZBs hn]
  simp only [Bool.false_eq_true,if_false,Int.one_mul]
  have hd:=Nat.div_add_mod d.m (2 ^ s)
  have hmod:=Nat.mod_lt d.m (Nat.two_pow_pos s)
  have e1 : (2 : Nat) ^ (d.e + (s : Nat) - L).toNat = 2 ^ s * 2 ^ (d.e - L).toNat:=by rw [← Nat.pow_add]; congr 1; omega
  rw [e1,← Nat.mul_assoc,Nat.mul_comm _ (2 ^ s)]
  generalize 2 ^ (d.e - L).toNat = z at *
  have hp:=Nat.two_pow_pos s
  have q1 : 2 ^ s * 1073741824≤2 ^ s * (d.m / 2 ^ s):=Nat.mul_le_mul_left _ (by omega)
  generalize 2 ^ s * (d.m / 2 ^ s) = A at *
  generalize 2 ^ s = B at *
  have u1:=Nat.mul_le_mul_right z (show 1073741823 * d.m≤1073741824 * A by omega)
  have u2:=Nat.mul_le_mul_right z (show A≤d.m by omega)
  rw [Nat.mul_assoc,Nat.mul_assoc] at u1
  omega
theorem Ztr {d : Dy} (hn : d.n = false) : (rt100 d).n = false∧Nz (rt100 d)∧∀ L,2 * L≤d.e - 300→LoE (rt100 d) L∧∃ B : Int,0≤B∧iv d (2 * L)≤B * B∧1073741824 * B≤1073741825 * iv (rt100 d) L∧iv (rt100 d) L * iv (rt100 d) L≤iv d (2 * L):=by
 unfold rt100
 by_cases h0 : d.m = 0
 ·rw [if_pos h0]
  refine ⟨rfl,⟨fun _ => rfl,fun h => absurd rfl h⟩,fun L _ => ⟨Or.inl rfl,0,by decide,by rw [Zah h0]; decide,by rw [Zah rfl]; decide,by rw [Zah h0,Zah rfl]; decide⟩⟩
 ·rw [if_neg h0]
  obtain ⟨N,hN⟩ : ∃ N,N = rtN d:=⟨_,rfl⟩
  have hN2 : (N : Int) = max 0 (202 - (blen d.m : Int)) + (d.e - max 0 (202 - (blen d.m : Int))) % 2:=by rw [hN]; unfold rtN; omega
  rw [← hN]
  obtain ⟨r,hr⟩ : ∃ r,r = rtR d:=⟨_,rfl⟩
  rw [← hr]
  obtain ⟨r1,r2⟩:=Zic (d.m * 2 ^ N)
  have hrr : r = isq (d.m * 2 ^ N):=by rw [hr,hN]; rfl
  rw [← hrr] at r1 r2
  have hb:=Zbg h0
  have hbM:=Zam h0 N
  have hM0 : d.m * 2 ^ N≠0:=Nat.mul_ne_zero h0 (Nat.pos_iff_ne_zero.1 (Nat.two_pow_pos _))
  have hrb : 100 < blen r:=ZfV (k:=100) (M:=d.m * 2 ^ N) (by
   have:=ZaW hM0
   rw [← Nat.pow_add]
   exact Nat.le_trans (Nat.pow_le_pow_right (by decide) (by omega)) this) r2
  obtain ⟨s,hs⟩ : ∃ s,s = blen r - 100:=⟨_,rfl⟩
  rw [← hs]
  obtain ⟨c,hc⟩ : ∃ c,c = (d.e - (N : Nat)) / 2:=⟨_,rfl⟩
  rw [← hc]
  have hc2 : 2 * c = d.e - N:=by omega
  have hQb : blen (r / 2 ^ s) = 100:=by rw [Zaj]; omega
  have hQ : 2 ^ 99≤r / 2 ^ s:=Zau.1 (by omega)
  have hm : r / 2 ^ s≠0:=by omega
  refine ⟨Zww hm _,ZnE _ _ _,fun L hl => ⟨ZfA (by omega),?_⟩⟩
  rw [ZlT (by omega)]
  simp only [Bool.false_eq_true,if_false,Int.one_mul]
  have hd:=Nat.div_add_mod r (2 ^ s)
  have hmod:=Nat.mod_lt r (Nat.two_pow_pos s)
  have e1 : (2 : Nat) ^ (c + (s : Nat) - L).toNat = 2 ^ s * 2 ^ (c - L).toNat:=by rw [← Nat.pow_add]; congr 1; omega
  have e2 : d.m * 2 ^ (d.e - 2 * L).toNat = d.m * 2 ^ N * (2 ^ (c - L).toNat * 2 ^ (c - L).toNat):=by
   rw [Nat.mul_assoc,← Nat.pow_add,← Nat.pow_add]; congr 2; omega
  rw [e1,ZBs hn,e2,← Nat.mul_assoc (r / 2 ^ s),Nat.mul_comm (r / 2 ^ s)]
  generalize 2 ^ (c - L).toNat = z at *
  have hp:=Nat.two_pow_pos s
  have q1 : 2 ^ s * 1073741824≤2 ^ s * (r / 2 ^ s):=Nat.mul_le_mul_left _ (by omega)
  generalize 2 ^ s * (r / 2 ^ s) = A at *
  generalize 2 ^ s = B at *
  generalize d.m * 2 ^ N = M at *
  refine ⟨((A + B) * z : Nat),Int.natCast_nonneg _,?_,?_,?_⟩
  ·rw [← Int.natCast_mul]
   refine Int.ofNat_le.2 ?_
   rw [Nat.mul_mul_mul_comm]
   exact Nat.mul_le_mul_right _ (Nat.le_trans (Nat.le_of_lt r2) (Nat.mul_le_mul (by omega) (by omega)))
  ·have u1:=Nat.mul_le_mul_right z (show 1073741824 * (A + B)≤1073741825 * A by omega)
   rw [Nat.mul_assoc,Nat.mul_assoc] at u1
   omega
  ·rw [← Int.natCast_mul]
   refine Int.ofNat_le.2 ?_
   rw [Nat.mul_mul_mul_comm]
   exact Nat.mul_le_mul_right _ (Nat.le_trans (Nat.mul_le_mul (by omega) (by omega)) r1)
theorem Zzg {d : Dy} {W E : Nat} (h : Tb d W E) : Tb (cut100 d) W E:=by
 unfold cut100
 by_cases hb : blen d.m≤100
 ·rw [if_pos hb]; exact h
 ·rw [if_neg hb]
  intro _
  have h0 : d.m≠0:=fun q => by rw [q,Zai] at hb; omega
  obtain ⟨h1,h2⟩:=h h0
  have hQb : blen (d.m / 2 ^ (blen d.m - 100)) = 100:=by rw [Zaj]; omega
  have hm : d.m / 2 ^ (blen d.m - 100)≠0:=fun q => by rw [q,Zai] at hQb; omega
  have hk:=Zju (n:=d.n) hm (d.e + (blen d.m - 100 : Nat))
  have hl:=ZiG (ZfA (n:=d.n) (m:=d.m / 2 ^ (blen d.m - 100)) (Int.le_refl (d.e + (blen d.m - 100 : Nat)))) (fun q => hm (Zys.1 q))
  omega
theorem ZED {d : Dy} {W E : Nat} (h : Tb d (2 * W) (2 * E)) : Tb (rt100 d) (W + 1) (E + 110):=by
 unfold rt100
 by_cases h0 : d.m = 0
 ·rw [if_pos h0]; intro q; exact absurd rfl q
 ·rw [if_neg h0]
  intro _
  obtain ⟨h1,h2⟩:=h h0
  obtain ⟨N,hN⟩ : ∃ N,N = rtN d:=⟨_,rfl⟩
  have hN2 : (N : Int) = max 0 (202 - (blen d.m : Int)) + (d.e - max 0 (202 - (blen d.m : Int))) % 2:=by rw [hN]; unfold rtN; omega
  rw [← hN]
  obtain ⟨r,hr⟩ : ∃ r,r = rtR d:=⟨_,rfl⟩
  rw [← hr]
  obtain ⟨r1,r2⟩:=Zic (d.m * 2 ^ N)
  have hrr : r = isq (d.m * 2 ^ N):=by rw [hr,hN]; rfl
  rw [← hrr] at r1 r2
  have hb:=Zbg h0
  have hbM:=Zam h0 N
  have hM0 : d.m * 2 ^ N≠0:=Nat.mul_ne_zero h0 (Nat.pos_iff_ne_zero.1 (Nat.two_pow_pos _))
  have hrb : 100 < blen r:=ZfV (k:=100) (M:=d.m * 2 ^ N) (by
   have:=ZaW hM0
   rw [← Nat.pow_add]
   exact Nat.le_trans (Nat.pow_le_pow_right (by decide) (by omega)) this) r2
  have hr0 : r≠0:=fun q => by rw [q,Zai] at hrb; omega
  obtain ⟨b1,b2⟩:=ZzG r1 r2 hM0 hr0
  have hQb : blen (r / 2 ^ (blen r - 100)) = 100:=by rw [Zaj]; omega
  have hm : r / 2 ^ (blen r - 100)≠0:=fun q => by rw [q,Zai] at hQb; omega
  have hk:=Zju (n:=false) hm ((d.e - (N : Nat)) / 2 + (blen r - 100 : Nat))
  have hl:=ZiG (ZfA (n:=false) (m:=r / 2 ^ (blen r - 100)) (Int.le_refl ((d.e - (N : Nat)) / 2 + (blen r - 100 : Nat)))) (fun q => hm (Zys.1 q))
  omega
theorem ZlO (J : Al G T g) {z : Bool} {d : Dy} (hd : Bd d 1000000) : ∃ z' b,run G T 80 [DyA z d,.int .i64 100] = some (.tup [DyA z' (cut100 d),.bool b]):=by
 have hl:=Zov hd (by decide)
 have:=hd.lo
 have:=hd.hi
 have:=hd.bl
 unfold cut100
 by_cases h : blen d.m≤100
 ·rw [if_pos h]
  exact ⟨z,false,ZiU J (k:=100) (by omega) h (by decide)⟩
 ·rw [if_neg h]
  obtain ⟨z',e⟩:=ZiT J (z:=z) (d:=d) (k:=100) (s:=blen d.m - 100) (by omega) (by omega) (by omega) (by omega) (by decide) (by omega)
  exact ⟨z',_,e⟩
theorem ZrB (J : Al G T g) {z : Bool} {d : Dy} (hd : Bd d 1000000) (h0 : d.m≠0) : ∃ z' b,run G T 44 [DyA z d,.int .i64 100] = some (.tup [DyA z' (rt100 d),.bool b]):=by
 have:=hd.lo
 have:=hd.hi
 have:=hd.bl
 unfold rt100
 rw [if_neg h0]
 obtain ⟨N,hN⟩ : ∃ N,N = rtN d:=⟨_,rfl⟩
 have hN2 : (N : Int) = max 0 (202 - (blen d.m : Int)) + (d.e - max 0 (202 - (blen d.m : Int))) % 2:=by rw [hN]; unfold rtN; omega
 rw [← hN]
 obtain ⟨r,hr⟩ : ∃ r,r = rtR d:=⟨_,rfl⟩
 rw [← hr]
 obtain ⟨r1,r2⟩:=Zic (d.m * 2 ^ N)
 have hrr : r = isq (d.m * 2 ^ N):=by rw [hr,hN]; rfl
 rw [← hrr] at r1 r2
 have hb:=Zbg h0
 have hbM:=Zam h0 N
 have hM0 : d.m * 2 ^ N≠0:=Nat.mul_ne_zero h0 (Nat.pos_iff_ne_zero.1 (Nat.two_pow_pos _))
 have hrb : 100 < blen r:=ZfV (k:=100) (M:=d.m * 2 ^ N) (by
  have:=ZaW hM0
  rw [← Nat.pow_add]
  exact Nat.le_trans (Nat.pow_le_pow_right (by decide) (by omega)) this) r2
 obtain ⟨z',e⟩:=ZjB J (z:=z) (d:=d) (k:=100) (S:=blen r - 100) (N:=N) (r:=r) (c:=(d.e - (N : Nat)) / 2) h0 (by omega) (by decide) (by decide) (by omega) (by omega) (by omega) r1 r2 (by omega)
 exact ⟨z',_,e⟩
def oL (F : Fm) (L : Int) : Int:=((2 ^ ((F.wide : Int) - L).toNat : Nat) : Int)
theorem ZAQ (F : Fm) {w : Nat} {L : Int} (hL : L≤-4000) : iv (F.vl w) L≤oL F L:=by
 have hF:=Zak F
 unfold oL
 by_cases h0 : (F.vl w).m = 0
 ·rw [Zah h0]; exact Int.natCast_nonneg _
 ·have fa : F.fin w:=by
   by_cases h : F.fin w
   ·exact h
   ·exfalso; apply h0; unfold Fm.vl; rw [if_neg h]
  have e1:=Zgz F fa (by rw [← ZbA fa]; exact h0)
  rw [← ZbA fa] at e1
  obtain ⟨_,a1,a2,a3⟩:=e1
  have hb : (F.vl w).m * 2 ^ ((F.vl w).e - L).toNat < 2 ^ ((F.wide : Int) - L).toNat:=by
   refine Zaf.1 ?_
   rw [Zam h0]
   omega
  unfold iv
  split <;> omega
theorem ZDa (F : Fm) {L : Int} (h : L≤-4000) : 1000000000 * (F1 F : Int)≤hL F L:=by
 have h1 : (2 : Nat) ^ 100≤2 ^ (F.low - L).toNat:=Nat.pow_le_pow_right (by decide) (by have:=Zak F; omega)
 have h2 : 1000000000 * F1 F≤2 ^ 100:=by cases F <;> decide
 unfold hL
 omega
theorem ZEh (F : Fm) {z a : Nat × Nat} {s : (Nat × Nat) × Nat} (wz : Zw F z) (fz : Zf F z) (wa : Zw F a) (fa : Zf F a) (ws : Zw F s.1∧s.2 < 2 * F.sg) (fs : Zf F s.1) (ns : (F.vl s.2).n = false) (hf : F.fin (stE F z s a).2) {K : Int} (hK : K≤-4000) {R Z A : Int}
  (hR : NB (iv (F.vl s.1.1) K) (iv (F.vl s.1.2) K) R) (hZ : NB (iv (F.vl z.1) (-4000)) (iv (F.vl z.2) (-4000)) Z) (hA : NB (iv (F.vl a.1) (K + -4000)) (iv (F.vl a.2) (K + -4000)) A) :
  Zf F (stE F z s a).1∧(F.vl (stE F z s a).2).n = false∧∃ R' : Int,NB (iv (F.vl (stE F z s a).1.1) (K + -4000)) (iv (F.vl (stE F z s a).1.2) (K + -4000)) R' ∧
   1024 * (F1 F * iv (F.vl (stE F z s a).2) (K + -4000))≤1024 * (F1 F * (iv (F.vl s.2) K * iv (F.vl (uN F z)) (-4000))) + 5120 * (iv (F.vl s.2) K * iv (F.vl (uN F z)) (-4000)) + 2050 * (R * Z) + 1026 * A + 4200 * (F1 F * hL F (K + -4000)) ∧
   1048576 * R'≤1048577 * (R * Z + A) + 3145728 * hL F (K + -4000) ∧
   1024 * (F1 F * iv (F.vl (stE F z s a).2) (K + -4000))≤1024 * (F1 F * (iv (F.vl s.2) K * iv (F.vl (uN F z)) (-4000))) + 5120 * (iv (F.vl s.2) K * iv (F.vl (uN F z)) (-4000)) + 2060 * oL F (K + -4000) + 4200 * (F1 F * hL F (K + -4000)):=by
 obtain ⟨f1,f2,f3,f4,f5,f6,f7,f8,f9,f10⟩:=Zps F hf
 have e0 : stE F z s a = (zP F (zM F s.1 z) a,uA F (uM F s.2 (uN F z)) (uA F (uS F (uA F (uN F (zM F s.1 z)) (uN F (zP F (zM F s.1 z) a)))) 2)):=rfl
 rw [e0] at hf ⊢
 simp only at hf ⊢
 have wp:=zM_w F s.1 z
 have wq:=zP_w F (zM F s.1 z) a
 obtain ⟨X1,X2,hX,hXn⟩:=ZCz F fs fz f9
 obtain ⟨y,B⟩:=s
 simp only at *
 generalize zM F y z = p at *
 generalize hq : zP F p a = q at *
 obtain ⟨g1,g2⟩:=ZyV F f3
 obtain ⟨g3,g4⟩:=ZyV F f7
 obtain ⟨g5,g6⟩:=ZyV F f8
 obtain ⟨g7,_⟩:=ZFp F ws.2 (Zpy F z) ns g1 f1
 obtain ⟨g9,_⟩:=ZCr F (Zpy F p) (Zpy F q) g3 g5 f6
 have l6 : uA F (uN F p) (uN F q) < 2 * F.sg:=ZjQ F (by decide)
 obtain ⟨g11,_⟩:=ZFr F l6 g9 f5
 have l5 : uS F (uA F (uN F p) (uN F q)) < 2 * F.sg:=Zxh F (by decide) l6 _
 have t2 : (F.vl 2).n = false:=by rw [(ZxC F).2.2]
 obtain ⟨g13,_⟩:=ZCr F l5 (ZxC F).1 g11 t2 f4
 have l7 : uM F B (uN F z) < 2 * F.sg:=Zwz F (by decide)
 have l8 : uA F (uS F (uA F (uN F p) (uN F q))) 2 < 2 * F.sg:=ZjQ F (by decide)
 obtain ⟨g15,_⟩:=ZCr F l7 l8 g7 g13 hf
 refine ⟨f10,g15,?_⟩
 obtain ⟨_,_,X3,X4⟩:=hX K (-4000) hK (Int.le_refl _)
 have hL4 : K + -4000≤-4000:=by omega
 have hm:=hR.mul hZ
 have hK' : K + -4000≤-4000:=hL4
 obtain ⟨n1,n2⟩:=hXn (K + -4000) hL4
 have q1 : q.1 = (addW F 1 p.1 a.1).1:=by rw [← hq]; rfl
 have q2 : q.2 = (addW F 1 p.2 a.2).1:=by rw [← hq]; rfl
 have n3:=ZpH F (a:=p.1) (b:=a.1) wp.1 wa.1 (by rw [← q1]; exact f10.1) hL4
 have n4:=ZpH F (a:=p.2) (b:=a.2) wp.2 wa.2 (by rw [← q2]; exact f10.2) hL4
 rw [← q1] at n3
 rw [← q2] at n4
 have v1:=(Zbx (LoEv f9.1 (show K + -4000≤-2000 by omega)) (LoEv fa.1 (show K + -4000≤-2000 by omega))).1
 have v2:=(Zbx (LoEv f9.2 (show K + -4000≤-2000 by omega)) (LoEv fa.2 (show K + -4000≤-2000 by omega))).1
 have c1:=ZrP n1
 have c2:=ZrP n2
 have c3:=ZrP n3
 have c4:=ZrP n4
 rw [X3] at c1
 rw [X4] at c2
 rw [v1] at c3
 rw [v2] at c4
 have hU : (1 : Int)≤F1 F:=by have:=ZAV F; omega
 have hh:=Zip F (K + -4000)
 obtain ⟨Pb,hP,P1⟩:=ZuM (show 0 < (F1 F : Int) - 1 by have:=ZAV F; omega) (Zzd (U:=(F1 F : Int)) (h:=hL F (K + -4000)) hU (Int.le_of_lt hh) hm c1 c2)
 obtain ⟨R',hR',P2⟩:=ZuM (show 0 < (F1 F : Int) - 1 by have:=ZAV F; omega) (Zzd (U:=(F1 F : Int)) (h:=hL F (K + -4000)) hU (Int.le_of_lt hh) (hP.add hA) c3 c4)
 have k1:=ZFo F ws.2 (Zpy F z) ns g1 f1 hK (Int.le_refl (-4000))
 have k2:=ZCs F f7 hL4 hP
 have k3:=ZCs F f8 hL4 hR'
 have k4:=ZCq F (Zpy F p) (Zpy F q) g3 g5 f6 hL4
 have k5:=ZFq F l6 g9 f5 hL4
 have k6:=ZCq F l5 (ZxC F).1 g11 t2 f4 hL4
 have k7:=ZCq F l7 l8 g7 g13 hf hL4
 rw [ZEo F (show K + -4000≤-2000 by omega)] at k6
 change _≤(F1 F : Int) * (_ + 2 * hL F (K + -4000)) + 2 * (_ + 2 * hL F (K + -4000)) at k6
 have t1:=ZAQ F (w:=uN F p) hL4
 have t3:=ZAQ F (w:=uN F q) hL4
 have hEN : 0≤iv (F.vl B) K * iv (F.vl (uN F z)) (-4000):=Int.mul_nonneg (Zbo _ ns) (Zbo _ g1)
 have hb:=ZDa F hL4
 obtain ⟨r1,r2⟩:=ZyM (F:=F) hEN hm.1 hA.1 hb P1 P2 k1 k2 k3 k4 k5 k6 k7
 have r3:=ZyL (F:=F) hEN hb (Zbo _ g3) (Zbo _ g5) t1 t3 k1 k4 k5 k6 k7
 exact ⟨R',hR',r1,r2,r3⟩
end Go.Cv
namespace Go.Cv
noncomputable def rZ (F : Fm) (z : Nat × Nat) : Dy:=rt100 (sqD F z.1 z.2)
noncomputable def sS (F : Fm) (z : Nat × Nat) : List (Nat × Nat)→Dy
 | [] => ⟨false,0,0⟩
 | a :: l => cut100 (addD (mulD (sS F z l) (rZ F z)) (rt100 (sqD F a.1 a.2)))
noncomputable def tT (F : Fm) (z : Nat × Nat) : Nat→Dy
 | 0 => ⟨false,0,0⟩
 | n + 1 => cut100 (addD (mulD (tT F z n) (rZ F z)) (intD 1))
theorem sq_e (F : Fm) {p : Nat × Nat} (fp : Zf F p) {L : Int} (hL : L≤-4000) : 2 * L≤(sqD F p.1 p.2).e - 300:=by
 have hF:=Zak F
 by_cases h0 : (sqD F p.1 p.2).m = 0
 ·rw [(ZpE F p.1 p.2).1 h0]; simp only; omega
 ·have l1 : LoE (sqD F p.1 p.2) (F.low + F.low):=(Zbx (Zbb (ZaB fp.1) (ZaB fp.1)).2 (Zbb (ZaB fp.2) (ZaB fp.2)).2).2
  have:=ZiG l1 h0
  omega
theorem Zpj (F : Fm) {p : Nat × Nat} (fp : Zf F p) {L : Int} (hL : L≤-4000) : LoE (rt100 (sqD F p.1 p.2)) L∧∃ B : Int,NB (iv (F.vl p.1) L) (iv (F.vl p.2) L) B∧1073741824 * B≤1073741825 * iv (rt100 (sqD F p.1 p.2)) L:=by
 obtain ⟨_,_,h⟩:=Ztr (Zod F p.1 p.2)
 obtain ⟨h1,B,b0,b1,b2,_⟩:=h L (sq_e F fp hL)
 rw [Zut F (LoEv fp.1 (show L≤-2000 by omega)) (LoEv fp.2 (show L≤-2000 by omega))] at b1
 exact ⟨h1,B,⟨b0,b1⟩,b2⟩
theorem Zke (F : Fm) (p : Nat × Nat) : (rt100 (sqD F p.1 p.2)).n = false∧Nz (rt100 (sqD F p.1 p.2)):=by
 obtain ⟨h1,h2,_⟩:=Ztr (Zod F p.1 p.2)
 exact ⟨h1,h2⟩
theorem ZAe (L : Int) (hL : L≤0) : iv (intD 1) L = ((2 ^ (-L).toNat : Nat) : Int)∧LoE (intD 1) L:=by
 have h:=Zwa 1 hL
 rw [Nat.one_mul] at h
 exact h
theorem Zrb : Nz (intD 1):=ZnE _ _ _
section
variable {F : Fm} {z : Nat × Nat} (fz : Zf F z)
 include fz
theorem Zer : ∀ (l : List (Nat × Nat)),(∀ a ∈ l,Zf F a)→(sS F z l).n = false∧Nz (sS F z l)∧LoE (sS F z l) (-4000 * (l.length : Int))
 | [],_ => ⟨rfl,⟨fun _ => rfl,fun h => absurd rfl h⟩,Or.inl rfl⟩
 | a :: l,h => by
  obtain ⟨i1,i2,i3⟩:=Zer l (fun b hb => h b (List.mem_cons_of_mem _ hb))
  obtain ⟨r1,r2⟩:=Zke F z
  change (rZ F z).n = false at r1
  obtain ⟨a1,a2⟩:=Zke F a
  obtain ⟨k1,_⟩:=Zpj F fz (Int.le_refl (-4000))
  change LoE (rZ F z) (-4000) at k1
  have hlen : -4000 * ((a :: l).length : Int) = -4000 * (l.length : Int) + -4000:=by rw [List.length_cons]; omega
  obtain ⟨k2,_⟩:=Zpj F (h a (List.mem_cons_self ..)) (L := -4000 * (l.length : Int) + -4000) (by omega)
  obtain ⟨m1,m2⟩:=Zbb i3 k1
  obtain ⟨s1,s2⟩:=Zbx m2 k2
  have nz:=ZcT (ZbB (sS F z l) (rZ F z)) a2
  have hn:=ZnI nz s2 (by rw [s1,m1]; exact Int.add_nonneg (Int.mul_nonneg (Zbo _ i1) (Zbo _ r1)) (Zbo _ a1))
  obtain ⟨c1,c2,c3⟩:=Zku nz hn
  refine ⟨c1,c2,?_⟩
  rw [hlen]
  exact (c3 _ s2).1
theorem Zxe {a : Nat × Nat} {l : List (Nat × Nat)} (fa : Zf F a) (h : ∀ b ∈ l,Zf F b) {K : Int} (hK : K = -4000 * (l.length : Int)) :
  1073741823 * (iv (sS F z l) K * iv (rZ F z) (-4000) + iv (rt100 (sqD F a.1 a.2)) (K + -4000))≤1073741824 * iv (sS F z (a :: l)) (K + -4000):=by
 obtain ⟨i1,i2,i3⟩:=Zer fz l h
 rw [← hK] at i3
 obtain ⟨r1,r2⟩:=Zke F z
 change (rZ F z).n = false at r1
 obtain ⟨a1,a2⟩:=Zke F a
 obtain ⟨k1,_⟩:=Zpj F fz (Int.le_refl (-4000))
 change LoE (rZ F z) (-4000) at k1
 obtain ⟨k2,_⟩:=Zpj F fa (L:=K + -4000) (by omega)
 obtain ⟨m1,m2⟩:=Zbb i3 k1
 obtain ⟨s1,s2⟩:=Zbx m2 k2
 have nz:=ZcT (ZbB (sS F z l) (rZ F z)) a2
 have hn:=ZnI nz s2 (by rw [s1,m1]; exact Int.add_nonneg (Int.mul_nonneg (Zbo _ i1) (Zbo _ r1)) (Zbo _ a1))
 obtain ⟨_,_,c3⟩:=Zku nz hn
 have g:=(c3 _ s2).2.1
 rw [s1,m1] at g
 exact g
theorem Zet : ∀ (n : Nat) {K : Int},K≤-4000 * (n : Int)→(tT F z n).n = false∧Nz (tT F z n)∧LoE (tT F z n) K
 | 0,_,_ => ⟨rfl,⟨fun _ => rfl,fun h => absurd rfl h⟩,Or.inl rfl⟩
 | n + 1,K,hK => by
  obtain ⟨i1,i2,i3⟩:=Zet n (K:=K + 4000) (by omega)
  obtain ⟨r1,r2⟩:=Zke F z
  change (rZ F z).n = false at r1
  obtain ⟨k1,_⟩:=Zpj F fz (Int.le_refl (-4000))
  change LoE (rZ F z) (-4000) at k1
  obtain ⟨m1,m2⟩:=Zbb i3 k1
  rw [show K + 4000 + -4000 = K by omega] at m1 m2
  obtain ⟨o1,o2⟩:=ZAe K (by omega)
  obtain ⟨s1,s2⟩:=Zbx m2 o2
  have nz:=ZcT (ZbB (tT F z n) (rZ F z)) (Zrb)
  have hn:=ZnI nz s2 (by rw [s1,m1,o1]; exact Int.add_nonneg (Int.mul_nonneg (Zbo _ i1) (Zbo _ r1)) (Int.natCast_nonneg _))
  obtain ⟨c1,c2,c3⟩:=Zku nz hn
  exact ⟨c1,c2,(c3 _ s2).1⟩
theorem ZCl {n : Nat} {K : Int} (hK : K≤-4000 * (n : Int)) :
  1073741823 * (iv (tT F z n) K * iv (rZ F z) (-4000) + ((2 ^ (-(K + -4000)).toNat : Nat) : Int))≤1073741824 * iv (tT F z (n + 1)) (K + -4000):=by
 obtain ⟨i1,i2,i3⟩:=Zet fz n hK
 obtain ⟨r1,r2⟩:=Zke F z
 change (rZ F z).n = false at r1
 obtain ⟨k1,_⟩:=Zpj F fz (Int.le_refl (-4000))
 change LoE (rZ F z) (-4000) at k1
 obtain ⟨m1,m2⟩:=Zbb i3 k1
 obtain ⟨o1,o2⟩:=ZAe (K + -4000) (by omega)
 obtain ⟨s1,s2⟩:=Zbx m2 o2
 have nz:=ZcT (ZbB (tT F z n) (rZ F z)) (Zrb)
 have hn:=ZnI nz s2 (by rw [s1,m1,o1]; exact Int.add_nonneg (Int.mul_nonneg (Zbo _ i1) (Zbo _ r1)) (Int.natCast_nonneg _))
 obtain ⟨_,_,c3⟩:=Zku nz hn
 have g:=(c3 _ s2).2.1
 rw [s1,m1,o1] at g
 exact g
end
def kU (l : List (Nat × Nat)) : Int := -4000 * (l.length : Int)
theorem ZBx (a : Nat × Nat) (l : List (Nat × Nat)) : kU (a :: l) = kU l + -4000:=by unfold kU; rw [List.length_cons]; omega
theorem ZDb (F : Fm) {K : Int} (hK : K≤-4000) : ((2 ^ (-(K - F.low + -4000)).toNat : Nat) : Int) = hL F (K + -4000):=by
 unfold hL
 rw [show -(K - F.low + -4000) = F.low - (K + -4000) by omega]
theorem Zqf (F : Fm) : F.low≤-100∧-1074≤F.low∧F.wide≤1024∧128≤F.wide:=by cases F <;> decide
section
variable {F : Fm} {z : Nat × Nat} (wz : Zw F z) (fz : Zf F z) {Z : Int} (hZ : NB (iv (F.vl z.1) (-4000)) (iv (F.vl z.2) (-4000)) Z) (hZr : 1073741824 * Z≤1073741825 * iv (rZ F z) (-4000))
 include wz fz hZ hZr
theorem ZDG (hf : F.fin (uN F z)) : (131072 * hL F (-4000)≤Z→32768 * iv (F.vl (uN F z)) (-4000)≤32769 * iv (rZ F z) (-4000))∧(Z < 131072 * hL F (-4000)→iv (F.vl (uN F z)) (-4000)≤262144 * hL F (-4000)∧iv (F.vl (uN F z)) (-4000)≤3 * iv (rZ F z) (-4000)):=by
 have g:=ZCs F hf (Int.le_refl (-4000)) hZ
 have hh:=Zip F (-4000)
 have hFv : (F1 F : Int) = 16777216∨(F1 F : Int) = 9007199254740992:=by cases F; exact Or.inl rfl; exact Or.inr rfl
 have r0:=Zbo (-4000) (Zke F z).1
 change 0≤iv (rZ F z) (-4000) at r0
 have z0:=hZ.1
 refine ⟨fun q => ?_,fun q => ⟨?_,?_⟩⟩
 ·rcases hFv with f | f <;> rw [f] at g <;> omega
 ·rcases hFv with f | f <;> rw [f] at g <;> omega
 ·by_cases hz0 : (sqD F z.1 z.2).m = 0
  ·have e : uN F z = 0:=by
    unfold uN
    rw [Zoj F 4 fz.1 fz.2]
    unfold rtW
    rw [if_pos hz0]
   have z4 : F.vl 0 = ⟨false,0,0⟩:=(ZaH F false).2.2.2
   rw [e,z4,Zah rfl]; omega
  ·-- some part is not below the least number
   have hsq:=Zut F (ZaB fz.1) (ZaB fz.2)
   have hge : hL F (-4000)≤Z:=by
    have one : ∀ w : Nat,F.fin w→(F.vl w).m≠0→hL F (-4000)≤((iv (F.vl w) (-4000)).natAbs : Int):=fun w fw h => by
     have le:=ZiG (ZaB fw) h
     have e : (iv (F.vl w) (-4000)).natAbs = (F.vl w).m * 2 ^ ((F.vl w).e - -4000).toNat:=by
      rcases Zma (F.vl w) (-4000) with ⟨q,_⟩ | ⟨q,_⟩ <;> rw [q]
      ·exact Int.natAbs_natCast _
      ·rw [Int.natAbs_neg]; exact Int.natAbs_natCast _
     rw [e]
     unfold hL
     refine Int.ofNat_le.2 ?_
     have h1 : 1 * 2 ^ (F.low - -4000).toNat≤(F.vl w).m * 2 ^ ((F.vl w).e - -4000).toNat:=Nat.mul_le_mul (by omega) (Nat.pow_le_pow_right (by decide) (by omega))
     omega
    obtain ⟨_,hz1⟩:=hZ
    have sa:=ZlU (iv (F.vl z.1) (-4000))
    have sb:=ZlU (iv (F.vl z.2) (-4000))
    have ab : ∀ x : Int,x * x≤Z * Z→(x.natAbs : Int)≤Z:=fun x hx => by
     rcases Int.lt_or_le Z (x.natAbs : Int) with q | q
     ·exfalso
      have q' : Z + 1≤(x.natAbs : Int):=by omega
      have:=Int.mul_le_mul q' q' (show 0≤Z + 1 by omega) (Int.natCast_nonneg _)
      rw [← Int.natCast_mul,Int.natAbs_mul_self] at this
      have e2 : (Z + 1) * (Z + 1) = Z * Z + 2 * Z + 1:=by grind
      omega
     ·exact q
    by_cases h1 : (F.vl z.1).m = 0
    ·by_cases h2 : (F.vl z.2).m = 0
     ·exfalso
      apply hz0
      have l0 : LoE (sqD F z.1 z.2) (F.low + F.low):=(Zbx (Zbb (ZaB fz.1) (ZaB fz.1)).2 (Zbb (ZaB fz.2) (ZaB fz.2)).2).2
      refine ZpZ (ZpE F z.1 z.2) l0 ?_
      rw [show F.low + F.low = 2 * F.low by omega,hsq,Zah h1,Zah h2]; rfl
     ·exact Int.le_trans (one _ fz.2 h2) (ab _ (by omega))
    ·exact Int.le_trans (one _ fz.1 h1) (ab _ (by omega))
   rcases hFv with f | f <;> rw [f] at g <;> omega
end
end Go.Cv
namespace Go.Cv
theorem ZEm {m : Nat} (hm : m≤40) {RZ Rr sr tr a al s' t' h : Int} (hs : 0≤sr) (ht : 0≤tr) (hal : 0≤al) (hh : 0≤h)
  (hz : 1073741824 * RZ≤1073741825 * Rr) (hr : 1048576 * Rr≤(1048576 + 8 * m) * sr + (5 * 1048576 + 64 * m) * tr) (ha : 1073741824 * a≤1073741825 * al)
  (hs' : 1073741823 * (sr + al)≤1073741824 * s') (ht' : 1073741823 * (tr + h)≤1073741824 * t') : 2050 * RZ + 1026 * a≤2053 * s' + 10400 * t':=by
 have b1 : (m : Int) * sr≤40 * sr:=Int.mul_le_mul_of_nonneg_right (by omega) hs
 have b2 : (m : Int) * tr≤40 * tr:=Int.mul_le_mul_of_nonneg_right (by omega) ht
 have e1 : (1048576 + 8 * (m : Int)) * sr = 1048576 * sr + 8 * (m * sr):=by grind
 have e2 : (5 * 1048576 + 64 * (m : Int)) * tr = 5 * 1048576 * tr + 64 * (m * tr):=by grind
 rw [e1,e2] at hr
 generalize (m : Int) * sr = x1 at *
 generalize (m : Int) * tr = x2 at *
 clear e1 e2
 omega
theorem ZyQ {F : Fm} {E0 E1N XN s1N t1N g1N s1r t1r al s0 t0 h0 : Int} (hs : 0≤s1r) (ht : 0≤t1r) (hal : 0≤al) (hx : 0≤XN) (he : 0≤E1N) (hh : 0≤h0)
  (h1 : 1024 * (F1 F * E1N)≤1024 * (F1 F * XN) + 5120 * XN + 2053 * s1N + 10400 * t1N + 4200 * (F1 F * g1N))
  (h2 : 1024 * (F1 F * E0)≤1024 * (F1 F * E1N) + 5120 * E1N + 2053 * s0 + 10400 * t0 + 4200 * (F1 F * h0))
  (h3 : 8 * (F1 F * XN)≤F1 F * h0) (h4 : s1N≤3 * s1r) (h5 : t1N≤3 * t1r) (h6 : 1048576 * g1N≤h0)
  (hs' : 1073741823 * (s1r + al)≤1073741824 * s0) (ht' : 1073741823 * (t1r + h0)≤1073741824 * t0) : 64 * (F1 F * E0)≤1024 * s0 + 512 * (F1 F * t0):=by
 have hFv : (F1 F : Int) = 16777216∨(F1 F : Int) = 9007199254740992:=by cases F; exact Or.inl rfl; exact Or.inr rfl
 generalize (F1 F : Int) = U at *
 rcases hFv with rfl | rfl <;> omega
theorem ZAZ {F : Fm} {E EN O h : Int} (hO : 0≤O) (hen : 0≤EN) (h1 : 1024 * (F1 F * E)≤1024 * (F1 F * EN) + 5120 * EN + 2060 * O + 4200 * (F1 F * h)) (h2 : 16777216 * (F1 F * EN)≤O) (h3 : 16777216 * (F1 F * h)≤O) : F1 F * E≤4 * O:=by
 have hFv : (F1 F : Int) = 16777216∨(F1 F : Int) = 9007199254740992:=by cases F; exact Or.inl rfl; exact Or.inr rfl
 generalize (F1 F : Int) = U at *
 rcases hFv with rfl | rfl <;> omega
theorem ZDK (F : Fm) {K : Int} (hK : K≤-4000) : 1125899906842624 * (1125899906842624 * (oL F K * hL F (-4000)))≤oL F (K + -4000):=by
 have hl:=Zqf F
 unfold oL hL
 rw [← Int.natCast_mul,← Nat.pow_add]
 have e : (1125899906842624 : Int) = ((2 ^ 50 : Nat) : Int):=rfl
 rw [e,← Int.natCast_mul,← Int.natCast_mul,← Nat.pow_add,← Nat.pow_add]
 refine Int.ofNat_le.2 (Nat.pow_le_pow_right (by decide) ?_)
 omega
theorem Uh_o (F : Fm) {K : Int} (hK : K≤-4000) : 16777216 * (F1 F * hL F K)≤oL F K:=by
 have hl:=Zqf F
 have hF:=ZvQ F
 have hFr : F.low + F.fr + 1 + 24≤F.wide:=by cases F <;> decide
 unfold oL hL F1
 have e : (16777216 : Int) = ((2 ^ 24 : Nat) : Int):=rfl
 rw [e,← Int.natCast_mul,← Int.natCast_mul,← Nat.pow_add,← Nat.pow_add]
 refine Int.ofNat_le.2 (Nat.pow_le_pow_right (by decide) ?_)
 omega
theorem ZBJ (F : Fm) {K : Int} (hK : K≤-4000) : 8 * (4 * (262144 * (262144 * (oL F K * hL F (-4000) * hL F (-4000)))))≤F1 F * hL F (K + -4000 + -4000):=by
 have hl:=Zqf F
 have hFr : F.wide + F.low + 41≤F.fr + 1:=by cases F <;> decide
 unfold oL hL F1
 rw [← Int.natCast_mul,← Nat.pow_add,← Int.natCast_mul,← Nat.pow_add]
 have e1 : (8 : Int) = ((2 ^ 3 : Nat) : Int):=rfl
 have e2 : (4 : Int) = ((2 ^ 2 : Nat) : Int):=rfl
 have e3 : (262144 : Int) = ((2 ^ 18 : Nat) : Int):=rfl
 rw [e1,e2,e3,← Int.natCast_mul,← Int.natCast_mul,← Int.natCast_mul,← Int.natCast_mul,← Int.natCast_mul,← Nat.pow_add,← Nat.pow_add,← Nat.pow_add,← Nat.pow_add,← Nat.pow_add]
 refine Int.ofNat_le.2 (Nat.pow_le_pow_right (by decide) ?_)
 omega
theorem ZDc (F : Fm) {K : Int} (hK : K≤-4000) : 1048576 * (262144 * (hL F K * hL F (-4000)))≤hL F (K + -4000):=by
 have hl:=Zqf F
 unfold hL
 have e1 : (1048576 : Int) = ((2 ^ 20 : Nat) : Int):=rfl
 have e3 : (262144 : Int) = ((2 ^ 18 : Nat) : Int):=rfl
 rw [e1,e3,← Int.natCast_mul,← Int.natCast_mul,← Int.natCast_mul,← Nat.pow_add,← Nat.pow_add,← Nat.pow_add]
 refine Int.ofNat_le.2 (Nat.pow_le_pow_right (by decide) ?_)
 omega
theorem ZnV (F : Fm) (L : Int) : 0 < oL F L:=by have:=Nat.two_pow_pos ((F.wide : Int) - L).toNat; unfold oL; omega
structure PInv (F : Fm) (z : Nat × Nat) (Z : Int) (l : List (Nat × Nat)) : Prop where
 fy : Zf F (pE F z l).1
 nE : (F.vl (pE F z l).2).n = false
 hR : ∃ R : Int,NB (iv (F.vl (pE F z l).1.1) (kU l)) (iv (F.vl (pE F z l).1.2) (kU l)) R∧1048576 * R≤(1048576 + 8 * (l.length : Int)) * iv (sS F z l) (kU l) + (5 * 1048576 + 64 * (l.length : Int)) * iv (tT F z (l.length - 1)) (kU l - F.low)
 hE : 131072 * hL F (-4000)≤Z→64 * (F1 F * iv (F.vl (pE F z l).2) (kU l))≤256 * (l.length * iv (sS F z l) (kU l)) + (384 + l.length) * (F1 F * iv (tT F z (l.length - 1)) (kU l - F.low))
 hG : Z < 131072 * hL F (-4000)→F1 F * iv (F.vl (pE F z l).2) (kU l)≤4 * oL F (kU l)
 hX : Z < 131072 * hL F (-4000)→∃ X : Int,0≤X∧1024 * (F1 F * iv (F.vl (pE F z l).2) (kU l))≤1024 * (F1 F * X) + 5120 * X + 2053 * iv (sS F z l) (kU l) + 10400 * iv (tT F z (l.length - 1)) (kU l - F.low) + 4200 * (F1 F * hL F (kU l)) ∧
  8 * (F1 F * (X * iv (F.vl (uN F z)) (-4000)))≤F1 F * hL F (kU l + -4000)
 hS : Z < 131072 * hL F (-4000)→64 * (F1 F * iv (F.vl (pE F z l).2) (kU l))≤512 * (l.length * iv (sS F z l) (kU l)) + 512 * (F1 F * iv (tT F z (l.length - 1)) (kU l - F.low))
theorem ZxM {F : Fm} {z : Nat × Nat} (fz : Zf F z) {Z : Int} {a : Nat × Nat} (fa : Zf F a) : PInv F z Z [a]:=by
 have z4 : F.vl 0 = ⟨false,0,0⟩:=(ZaH F false).2.2.2
 have e0 : pE F z [a] = (a,0):=rfl
 have k0 : kU [a] = -4000:=rfl
 have iv0 : ∀ L,iv (F.vl 0) L = 0:=fun L => by rw [z4]; exact Zah rfl L
 have hst:=Zxe fz fa (l:=[]) (K:=0) (fun b hb => by cases hb) rfl
 rw [show iv (sS F z []) 0 = 0 from Zah rfl 0,Int.zero_mul,Int.zero_add,Int.zero_add] at hst
 obtain ⟨_,A,hA,hAr⟩:=Zpj F fa (Int.le_refl (-4000))
 have s0:=Zbo (-4000) (Zer fz [a] (fun b hb => by rw [List.mem_singleton.1 hb]; exact fa)).1
 have t0:=Zbo (-4000 - F.low) (Zet fz 0 (K:=0) (by decide)).1
 have a0:=Zbo (-4000) (Zke F a).1
 have hU : (0 : Int)≤F1 F:=Int.natCast_nonneg _
 have ht:=Int.mul_nonneg hU t0
 have hh:=Int.mul_nonneg hU (Int.le_of_lt (Zip F (-4000)))
 have hh2:=Int.mul_nonneg hU (Int.le_of_lt (Zip F (-4000 + -4000)))
 have ho:=ZnV F (-4000)
 have l1 : (([a] : List (Nat × Nat)).length : Int) = 1:=rfl
 refine ⟨fa,by rw [e0,z4],⟨A,?_,?_⟩,fun _ => ?_,fun _ => ?_,fun _ => ⟨0,Int.le_refl _,?_,?_⟩,fun _ => ?_⟩
 ·rw [k0]; exact hA
 ·rw [k0,l1]
  change 1048576 * A≤(1048576 + 8 * 1) * iv (sS F z [a]) (-4000) + (5 * 1048576 + 64 * 1) * iv (tT F z 0) (-4000 - F.low)
  omega
 ·rw [k0,e0,iv0,l1,Int.mul_zero]
  change 64 * 0≤256 * (1 * iv (sS F z [a]) (-4000)) + (384 + 1) * (F1 F * iv (tT F z 0) (-4000 - F.low))
  omega
 ·rw [k0,e0,iv0,Int.mul_zero]; omega
 ·rw [k0,e0,iv0,Int.mul_zero]
  change 1024 * 0≤1024 * ((F1 F : Int) * 0) + 5120 * 0 + 2053 * iv (sS F z [a]) (-4000) + 10400 * iv (tT F z 0) (-4000 - F.low) + 4200 * (F1 F * hL F (-4000))
  omega
 ·rw [k0,Int.zero_mul,Int.mul_zero]; omega
 ·rw [k0,e0,iv0,l1,Int.mul_zero]
  change 64 * 0≤512 * (1 * iv (sS F z [a]) (-4000)) + 512 * (F1 F * iv (tT F z 0) (-4000 - F.low))
  omega
section
variable {F : Fm} {z : Nat × Nat} (wz : Zw F z) (fz : Zf F z) {Z : Int} (hZ : NB (iv (F.vl z.1) (-4000)) (iv (F.vl z.2) (-4000)) Z) (hZr : 1073741824 * Z≤1073741825 * iv (rZ F z) (-4000))
 include wz fz hZ hZr
set_option maxHeartbeats 4000000 in
theorem ZuP {a b : Nat × Nat} {l : List (Nat × Nat)} (hl : (b :: l).length≤40) (h : ∀ c ∈ a :: b :: l,Zw F c∧Zf F c) (hf : F.fin (pE F z (a :: b :: l)).2) (ih : PInv F z Z (b :: l)) : PInv F z Z (a :: b :: l):=by
 obtain ⟨wa,fa⟩:=h a (List.mem_cons_self ..)
 have hb : ∀ c ∈ b :: l,Zw F c∧Zf F c:=fun c hc => h c (List.mem_cons_of_mem _ hc)
 have ws:=pE_w F z (b :: l) (fun c hc => (hb c hc).1)
 have hf' : F.fin (stE F z (pE F z (b :: l)) a).2:=hf
 obtain ⟨fs,ns,⟨R,hR,hRb⟩,hE,hG,hX,_⟩:=ih
 have hK : kU (b :: l)≤-4000:=by unfold kU; rw [List.length_cons]; omega
 obtain ⟨_,A,hA,hAr⟩:=Zpj F fa (L:=kU (b :: l) + -4000) (by omega)
 obtain ⟨f',n',R',hR',q1,q2,q3⟩:=ZEh F wz fz wa fa ws fs ns hf' hK hR hZ hA
 have hst:=Zxe fz fa (l:=b :: l) (K:=kU (b :: l)) (fun c hc => (hb c hc).2) rfl
 have hlow:=Zqf F
 have htt:=ZCl fz (n:=(b :: l).length - 1) (K:=kU (b :: l) - F.low) (by unfold kU; rw [List.length_cons]; omega)
 rw [ZDb F hK,show kU (b :: l) - F.low + -4000 = kU (b :: l) + -4000 - F.low by omega,show (b :: l).length - 1 + 1 = (b :: l).length from rfl] at htt
 have hN:=ZDG wz fz hZ hZr (Zps F hf').2.2.1
 have hmU:=Zbo (-4000) (ZyV F (Zps F hf').2.2.1).1
 have r0:=Zbo (-4000) (Zke F z).1
 change 0≤iv (rZ F z) (-4000) at r0
 have s0:=Zbo (kU (b :: l)) (Zer fz (b :: l) (fun c hc => (hb c hc).2)).1
 have t0:=Zbo (kU (b :: l) - F.low) (Zet fz ((b :: l).length - 1) (K := -4000 * (((b :: l).length - 1 : Nat) : Int)) (Int.le_refl _)).1
 have a0:=Zbo (kU (b :: l) + -4000) (Zke F a).1
 have s0':=Zbo (kU (b :: l) + -4000) (Zer fz (a :: b :: l) (fun c hc => (h c hc).2)).1
 have t0':=Zbo (kU (b :: l) + -4000 - F.low) (Zet fz ((b :: l).length) (K := -4000 * ((b :: l).length : Int)) (Int.le_refl _)).1
 have eE:=Zbo (kU (b :: l)) ns
 have hh:=Zip F (kU (b :: l) + -4000)
 have hU : (0 : Int)≤F1 F:=Int.natCast_nonneg _
 have hUh:=Int.mul_nonneg hU (Int.le_of_lt hh)
 have hUt:=Int.mul_nonneg hU t0'
 have hRz : 1073741824 * (R * Z)≤1073741825 * (R * iv (rZ F z) (-4000)):=by
  have:=Int.mul_le_mul_of_nonneg_left hZr hR.1
  grind
 have hRr:=Int.mul_le_mul_of_nonneg_right hRb r0
 have hRr' : 1048576 * (R * iv (rZ F z) (-4000))≤(1048576 + 8 * ((b :: l).length : Int)) * (iv (sS F z (b :: l)) (kU (b :: l)) * iv (rZ F z) (-4000)) + (5 * 1048576 + 64 * ((b :: l).length : Int)) * (iv (tT F z ((b :: l).length - 1)) (kU (b :: l) - F.low) * iv (rZ F z) (-4000)):=by
  rw [Int.add_mul,Int.mul_assoc,Int.mul_assoc,Int.mul_assoc] at hRr
  exact hRr
 have hsr:=Int.mul_nonneg s0 r0
 have htr:=Int.mul_nonneg t0 r0
 have hEN:=Int.mul_nonneg eE hmU
 have hEr:=Int.mul_nonneg eE r0
 have ss:=ZEm (m:=(b :: l).length) hl hsr htr a0 (Int.le_of_lt hh) hRz hRr' hAr hst htt
 have inv1:=ZEX (F:=F) (rz:=0) (R:=0) (m:=(b :: l).length) hl hsr htr a0 (Int.le_of_lt hh) q2 hRz hRr' hAr hst htt
 have kc : kU (a :: b :: l) = kU (b :: l) + -4000:=ZBx a (b :: l)
 have e0 : pE F z (a :: b :: l) = stE F z (pE F z (b :: l)) a:=rfl
 have lc : (a :: b :: l).length = (b :: l).length + 1:=rfl
 have lc1 : (a :: b :: l).length - 1 = (b :: l).length:=rfl
 refine ⟨f',n',⟨R',?_,?_⟩,fun q => ?_,fun q => ?_,fun q => ⟨_,hEN,?_,?_⟩,fun q => ?_⟩
 ·rw [kc]; exact hR'
 ·rw [kc,lc1,lc]; exact inv1
 ·rw [kc,lc1,lc,e0]
  refine ZEW (F:=F) (m:=(b :: l).length) hl hsr htr a0 (Int.le_of_lt hh) hEr q1 ?_ hRz hRr' hAr ?_ hst htt
  ·have:=Int.mul_le_mul_of_nonneg_left (hN.1 q) eE
   grind
  ·have:=Int.mul_le_mul_of_nonneg_right (hE q) r0
   grind
 ·rw [kc,e0]
  refine ZAZ (Int.le_of_lt (ZnV F _)) hEN q3 ?_ (Uh_o F (by omega))
  have g1:=Int.mul_le_mul (hG q) (hN.2 q).1 hmU (by have:=ZnV F (kU (b :: l)); omega)
  have g2:=ZDK F hK
  have g3 : 4 * oL F (kU (b :: l)) * (262144 * hL F (-4000)) = 1048576 * (oL F (kU (b :: l)) * hL F (-4000)):=by grind
  rw [g3,Int.mul_assoc] at g1
  have g4:=Int.mul_nonneg (Int.le_of_lt (ZnV F (kU (b :: l)))) (Int.le_of_lt (Zip F (-4000)))
  omega
 ·rw [kc,lc1,e0]
  have q1':=q1
  omega
 ·rw [kc]
  have g1:=Int.mul_le_mul (hG q) (hN.2 q).1 hmU (by have:=ZnV F (kU (b :: l)); omega)
  have g2:=Int.mul_le_mul g1 (hN.2 q).1 hmU (by
   have:=Int.mul_nonneg (show 0≤4 * oL F (kU (b :: l)) by have:=ZnV F (kU (b :: l)); omega) (show 0≤262144 * hL F (-4000) by have:=Zip F (-4000); omega)
   exact this)
  have g3:=ZBJ F hK
  have g4 : 4 * oL F (kU (b :: l)) * (262144 * hL F (-4000)) * (262144 * hL F (-4000)) = 4 * (262144 * (262144 * (oL F (kU (b :: l)) * hL F (-4000) * hL F (-4000)))):=by grind
  rw [g4,Int.mul_assoc,Int.mul_assoc] at g2
  rw [Int.mul_assoc]
  omega
 ·rw [kc,lc1,lc,e0]
  obtain ⟨X,x0,x1,x2⟩:=hX q
  have x3:=Int.mul_le_mul_of_nonneg_right x1 hmU
  have x4:=Int.mul_nonneg x0 hmU
  have y1 : 1024 * (F1 F * (iv (F.vl (pE F z (b :: l)).2) (kU (b :: l)) * iv (F.vl (uN F z)) (-4000)))≤1024 * (F1 F * (X * iv (F.vl (uN F z)) (-4000))) + 5120 * (X * iv (F.vl (uN F z)) (-4000)) + 2053 * (iv (sS F z (b :: l)) (kU (b :: l)) * iv (F.vl (uN F z)) (-4000)) + 10400 * (iv (tT F z ((b :: l).length - 1)) (kU (b :: l) - F.low) * iv (F.vl (uN F z)) (-4000)) + 4200 * (F1 F * (hL F (kU (b :: l)) * iv (F.vl (uN F z)) (-4000))):=by grind
  have y4:=Int.mul_le_mul_of_nonneg_left (hN.2 q).2 s0
  have y5:=Int.mul_le_mul_of_nonneg_left (hN.2 q).2 t0
  have y6:=Int.mul_le_mul_of_nonneg_left (hN.2 q).1 (Int.le_of_lt (Zip F (kU (b :: l))))
  have y7:=ZDc F hK
  have q1' : 1024 * (F1 F * iv (F.vl (stE F z (pE F z (b :: l)) a).2) (kU (b :: l) + -4000))≤1024 * (F1 F * (iv (F.vl (pE F z (b :: l)).2) (kU (b :: l)) * iv (F.vl (uN F z)) (-4000))) + 5120 * (iv (F.vl (pE F z (b :: l)).2) (kU (b :: l)) * iv (F.vl (uN F z)) (-4000)) + 2053 * iv (sS F z (a :: b :: l)) (kU (b :: l) + -4000) + 10400 * iv (tT F z (b :: l).length) (kU (b :: l) + -4000 - F.low) + 4200 * (F1 F * hL F (kU (b :: l) + -4000)):=by omega
  have fin:=ZyQ (F:=F) hsr htr a0 x4 hEN (Int.le_of_lt hh) y1 q1' x2 (by grind) (by grind) (by grind) hst htt
  have lg : 1024 * iv (sS F z (a :: b :: l)) (kU (b :: l) + -4000)≤512 * ((((b :: l).length + 1 : Nat) : Int) * iv (sS F z (a :: b :: l)) (kU (b :: l) + -4000)):=by
   have h2 : (2 : Int)≤(((b :: l).length + 1 : Nat) : Int):=by rw [List.length_cons]; omega
   have:=Int.mul_le_mul_of_nonneg_right h2 s0'
   omega
  omega
theorem ZrS : ∀ (l : List (Nat × Nat)),l≠[]→l.length≤41→(∀ c ∈ l,Zw F c∧Zf F c)→F.fin (pE F z l).2→PInv F z Z l
 | [],h,_,_,_ => absurd rfl h
 | [a],_,_,h,_ => ZxM fz (h a (List.mem_cons_self ..)).2
 | a :: b :: l,_,hl,h,hf => by
  have hf' : F.fin (stE F z (pE F z (b :: l)) a).2:=hf
  have hl' : (b :: l).length≤40:=by rw [List.length_cons] at hl; omega
  exact ZuP wz fz hZ hZr hl' h hf (ZrS (b :: l) (by simp) (by omega) (fun c hc => h c (List.mem_cons_of_mem _ hc)) (Zps F hf').2.1)
end
theorem slack (F : Fm) {z : Nat × Nat} (wz : Zw F z) (fz : Zf F z) {l : List (Nat × Nat)} (h0 : l≠[]) (hl : l.length≤41) (h : ∀ c ∈ l,Zw F c∧Zf F c) (hf : F.fin (pE F z l).2) :
  F1 F * iv (F.vl (pE F z l).2) (kU l)≤8 * (l.length * iv (sS F z l) (kU l)) + 8 * (F1 F * iv (tT F z (l.length - 1)) (kU l - F.low)):=by
 obtain ⟨_,Z,hZ,hZr⟩:=Zpj F fz (Int.le_refl (-4000))
 have P:=ZrS wz fz hZ hZr l h0 hl h hf
 have s0:=Zbo (kU l) (Zer fz l (fun c hc => (h c hc).2)).1
 have t0:=Zbo (kU l - F.low) (Zet fz (l.length - 1) (K := -4000 * ((l.length - 1 : Nat) : Int)) (Int.le_refl _)).1
 have hU : (0 : Int)≤F1 F:=Int.natCast_nonneg _
 have a1:=Int.mul_nonneg (Int.natCast_nonneg l.length) s0
 have a2:=Int.mul_nonneg hU t0
 rcases Int.lt_or_le Z (131072 * hL F (-4000)) with q | q
 ·have:=P.hS q
  omega
 ·have:=P.hE q
  have e : (384 + (l.length : Int)) * (F1 F * iv (tT F z (l.length - 1)) (kU l - F.low))≤512 * (F1 F * iv (tT F z (l.length - 1)) (kU l - F.low)):=Int.mul_le_mul_of_nonneg_right (by omega) a2
  omega
end Go.Cv
namespace Go.Cv
variable {G : Nat→Option (List AV)} {T : Tbl} {g : Nat}
theorem Zpd (J : Al G T g) {z : Bool} {d : Dy} (nz : Nz d) (h0 : d.m = 0) : ∃ z' b,run G T 44 [DyA z d,.int .i64 100] = some (.tup [DyA z' (rt100 d),.bool b]):=by
 unfold rt100
 rw [if_pos h0,nz.1 h0]
 have l1:=ZdC (G:=G) J (z:=z) (a:=0) (by rw [Zag]; decide)
 obtain ⟨z1,h1⟩:=Zfm (G:=G) J (z:=z) (a:=0) (n:=202) (by rw [Zag]; decide) (by decide)
 rw [Nat.zero_mul] at h1
 obtain ⟨r',z2,h2,q1,q2⟩:=ZjA (G:=G) J (z:=z1) (a:=0) (by rw [Zag]; decide)
 have hr : r' = 0:=by
  rcases Nat.eq_zero_or_pos r' with h | h
  ·exact h
  ·have:=Nat.mul_pos h h; omega
 subst hr
 obtain ⟨z4,h3⟩:=Zbf (G:=G) J (n:=false) (z:=z2) (a:=0) (e := -101) (by rw [Zag]; decide) (by decide)
 rw [ZgA] at h3
 have h4:=ZiU (G:=G) J (z:=z4) (d:=⟨false,0,0⟩) (k:=100) (by rw [Zag]; decide) (by rw [Zai]; decide) (by decide)
 apply exP2
 rw [Zac G T J.C.ZjB]
 simp only [DyA,A3,Zai,cast0,Int.cast_ofNat_Int] at *
 have wa : IntKind.i64.wrap (2 * 100) = 200:=rfl
 have wb : IntKind.i64.wrap (200 + 2) = 202:=rfl
 have wc : IntKind.i64.wrap (202 - 0) = 202:=rfl
 have wd : IntKind.i64.wrap (0 - 202) = -202:=rfl
 have we : Int.tmod (-202) 2 = 0:=rfl
 have wf : IntKind.i64.wrap (Int.tdiv (-202) 2) = -101:=rfl
 repeat' (first|simp (maxSteps:=9^7) only [seval,exC,ZbC,l1,wa,wb,wc,wd,we,wf,h1,h2,h3,h4]|simp (maxSteps:=9^7) (disch:=first|with_reducible assumption|omega) only [dxB]|(simp only [kdB];split)|(simp only [kvB];split))
 exact ⟨_,rfl,_,_,rfl⟩
theorem Ztk (J : Al G T g) {z : Bool} {d : Dy} (hd : Bd d 1000000) (nz : Nz d) : ∃ z' b,run G T 44 [DyA z d,.int .i64 100] = some (.tup [DyA z' (rt100 d),.bool b]):=by
 by_cases h0 : d.m = 0
 ·exact Zpd J nz h0
 ·exact ZrB J hd h0
theorem ZEE (F : Fm) (a b : Nat) : Tb (sqD F a b) (2 * 1025) (2 * 1074) :=
 (ZuQ (ZnM (ZbX F a) (ZbX F a) (ZxN F a) (ZxN F a)) (ZnM (ZbX F b) (ZbX F b) (ZxN F b) (ZxN F b))).mono (by decide) (by decide)
theorem Zud (F : Fm) (p : Nat × Nat) : Tb (rt100 (sqD F p.1 p.2)) 1026 1184:=ZED (ZEE F p.1 p.2)
theorem ZAS (F : Fm) (p : Nat × Nat) : Bd (rt100 (sqD F p.1 p.2)) 2210:=ZpF (Zud F p) (Zke F p).2
theorem Zzh : Tb (intD 1) 1 0:=fun _ => by
 have h : intD 1 = ⟨false,1,0⟩:=by
  have:=Zjv (n:=false) (m:=1) (e:=0) (by decide) 0
  simpa [intD] using this
 rw [h]; simp only; decide
section
variable {F : Fm} {z : Nat × Nat} (fz : Zf F z)
 include fz
theorem ZBW : ∀ (l : List (Nat × Nat)),(∀ a ∈ l,Zf F a)→Tb (sS F z l) (l.length * 1030) (l.length * 1190)
 | [],_ => fun h => absurd rfl h
 | a :: l,h => by
  have hl : ∀ b ∈ l,Zf F b:=fun b hb => h b (List.mem_cons_of_mem _ hb)
  have i:=ZBW l hl
  have m:=ZnM (Zer fz l hl).2.1 (Zke F z).2 i (Zud F z)
  have m2:=m.mono (W':=l.length * 1030 + 1026) (E':=l.length * 1190 + 1190) (by omega) (by omega)
  have v:=(Zud F a).mono (W':=l.length * 1030 + 1026) (E':=l.length * 1190 + 1190) (by omega) (by omega)
  rw [List.length_cons]
  exact (Zzg (ZuQ m2 v)).mono (by omega) (by omega)
theorem ZCm : ∀ (n : Nat),Tb (tT F z n) (n * 1030) (n * 1190)
 | 0 => fun h => absurd rfl h
 | n + 1 => by
  have i:=ZCm n
  have m:=ZnM (Zet fz n (K := -4000 * (n : Int)) (Int.le_refl _)).2.1 (Zke F z).2 i (Zud F z)
  have m2:=m.mono (W':=n * 1030 + 1026) (E':=n * 1190 + 1190) (by omega) (by omega)
  have v:=Zzh.mono (W':=n * 1030 + 1026) (E':=n * 1190 + 1190) (by omega) (by omega)
  exact (Zzg (ZuQ m2 v)).mono (by omega) (by omega)
end
theorem ZrH (e : Env) (h : Heap) : evL G T Zbu e h = kS G T (evL G T Zch (keepE [6,7,8,10,11,15] e) h) Zbu:=Zae G T rfl e h
theorem Zxd (e : Env) (h : Heap) : evL G T Zdp e h = kS G T (evL G T Zdo (keepE [0,1,6,7,8,10,11,12] e) h) Zdp:=Zae G T rfl e h
set_option maxHeartbeats 16000000 in
theorem Zir (J : Al G T g) (F : Fm) {z : Nat × Nat} (fz : Zf F z) {B0 B1 B2 B4 : Blk} {zr : Bool} : ∀ (j n : Nat) (bs : List Blk) (zt : Bool),j + n≤41 →
  ∃ bs' zt',evL G T Zbu [(6,.ptr 1 0),(7,.ptr 2 0),(8,.ptr 3 0),(10,.ptr 4 0),(11,.ptr 5 0),(15,.int .i64 ((j : Int) - 1))] ⟨B0 :: B1 :: B2 :: dB zr (rZ F z) :: B4 :: dB zt (tT F z n) :: bs,[]⟩ =
   some (.exit 2,[(6,.ptr 1 0),(7,.ptr 2 0),(8,.ptr 3 0),(10,.ptr 4 0),(11,.ptr 5 0),(15,.int .i64 (-1)),(53,.bool false)],⟨B0 :: B1 :: B2 :: dB zr (rZ F z) :: B4 :: dB zt' (tT F z (j + n)) :: bs',[]⟩)
 | 0,n,bs,zt,_ => by
  refine ⟨bs,zt,?_⟩
  rw [Nat.zero_add,ZrH]
  generalize tT F z n = s at *
  generalize rZ F z = r at *
  simp only [dB]
  repeat' (first|simp (maxSteps:=9^7) only [seval,exC,Zch,cast0,Int.zero_sub]|simp (maxSteps:=9^7) (disch:=first|with_reducible assumption|omega) only [dxB]|(simp only [kdB];split)|(simp only [kvB];split))
 | j + 1,n,bs,zt,hj => by
  have ih:=Zir J F fz (B0:=B0) (B1:=B1) (B2:=B2) (B4:=B4) (zr:=zr) j (n + 1)
  have tb:=ZCm fz n
  have nt:=(Zet fz n (K := -4000 * (n : Int)) (Int.le_refl _)).2.1
  have br:=ZAS F z
  have bt : Bd (tT F z n) 100000:=(ZpF tb nt).mono (by omega)
  have bm : Bd (mulD (tT F z n) (rZ F z)) 110000:=(ZpF (ZnM nt (Zke F z).2 tb (Zud F z)) (ZbB _ _)).mono (by omega)
  obtain ⟨y1,m1⟩:=Zmk J (z:=zt) (y:=zr) (bt.mono (by decide)) (show Bd (rZ F z) 1000000 from br.mono (by decide))
  obtain ⟨y2,i1⟩:=ZkP J (n:=1) (by decide) (by decide)
  have b1 : Bd (intD 1) 110000:=(ZpF Zzh Zrb).mono (by decide)
  obtain ⟨y3,a1⟩:=ZfT J (z:=y1) (y:=y2) (bm.mono (by decide)) (b1.mono (by decide))
  obtain ⟨y4,b4,k1⟩:=ZlO J (z:=y3) (d:=addD (mulD (tT F z n) (rZ F z)) (intD 1)) ((ZlI bm b1).mono (by decide))
  have ht : tT F z (n + 1) = cut100 (addD (mulD (tT F z n) (rZ F z)) (intD 1)):=rfl
  rw [ht] at ih
  have e1 : ((j + 1 : Nat) : Int) - 1 = j:=by omega
  have j0 : (j : Int) ≥ 0:=by omega
  have w1 : IntKind.i64.wrap ((j : Int) - 1) = (j : Int) - 1:=Zad (by omega)
  obtain ⟨bs',zt',ih⟩:=ih bs y4 (by omega)
  refine ⟨bs',zt',?_⟩
  rw [show j + 1 + n = j + (n + 1) by omega,← ih,e1,ZrH]
  clear br bt bm b1 tb nt ih ht
  generalize cut100 (addD (mulD (tT F z n) (rZ F z)) (intD 1)) = C at *
  generalize addD (mulD (tT F z n) (rZ F z)) (intD 1) = A at *
  generalize mulD (tT F z n) (rZ F z) = M at *
  generalize intD 1 = O at *
  generalize tT F z n = s at *
  generalize rZ F z = r at *
  simp only [dB,DyA,A3] at *
  repeat' (first|simp (maxSteps:=9^7) only [seval,exC,Zch,j0,m1,i1,a1,k1,w1]|simp (maxSteps:=9^7) (disch:=first|with_reducible assumption|omega) only [dxB]|(simp only [kdB];split)|(simp only [kvB];split))
set_option maxHeartbeats 16000000 in
theorem Zis (J : Al G T g) (F : Fm) {z : Nat × Nat} (fz : Zf F z) {l : List (Nat × Nat)} {zl : Bool} {B0 B1 B2 B5 : Blk} {zr : Bool} (hl : l.length≤41) (hw : Zws F l) (hf : Zfs F l) : ∀ (j : Nat) (bs : List Blk) (zs : Bool),j≤l.length →
  ∃ bs' zs',evL G T Zdp [(0,.int .u8 F.u),(1,ZL zl l),(6,.ptr 1 0),(7,.ptr 2 0),(8,.ptr 3 0),(10,.ptr 4 0),(11,.ptr 5 0),(12,.int .i64 ((j : Int) - 1))] ⟨B0 :: B1 :: B2 :: dB zr (rZ F z) :: dB zs (sS F z (l.drop j)) :: B5 :: bs,[]⟩ =
   some (.exit 0,[(0,.int .u8 F.u),(1,ZL zl l),(6,.ptr 1 0),(7,.ptr 2 0),(8,.ptr 3 0),(10,.ptr 4 0),(11,.ptr 5 0),(12,.int .i64 (-1)),(27,.bool false)],⟨B0 :: B1 :: B2 :: dB zr (rZ F z) :: dB zs' (sS F z l) :: B5 :: bs',[]⟩)
 | 0,bs,zs,_ => by
  refine ⟨bs,zs,?_⟩
  rw [List.drop_zero,Zxd]
  generalize sS F z l = s at *
  generalize rZ F z = r at *
  simp only [dB]
  repeat' (first|simp (maxSteps:=9^7) only [seval,exC,Zdo,cast0,Int.zero_sub]|simp (maxSteps:=9^7) (disch:=first|with_reducible assumption|omega) only [dxB]|(simp only [kdB];split)|(simp only [kvB];split))
 | j + 1,bs,zs,hj => by
  have hjl : j < l.length:=by omega
  have ih:=Zis J F fz (zl:=zl) (B0:=B0) (B1:=B1) (B2:=B2) (B5:=B5) (zr:=zr) hl hw hf j
  have wa:=hw _ (Zog hjl)
  have fa:=hf _ (Zog hjl)
  have hs : sS F z (l.drop j) = cut100 (addD (mulD (sS F z (l.drop (j + 1))) (rZ F z)) (rt100 (sqD F (zc l j).1 (zc l j).2))):=by rw [ZgS hjl]; rfl
  have hd : ∀ b ∈ l.drop (j + 1),Zf F b:=fun b hb => hf b (List.mem_of_mem_drop hb)
  have tb:=ZBW fz (l.drop (j + 1)) hd
  have ns:=(Zer fz (l.drop (j + 1)) hd).2.1
  have hlen : (l.drop (j + 1)).length≤41:=by rw [List.length_drop]; omega
  have br:=ZAS F z
  have ba:=ZAS F (zc l j)
  have bt : Bd (sS F z (l.drop (j + 1))) 100000:=(ZpF tb ns).mono (by omega)
  have bm : Bd (mulD (sS F z (l.drop (j + 1))) (rZ F z)) 110000:=(ZpF (ZnM ns (Zke F z).2 tb (Zud F z)) (ZbB _ _)).mono (by omega)
  obtain ⟨y1,m1⟩:=Zmk J (z:=zs) (y:=zr) (bt.mono (by decide)) (show Bd (rZ F z) 1000000 from br.mono (by decide))
  obtain ⟨y5,q1⟩:=ZgC J F wa.1 wa.2 fa.1 fa.2
  obtain ⟨y2,b2,r1⟩:=Ztk J (z:=y5) (d:=sqD F (zc l j).1 (zc l j).2) ((ZAT F _ _).mono (by decide)) (ZpE F _ _)
  obtain ⟨y3,a1⟩:=ZfT J (z:=y1) (y:=y2) (bm.mono (by decide)) (ba.mono (by decide))
  obtain ⟨y4,b4,k1⟩:=ZlO J (z:=y3) (d:=addD (mulD (sS F z (l.drop (j + 1))) (rZ F z)) (rt100 (sqD F (zc l j).1 (zc l j).2))) ((ZlI bm (ba.mono (show 2210≤110000 by decide))).mono (by decide))
  rw [hs] at ih
  have t1 : ((j : Int)).toNat = j:=Int.toNat_natCast j
  have e1 : ((j + 1 : Nat) : Int) - 1 = j:=by omega
  have j0 : (j : Int) ≥ 0:=by omega
  have w1 : IntKind.i64.wrap ((j : Int) - 1) = (j : Int) - 1:=Zad (by omega)
  have ia:=Zlp (z:=zl) (l:=l) (k:=.i64) (j:=(j : Int)) ⟨by omega,by omega⟩
  rw [t1] at ia
  have rd:=fun mm => rd_Z (G:=G) mm hjl
  obtain ⟨bs',zs',ih⟩:=ih (bs ++ [dB y2 (rt100 (sqD F (zc l j).1 (zc l j).2))]) y4 (by omega)
  refine ⟨bs',zs',?_⟩
  rw [← ih,e1,Zxd]
  clear br ba bt bm tb ns ih hs hd hlen
  generalize cut100 (addD (mulD (sS F z (l.drop (j + 1))) (rZ F z)) (rt100 (sqD F (zc l j).1 (zc l j).2))) = C at *
  generalize addD (mulD (sS F z (l.drop (j + 1))) (rZ F z)) (rt100 (sqD F (zc l j).1 (zc l j).2)) = A at *
  generalize mulD (sS F z (l.drop (j + 1))) (rZ F z) = M at *
  generalize rt100 (sqD F (zc l j).1 (zc l j).2) = O at *
  generalize sqD F (zc l j).1 (zc l j).2 = Q at *
  generalize sS F z (l.drop (j + 1)) = s at *
  generalize rZ F z = r at *
  generalize zc l j = a at *
  simp only [dB,zA,DyA,A3] at *
  repeat' (first|simp (maxSteps:=9^7) only [seval,exC,Zdo,j0,m1,q1,r1,a1,k1,ia,rd,gaB,ZB,w1]|simp (maxSteps:=9^7) (disch:=first|with_reducible assumption|omega) only [dxB]|(simp only [kdB];split)|(simp only [kvB];split))
theorem ZEb {B0 B1 B2 B3 B4 B5 : Blk} {k : Int} (hk : k < 0) (bs : List Blk) : evL G T Zbu [(6,.ptr 1 0),(7,.ptr 2 0),(8,.ptr 3 0),(10,.ptr 4 0),(11,.ptr 5 0),(15,.int .i64 k)] ⟨B0 :: B1 :: B2 :: B3 :: B4 :: B5 :: bs,[]⟩ =
   some (.exit 2,[(6,.ptr 1 0),(7,.ptr 2 0),(8,.ptr 3 0),(10,.ptr 4 0),(11,.ptr 5 0),(15,.int .i64 k),(53,.bool false)],⟨B0 :: B1 :: B2 :: B3 :: B4 :: B5 :: bs,[]⟩):=by
 have hk' : ¬ k ≥ 0:=by omega
 rw [ZrH]
 repeat' (first|simp (maxSteps:=9^7) only [seval,exC,Zch,hk']|simp (maxSteps:=9^7) (disch:=first|with_reducible assumption|omega) only [dxB]|(simp only [kdB];split)|(simp only [kvB];split))
set_option maxHeartbeats 4000000 in
theorem Zly (J : Al G T g) (hP : HasK g T) (F : Fm) {l : List (Nat × Nat)} {z : Bool} {a b : Nat} (hl : l.length≤41) (hw : Zws F l) (hf : Zfs F l) (hp : Zw F (a,b)) (fp : Zf F (a,b)) :
  ∃ z1 z2,run G T 349 [.int .u8 F.u,ZL z l,zA a b] = some (.tup [DyA z1 (sS F (a,b) l),DyA z2 (tT F (a,b) (l.length - 1))]):=by
 rw [Zac G T hP.Zly]
 obtain ⟨y5,q1⟩:=ZgC J F hp.1 hp.2 fp.1 fp.2
 obtain ⟨y2,b2,r1⟩:=Ztk J (z:=y5) (d:=sqD F a b) ((ZAT F _ _).mono (by decide)) (ZpE F _ _)
 have hr : rZ F (a,b) = rt100 (sqD F a b):=rfl
 rw [← hr] at r1
 have w1 : IntKind.i64.wrap ((l.length : Int) - 1) = (l.length : Int) - 1:=Zad (by omega)
 obtain ⟨bs,z1,lp⟩:=Zis J F fp (zl:=z) (l:=l) (B0:=⟨[.int .u64 (a : Int),.int .u64 (b : Int)],false⟩) (B1:=⟨[.bool false,.nil,.int .i64 0],false⟩) (B2:=⟨[.bool false,.nil,.int .i64 0],false⟩) (B5:=⟨[.bool false,.nil,.int .i64 0],false⟩) (zr:=y2) hl hw hf l.length [] true (Nat.le_refl _)
 rw [List.drop_length,show sS F (a,b) [] = ⟨false,0,0⟩ from rfl] at lp
 have d0 : D true (dl 0) = .nil:=by rw [Zag]; rfl
 have hlq : ∃ bs2 z2 kk,evL G T Zbu [(6,.ptr 1 0),(7,.ptr 2 0),(8,.ptr 3 0),(10,.ptr 4 0),(11,.ptr 5 0),(15,.int .i64 (IntKind.i64.wrap ((l.length : Int) - 2)))] ⟨⟨[.int .u64 (a : Int),.int .u64 (b : Int)],false⟩ :: ⟨[.bool false,.nil,.int .i64 0],false⟩ :: ⟨[.bool false,.nil,.int .i64 0],false⟩ :: dB y2 (rZ F (a,b)) :: dB z1 (sS F (a,b) l) :: ⟨[.bool false,.nil,.int .i64 0],false⟩ :: bs,[]⟩ =
   some (.exit 2,[(6,.ptr 1 0),(7,.ptr 2 0),(8,.ptr 3 0),(10,.ptr 4 0),(11,.ptr 5 0),(15,.int .i64 kk),(53,.bool false)],⟨⟨[.int .u64 (a : Int),.int .u64 (b : Int)],false⟩ :: ⟨[.bool false,.nil,.int .i64 0],false⟩ :: ⟨[.bool false,.nil,.int .i64 0],false⟩ :: dB y2 (rZ F (a,b)) :: dB z1 (sS F (a,b) l) :: dB z2 (tT F (a,b) (l.length - 1)) :: bs2,[]⟩):=by
  by_cases h0 : l = []
  ·subst h0
   refine ⟨bs,true,-2,?_⟩
   rw [show IntKind.i64.wrap ((([] : List (Nat × Nat)).length : Int) - 2) = -2 from rfl,ZEb (by decide)]
   show _ = some (_,_,_)
   rw [show tT F (a,b) (([] : List (Nat × Nat)).length - 1) = ⟨false,0,0⟩ from rfl]
   simp only [dB,d0]
  ·have w2 : IntKind.i64.wrap ((l.length : Int) - 2) = ((l.length - 1 : Nat) : Int) - 1:=by
    have:=List.length_pos_iff.2 h0
    rw [Zad (by omega)]; omega
   obtain ⟨bs2,z2,lq⟩:=Zir J F fp (B0:=⟨[.int .u64 (a : Int),.int .u64 (b : Int)],false⟩) (B1:=⟨[.bool false,.nil,.int .i64 0],false⟩) (B2:=⟨[.bool false,.nil,.int .i64 0],false⟩) (B4:=dB z1 (sS F (a,b) l)) (zr:=y2) (l.length - 1) 0 bs true (by omega)
   rw [Nat.add_zero,show tT F (a,b) 0 = ⟨false,0,0⟩ from rfl] at lq
   refine ⟨bs2,z2,-1,?_⟩
   rw [w2,← lq]
   simp only [dB,d0]
 obtain ⟨bs2,z2,kk,lq⟩:=hlq
 refine ⟨z1,z2,?_⟩
 simp only [dB,d0] at lp lq
 rw [show IntKind.i64.wrap ((l.length : Int) - 2) = (l.length : Int) - 2 from Zad (by omega)] at lq
 generalize tT F (a,b) (l.length - 1) = t at *
 generalize sS F (a,b) l = s at *
 generalize rZ F (a,b) = r at *
 generalize sqD F a b = sq at *
 simp only [zA,DyA,A3] at *
 repeat' (first|simp (maxSteps:=9^7) only [seval,exC,Zgs,gaB,ZB,q1,r1,w1,lp,lq]|simp (maxSteps:=9^7) (disch:=first|with_reducible assumption|omega) only [dxB]|(simp only [kdB];split)|(simp only [kvB];split))
end Go.Cv
namespace Go.Cv
variable {G : Nat→Option (List AV)} {T : Tbl} {g : Nat}
def mostD (F : Fm) (n : Nat) (s t : Dy) : Dy:=addD (shD (mulD (intD (8 * (n : Int))) s) (-(F.fr : Int) - 1)) (mulD (twoD (F.low + 3)) t)
theorem Zxl (F : Fm) {z : Nat × Nat} (wz : Zw F z) (fz : Zf F z) {l : List (Nat × Nat)} (hl : l.length≤41) (h : ∀ c ∈ l,Zw F c∧Zf F c) (hf : F.fin (pE F z l).2) : cmpD (F.vl (pE F z l).2) (mostD F l.length (sS F z l) (tT F z (l.length - 1)))≤0:=by
 unfold mostD
 by_cases h0 : l = []
 ·subst h0
  have e1 : F.vl (pE F z []).2 = ⟨false,0,0⟩:=(ZaH F false).2.2.2
  rw [e1,show sS F z [] = ⟨false,0,0⟩ from rfl,show tT F z (([] : List (Nat × Nat)).length - 1) = ⟨false,0,0⟩ from rfl,Zid (Or.inr rfl),Zid (Or.inr rfl)]
  unfold shD
  rw [if_pos rfl]
  decide
 ·have sl:=slack F wz fz h0 hl h hf
  have hF:=Zak F
  have hK : kU l≤-4000:=by have:=List.length_pos_iff.2 h0; unfold kU; omega
  have hs:=(Zer fz l (fun c hc => (h c hc).2)).2.2
  change LoE _ (kU l) at hs
  have ht:=(Zet fz (l.length - 1) (K:=kU l - F.low) (by have:=List.length_pos_iff.2 h0; unfold kU; omega)).2.2
  obtain ⟨i1,i2⟩:=Zwa (8 * l.length) (Int.le_refl 0)
  rw [show ((8 * l.length : Nat) : Int) = 8 * (l.length : Int) by omega] at i1 i2
  obtain ⟨m1,m2⟩:=Zbb i2 hs
  rw [Int.zero_add] at m1 m2
  have m3:=ZDk (mulD (intD (8 * (l.length : Int))) (sS F z l)) (-(F.fr : Int) - 1) (kU l - (F.fr + 1 : Nat))
  have m4 : LoE (shD (mulD (intD (8 * (l.length : Int))) (sS F z l)) (-(F.fr : Int) - 1)) (kU l - (F.fr + 1 : Nat)):=ZAX (by rw [show kU l - ((F.fr + 1 : Nat) : Int) - (-(F.fr : Int) - 1) = kU l by omega]; exact m2)
  rw [show kU l - ((F.fr + 1 : Nat) : Int) - (-(F.fr : Int) - 1) = kU l by omega,m1] at m3
  have t1 : LoE (twoD (F.low + 3)) F.low:=Or.inr (by show F.low≤F.low + 3; omega)
  have t2 : iv (twoD (F.low + 3)) F.low = 8:=by rw [ZDm,show (F.low + 3 - F.low).toNat = 3 by omega]; rfl
  obtain ⟨m5,m6⟩:=Zbb t1 ht
  rw [t2,show F.low + (kU l - F.low) = kU l by omega] at m5
  rw [show F.low + (kU l - F.low) = kU l by omega] at m6
  have m7:=ZkB (L':=kU l - (F.fr + 1 : Nat)) m6 (by omega)
  rw [m5,show (kU l - (kU l - ((F.fr + 1 : Nat) : Int))).toNat = F.fr + 1 by omega] at m7
  obtain ⟨a1,a2⟩:=Zbx m4 (m6.mono (show kU l - ((F.fr + 1 : Nat) : Int)≤kU l by omega))
  have v1:=LoEv hf (show kU l≤-2000 by omega)
  have v2:=ZkB (L':=kU l - (F.fr + 1 : Nat)) v1 (by omega)
  rw [show (kU l - (kU l - ((F.fr + 1 : Nat) : Int))).toNat = F.fr + 1 by omega] at v2
  rw [ZnQ (v1.mono (show kU l - ((F.fr + 1 : Nat) : Int)≤kU l by omega)) a2,a1,m3,m7,v2,i1]
  have e1 : ((2 ^ (F.fr + 1) : Nat) : Int) = (F1 F : Int):=rfl
  have e2 : ((8 * l.length * 2 ^ (-(0 : Int)).toNat : Nat) : Int) = 8 * (l.length : Int):=by simp
  rw [e1,e2]
  have e3 : iv (F.vl (pE F z l).2) (kU l) * (F1 F : Int) - (8 * (l.length : Int) * iv (sS F z l) (kU l) + 8 * iv (tT F z (l.length - 1)) (kU l - F.low) * (F1 F : Int))≤0:=by grind
  unfold sgI
  split
  ·decide
  ·rw [if_neg (by omega)]; decide
theorem ZuH (F : Fm) : Bd (twoD (F.low + 3)) 100000:=by
 have hF:=Zak F
 refine ⟨?_,?_,?_⟩
 ·show blen 1≤100000; decide
 ·show -((100000 : Nat) : Int)≤F.low + 3; omega
 ·show F.low + 3≤((100000 : Nat) : Int); omega
theorem ZEA {n : Nat} (h : n≤41) : Bd (intD (8 * (n : Int))) 100000:=by
 rw [show 8 * (n : Int) = ((8 * n : Nat) : Int) by omega,ZoN]
 by_cases h0 : 8 * n = 0
 ·rw [h0]; exact ⟨by decide,by decide,by decide⟩
 ·have hk:=Zju (n:=false) h0 0
  have hl:=ZiG (ZfA (n:=false) (m:=8 * n) (Int.le_refl 0)) (fun q => h0 (Zys.1 q))
  have hb : blen (8 * n)≤10:=Zaf.2 (by rw [show (2 : Nat) ^ 10 = 1024 from rfl]; omega)
  exact ⟨by omega,by omega,by omega⟩
set_option maxHeartbeats 16000000 in
theorem ZiK (J : Al G T g) (hP : HasK g T) (hK : run G T 345 [] = some (.bool true)) {f : Int} {z : Bool} {l : List (Nat × Nat)} {a b : Nat} (h64 : W64 l) (ha : a < 18446744073709551616) (hb : b < 18446744073709551616) :
  run G T 323 [.int .u8 f,ZL z l,.agg [.int .u64 (a : Int),.int .u64 (b : Int)]] = some (.bool true):=by
 rw [Zac G T hP.ZiK]
 rcases zopens J hP (f:=f) (z:=z) h64 ha hb with ⟨e,he,o1⟩ | ⟨F,rfl,o1,oc,hl,hw,hp,hf,fp⟩
 ·simp only [zA] at *
  repeat' (first|simp (maxSteps:=9^7) only [seval,exC,ZaZ,ZB,o1,he,hK]|simp (maxSteps:=9^7) (disch:=first|with_reducible assumption|omega) only [dxB]|(simp only [kdB];split)|(simp only [kvB];split))
 ·have ev:=ZkK J hP F (z:=z) h64 ha hb oc hl hw hp
  have ws:=pE_w F (a,b) l hw
  obtain ⟨k1,k2,k3,k4⟩:=Zvb F (pE F (a,b) l) ws.2
  have sl:=Zxl F hp fp (l:=l) (by omega) (fun c hc => ⟨hw c hc,hf c hc⟩)
  have z0 : (0 : Nat) < 2 * F.sg:=by cases F <;> decide
  have zf : F.fin 0:=Zat.2 (Or.inl (ZaH F false).2.2.1)
  have hev : ∃ y bd,evE F (a,b) l = (y,bd)∧bd < 2 * F.sg∧(F.fin bd→cmpD (F.vl bd) (mostD F l.length (sS F (a,b) l) (tT F (a,b) (l.length - 1)))≤0):=by
   unfold evE
   by_cases h0 : l = []
   ·rw [if_pos h0]
    refine ⟨(0,0),0,rfl,z0,fun _ => ?_⟩
    subst h0
    exact sl zf
   ·rw [if_neg h0]
    refine ⟨_,_,rfl,k1,fun q => ?_⟩
    obtain ⟨⟨_,_,q3⟩,q4⟩:=k3 q
    rw [q4]
    exact sl q3
  obtain ⟨y,bd,he,hbd,hle⟩:=hev
  rw [he] at ev
  have f1:=ZeG J F (Zkf hbd)
  by_cases hb0 : F.fin bd
  ·rw [decide_eq_true hb0] at f1
   have hle:=hle hb0
   obtain ⟨z1,z2,x1⟩:=Zly J hP F (z:=z) (by omega) hw hf hp fp
   obtain ⟨u3,v3⟩:=ZfU J F (Zkf hbd) hb0
   rw [← ZbA hb0] at v3
   have hF:=Zak F
   have bs : Bd (sS F (a,b) l) 100000:=(ZpF (ZBW fp l hf) (Zer fp l hf).2.1).mono (by omega)
   have bt : Bd (tT F (a,b) (l.length - 1)) 100000:=(ZpF (ZCm fp (l.length - 1)) (Zet fp (l.length - 1) (K := -4000 * ((l.length - 1 : Nat) : Int)) (Int.le_refl _)).2.1).mono (by omega)
   obtain ⟨y1,i1⟩:=ZkP J (n:=8 * (l.length : Int)) (by omega) (by omega)
   have bi:=ZEA (n:=l.length) (by omega)
   obtain ⟨y2,m1⟩:=Zmk J (z:=y1) (y:=z1) (bi.mono (by decide)) (bs.mono (by decide))
   have bm:=ZfY bi bs
   have fr:=Zho J F
   have sh:=Zkb J (z:=y2) (d:=mulD (intD (8 * (l.length : Int))) (sS F (a,b) l)) (k := -(F.fr : Int) - 1) (by omega) (by have:=bm.lo; have:=bm.hi; omega)
   have bsh:=ZEB bm (L:=100) (k := -(F.fr : Int) - 1) (by omega)
   have lo:=ZkS J F
   have tw:=Znn J (G:=G) (n:=F.low + 3)
   obtain ⟨y3,m2⟩:=Zmk J (z:=false) (y:=z2) ((ZuH F).mono (by decide)) (bt.mono (by decide))
   have bm2:=ZfY (ZuH F) bt
   obtain ⟨y4,a1⟩:=ZfT J (z:=y2) (y:=y3) (bsh.mono (by decide)) (bm2.mono (by decide))
   have ba:=ZlI (bsh.mono (show 4 * 100000 + 100≤500000 by decide)) (bm2.mono (show 4 * 100000≤500000 by decide))
   have cc:=Znk J (z:=u3) (y:=y4) (a:=F.vl bd) (b:=mostD F l.length (sS F (a,b) l) (tT F (a,b) (l.length - 1))) ((ZuI F bd).mono (by decide)) (Bd.mono ba (by decide))
   have w1 : IntKind.i64.wrap (8 * (l.length : Int)) = 8 * (l.length : Int):=Zad (by omega)
   have w2 : IntKind.i64.wrap (-(F.fr : Int)) = -(F.fr : Int):=Zad (by omega)
   have w2' : IntKind.i64.wrap (0 - (F.fr : Int)) = -(F.fr : Int):=by rw [Int.zero_sub]; exact w2
   have w3 : IntKind.i64.wrap (-(F.fr : Int) - 1) = -(F.fr : Int) - 1:=Zad (by omega)
   have w4 : IntKind.i64.wrap (F.low + 3) = F.low + 3:=Zad (by omega)
   clear bs bt bi bm bsh bm2 ba sl ws k1 k2 k3 k4 hF
   generalize cmpD (F.vl bd) (mostD F l.length (sS F (a,b) l) (tT F (a,b) (l.length - 1))) = c at *
   unfold mostD at *
   generalize addD (shD (mulD (intD (8 * (l.length : Int))) (sS F (a,b) l)) (-(F.fr : Int) - 1)) (mulD (twoD (F.low + 3)) (tT F (a,b) (l.length - 1))) = MM at *
   generalize shD (mulD (intD (8 * (l.length : Int))) (sS F (a,b) l)) (-(F.fr : Int) - 1) = S1 at *
   generalize mulD (intD (8 * (l.length : Int))) (sS F (a,b) l) = S0 at *
   generalize mulD (twoD (F.low + 3)) (tT F (a,b) (l.length - 1)) = S2 at *
   generalize intD (8 * (l.length : Int)) = I8 at *
   generalize twoD (F.low + 3) = T8 at *
   generalize tT F (a,b) (l.length - 1) = tt at *
   generalize sS F (a,b) l = ss at *
   generalize F.vl bd = v3' at *
   generalize F.low = lw at *
   generalize (F.fr : Int) = fr' at *
   simp only [zA,vlA,DyA,A3] at *
   repeat' (first|simp (maxSteps:=9^7) only [seval,exC,ZaZ,ZB,o1,ev,f1,fd_3,x1,v3,i1,m1,fr,sh,lo,tw,m2,a1,cc,w1,w2,w2',w3,w4,hle,hK]|simp (maxSteps:=9^7) (disch:=first|with_reducible assumption|omega) only [dxB]|(simp only [kdB];split)|(simp only [kvB];split))
  ·rw [decide_eq_false hb0] at f1
   simp only [zA,vlA] at *
   repeat' (first|simp (maxSteps:=9^7) only [seval,exC,ZaZ,ZB,o1,ev,f1,fd_3,hK]|simp (maxSteps:=9^7) (disch:=first|with_reducible assumption|omega) only [dxB]|(simp only [kdB];split)|(simp only [kvB];split))
end Go.Cv
