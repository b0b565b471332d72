/-
 A part of the proof of the statements of this seat (texts that the law's own text leans on): no condition.
-/
import Derived.Test.YtnomgajekgfgaaaGreatDoorM1
import Derived.Test.YtnomgajekgfgaaaGreatDoorM5
import Derived.Test.YtnomgajekgfgaaaGreatDoorM7
set_option linter.unusedVariables false
set_option linter.unusedSimpArgs false
set_option linter.defProp false
namespace Go.Cv
variable (G : Nat→Option (List AV)) (T : Tbl)
def kV (F : CallF) (o : Option AV) (d : Option Nat) (os : List IOper) (e : Env) (h : Heap) : Option (Env × Heap):=o.bind fun v => evOps G F os (putE d v e) h
theorem Zzm (F : CallF) (v : AV) (d : Option Nat) (os : List IOper) (e : Env) (h : Heap) : kV G F (some v) d os e h = evOps G F os (putE d v e) h:=rfl
def kN (F : CallF) (o : Option Nat) (d : Option Nat) (os : List IOper) (e : Env) (h : Heap) : Option (Env × Heap):=o.bind fun n => evOps G F os (putE d (.int .i64 (n : Int)) e) h
theorem ZEL (F : CallF) (n : Nat) (d : Option Nat) (os : List IOper) (e : Env) (h : Heap) : kN G F (some n) d os e h = evOps G F os (putE d (.int .i64 (n : Int)) e) h:=rfl
def kW (F : CallF) (o : Option (AV × Heap)) (d : Option Nat) (os : List IOper) (e : Env) : Option (Env × Heap):=o.bind fun r => evOps G F os (putE d r.1 e) r.2
theorem ZEO (F : CallF) (v : AV) (h : Heap) (d : Option Nat) (os : List IOper) (e : Env) : kW G F (some (v,h)) d os e = evOps G F os (putE d v e) h:=rfl
def kB (F : CallF) (b : Bool) (v : AV) (cs : List AV) (d : Option Nat) (os : List IOper) (e : Env) (h : Heap) : Option (Env × Heap):=if b = true then evOps G F os (putE d v e) ⟨h.b ++ [⟨cs,false⟩],h.f⟩ else none
theorem Zzi (F : CallF) (v : AV) (cs : List AV) (d : Option Nat) (os : List IOper) (e : Env) (h : Heap) : kB G F true v cs d os e h = evOps G F os (putE d v e) ⟨h.b ++ [⟨cs,false⟩],h.f⟩:=rfl
def kBs (F : CallF) (o : Option (List AV)) (v : AV) (d : Option Nat) (os : List IOper) (e : Env) (h : Heap) : Option (Env × Heap):=o.bind fun cs => kB G F (cs.all okCell) v cs d os e h
theorem ZBK (F : CallF) (cs : List AV) (v : AV) (d : Option Nat) (os : List IOper) (e : Env) (h : Heap) : kBs G F (some cs) v d os e h = kB G F (cs.all okCell) v cs d os e h:=rfl
def kC (F : CallF) (o : Option (AV × List Blk × List Nat)) (d : Option Nat) (os : List IOper) (e : Env) (h : Heap) : Option (Env × Heap):=o.bind fun r => evOps G F os (putE d r.1 e) ⟨h.b ++ r.2.1,r.2.2 ++ h.f⟩
theorem ZEJ (F : CallF) (v : AV) (bs : List Blk) (fs : List Nat) (d : Option Nat) (os : List IOper) (e : Env) (h : Heap) : kC G F (some (v,bs,fs)) d os e h = evOps G F os (putE d v e) ⟨h.b ++ bs,fs ++ h.f⟩:=rfl
def kG (F : CallF) (g : AV) (w : Bool) (d : Option Nat) (o : IOp) (os : List IOper) (e : Env) (h : Heap) : Option (Env × Heap) :=
 match g with
 | .bool b => if b = w then evOps G F (⟨d,o,none⟩ :: os) e h else evOps G F os (putE d (.tup []) e) h
 | .tup [] => evOps G F os (putE d (.tup []) e) h
 | _ => none
theorem ZHq (F : CallF) (d : Option Nat) (o : IOp) (os : List IOper) (e : Env) (h : Heap) : kG G F (.bool true) true d o os e h = evOps G F (⟨d,o,none⟩ :: os) e h:=rfl
theorem ZHn (F : CallF) (d : Option Nat) (o : IOp) (os : List IOper) (e : Env) (h : Heap) : kG G F (.bool false) false d o os e h = evOps G F (⟨d,o,none⟩ :: os) e h:=rfl
theorem ZHp (F : CallF) (d : Option Nat) (o : IOp) (os : List IOper) (e : Env) (h : Heap) : kG G F (.bool true) false d o os e h = evOps G F os (putE d (.tup []) e) h:=rfl
theorem ZHo (F : CallF) (d : Option Nat) (o : IOp) (os : List IOper) (e : Env) (h : Heap) : kG G F (.bool false) true d o os e h = evOps G F os (putE d (.tup []) e) h:=rfl
theorem ZJK (F : CallF) (w : Bool) (d : Option Nat) (o : IOp) (os : List IOper) (e : Env) (h : Heap) : kG G F (.tup []) w d o os e h = evOps G F os (putE d (.tup []) e) h:=rfl
noncomputable def kS (o : Option (Ex × Env × Heap)) (b : IC) : Option (Ex × Env × Heap):=o.bind (thenB (evL G T b))
theorem ZsE (e : Env) (h : Heap) (b : IC) : kS G T (some (.norm,e,h)) b = evL G T b e h:=rfl
theorem ZHu (e : Env) (h : Heap) (b : IC) : kS G T (some (.ret,e,h)) b = some (.ret,e,h):=rfl
theorem ZEN (i : Nat) (e : Env) (h : Heap) (b : IC) : kS G T (some (.exit i,e,h)) b = some (.exit i,e,h):=rfl
theorem ZCs (a b : IC) (e : Env) (h : Heap) : evL G T (.seq a b) e h = kS G T (evL G T a e h) b:=ZEv G T a b e h
theorem Zae {c : IC} {l : List Nat} {a : IC} (hc : c = .loop l a) (e : Env) (h : Heap) : evL G T c e h = kS G T (evL G T a (keepE l e) h) c:=by subst hc; exact ZBj G T l a e h
def kR (o : Option (Env × Heap)) (l : List Nat) (ops : List IOper) (chk : List (Nat × Nat)) : Option (Ex × Env × Heap):=o.bind fun r => if chkOk r.1 ops chk then some (.norm,keepE l r.1,r.2) else none
theorem ZHs (e : Env) (h : Heap) (l : List Nat) (ops : List IOper) : kR (some (e,h)) l ops [] = some (.norm,keepE l e,h):=rfl
theorem ZHr (e : Env) (h : Heap) (l : List Nat) (ops : List IOper) (p : Nat × Nat) (chk : List (Nat × Nat)) : kR (some (e,h)) l ops (p :: chk) = if chkOk e ops (p :: chk) then some (.norm,keepE l e,h) else none:=rfl
def kR0 (o : Option (Env × Heap)) (l : List Nat) : Option (Ex × Env × Heap):=o.bind fun r => some (.norm,keepE l r.1,r.2)
theorem ZBM (e : Env) (h : Heap) (l : List Nat) : kR0 (some (e,h)) l = some (.norm,keepE l e,h):=rfl
theorem ZIo (ops : List IOper) (l : List Nat) (e : Env) (h : Heap) : evL G T (.reg ops l []) e h = kR0 (evOps G (CF G T) ops e h) l:=ZyO G T ops l [] e h
theorem ZIp (ops : List IOper) (l : List Nat) (p : Nat × Nat) (chk : List (Nat × Nat)) (e : Env) (h : Heap) : evL G T (.reg ops l (p :: chk)) e h = kR (evOps G (CF G T) ops e h) l ops (p :: chk):=ZyO G T ops l _ e h
noncomputable def kI (v : AV) (a b : IC) (e : Env) (h : Heap) : Option (Ex × Env × Heap):=match v with | .bool t => if t then evL G T a e h else evL G T b e h | _ => none
theorem Zzk (a b : IC) (e : Env) (h : Heap) : kI G T (.bool true) a b e h = evL G T a e h:=rfl
theorem ZwB (a b : IC) (e : Env) (h : Heap) : kI G T (.bool false) a b e h = evL G T b e h:=rfl
theorem ZIn (c : IOpd) (a b : IC) (e : Env) (h : Heap) : evL G T (.cond c a b) e h = kI G T (opd e c) a b e h:=ZBg G T c a b e h
def kX (id : Nat) (o : Option (Ex × Env × Heap)) : Option (Ex × Env × Heap):=o.bind fun r => some (r.1.inBlock id,r.2.1,r.2.2)
theorem ZEQ (id : Nat) (e : Env) (h : Heap) : kX id (some (.norm,e,h)) = some (.norm,e,h):=rfl
theorem ZHw (id : Nat) (e : Env) (h : Heap) : kX id (some (.ret,e,h)) = some (.ret,e,h):=rfl
theorem ZEP (id j : Nat) (e : Env) (h : Heap) : kX id (some (.exit j,e,h)) = some (if j = id then .norm else .exit j,e,h):=rfl
theorem ZFM (id : Nat) (a : IC) (e : Env) (h : Heap) : evL G T (.block id a) e h = kX id (evL G T a e h):=ZyN G T id a e h
def kE (res : List IRes) (o : Option (Ex × Env × Heap)) : Option AV:=o.bind fun r => match r with
 | (.exit _,_,_) => none
 | (_,e,h) => (resL G e h res).bind fun vs => snap h.mem (pack vs)
theorem ZHl (res : List IRes) (e : Env) (h : Heap) : kE G res (some (.ret,e,h)) = (resL G e h res).bind fun vs => snap h.mem (pack vs):=rfl
theorem ZEK (res : List IRes) (e : Env) (h : Heap) : kE G res (some (.norm,e,h)) = (resL G e h res).bind fun vs => snap h.mem (pack vs):=rfl
theorem Zab {f : Nat} {fn : IFn} (hf : T f = some fn) (args : List AV) : run G T f args = kE G fn.res (evL G T fn.body (numE 0 args) .nil):=by
 rw [ZDy,hf]
 simp only [Option.bind_some]
 cases evL G T fn.body (numE 0 args) .nil with
 | none => rfl
 | some r =>
  obtain ⟨x,e,h⟩:=r
  simp only [Option.bind_some,kE]
  cases x <;> simp only [callEnd] <;> (try rfl)
  all_goals
   cases resL G e h fn.res with
   | none => rfl
   | some vs => simp only [Option.bind_some,Bool.false_eq_true,if_false]; cases snap h.mem (pack vs) <;> rfl
theorem ZKf (e : Env) (n : Nat) : opd e (.t n) = getE e n:=Eq.trans rfl rfl
theorem ZKc (e : Env) (v : AV) : opd e (.c v) = v:=Eq.trans rfl rfl
theorem ZKe (e : Env) (n : Nat) : opd e (.g n) = .gptr n 0:=Eq.trans rfl rfl
theorem ZKd (e : Env) (n : Nat) : opd e (.f n) = .fn n []:=Eq.trans rfl rfl
theorem Zzc (t : Nat) (v : AV) (e : Env) (s : Nat) : getE ((t,v) :: e) s = if s = t then v else getE e s:=Eq.trans rfl rfl
theorem ZBw (s : Nat) : getE [] s = .undef:=Eq.trans rfl rfl
theorem ZIL (F : CallF) (e : Env) (h : Heap) : evOps G F [] e h = some (e,h):=rfl
theorem st_q (F : CallF) (d : Option Nat) (o : IOp) (os : List IOper) (e : Env) (h : Heap) (hw : isW o = false) :
  evOps G F (⟨d,o,none⟩ :: os) e h = (evQ G F e h.mem h.b.length o).bind fun r => evOps G F os (putE d r.1 e) ⟨h.b ++ r.2.1,r.2.2 ++ h.f⟩:=by
 rw [Zmy]
 simp only [guardV,evOp,hw,Bool.false_eq_true,if_false]
 cases evQ G F e h.mem h.b.length o <;> rfl
theorem st_w (F : CallF) (d : Option Nat) (o : IOp) (os : List IOper) (e : Env) (h : Heap) (hw : isW o = true) :
  evOps G F (⟨d,o,none⟩ :: os) e h = kW G F (evW G F e h o) d os e:=by
 rw [Zmy]
 simp only [guardV,evOp,hw,if_true,kW]
theorem Zcr (F : CallF) (d : Option Nat) (o : IOp) (os : List IOper) (e : Env) (h : Heap) (hw : isW o = false) (x : Option AV)
  (hx : evQ G F e h.mem h.b.length o = x.map fun v => (v,[],[])) :
  evOps G F (⟨d,o,none⟩ :: os) e h = kV G F x d os e h:=by
 rw [st_q G F d o os e h hw,hx]
 cases x with
 | none => rfl
 | some v => simp only [Option.map_some,Option.bind_some,List.append_nil,List.nil_append,kV]
section
variable (F : CallF) (d : Option Nat) (os : List IOper) (e : Env) (h : Heap)
theorem ZIK (x : IOpd) : evOps G F (⟨d,.mov x,none⟩ :: os) e h = evOps G F os (putE d (opd e x) e) h:=by
 rw [Zcr G F d _ os e h rfl (some (opd e x)) rfl,Zzm]
def pickA : AV→AV→AV→Option AV
 | .bool t,a,b => some (if t then a else b)
 | _,_,_ => none
theorem ZGa (c a b : IOpd) : evOps G F (⟨d,.pick c a b,none⟩ :: os) e h = kV G F (pickA (opd e c) (opd e a) (opd e b)) d os e h:=by
 rw [Zcr G F d _ os e h rfl]
 simp only [evQ]
 cases opd e c <;> rfl
theorem ZIE (op : BinOp) (x y : IOpd) : evOps G F (⟨d,.bin op x y,none⟩ :: os) e h = kV G F (evBin op (opd e x) (opd e y)) d os e h :=
 Zcr G F d _ os e h rfl _ rfl
def eqbA (neg : Bool) : AV→AV→Option AV
 | .bool a,.bool b => some (.bool (if neg then a != b else a == b))
 | _,_ => none
theorem ZIH (neg : Bool) (x y : IOpd) : evOps G F (⟨d,.eqb neg x y,none⟩ :: os) e h = kV G F (eqbA neg (opd e x) (opd e y)) d os e h:=by
 rw [Zcr G F d _ os e h rfl]
 simp only [evQ]
 cases opd e x <;> cases opd e y <;> rfl
theorem ZKu (op : UnOp) (x : IOpd) : evOps G F (⟨d,.un op x,none⟩ :: os) e h = kV G F (evUn op (opd e x)) d os e h :=
 Zcr G F d _ os e h rfl _ rfl
def cvtA (k : IntKind) : AV→Option AV
 | .int _ n => some (.int k (k.wrap n))
 | _ => none
theorem ZIG (k : IntKind) (x : IOpd) : evOps G F (⟨d,.cvt k x,none⟩ :: os) e h = kV G F (cvtA k (opd e x)) d os e h:=by
 rw [Zcr G F d _ os e h rfl]
 simp only [evQ]
 cases opd e x <;> rfl
def extA (i : Nat) : AV→Option AV
 | .tup vs => vs[i]?
 | _ => none
theorem ZII (x : IOpd) (i : Nat) : evOps G F (⟨d,.ext x i,none⟩ :: os) e h = kV G F (extA i (opd e x)) d os e h:=by
 rw [Zcr G F d _ os e h rfl]
 simp only [evQ]
 cases opd e x <;> rfl
theorem ZFY (agg : Bool) (n : Nat) (a : IOpd) : evOps G F (⟨d,.load agg n a,none⟩ :: os) e h = kV G F ((rdAt G h.mem n (opd e a)).bind (one agg)) d os e h:=by
 rw [Zcr G F d _ os e h rfl]
 simp only [evQ]
 cases rdAt G h.mem n (opd e a) <;> rfl
def storeV (h : Heap) (n : Nat) : AV→AV→Option (AV × Heap)
 | .ptr b off,v => if (cellsA v).length = n∧(cellsA v).all okCell = true then (wrBlk h b off (cellsA v)).map fun h' => (.tup [],h') else none
 | _,_ => none
theorem ZCH (n : Nat) (a v : IOpd) : evOps G F (⟨d,.store n a v,none⟩ :: os) e h = kW G F (storeV h n (opd e a) (opd e v)) d os e:=by
 rw [st_w G F d _ os e h rfl]
 simp only [evW,kW]
 cases opd e a <;> rfl
theorem Zxh (zero : List AV) : evOps G F (⟨d,.alloc zero,none⟩ :: os) e h = evOps G F os (putE d (.ptr h.b.length 0) e) ⟨h.b ++ [⟨zero,false⟩],h.f⟩:=by
 rw [st_q G F d _ os e h rfl]; rfl
def boxOk (n : Nat) (v : AV) : Bool:=decide ((cellsA v).length = n) && (cellsA v).all okCell
theorem ZIF (n : Nat) (x : IOpd) : evOps G F (⟨d,.box n x,none⟩ :: os) e h =
  kB G F (boxOk n (opd e x)) (.ptr h.b.length 0) (cellsA (opd e x)) d os e h:=by
 rw [st_q G F d _ os e h rfl]
 simp only [evQ,boxOk,kB,Bool.and_eq_true,decide_eq_true_eq]
 split <;> rfl
theorem ZpR (zero : List AV) (ps : List (Nat × Nat × IOpd)) : evOps G F (⟨d,.build zero ps,none⟩ :: os) e h =
  kV G F ((fillA zero (ps.map fun (o,n,x) => (o,n,opd e x))).map .agg) d os e h:=by
 rw [Zcr G F d _ os e h rfl]
 simp only [evQ]
 cases fillA zero _ <;> rfl
def okAll (cs : List AV) : Bool:=cs.all okCell
theorem Zhb (n sz : Nat) (zero : List AV) (ps : List (Nat × Nat × IOpd)) : evOps G F (⟨d,.bslice n sz zero ps,none⟩ :: os) e h =
  kBs G F (fillA (repA n zero) (ps.map fun (o,n,x) => (o,n,opd e x))) (.own h.b.length 0 n sz) d os e h:=by
 rw [st_q G F d _ os e h rfl]
 simp only [evQ]
 cases fillA (repA n zero) _ with
 | none => rfl
 | some cs =>
  simp only [Option.bind_some,kBs,kB]
  cases hc : cs.all okCell <;> simp only [Bool.false_eq_true,if_true,if_false] <;> rfl
def faddrA (off : Nat) : AV→Option AV
 | .ptr b o => some (.ptr b (o + off))
 | .iptr cs o => some (.iptr cs (o + off))
 | _ => none
theorem ZCB (off : Nat) (x : IOpd) : evOps G F (⟨d,.faddr off x,none⟩ :: os) e h = kV G F (faddrA off (opd e x)) d os e h:=by
 rw [Zcr G F d _ os e h rfl]
 simp only [evQ]
 cases opd e x <;> rfl
def fieldA (agg : Bool) (off n : Nat) : AV→Option AV
 | .agg cs => if off + n≤cs.length then one agg ((cs.drop off).take n) else none
 | _ => none
theorem ZCC (agg : Bool) (off n : Nat) (x : IOpd) : evOps G F (⟨d,.field agg off n x,none⟩ :: os) e h = kV G F (fieldA agg off n (opd e x)) d os e h:=by
 rw [Zcr G F d _ os e h rfl]
 simp only [evQ]
 cases opd e x <;> simp only [fieldA,Option.map_none]
 split <;> rfl
def iaddrV (sz : Nat) : AV→AV→Option AV
 | .imm n cs,.int _ j => if 0≤j∧j < (n : Int)∧0 < sz∧cs.length = n * sz then some (.iptr cs (j.toNat * sz)) else none
 | .own b off n s,.int _ j => if 0≤j∧j < (n : Int)∧s = sz then some (.ptr b (off + j.toNat * sz)) else none
 | _,_ => none
theorem ZCE (sz : Nat) (x i : IOpd) : evOps G F (⟨d,.iaddr sz x i,none⟩ :: os) e h = kV G F (iaddrV sz (opd e x) (opd e i)) d os e h:=by
 rw [Zcr G F d _ os e h rfl]
 simp only [evQ]
 cases opd e i <;> cases opd e x <;> simp only [iaddrV,Option.map_none]
 all_goals split <;> rfl
def iaddrAV (len sz : Nat) : AV→AV→Option AV
 | .ptr b off,.int _ j => if 0≤j∧j < (len : Int) then some (.ptr b (off + j.toNat * sz)) else none
 | .iptr cs off,.int _ j => if 0≤j∧j < (len : Int) then some (.iptr cs (off + j.toNat * sz)) else none
 | .gptr g off,.int _ j => if 0≤j∧j < (len : Int) then some (.gptr g (off + j.toNat * sz)) else none
 | _,_ => none
theorem ZAk (len sz : Nat) (x i : IOpd) : evOps G F (⟨d,.iaddrA len sz x i,none⟩ :: os) e h = kV G F (iaddrAV len sz (opd e x) (opd e i)) d os e h:=by
 rw [Zcr G F d _ os e h rfl]
 simp only [evQ]
 cases opd e i <;> cases opd e x <;> simp only [iaddrAV,Option.map_none] <;> split <;> rfl
def indexV (agg : Bool) (len sz : Nat) : AV→AV→Option AV
 | .agg cs,.int _ j => if 0≤j∧j < (len : Int)∧j.toNat * sz + sz≤cs.length then one agg ((cs.drop (j.toNat * sz)).take sz) else none
 | _,_ => none
theorem ZCF (agg : Bool) (len sz : Nat) (x i : IOpd) : evOps G F (⟨d,.index agg len sz x i,none⟩ :: os) e h = kV G F (indexV agg len sz (opd e x) (opd e i)) d os e h:=by
 rw [Zcr G F d _ os e h rfl]
 simp only [evQ]
 cases opd e i <;> cases opd e x <;> simp only [indexV,Option.map_none]
 split <;> rfl
def strixA (bs : List Nat) : AV→Option AV
 | .int _ j => if 0≤j then (bs[j.toNat]?).map fun (b : Nat) => .int .u8 (b : Int) else none
 | _ => none
theorem ZCI (bs : List Nat) (i : IOpd) : evOps G F (⟨d,.strix bs i,none⟩ :: os) e h = kV G F (strixA bs (opd e i)) d os e h:=by
 rw [Zcr G F d _ os e h rfl]
 simp only [evQ]
 cases opd e i <;> simp only [strixA,Option.map_none]
 split
 ·rw [Option.map_map]; rfl
 ·rfl
theorem ZCG (sz : Nat) (x : IOpd) (lo hi : Option IOpd) : evOps G F (⟨d,.slice sz x lo hi,none⟩ :: os) e h =
  kV G F (evSlice h.mem sz (opd e x) (lo.map (opd e)) (hi.map (opd e))) d os e h :=
 Zcr G F d _ os e h rfl _ rfl
def kM (sz bytes : Nat) (zero : List AV) (l c : AV) (d : Option Nat) (os : List IOper) (e : Env) (h : Heap) : Option (Env × Heap) :=
 match l,c with
 | .int .i64 n,.int .i64 m => if 0≤n∧n≤m∧m * (bytes + 1)≤boundBytes then evOps G F os (putE d (.own h.b.length 0 n.toNat sz) e) ⟨h.b ++ [⟨repA m.toNat zero,false⟩],h.f⟩ else none
 | _,_ => none
theorem Zzl (sz bytes : Nat) (zero : List AV) (n m : Int) (hc : 0≤n∧n≤m∧m * (bytes + 1)≤70368744177664) :
  kM G F sz bytes zero (.int .i64 n) (.int .i64 m) d os e h = evOps G F os (putE d (.own h.b.length 0 n.toNat sz) e) ⟨h.b ++ [⟨repA m.toNat zero,false⟩],h.f⟩:=by
 simp only [kM]
 exact if_pos hc
theorem ZKs (sz bytes : Nat) (zero : List AV) (l c : IOpd) : evOps G F (⟨d,.mk sz bytes zero l c,none⟩ :: os) e h =
  kM G F sz bytes zero (opd e l) (opd e c) d os e h:=by
 rw [st_q G F d _ os e h rfl]
 simp only [evQ,kM]
 cases opd e l with
 | int k n =>
  cases k <;> try rfl
  cases opd e c with
  | int k m => cases k <;> (try rfl); simp only; split <;> rfl
  | _ => rfl
 | _ => rfl
theorem ZIJ (x : IOpd) : evOps G F (⟨d,.len x,none⟩ :: os) e h = kN G F (lenA (opd e x)) d os e h:=by
 rw [Zcr G F d _ os e h rfl ((lenA (opd e x)).map fun (n : Nat) => .int .i64 (n : Int))]
 ·cases lenA (opd e x) <;> rfl
 ·simp only [evQ]; cases lenA (opd e x) <;> rfl
theorem ZKt (mx : Bool) (x : IOpd) (xs : List IOpd) : evOps G F (⟨d,.mm mx x xs,none⟩ :: os) e h = kV G F (evMm mx (opd e x) (xs.map (opd e))) d os e h :=
 Zcr G F d _ os e h rfl _ rfl
def kB1 (z v : AV) : Option (Env × Heap):=kBs G F (fillA (repA 1 [z]) [(0,1,v)]) (.own h.b.length 0 1 1) d os e h
theorem ZEI (z : AV) (k : IntKind) (w : Int) : kB1 G F d os e h z (.int k w) = evOps G F os (putE d (.own h.b.length 0 1 1) e) ⟨h.b ++ [⟨[.int k w],false⟩],h.f⟩:=rfl
theorem ZxU (z : AV) (x : IOpd) : evOps G F (⟨d,.bslice 1 1 [z] [(0,1,x)],none⟩ :: os) e h = kB1 G F d os e h z (opd e x):=by
 rw [Zhb]; rfl
theorem Zsd (n sz : Nat) (zero : List AV) (p q : Nat × Nat × IOpd) (ps : List (Nat × Nat × IOpd)) : evOps G F (⟨d,.bslice n sz zero (p :: q :: ps),none⟩ :: os) e h =
  kBs G F (fillA (repA n zero) ((p :: q :: ps).map fun (o,n,x) => (o,n,opd e x))) (.own h.b.length 0 n sz) d os e h:=Zhb G F d os e h n sz zero _
theorem ZtH (b o : Nat) : cellV (.ptr b o) = .ptr b o:=rfl
theorem ZFZ (f : Nat) (cap : List IOpd) : evOps G F (⟨d,.mkfn f cap,none⟩ :: os) e h = evOps G F os (putE d (.fn f ((cap.map (opd e)).map cellV)) e) h:=by
 rw [Zcr G F d _ os e h rfl (some _) rfl]; rfl
def appV (h : Heap) (sz bytes : Nat) (x y : AV) : Option (AV × Heap):=match sliceCells h.mem sz y with
 | some (m,new) => match x with
  | .nil => if m = 0 then some (.nil,h) else if m * bytes≤boundApp then some (.own h.b.length 0 m sz,⟨h.b ++ [⟨new,false⟩],h.f⟩) else none
  | .own b off n s => match h.b[b]? with
   | some k => if s = sz∧k.dead = false∧h.f.contains b = false∧off + n * sz≤k.cs.length∧(n + m) * bytes≤boundApp then
     some (.own h.b.length 0 (n + m) sz,⟨h.b.set b { k with dead:=true } ++ [⟨(k.cs.drop off).take (n * sz) ++ new,false⟩],h.f⟩) else none
   | none => none
  | _ => none
 | none => none
theorem ZID (sz bytes : Nat) (x y : IOpd) : evOps G F (⟨d,.app sz bytes x y,none⟩ :: os) e h = kW G F (appV h sz bytes (opd e x) (opd e y)) d os e :=
 st_w G F d _ os e h rfl
theorem ZFX (f : IOpd) (args : List IOpd) : evOps G F (⟨d,.call false f args,none⟩ :: os) e h = kC G F (evCall F h.mem (opd e f) (args.map (opd e))) d os e h:=by
 rw [st_q G F d _ os e h rfl]; rfl
theorem Ztk (f : IOpd) (args : List IOpd) : evOps G F (⟨d,.call true f args,none⟩ :: os) e h = kW G F (evW G F e h (.call true f args)) d os e :=
 st_w G F d _ os e h rfl
theorem ZCD (o : IOp) (t : Nat) (w : Bool) : evOps G F (⟨d,o,some (t,w)⟩ :: os) e h =
  kG G F (getE e t) w d o os e h:=by
 simp only [Zmy,kG,guardV]
 cases hb : getE e t <;> try rfl
 case bool b => cases b <;> cases w <;> rfl
 case tup vs => cases vs <;> rfl
end
theorem ZGJ (e : Env) (h : Mem) (f : Nat) (args : List AV) : evCall (CF G T) h (.fn f []) args =
  (snaps h args).bind fun as => (run G T f as).bind fun r => some (r,[],if refA r then reachL (reachG h 3) args else []):=by
 rw [ZxG,List.append_nil]
def frz (h : Mem) (r : AV) (args : List AV) : List Nat:=if refA r then reachL (reachG h 3) args else []
noncomputable def kCall (h : Mem) (f : Nat) (o : Option (List AV)) (args : List AV) : Option (AV × List Blk × List Nat) :=
 o.bind fun as => (run G T f as).bind fun r => some (r,[],frz h r args)
def kCall2 (h : Mem) (o : Option AV) (args : List AV) : Option (AV × List Blk × List Nat):=o.bind fun r => some (r,[],frz h r args)
theorem ZDA (h : Mem) (f : Nat) (args : List AV) : evCall (CF G T) h (.fn f []) args = kCall G T h f (snaps h args) args:=ZGJ G T [] h f args
theorem ZxL (h : Mem) (f : Nat) (as args : List AV) : kCall G T h f (some as) args = kCall2 h (run G T f as) args:=rfl
theorem Zvn (h : Mem) (r : AV) (args : List AV) : kCall2 h (some r) args = some (r,[],frz h r args):=rfl
def kJ (res : List IRes) (o : Option (Ex × Env × Heap)) : Option (AV × Heap):=o.bind fun r => match r with
 | (.exit _,_,_) => none
 | (_,e,h) => (resL G e h res).bind fun vs => some (pack vs,h)
theorem ZDp (res : List IRes) (e : Env) (h : Heap) : kJ G res (some (.ret,e,h)) = (resL G e h res).bind fun vs => some (pack vs,h):=rfl
theorem Zjn {k : Nat} {fn : IFn} (hf : T k = some fn) (d : Option Nat) (args : List IOpd) (os : List IOper) (e : Env) (h : Heap) :
  evOps G (CF G T) (⟨d,.call true (.f k) args,none⟩ :: os) e h = kW G (CF G T) (kJ G fn.res (evL G T fn.body (numE 0 (args.map (opd e))) h)) d os e:=by
 rw [Ztk]
 simp only [evW,opd,List.append_nil,Zye,hf,Option.bind_some]
 refine congrArg (fun o => kW G (CF G T) o d os e) ?_
 cases evL G T fn.body (numE 0 (args.map (opd e))) h with
 | none => rfl
 | some r =>
  obtain ⟨x,e,h⟩:=r
  simp only [Option.bind_some,kJ]
  cases x <;> simp only [callEnd,if_true]
theorem Zac {n : Int} (h : -9223372036854775808≤n∧n < 9223372036854775808) : IntKind.i64.wrap n = n:=by
 simp only [IntKind.wrap,IntKind.bits,IntKind.signed,Bool.true_and,decide_eq_true_eq,Int.reducePow,Nat.reduceSub]
 split <;> rename_i hh <;> (try have hh:=of_decide_eq_true hh) <;> (try have hh:=of_decide_eq_false (Bool.eq_false_iff.2 hh)) <;> omega
theorem Zjq {n : Int} : IntKind.u64.wrap n = n % 18446744073709551616:=Eq.trans rfl rfl
theorem ZpV {n : Int} : IntKind.u32.wrap n = n % 4294967296:=Eq.trans rfl rfl
theorem Zhj {n : Int} : IntKind.u8.wrap n = n % 256:=Eq.trans rfl rfl
theorem Zll (n : Nat) : ((n : Int) - 1).toNat = n - 1:=by omega
theorem Zlk (n : Nat) : ((n : Int) + 1).toNat = n + 1:=by omega
def cells (l : List Nat) : List AV:=l.map fun (d : Nat) => .int .u32 (d : Int)
theorem Zbp (l : List Nat) : (cells l).length = l.length:=by simp only [cells,List.length_map]
theorem Zwf (l : List Nat) : okAll (cells l) = true:=by
 simp only [okAll,cells,List.all_map,List.all_eq_true,Function.comp]; intro _ _; rfl
theorem ZtI (a b : List Nat) : cells a ++ cells b = cells (a ++ b):=by simp only [cells,List.map_append]
theorem ZxD (a : List Nat) (n : Nat) : (cells a).drop n = cells (a.drop n):=by simp only [cells,List.map_drop]
theorem ZhM (a : List Nat) (n : Nat) : (cells a).take n = cells (a.take n):=by simp only [cells,List.map_take]
def D (z : Bool) : List Nat→AV
 | [] => if z then .nil else .imm 0 []
 | l => .imm l.length (cells l)
theorem Zyf (z : Bool) (a : Nat) (l : List Nat) : D z (a :: l) = .imm (l.length + 1) (cells (a :: l)):=rfl
theorem Ztx : AV.nil = D true []:=rfl
theorem Zva (l : List Nat) : D false l = .imm l.length (cells l):=by cases l <;> rfl
theorem ZHx (z : Bool) (l : List Nat) : lenA (D z l) = some l.length:=by
 cases l <;> cases z <;> rfl
def dg (l : List Nat) (i : Nat) : Nat:=l.getD i 0
theorem Zxk {α : Type} (l : List α) (i : Nat) (h : i < l.length) : (l.drop i).take 1 = [l[i]]:=by
 rw [List.drop_eq_getElem_cons h]; rfl
theorem Zhg {l : List Nat} {i : Nat} (h : i < l.length) : dg l i = l[i]:=by
 simp only [dg,List.getD_eq_getElem?_getD,List.getElem?_eq_getElem h,Option.getD_some]
theorem ZkW {l : List Nat} {i : Nat} (h : l.length≤i) : dg l i = 0:=by
 simp only [dg,List.getD_eq_getElem?_getD,List.getElem?_eq_none h,Option.getD_none]
theorem Zqe (l : List Nat) (i : Nat) (h : i < l.length) : ((cells l).drop i).take 1 = [.int .u32 (dg l i)]:=by
 rw [Zxk _ _ (by rw [Zbp]; exact h),Zhg h]; simp only [cells,List.getElem_map]
theorem Zzf {z : Bool} {l : List Nat} {k : IntKind} {j : Int} (h : 0≤j∧j.toNat < l.length) : iaddrV 1 (D z l) (.int k j) = some (.iptr (cells l) j.toNat):=by
 cases l with
 | nil => exact absurd h.2 (Nat.not_lt_zero _)
 | cons a l =>
  rw [Zyf,iaddrV,if_pos,Nat.mul_one]
  rw [Zbp,Nat.mul_one]
  simp only [List.length_cons] at h ⊢
  obtain ⟨h1,h2⟩:=h
  exact ⟨h1,by omega,by omega,trivial⟩
theorem ZzL (h : Mem) {l : List Nat} {i : Nat} (hi : i < l.length) : rdAt G h 1 (.iptr (cells l) i) = some [.int .u32 (dg l i)]:=by
 rw [rdAt,if_pos (by rw [Zbp]; omega),Zqe l i hi]
theorem ZId {h : Mem} {l : List Nat} {b i : Nat} (hb : h b = some ⟨cells l,false⟩) (hi : i < l.length) : rdAt G h 1 (.ptr b i) = some [.int .u32 (dg l i)]:=by
 rw [rdAt,rdBlk,hb]
 simp only [Bool.false_eq_true,if_false]
 rw [if_pos (by rw [Zbp]; omega),Zqe l i hi]
theorem ZKa (v : AV) : one false [v] = some v:=rfl
theorem ZKb (cs : List AV) : one true cs = some (.agg cs):=rfl
theorem ZBR : lenA .nil = some 0:=rfl
theorem ZBQ (n : Nat) (cs : List AV) : lenA (.imm n cs) = some n:=rfl
theorem Zje (b off n sz : Nat) : lenA (.own b off n sz) = some n:=rfl
section
variable (k : IntKind) (x y : Int)
theorem ZDP : evBin .add (.int k x) (.int k y) = some (.int k (k.wrap (x + y))):=by simp only [evBin,isSh,arI,Bool.false_eq_true,if_true,if_false]
theorem ZDZ : evBin .sub (.int k x) (.int k y) = some (.int k (k.wrap (x - y))):=by simp only [evBin,isSh,arI,Bool.false_eq_true,if_true,if_false]
noncomputable def mulW : Int→Int→Int:=Classical.choose (⟨fun x y => (x * y) % 4294967296,fun _ _ => rfl⟩ : ∃ f : Int→Int→Int,∀ x y,f x y = (x * y) % 4294967296)
theorem Zvp (x y : Int) : mulW x y = (x * y) % 4294967296:=Classical.choose_spec (⟨fun x y => (x * y) % 4294967296,fun _ _ => rfl⟩ : ∃ f : Int→Int→Int,∀ x y,f x y = (x * y) % 4294967296) x y
theorem ZAS : evBin .mul (.int .u64 x) (.int .u64 y) = some (.int .u64 (IntKind.u64.wrap (x * y))):=by simp only [evBin,isSh,arI,Bool.false_eq_true,if_true,if_false]
theorem ZAR : evBin .mul (.int .i64 x) (.int .i64 y) = some (.int .i64 (IntKind.i64.wrap (x * y))):=by simp only [evBin,isSh,arI,Bool.false_eq_true,if_true,if_false]
theorem ZAT : evBin .mul (.int .u32 x) (.int .u32 y) = some (.int .u32 (mulW x y)):=by
 rw [Zvp,show (x * y) % 4294967296 = IntKind.u32.wrap (x * y) from rfl]
 simp only [evBin,isSh,arI,Bool.false_eq_true,if_true,if_false]
theorem ZDX (h : y≠0) : evBin .quo (.int k x) (.int k y) = some (.int k (k.wrap (x.tdiv y))):=by simp only [evBin,isSh,arI,Bool.false_eq_true,if_true,if_false,h]
theorem ZDY (h : y≠0) : evBin .rem (.int k x) (.int k y) = some (.int k (x.tmod y)):=by simp only [evBin,isSh,arI,Bool.false_eq_true,if_true,if_false,h]
def andI0 (k : IntKind) (x y : Int) : Int:=k.wrap (BitVec.ofInt k.bits x &&& BitVec.ofInt k.bits y).toNat
noncomputable def andI : IntKind→Int→Int→Int:=Classical.choose (⟨andI0,fun _ _ _ => rfl⟩ : ∃ f : IntKind→Int→Int→Int,∀ k x y,f k x y = andI0 k x y)
theorem Zsk (k : IntKind) (x y : Int) : andI k x y = andI0 k x y:=Classical.choose_spec (⟨andI0,fun _ _ _ => rfl⟩ : ∃ f : IntKind→Int→Int→Int,∀ k x y,f k x y = andI0 k x y) k x y
def orI0 (k : IntKind) (x y : Int) : Int:=k.wrap (BitVec.ofInt k.bits x ||| BitVec.ofInt k.bits y).toNat
noncomputable def orI : IntKind→Int→Int→Int:=Classical.choose (⟨orI0,fun _ _ _ => rfl⟩ : ∃ f : IntKind→Int→Int→Int,∀ k x y,f k x y = orI0 k x y)
theorem ZqO (k : IntKind) (x y : Int) : orI k x y = orI0 k x y:=Classical.choose_spec (⟨orI0,fun _ _ _ => rfl⟩ : ∃ f : IntKind→Int→Int→Int,∀ k x y,f k x y = orI0 k x y) k x y
def xorI0 (k : IntKind) (x y : Int) : Int:=k.wrap (BitVec.ofInt k.bits x ^^^ BitVec.ofInt k.bits y).toNat
noncomputable def xorI : IntKind→Int→Int→Int:=Classical.choose (⟨xorI0,fun _ _ _ => rfl⟩ : ∃ f : IntKind→Int→Int→Int,∀ k x y,f k x y = xorI0 k x y)
theorem Ztu (k : IntKind) (x y : Int) : xorI k x y = xorI0 k x y:=Classical.choose_spec (⟨xorI0,fun _ _ _ => rfl⟩ : ∃ f : IntKind→Int→Int→Int,∀ k x y,f k x y = xorI0 k x y) k x y
def andNotI0 (k : IntKind) (x y : Int) : Int:=k.wrap (BitVec.ofInt k.bits x &&& ~~~BitVec.ofInt k.bits y).toNat
noncomputable def andNotI : IntKind→Int→Int→Int:=Classical.choose (⟨andNotI0,fun _ _ _ => rfl⟩ : ∃ f : IntKind→Int→Int→Int,∀ k x y,f k x y = andNotI0 k x y)
theorem ZrL (k : IntKind) (x y : Int) : andNotI k x y = andNotI0 k x y:=Classical.choose_spec (⟨andNotI0,fun _ _ _ => rfl⟩ : ∃ f : IntKind→Int→Int→Int,∀ k x y,f k x y = andNotI0 k x y) k x y
theorem ZDQ : evBin .and (.int k x) (.int k y) = some (.int k (andI k x y)):=by rw [Zsk]; simp only [evBin,isSh,arI,andI0,Bool.false_eq_true,if_true,if_false]
theorem ZGA : evBin .or (.int k x) (.int k y) = some (.int k (orI k x y)):=by rw [ZqO]; simp only [evBin,isSh,arI,orI0,Bool.false_eq_true,if_true,if_false]
theorem ZEa : evBin .xor (.int k x) (.int k y) = some (.int k (xorI k x y)):=by rw [Ztu]; simp only [evBin,isSh,arI,xorI0,Bool.false_eq_true,if_true,if_false]
theorem Zxx : evBin .andNot (.int k x) (.int k y) = some (.int k (andNotI k x y)):=by rw [ZrL]; simp only [evBin,isSh,arI,andNotI0,Bool.false_eq_true,if_true,if_false]
theorem ZDR : evBin .eql (.int k x) (.int k y) = some (.bool (decide (x = y))):=by simp only [evBin,isSh,arI,Bool.false_eq_true,if_true,if_false]; rfl
theorem ZDW : evBin .neq (.int k x) (.int k y) = some (.bool (decide (x≠y))):=by simp only [evBin,isSh,arI,Bool.false_eq_true,if_true,if_false,bne,decide_not]; rfl
theorem ZDV : evBin .lss (.int k x) (.int k y) = some (.bool (decide (x < y))):=by simp only [evBin,isSh,arI,Bool.false_eq_true,if_true,if_false]
theorem ZDU : evBin .leq (.int k x) (.int k y) = some (.bool (decide (x≤y))):=by simp only [evBin,isSh,arI,Bool.false_eq_true,if_true,if_false]
theorem ZDT : evBin .gtr (.int k x) (.int k y) = some (.bool (decide (y < x))):=by simp only [evBin,isSh,arI,Bool.false_eq_true,if_true,if_false]
theorem ZDS : evBin .geq (.int k x) (.int k y) = some (.bool (decide (y≤x))):=by simp only [evBin,isSh,arI,Bool.false_eq_true,if_true,if_false]
theorem Zyo (k' : IntKind) (h : 0≤y) : evBin .shl (.int k x) (.int k' y) = some (.int k (k.wrap (x * 2 ^ (min y.toNat k.bits)))):=by
 simp only [evBin,isSh,shI,if_true]; rw [if_neg (Int.not_lt.2 h)]
theorem Zyp (k' : IntKind) (h : 0≤y) : evBin .shr (.int k x) (.int k' y) = some (.int k (x / (2 ^ (min y.toNat k.bits)))):=by
 simp only [evBin,isSh,shI,if_true]; rw [if_neg (Int.not_lt.2 h),Int.fdiv_eq_ediv_of_nonneg]
 exact Int.le_of_lt (Int.pow_pos (by decide))
theorem ZHE : min 32 64 = 32:=rfl
theorem ZEX : min 16 32 = 16:=rfl
theorem ZHI : min 8 32 = 8:=rfl
theorem ZHH : min 1 32 = 1:=rfl
theorem ZHz : min 16 64 = 16:=rfl
theorem ZJV : min 8 64 = 8:=rfl
theorem ZJU : min 1 64 = 1:=rfl
theorem ZHC : min 27 32 = 27:=rfl
theorem ZHD : min 31 32 = 31:=rfl
theorem ZAX : IntKind.u64.bits = 64:=rfl
theorem ZAW : IntKind.u32.bits = 32:=rfl
theorem ZAV : IntKind.i64.bits = 64:=rfl
theorem ZEd : IntKind.u8.bits = 8:=rfl
theorem ZIS : evUn .neg (.int k x) = some (.int k (k.wrap (0 - x))):=Eq.trans rfl rfl
theorem ZIT (b : Bool) : evUn .not (.bool b) = some (.bool (!b)):=Eq.trans rfl rfl
theorem ZHT (a b : AV) : pickA (.bool true) a b = some a:=rfl
theorem ZHS (a b : AV) : pickA (.bool false) a b = some b:=rfl
theorem ZFp (b : Bool) : pickA (.bool b) (.bool true) (.bool false) = some (.bool b):=by cases b <;> rfl
theorem ZEq (k' : IntKind) : cvtA k (.int k' x) = some (.int k (k.wrap x)):=Eq.trans rfl rfl
theorem ZJv (a : AV) (l : List AV) : extA 0 (.tup (a :: l)) = some a:=rfl
theorem ZJw (a b : AV) (l : List AV) : extA 1 (.tup (a :: b :: l)) = some b:=rfl
theorem ZJx (a b c : AV) (l : List AV) : extA 2 (.tup (a :: b :: c :: l)) = some c:=rfl
end
theorem ZAh (h : Mem) (v : AV) : snap h v = snapA (snapG h 3) v:=rfl
section
variable (g : Nat→Nat→Nat→Nat→Option AV)
theorem Zrl (k : IntKind) (n : Int) : snapA g (.int k n) = some (.int k n):=by simp only [snapA]
theorem ZvJ (b : Bool) : snapA g (.bool b) = some (.bool b):=by simp only [snapA]
theorem Zxf : snapA g .nil = some .nil:=by simp only [snapA]
theorem ZAg (n : Nat) (cs : List AV) : snapA g (.imm n cs) = some (.imm n cs):=by simp only [snapA]
theorem sn_D (z : Bool) (l : List Nat) : snapA g (D z l) = some (D z l):=by
 cases l <;> cases z <;> first | exact Zxf g | exact ZAg g _ _
theorem ZuK (b off n sz : Nat) : snapA g (.own b off n sz) = g b off n sz:=by simp only [snapA]
theorem ZDD (cs : List AV) : snapA g (.tup cs) = (snapL g cs).map .tup:=by
 have h : ∀ l,snapA.go g l = snapL g l:=by
  intro l; induction l with
  | nil => rfl
  | cons a l ih => rw [snapA.go,snapL,ih]
 rw [snapA,h]
theorem ZAf (cs : List AV) : snapA g (.agg cs) = (snapL g cs).map .agg:=by
 have h : ∀ l,snapA.go g l = snapL g l:=by
  intro l; induction l with
  | nil => rfl
  | cons a l ih => rw [snapA.go,snapL,ih]
 rw [snapA,h]
def consO (a : Option AV) (b : Option (List AV)) : Option (List AV):=a.bind fun x => b.map fun y => x :: y
theorem Zga (a : AV) (b : List AV) : consO (some a) (some b) = some (a :: b):=rfl
theorem Zxe : snapL g [] = some []:=rfl
theorem Znx (v : AV) (vs : List AV) : snapL g (v :: vs) = consO (snapA g v) (snapL g vs):=by
 simp only [snapL,consO]; cases snapA g v <;> cases snapL g vs <;> rfl
theorem Zxd (l : List Nat) : snapL g (cells l) = some (cells l):=by
 induction l with
 | nil => rfl
 | cons a l ih => simp only [cells,List.map_cons] at ih ⊢; rw [Znx,Zrl,ih,Zga]
end
theorem ZCy (h : Mem) (vs : List AV) : snaps h vs = snapL (snapG h 3) vs:=rfl
theorem Zov {h : Mem} {b off n d : Nat} {l : List Nat} (hr : rdBlk h b off (n * 1) = some (cells l)) (hn : n = l.length) : snapG h (d + 1) b off n 1 = some (D false l):=by
 simp only [snapG]; rw [hr]; simp only; rw [Zxd,hn,Zva]; rfl
def resK (o : Option AV) (rs : Option (List AV)) : Option (List AV):=o.bind fun x => rs.map fun y => x :: y
theorem ZzO (a : AV) (b : List AV) : resK (some a) (some b) = some (a :: b):=rfl
theorem ZFz (e : Env) (h : Heap) : resL G e h [] = some []:=rfl
theorem ZCj (e : Env) (h : Heap) (r : IRes) (rs : List IRes) : resL G e h (r :: rs) = resK (resOf G e h r) (resL G e h rs):=by
 simp only [resL,resK]; cases resOf G e h r <;> cases resL G e h rs <;> rfl
theorem ZFA (e : Env) (h : Heap) (t : Nat) : resOf G e h (.tmp t) = some (getE e t):=rfl
theorem ZCc (v : AV) : pack [v] = v:=rfl
theorem ZCd (v w : AV) (l : List AV) : pack (v :: w :: l) = .tup (v :: w :: l):=rfl
def Post {α : Type} (o : Option α) (P : α→Prop) : Prop:=∃ x,o = some x∧P x
theorem Post.some {α : Type} {x : α} {P : α→Prop} (h : P x) : Post (some x) P:=⟨x,rfl,h⟩
theorem exP {α β : Type} {o : Option α} {f : β→α} (h : Post o fun r => ∃ z,r = f z) : ∃ z,o = Option.some (f z):=by
 obtain ⟨x,e,z,rfl⟩:=h; exact ⟨z,e⟩
end Go.Cv
namespace Go.Cv
theorem cast0 : ((0 : Nat) : Int) = 0:=rfl
def val : List Nat→Nat
 | [] => 0
 | d :: l => d + 4294967296 * val l
def Dg (l : List Nat) : Prop:=∀ d ∈ l,d < 4294967296
def dl (n : Nat) : List Nat:=if h : n = 0 then [] else (n % 4294967296) :: dl (n / 4294967296)
 termination_by n
 decreasing_by omega
theorem Dg.nil : Dg []:=fun _ h => absurd h (List.not_mem_nil)
theorem ZfO {d : Nat} {l : List Nat} : Dg (d :: l)↔d < 4294967296∧Dg l:=by
 constructor
 ·intro h; exact ⟨h d (List.mem_cons_self ..),fun x hx => h x (List.mem_cons_of_mem _ hx)⟩
 ·rintro ⟨h,k⟩ x hx
  rcases List.mem_cons.1 hx with rfl | hx
  ·exact h
  ·exact k x hx
theorem ZCX {a b : List Nat} : Dg (a ++ b)↔Dg a∧Dg b:=by
 induction a with
 | nil => simp only [List.nil_append,Dg.nil,true_and]
 | cons x a ih => simp only [List.cons_append,ZfO,ih,and_assoc]
theorem Dg.dg {l : List Nat} (h : Dg l) (i : Nat) : dg l i < 4294967296:=by
 by_cases hi : i < l.length
 ·rw [Zhg hi]; exact h _ (List.getElem_mem ..)
 ·rw [ZkW (Nat.le_of_not_lt hi)]; omega
theorem Dg.drop {l : List Nat} (h : Dg l) (n : Nat) : Dg (l.drop n):=fun x hx => h x (List.mem_of_mem_drop hx)
theorem Dg.take {l : List Nat} (h : Dg l) (n : Nat) : Dg (l.take n):=fun x hx => h x (List.mem_of_mem_take hx)
theorem ZjF (n : Nat) : Dg (List.replicate n 0):=fun x hx => by rw [(List.mem_replicate.1 hx).2]; omega
theorem Ztp : val [] = 0:=rfl
theorem ZaD (d : Nat) (l : List Nat) : val (d :: l) = d + 4294967296 * val l:=rfl
theorem Zrq (a b : List Nat) : val (a ++ b) = val a + 4294967296 ^ a.length * val b:=by
 induction a with
 | nil => simp only [List.nil_append,Ztp,List.length_nil,Nat.pow_zero,Nat.one_mul,Nat.zero_add]
 | cons x a ih =>
  simp only [List.cons_append,ZaD,ih,List.length_cons,Nat.pow_succ]
  rw [Nat.mul_add,Nat.mul_comm (4294967296 ^ a.length) 4294967296,Nat.mul_assoc]; omega
theorem ZfN {l : List Nat} (h : Dg l) : val l < 4294967296 ^ l.length:=by
 induction l with
 | nil => simp [val]
 | cons x a ih =>
  have ⟨h1,h2⟩:=ZfO.1 h
  have:=ih h2
  simp only [ZaD,List.length_cons,Nat.pow_succ]
  generalize 4294967296 ^ a.length = p at *
  omega
theorem Zai : dl 0 = []:=by rw [dl]; rfl
theorem ZnQ {n : Nat} (h : n≠0) : dl n = (n % 4294967296) :: dl (n / 4294967296):=by rw [dl,dif_neg h]
theorem ZaE (n : Nat) : val (dl n) = n:=by
 induction n using Nat.strongRecOn with
 | _ n ih =>
  by_cases h : n = 0
  ·subst h; rw [Zai]; rfl
  ·rw [ZnQ h,ZaD,ih (n / 4294967296) (by omega)]; omega
theorem Zao (n : Nat) : Dg (dl n):=by
 induction n using Nat.strongRecOn with
 | _ n ih =>
  by_cases h : n = 0
  ·subst h; rw [Zai]; exact Dg.nil
  ·rw [ZnQ h]; exact ZfO.2 ⟨by omega,ih (n / 4294967296) (by omega)⟩
theorem ZgR {n : Nat} : dl n = []↔n = 0:=by
 constructor
 ·intro h; rw [← ZaE n,h]; rfl
 ·rintro rfl; exact Zai
def Nm (l : List Nat) : Prop:=l = []∨dg l (l.length - 1)≠0
theorem Zvb {a : Nat} {l : List Nat} (h : l≠[]) : Nm (a :: l)↔Nm l:=by
 cases l with
 | nil => exact absurd rfl h
 | cons b l =>
  simp only [Nm,reduceCtorEq,false_or,List.length_cons,Nat.add_sub_cancel]
  rw [Zhg (by simp),Zhg (by simp)]; simp
theorem ZGm {l : List Nat} (h : Nm l) (hn : l≠[]) : 0 < val l:=by
 induction l with
 | nil => exact absurd rfl hn
 | cons a l ih =>
  rw [ZaD]
  by_cases hl : l = []
  ·subst hl
   rcases h with h | h
   ·cases h
   ·simp [dg] at h; omega
  ·have:=ih ((Zvb hl).1 h) hl; omega
theorem Zwl {l : List Nat} (hd : Dg l) (h : Nm l) : dl (val l) = l:=by
 induction l with
 | nil => exact Zai
 | cons a l ih =>
  have ⟨h1,h2⟩:=ZfO.1 hd
  have hp:=ZGm h (by simp)
  rw [ZnQ (by omega),ZaD]
  have e1 : (a + 4294967296 * val l) % 4294967296 = a:=by omega
  have e2 : (a + 4294967296 * val l) / 4294967296 = val l:=by omega
  rw [e1,e2]
  by_cases hl : l = []
  ·subst hl; rw [Ztp,Zai]
  ·rw [ih h2 ((Zvb hl).1 h)]
theorem ZDL (n : Nat) : Nm (dl n):=by
 induction n using Nat.strongRecOn with
 | _ n ih =>
  by_cases h : n = 0
  ·left; subst h; exact Zai
  ·rw [ZnQ h]
   by_cases h2 : n / 4294967296 = 0
   ·rw [h2,Zai]; right; simp [dg]; omega
   ·exact (Zvb fun e => h2 (ZgR.1 e)).2 (ih _ (by omega))
theorem Zeq (l : List Nat) (d : Nat) : val (l ++ [d]) = val l + 4294967296 ^ l.length * d:=by rw [Zrq]; simp [val]
theorem Zcl {n k : Nat} : (dl n).length≤k↔n < 4294967296 ^ k:=by
 constructor
 ·intro h
  have:=ZfN (Zao n)
  rw [ZaE] at this
  exact Nat.lt_of_lt_of_le this (Nat.pow_le_pow_right (by omega) h)
 ·intro h
  induction k generalizing n with
  | zero =>
       have : n = 0:=by simpa using h
       subst this; rw [Zai]; exact Nat.le_refl _
  | succ k ih =>
   by_cases h0 : n = 0
   ·subst h0; rw [Zai]; exact Nat.zero_le _
   ·rw [ZnQ h0,List.length_cons]
    refine Nat.succ_le_succ (ih ?_)
    rw [Nat.pow_succ] at h
    exact Nat.div_lt_of_lt_mul (by rw [Nat.mul_comm]; exact h)
theorem ZpT {l : List Nat} (h : Dg l) (k : Nat) : val (l.drop k) = val l / 4294967296 ^ k:=by
 induction k generalizing l with
 | zero => simp
 | succ k ih =>
  cases l with
  | nil => simp [val]
  | cons a l =>
   have ⟨h1,h2⟩:=ZfO.1 h
   have e : (a + 4294967296 * val l) / 4294967296 = val l:=by omega
   rw [List.drop_succ_cons,ih h2,ZaD,Nat.pow_succ,Nat.mul_comm (4294967296 ^ k),← Nat.div_div_eq_div_mul,e]
theorem Zpw {l : List Nat} (h : Dg l) (i : Nat) : dg l i = val l / 4294967296 ^ i % 4294967296:=by
 rw [← ZpT h]
 by_cases hi : i < l.length
 ·rw [List.drop_eq_getElem_cons hi,ZaD,Zhg hi]
  have:=h _ (List.getElem_mem hi)
  omega
 ·rw [ZkW (Nat.le_of_not_lt hi),List.drop_eq_nil_of_le (Nat.le_of_not_lt hi)]; rfl
theorem Zxp {l : List Nat} (h : Dg l) (k : Nat) : val (l.take k) = val l % 4294967296 ^ k:=by
 have e : val l = val (l.take k) + 4294967296 ^ (l.take k).length * val (l.drop k):=by rw [← Zrq,List.take_append_drop]
 by_cases hk : k≤l.length
 ·rw [List.length_take,Nat.min_eq_left hk] at e
  have:=ZfN (h.take k)
  rw [List.length_take,Nat.min_eq_left hk] at this
  rw [e,Nat.add_mul_mod_self_left,Nat.mod_eq_of_lt this]
 ·rw [List.take_of_length_le (by omega),Nat.mod_eq_of_lt]
  exact Nat.lt_of_lt_of_le (ZfN h) (Nat.pow_le_pow_right (by omega) (by omega))
theorem Zmf {l : List Nat} {i : Nat} (h : i < l.length) : l.take (i + 1) = l.take i ++ [dg l i]:=by
 rw [List.take_add_one,List.getElem?_eq_getElem h,Zhg h]; rfl
theorem ZfB {l : List Nat} {i : Nat} (h : i < l.length) : l.drop i = dg l i :: l.drop (i + 1):=by
 rw [List.drop_eq_getElem_cons h,Zhg h]
theorem ZoD {l : List Nat} {i : Nat} (h : i < l.length) : val (l.take (i + 1)) = val (l.take i) + 4294967296 ^ i * dg l i:=by
 rw [Zmf h,Zeq,List.length_take,Nat.min_eq_left (by omega)]
theorem Zad {l : List Nat} {i : Nat} : val (l.take (i + 1)) = val (l.take i) + 4294967296 ^ i * dg l i:=by
 by_cases h : i < l.length
 ·exact ZoD h
 ·rw [ZkW (by omega),Nat.mul_zero,List.take_of_length_le (by omega),List.take_of_length_le (by omega)]; rfl
theorem Zpy {l : List Nat} {i c x y d c' A A' : Nat} (hl : l.length = i) (he : val l + 4294967296 ^ i * c = A + A') (hd : d + 4294967296 * c' = c + x + y) :
  val (l ++ [d]) + 4294967296 ^ (i + 1) * c' = (A + 4294967296 ^ i * x) + (A' + 4294967296 ^ i * y):=by
 rw [Zeq,hl,Nat.pow_succ]
 generalize 4294967296 ^ i = p at *
 have : p * d + p * 4294967296 * c' = p * c + p * x + p * y:=by rw [Nat.mul_assoc,← Nat.mul_add,hd,Nat.mul_add,Nat.mul_add]
 omega
theorem Zcv {l : List Nat} {d : Nat} (h : Dg l) (hd : d < 4294967296) : Dg (l ++ [d]):=ZCX.2 ⟨h,ZfO.2 ⟨hd,Dg.nil⟩⟩
def zz (z : Bool) (l : List Nat) : Bool:=z && l.isEmpty
theorem ZAF (z : Bool) (a : Nat) (l : List Nat) : zz z (a :: l) = false:=by simp [zz]
theorem ZIv {h : Mem} {z : Bool} {l : List Nat} {k : IntKind} {j : Int} (hj : 0≤j∧j.toNat≤l.length) :
  evSlice h 1 (D z l) none (some (.int k j)) = some (D (zz z l) (l.take j.toNat)):=by
 cases l with
 | nil =>
  have e : j = 0:=by simp at hj; omega
  subst e
  cases z <;> rfl
 | cons a l =>
  simp only [Zyf,evSlice,lenA,capA,bound]
  simp only [List.length_cons] at hj
  rw [if_pos (by refine ⟨by decide,?_,?_⟩ <;> omega),if_pos (by rw [Zbp,Nat.mul_one]; rfl)]
  have e0 : (j - ((0 : Nat) : Int)) = j:=by omega
  rw [ZAF,Zva,show ((0 : Nat) : Int).toNat * 1 = 0 from rfl,List.drop_zero,e0,Nat.mul_one,ZhM]
  congr 1; congr 1
  rw [List.length_take,List.length_cons]; omega
theorem ZIw {h : Mem} {z : Bool} {l : List Nat} {k : IntKind} {j : Int} (hj : 0≤j∧j.toNat≤l.length) :
  evSlice h 1 (D z l) (some (.int k j)) none = some (D (zz z l) (l.drop j.toNat)):=by
 cases l with
 | nil =>
  have e : j = 0:=by simp at hj; omega
  subst e
  cases z <;> rfl
 | cons a l =>
  simp only [Zyf,evSlice,lenA,capA,bound]
  simp only [List.length_cons] at hj
  rw [if_pos (by refine ⟨hj.1,?_,?_⟩ <;> omega),if_pos (by rw [Zbp,Nat.mul_one]; rfl)]
  rw [ZAF,Zva,Nat.mul_one,Nat.mul_one,ZxD,ZhM]
  have e : ((l.length + 1 : Nat) - j : Int).toNat = ((a :: l).drop j.toNat).length:=by rw [List.length_drop,List.length_cons]; omega
  rw [e,List.take_length]
theorem ZDC {h : Mem} {b off n : Nat} {l : List Nat} {k : IntKind} {j : Int} (hb : h b = some ⟨cells l,false⟩) (hj : 0≤j∧j.toNat≤n) :
  evSlice h 1 (.own b off n 1) none (some (.int k j)) = some (.own b off j.toNat 1):=by
 simp only [evSlice,lenA,capA,bound,hb,Int.sub_zero,Bool.false_eq_true,if_false,Nat.succ_ne_zero]
 rw [if_pos (by refine ⟨by decide,?_,?_⟩ <;> omega),if_pos ⟨trivial,Or.inl rfl⟩]
 have e0 : (j - ((0 : Nat) : Int)) = j:=by omega
 rw [e0]; rfl
theorem ZyG {l : List Nat} (hd : Dg l) (k : Nat) (hk : k≤l.length) (hz : k = 0∨dg l (k - 1)≠0) (hr : val (l.drop k) = 0) : l.take k = dl (val l):=by
 have e : val l = val (l.take k) + 4294967296 ^ (l.take k).length * val (l.drop k):=by rw [← Zrq,List.take_append_drop]
 rw [hr,Nat.mul_zero,Nat.add_zero] at e
 rw [e,Zwl (hd.take k)]
 by_cases h0 : k = 0
 ·left; subst h0; rfl
 ·right
  rw [List.length_take,Nat.min_eq_left hk]
  have h1 : k - 1 < (l.take k).length:=by rw [List.length_take,Nat.min_eq_left hk]; omega
  rw [Zhg h1,List.getElem_take,← Zhg]
  exact hz.resolve_left h0
theorem ZtM {l : List Nat} {k : Nat} (h1 : dg l k = 0) (h2 : val (l.drop (k + 1)) = 0) : val (l.drop k) = 0:=by
 by_cases hk : k < l.length
 ·rw [ZfB hk,ZaD,h1,h2]
 ·rw [List.drop_eq_nil_of_le (by omega)]; rfl
def cmpN (a b : Nat) : Int:=if a < b then -1 else if b < a then 1 else 0
theorem Zqh {a b : Nat} (h : a < b) : cmpN a b = -1:=if_pos h
theorem Zst {a b : Nat} (h : b < a) : cmpN a b = 1:=by rw [cmpN,if_neg (by omega),if_pos h]
theorem Zyz {a b : Nat} (h : a = b) : cmpN a b = 0:=by rw [cmpN,if_neg (by omega),if_neg (by omega)]
theorem Zrr {l : List Nat} {n : Nat} (hn : n < l.length) : val l = val (l.take n) + 4294967296 ^ n * (dg l n + 4294967296 * val (l.drop (n + 1))):=by
 have e : val l = val (l.take n) + 4294967296 ^ (l.take n).length * val (l.drop n):=by rw [← Zrq,List.take_append_drop]
 rw [e,ZfB hn,ZaD,List.length_take,Nat.min_eq_left (by omega)]
theorem Zrs {l : List Nat} (h : Dg l) (n : Nat) : val (l.take n) < 4294967296 ^ n :=
 Nat.lt_of_lt_of_le (ZfN (h.take n)) (Nat.pow_le_pow_right (by omega) (by rw [List.length_take]; omega))
theorem ZoC {a b : List Nat} (ha : Dg a) {n : Nat} (h1 : n < a.length) (h2 : n < b.length) (he : val (a.drop (n + 1)) = val (b.drop (n + 1))) (hd : dg a n < dg b n) : val a < val b:=by
 rw [Zrr h1,Zrr h2,he]
 have h3:=Zrs ha n
 generalize 4294967296 ^ n = p at *
 generalize 4294967296 * val (b.drop (n + 1)) = x at *
 calc val (a.take n) + p * (dg a n + x) < p + p * (dg a n + x):=by omega
  _ = p * (dg a n + x + 1):=by rw [Nat.mul_add p _ 1]; omega
  _≤p * (dg b n + x):=Nat.mul_le_mul_left p (by omega)
  _≤_:=Nat.le_add_left _ _
theorem ZlA {a b : Nat} (h : (dl a).length < (dl b).length) : a < b:=by
 have h1:=Zcl (n:=a) (k:=(dl a).length)
 have h2:=Zcl (n:=b) (k:=(dl a).length)
 have:=h1.1 (Nat.le_refl _)
 rcases Nat.lt_or_ge b (4294967296 ^ (dl a).length) with h3 | h3
 ·exact absurd (h2.2 h3) (by omega)
 ·omega
end Go.Cv
namespace Go.Cv
variable (G : Nat→Option (List AV))
structure Holds (h : Heap) (b : Nat) (l : List Nat) : Prop where
 at_ : h.b[b]? = some ⟨cells l,false⟩
 fre : h.f.contains b = false
theorem Holds.lt {h : Heap} {b : Nat} {l : List Nat} (H : Holds h b l) : b < h.b.length:=by
 have:=H.at_
 exact (List.getElem?_eq_some_iff.1 this).1
theorem Holds.mem {h : Heap} {b : Nat} {l : List Nat} (H : Holds h b l) : h.mem b = some ⟨cells l,false⟩:=H.at_
def put (h : Heap) (b : Nat) (l : List Nat) : Heap:=⟨h.b.set b ⟨cells l,false⟩,h.f⟩
theorem ZFr (h : Heap) (b : Nat) (l : List Nat) : (put h b l).b.length = h.b.length:=List.length_set ..
theorem Holds.put {h : Heap} {b : Nat} {l : List Nat} (H : Holds h b l) (m : List Nat) : Holds (put h b m) b m:=by
 refine ⟨?_,H.fre⟩
 simp only [Cv.put]; rw [List.getElem?_set_self H.lt]
theorem ZlP (h : Heap) (b : Nat) (l m : List Nat) : put (put h b l) b m = put h b m:=by simp only [put,List.set_set]
theorem ZzI {h : Heap} {b c : Nat} {l : List Nat} (hc : c≠b) : (put h b l).b[c]? = h.b[c]?:=by
 simp only [put]; rw [List.getElem?_set_ne (Ne.symm hc)]
theorem Holds.other {h : Heap} {b c : Nat} {l m : List Nat} (H : Holds h c m) (hc : c≠b) : Holds (Cv.put h b l) c m :=
 ⟨by rw [ZzI hc]; exact H.at_,H.fre⟩
theorem ZtJ (l : List Nat) (i : Nat) (x : Nat) : (cells l).set i (.int .u32 (x : Int)) = cells (l.set i x):=by
 simp only [cells,List.map_set]
theorem ZGb {h : Heap} {b : Nat} {l : List Nat} (H : Holds h b l) {i : Nat} {x : Int} (hi : i < l.length∧0≤x) :
  storeV h 1 (.ptr b i) (.int .u32 x) = some (.tup [],put h b (l.set i x.toNat)):=by
 have e : cellsA (.int .u32 x) = [.int .u32 x]:=rfl
 rw [storeV,e,if_pos ⟨rfl,rfl⟩,wrBlk,H.at_]
 simp only
 rw [if_pos ⟨trivial,H.fre,by rw [Zbp]; exact hi.1⟩]
 simp only [setAt,Option.map_some,put]
 rw [← ZtJ,Int.toNat_of_nonneg hi.2]
theorem ZtY {b n : Nat} {k : IntKind} {j : Int} (hj : 0≤j∧j < n) : iaddrV 1 (.own b 0 n 1) (.int k j) = some (.ptr b j.toNat):=by
 rw [iaddrV,if_pos ⟨hj.1,hj.2,rfl⟩,Nat.mul_one,Nat.zero_add]
theorem Zjf {h : Heap} {b : Nat} {l : List Nat} (H : Holds h b l) {i : Nat} (hi : i < l.length) : rdAt G h.mem 1 (.ptr b i) = some [.int .u32 (dg l i)] :=
 ZId G H.mem hi
def new (h : Heap) (l : List Nat) : Heap:=⟨h.b ++ [⟨cells l,false⟩],h.f⟩
theorem ZFd (h : Heap) (l : List Nat) : (new h l).b.length = h.b.length + 1:=by simp [new]
theorem ZxR (n : Nat) : repA n [.int .u32 0] = cells (List.replicate n 0):=by
 induction n with
 | zero => rfl
 | succ n ih => simp only [repA,List.replicate_succ,List.flatten_cons] at ih ⊢; rw [ih]; rfl
def FreH (h : Heap) : Prop:=∀ b ∈ h.f,b < h.b.length
theorem FreH.nil : FreH .nil:=fun _ h => absurd h List.not_mem_nil
theorem FreH.new {h : Heap} (H : FreH h) (l : List Nat) : FreH (new h l):=fun b hb => by rw [ZFd]; exact Nat.lt_succ_of_lt (H b hb)
theorem FreH.put {h : Heap} (H : FreH h) (b : Nat) (l : List Nat) : FreH (put h b l):=fun c hc => by rw [ZFr]; exact H c hc
theorem ZbA {h : Heap} (hf : FreH h) (l : List Nat) : Holds (new h l) h.b.length l:=by
 refine ⟨by simp [new],?_⟩
 simp only [new]
 rw [Bool.eq_false_iff]
 intro hc
 have:=hf _ (List.contains_iff_mem.1 hc)
 omega
theorem Holds.new {h : Heap} {b : Nat} {l m : List Nat} (H : Holds h b l) : Holds (new h m) b l :=
 ⟨by simp only [Cv.new]; rw [List.getElem?_append_left H.lt]; exact H.at_,H.fre⟩
theorem Zch {h : Heap} {b n : Nat} {l : List Nat} (H : Holds h b l) (hn : n≤l.length) : snapG h.mem 3 b 0 n 1 = some (D false (l.take n)):=by
 refine Zov (d:=2) ?_ (by rw [List.length_take]; omega)
 rw [rdBlk,H.mem]
 simp only [Bool.false_eq_true,if_false]
 rw [if_pos (by rw [Zbp]; omega),Nat.mul_one,List.drop_zero,ZhM]
def Bld (h : Heap) (v : AV) (l : List Nat) : Prop:=FreH h∧((v = .nil∧l = [])∨∃ b l2,v = .own b 0 l.length 1∧Holds h b (l ++ l2))
theorem Zsh : Bld .nil .nil []:=⟨FreH.nil,Or.inl ⟨rfl,rfl⟩⟩
def appH (h : Heap) (v : AV) (w : Int) : Heap:=((appV ⟨h.b ++ [⟨[.int .u32 w],false⟩],h.f⟩ 1 4 v (.own h.b.length 0 1 1)).getD (.nil,.nil)).2
theorem ZnD {h : Heap} {v : AV} {l : List Nat} (B : Bld h v l) {w : Int} (hw : 0≤w) (hl : l.length < 1099511627776) :
  appV ⟨h.b ++ [⟨[.int .u32 w],false⟩],h.f⟩ 1 4 v (.own h.b.length 0 1 1) = some (.own (h.b.length + 1) 0 (l.length + 1) 1,appH h v w) ∧
  Holds (appH h v w) (h.b.length + 1) (l ++ [w.toNat])∧Bld (appH h v w) (.own (h.b.length + 1) 0 (l.length + 1) 1) (l ++ [w.toNat]):=by
 obtain ⟨hf,hB⟩:=B
 have e0 : sliceCells (Heap.mem ⟨h.b ++ [⟨[.int .u32 w],false⟩],h.f⟩) 1 (.own h.b.length 0 1 1) = some (1,cells [w.toNat]):=by
  have : (Heap.mem ⟨h.b ++ [⟨[.int .u32 w],false⟩],h.f⟩) h.b.length = some ⟨cells [w.toNat],false⟩:=by
   simp [Heap.mem,cells,Int.toNat_of_nonneg hw]
  simp [sliceCells,rdBlk,this,cells]
 have nf : ∀ n,h.b.length≤n→h.f.contains n = false:=fun n hn => by
  rw [Bool.eq_false_iff]; intro hc
  have:=hf _ (List.contains_iff_mem.1 hc); omega
 have key : ∃ h',appV ⟨h.b ++ [⟨[.int .u32 w],false⟩],h.f⟩ 1 4 v (.own h.b.length 0 1 1) = some (.own (h.b.length + 1) 0 (l.length + 1) 1,h') ∧
   h'.f = h.f∧h'.b.length = h.b.length + 2∧h'.b[h.b.length + 1]? = some ⟨cells (l ++ [w.toNat]),false⟩:=by
  rcases hB with ⟨rfl,rfl⟩ | ⟨b,l2,rfl,H⟩
  ·refine ⟨⟨(h.b ++ [⟨[.int .u32 w],false⟩]) ++ [⟨cells [w.toNat],false⟩],h.f⟩,?_,rfl,by simp,by simp⟩
   simp only [appV,e0,Nat.succ_ne_zero,if_false]
   rw [if_pos (by decide)]
   simp
  ·refine ⟨⟨(h.b ++ [(⟨[.int .u32 w],false⟩ : Blk)]).set b ⟨cells (l ++ l2),true⟩ ++ [⟨cells (l ++ [w.toNat]),false⟩],h.f⟩,?_,rfl,by simp,?_⟩
   ·simp only [appV,e0]
    rw [List.getElem?_append_left H.lt,H.at_]
    simp only
    rw [if_pos ⟨trivial,trivial,H.fre,by rw [Zbp,List.length_append]; omega,by simp only [boundApp]; omega⟩]
    simp only [List.length_append,List.length_cons,List.length_nil,List.drop_zero,Nat.mul_one]
    rw [ZhM,List.take_left' rfl,ZtI,Nat.zero_add]
   ·rw [List.getElem?_append_right (by simp)]; simp
 obtain ⟨h',k1,k2,k3,k4⟩:=key
 have e : appH h v w = h':=by simp only [appH,k1,Option.getD_some]
 rw [e]
 refine ⟨k1,⟨k4,by rw [k2]; exact nf _ (by omega)⟩,⟨fun b hb => ?_,Or.inr ⟨_,[],?_,by rw [List.append_nil]; exact k4,?_⟩⟩⟩
 ·rw [k2] at hb; have:=hf b hb; omega
 ·rw [List.length_append]; rfl
 ·rw [k2]; exact nf _ (by omega)
theorem ZdV {h : Heap} {v : AV} {l : List Nat} (B : Bld h v l) {w : Int} (hw : 0≤w) (hl : l.length < 1099511627776) :
  appV ⟨h.b ++ [⟨[.int .u32 w],false⟩],h.f⟩ 1 4 v (.own h.b.length 0 1 1) = some (.own (h.b.length + 1) 0 (l.length + 1) 1,appH h v w) ∧
  Bld (appH h v w) (.own (h.b.length + 1) 0 (l.length + 1) 1) (l ++ [w.toNat]):=⟨(ZnD B hw hl).1,(ZnD B hw hl).2.2⟩
theorem ZmS {h : Heap} {v : AV} {l : List Nat} (B : Bld h v l) {w : Int} (hw : 0≤w∧l.length < 1099511627776) :
  appV ⟨h.b ++ [⟨[.int .u32 w],false⟩],h.f⟩ 1 4 v (.own h.b.length 0 1 1) = some (.own (h.b.length + 1) 0 (l.length + 1) 1,appH h v w):=(ZdV B hw.1 hw.2).1
def isN : AV→Bool
 | .nil => true
 | _ => false
theorem Bld.snap {h : Heap} {v : AV} {l : List Nat} (B : Bld h v l) : snapA (snapG h.mem 3) v = some (D (isN v) l):=by
 rcases B.2 with ⟨rfl,rfl⟩ | ⟨b,l2,rfl,H⟩
 ·rw [Zxf]; rfl
 ·rw [ZuK,Zch H (by rw [List.length_append]; omega),List.take_left' rfl]; rfl
theorem ZDq {F : CallF} {d : Option Nat} {os : List IOper} {e : Env} {h : Heap} {n m : Int} (hc : 0≤n∧n≤m∧m * 5≤70368744177664) :
  kM G F 1 4 [.int .u32 0] (.int .i64 n) (.int .i64 m) d os e h = evOps G F os (putE d (.own h.b.length 0 n.toNat 1) e) (new h (List.replicate m.toNat 0)):=by
 rw [Zzl G F d os e h 1 4 _ n m hc,ZxR]; rfl
theorem ZDI {h : Heap} (hf : FreH h) (n : Nat) : Bld (new h (List.replicate n 0)) (.own h.b.length 0 n 1) (List.replicate n 0) :=
 ⟨hf.new _,Or.inr ⟨_,[],by rw [List.length_replicate],by rw [List.append_nil]; exact ZbA hf _⟩⟩
theorem ZvU {h : Heap} (hf : FreH h) (n m : Nat) (hnm : n≤m) : Bld (new h (List.replicate m 0)) (.own h.b.length 0 n 1) (List.replicate n 0) :=
 ⟨hf.new _,Or.inr ⟨_,List.replicate (m - n) 0,by rw [List.length_replicate],by rw [List.replicate_append_replicate,show n + (m - n) = m by omega]; exact ZbA hf _⟩⟩
theorem ZBx (h : Heap) : (⟨h.b,h.f⟩ : Heap) = h:=rfl
theorem ZsD (h : Mem) (k : IntKind) (n : Int) (args : List AV) : frz h (.int k n) args = []:=by simp [frz,refA]
theorem ZsC (h : Mem) (b : Bool) (args : List AV) : frz h (.bool b) args = []:=by simp [frz,refA]
theorem ZED (h : Mem) (r : AV) : frz h r [] = []:=by simp [frz,reachL]
theorem ZJA (h : Mem) (r : AV) (z : Bool) (l : List Nat) (args : List AV) : frz h r (D z l :: args) = frz h r args:=by
 have : reachA (reachG h 3) (D z l) = []:=by cases l <;> cases z <;> simp [D,reachA]
 simp [frz,reachL,this]
theorem ZBu (h : Mem) (r : AV) (k : IntKind) (n : Int) (args : List AV) : frz h r (.int k n :: args) = frz h r args:=by simp [frz,reachL,reachA]
theorem ZyZ (h : Mem) (r : AV) (b : Bool) (args : List AV) : frz h r (.bool b :: args) = frz h r args:=by simp [frz,reachL,reachA]
theorem tdiv32 (n : Nat) : (n : Int).tdiv 32 = ((n / 32 : Nat) : Int):=rfl
theorem tmod32 (n : Nat) : (n : Int).tmod 32 = ((n % 32 : Nat) : Int):=rfl
theorem or64 {a b : Nat} (ha : a < 18446744073709551616) (hb : b < 18446744073709551616) : orI .u64 (a : Int) (b : Int) = ((a ||| b : Nat) : Int):=by
 have : a ||| b < 2 ^ 64:=Nat.or_lt_two_pow (n:=64) ha hb
 rw [ZqO]
 show IntKind.u64.wrap ((BitVec.ofInt 64 a ||| BitVec.ofInt 64 b).toNat : Int) = _
 simp only [BitVec.toNat_or,BitVec.toNat_ofInt,Zjq]
 have e1 : ((a : Int) % (2 ^ 64 : Nat)).toNat = a:=by omega
 have e2 : ((b : Int) % (2 ^ 64 : Nat)).toNat = b:=by omega
 rw [e1,e2]; omega
theorem or32 {a b : Nat} (ha : a < 4294967296) (hb : b < 4294967296) : orI .u32 (a : Int) (b : Int) = ((a ||| b : Nat) : Int):=by
 have : a ||| b < 2 ^ 32:=Nat.or_lt_two_pow (n:=32) ha hb
 rw [ZqO]
 show IntKind.u32.wrap ((BitVec.ofInt 32 a ||| BitVec.ofInt 32 b).toNat : Int) = _
 simp only [BitVec.toNat_or,BitVec.toNat_ofInt,ZpV]
 have e1 : ((a : Int) % (2 ^ 32 : Nat)).toNat = a:=by omega
 have e2 : ((b : Int) % (2 ^ 32 : Nat)).toNat = b:=by omega
 rw [e1,e2]; omega
theorem and64 {a b : Nat} (ha : a < 18446744073709551616) (hb : b < 18446744073709551616) : andI .u64 (a : Int) (b : Int) = ((a &&& b : Nat) : Int):=by
 have : a &&& b≤a:=Nat.and_le_left
 rw [Zsk]
 show IntKind.u64.wrap ((BitVec.ofInt 64 a &&& BitVec.ofInt 64 b).toNat : Int) = _
 simp only [BitVec.toNat_and,BitVec.toNat_ofInt,Zjq]
 have e1 : ((a : Int) % (2 ^ 64 : Nat)).toNat = a:=by omega
 have e2 : ((b : Int) % (2 ^ 64 : Nat)).toNat = b:=by omega
 rw [e1,e2]; omega
theorem and32 {a b : Nat} (ha : a < 4294967296) (hb : b < 4294967296) : andI .u32 (a : Int) (b : Int) = ((a &&& b : Nat) : Int):=by
 have : a &&& b≤a:=Nat.and_le_left
 rw [Zsk]
 show IntKind.u32.wrap ((BitVec.ofInt 32 a &&& BitVec.ofInt 32 b).toNat : Int) = _
 simp only [BitVec.toNat_and,BitVec.toNat_ofInt,ZpV]
 have e1 : ((a : Int) % (2 ^ 32 : Nat)).toNat = a:=by omega
 have e2 : ((b : Int) % (2 ^ 32 : Nat)).toNat = b:=by omega
 rw [e1,e2]; omega
theorem ZmX {c x s : Nat} (hc : c < 2 ^ s) : c ||| x * 2 ^ s = c + x * 2 ^ s:=by
 rw [Nat.or_comm,← Nat.shiftLeft_eq,← Nat.shiftLeft_add_eq_or_of_lt hc]; omega
theorem pow32 (k : Nat) : 4294967296 ^ k = 2 ^ (32 * k):=by rw [Nat.pow_mul]
def blen (n : Nat) : Nat:=if n = 0 then 0 else n.log2 + 1
theorem Zaf {n k : Nat} : blen n≤k↔n < 2 ^ k:=by
 unfold blen
 by_cases h : n = 0
 ·subst h; simp [Nat.two_pow_pos]
 ·rw [if_neg h,← Nat.log2_lt h]; omega
theorem Zbn {n k : Nat} : k < blen n↔2 ^ k≤n:=by
 have:=Zaf (n:=n) (k:=k); omega
theorem ZEe {n k : Nat} (h1 : 2 ^ k≤n) (h2 : n < 2 ^ (k + 1)) : blen n = k + 1:=by
 have:=Zbn.2 h1; have:=Zaf.2 h2; omega
theorem Zag : blen 0 = 0:=rfl
theorem ZcV {n : Nat} (h : n≠0) : 0 < blen n:=Zbn.2 (by simp; omega)
theorem ZtD {n : Nat} : blen n = 0↔n = 0:=by
 constructor
 ·intro h; rcases Nat.eq_zero_or_pos n with h' | h'
  ·exact h'
  ·have:=ZcV (n:=n) (by omega); omega
 ·rintro rfl; rfl
theorem Zbo (n : Nat) : n < 2 ^ blen n:=Zaf.1 (Nat.le_refl _)
theorem ZbD {n : Nat} (h : n≠0) : 2 ^ (blen n - 1)≤n:=Zbn.1 (by have:=ZcV h; omega)
theorem Zaj (n k : Nat) : blen (n / 2 ^ k) = blen n - k:=by
 have key : ∀ j,blen (n / 2 ^ k)≤j↔blen n≤j + k:=fun j => by
  rw [Zaf,Zaf,Nat.div_lt_iff_lt_mul (Nat.two_pow_pos k),← Nat.pow_add]
 have h1:=(key (blen n - k)).2 (by omega)
 have h2:=(key (blen (n / 2 ^ k))).1 (Nat.le_refl _)
 omega
theorem Zav {n : Nat} (h : n≠0) (k : Nat) : blen (n * 2 ^ k) = blen n + k:=by
 have key : ∀ j,k≤j→(blen (n * 2 ^ k)≤j↔blen n≤j - k):=fun j hj => by
  rw [Zaf,Zaf]
  have : 2 ^ j = 2 ^ (j - k) * 2 ^ k:=by rw [← Nat.pow_add]; congr 1; omega
  rw [this]
  exact Nat.mul_lt_mul_right (Nat.two_pow_pos k)
 have h1:=(key (blen n + k) (by omega)).2 (by omega)
 have h0 : k < blen (n * 2 ^ k):=Zbn.2 (by
  calc 2 ^ k = 1 * 2 ^ k:=by omega
   _≤n * 2 ^ k:=Nat.mul_le_mul_right _ (by omega))
 have h2:=(key (blen (n * 2 ^ k)) (by omega)).1 (Nat.le_refl _)
 omega
theorem Zap {a b : Nat} (h : a≤b) : blen a≤blen b:=Zaf.2 (Nat.lt_of_le_of_lt h (Zbo b))
theorem Zso {n : Nat} (h : n≠0) : blen n = 32 * ((dl n).length - 1) + blen (dg (dl n) ((dl n).length - 1)):=by
 have h1 : (dl n)≠[]:=fun e => h (ZgR.1 e)
 have h2 : 0 < (dl n).length:=List.length_pos_iff.2 h1
 have h3:=(Zcl (n:=n) (k:=(dl n).length)).1 (Nat.le_refl _)
 have h4 : 4294967296 ^ ((dl n).length - 1)≤n:=by
  rcases Nat.lt_or_ge n (4294967296 ^ ((dl n).length - 1)) with h5 | h5
  ·have:=Zcl.2 h5; omega
  ·exact h5
 rw [pow32] at h3 h4
 rw [Zpw (Zao n),ZaE,pow32]
 have h5 : n / 2 ^ (32 * ((dl n).length - 1)) < 4294967296:=by
  rw [Nat.div_lt_iff_lt_mul (Nat.two_pow_pos _),show (4294967296 : Nat) = 2 ^ 32 by rfl,← Nat.pow_add]
  refine Nat.lt_of_lt_of_le h3 (Nat.pow_le_pow_right (by decide) (by omega))
 rw [Nat.mod_eq_of_lt h5,Zaj]
 have:=Zbn.2 h4
 omega
theorem Zaa (n : Nat) : (dl n).length = (blen n + 31) / 32:=by
 have key : ∀ k,(dl n).length≤k↔blen n≤32 * k:=fun k => by rw [Zcl,Zaf,pow32]
 have h1:=(key (dl n).length).1 (Nat.le_refl _)
 have h2:=(key ((blen n + 31) / 32)).2 (by omega)
 rcases Nat.eq_zero_or_pos (dl n).length with h | h
 ·omega
 ·have h3 : ¬ blen n≤32 * ((dl n).length - 1):=fun h4 => by have:=(key ((dl n).length - 1)).2 h4; omega
  omega
def tz (n : Nat) : Nat:=if h : n = 0 then 0 else if n % 2 = 1 then 0 else tz (n / 2) + 1
 termination_by n
 decreasing_by omega
theorem ZAA : tz 0 = 0:=by rw [tz]; rfl
theorem ZuV {n : Nat} (h : n % 2 = 1) : tz n = 0:=by
 rw [tz]; split
 ·rfl
 ·simp [h]
theorem ZvN {n : Nat} (h0 : n≠0) (h : n % 2 = 0) : tz n = tz (n / 2) + 1:=by
 rw [tz,dif_neg h0,if_neg (by omega)]
theorem ZfL {n : Nat} (h : n≠0) : n = n / 2 ^ tz n * 2 ^ tz n∧n / 2 ^ tz n % 2 = 1:=by
 induction n using Nat.strongRecOn with
 | _ n ih =>
  by_cases h2 : n % 2 = 1
  ·rw [ZuV h2]; simp [h2]
  ·have ⟨i1,i2⟩:=ih (n / 2) (by omega) (by omega)
   rw [ZvN h (by omega),Nat.pow_succ,Nat.mul_comm (2 ^ _) 2,← Nat.div_div_eq_div_mul]
   refine ⟨?_,i2⟩
   rw [Nat.mul_comm 2,← Nat.mul_assoc,← i1]; omega
theorem ZfM {m k : Nat} (h : m % 2 = 1) : tz (m * 2 ^ k) = k:=by
 induction k with
 | zero => simp [ZuV h]
 | succ k ih =>
  have hp:=Nat.two_pow_pos k
  have hm : m * 2 ^ k≠0:=Nat.mul_ne_zero (by omega) (by omega)
  have e : m * 2 ^ (k + 1) = 2 * (m * 2 ^ k):=by rw [Nat.pow_succ,← Nat.mul_assoc,Nat.mul_comm]
  rw [e,ZvN (by omega) (by omega),Nat.mul_div_cancel_left _ (by decide),ih]
theorem ZDG {n : Nat} (h : n≠0) (k : Nat) : tz (n * 2 ^ k) = tz n + k:=by
 have ⟨h1,h2⟩:=ZfL h
 conv => lhs; rw [h1,Nat.mul_assoc,← Nat.pow_add]
 exact ZfM h2
theorem Zwk (X : Nat) {s : Nat} (hs : s < 32) : ((X % 4294967296) / 2 ^ s ||| (X / 4294967296 % 4294967296) * 2 ^ (32 - s)) % 4294967296 = X / 2 ^ s % 4294967296:=by
 have e : (4294967296 : Nat) = 2 ^ 32:=rfl
 rw [e,← Nat.shiftRight_eq_div_pow,← Nat.shiftRight_eq_div_pow,← Nat.shiftRight_eq_div_pow,← Nat.shiftLeft_eq]
 apply Nat.eq_of_testBit_eq
 intro i
 simp only [Nat.testBit_mod_two_pow,Nat.testBit_or,Nat.testBit_shiftRight,Nat.testBit_shiftLeft]
 by_cases h1 : i < 32
 ·by_cases h2 : s + i < 32
  ·have h3 : ¬ (32 - s≤i):=by omega
   simp [h1,h2,h3]
  ·have h3 : 32 - s≤i:=by omega
   have h4 : i - (32 - s) < 32:=by omega
   have h5 : 32 + (i - (32 - s)) = s + i:=by omega
   simp [h1,h2,h3,h4,h5]
 ·simp [h1]
theorem Zxb {x s : Nat} (hx : x < 4294967296) : x / 2 ^ s < 4294967296:=Nat.lt_of_le_of_lt (Nat.div_le_self ..) hx
theorem ZDN (a b k : Nat) : (a * 2 ^ k) &&& (b * 2 ^ k) = (a &&& b) * 2 ^ k:=by
 rw [← Nat.shiftLeft_eq,← Nat.shiftLeft_eq,← Nat.shiftLeft_eq]
 apply Nat.eq_of_testBit_eq
 intro i
 simp only [Nat.testBit_and,Nat.testBit_shiftLeft]
 by_cases h : k≤i <;> simp [h]
theorem ZFf {m j : Nat} (hm : m % 2 = 1) (hj : m < 2 ^ j) : m &&& (2 ^ j - m) = 1:=by
 obtain ⟨n,rfl⟩ : ∃ n,m = n + 1:=⟨m - 1,by omega⟩
 apply Nat.eq_of_testBit_eq
 intro i
 rw [Nat.testBit_and,Nat.testBit_two_pow_sub_succ (by omega)]
 cases i with
 | zero =>
  have hj0 : 0 < j:=by
   rcases Nat.eq_zero_or_pos j with h | h
   ·subst h; simp at hj
   ·exact h
  have : n % 2 = 0:=by omega
  simp [Nat.testBit_zero,hm,hj0,this]
 | succ i =>
  have e : (n + 1) / 2 = n / 2:=by omega
  have e1 : Nat.testBit 1 (i + 1) = false:=by simp [Nat.testBit_succ]
  rw [e1,Nat.testBit_succ,Nat.testBit_succ,e]
  cases (n / 2).testBit i <;> simp
theorem Zvo {x : Nat} (h0 : x≠0) (hx : x < 4294967296) : x &&& (4294967296 - x) = 2 ^ tz x∧tz x < 32:=by
 have ⟨h1,h2⟩:=ZfL h0
 generalize hk : tz x = k at *
 generalize hm : x / 2 ^ k = m at *
 have hk32 : k < 32:=by
  rcases Nat.lt_or_ge k 32 with h | h
  ·exact h
  ·have : 2 ^ 32≤2 ^ k:=Nat.pow_le_pow_right (by decide) h
   have : 1 * 2 ^ k≤m * 2 ^ k:=Nat.mul_le_mul_right _ (by omega)
   omega
 refine ⟨?_,hk32⟩
 have e : (4294967296 : Nat) = 2 ^ (32 - k) * 2 ^ k:=by rw [← Nat.pow_add,show 32 - k + k = 32 by omega]
 have hlt : m < 2 ^ (32 - k):=by
  rw [h1,e] at hx
  exact Nat.lt_of_mul_lt_mul_right hx
 rw [h1,e,← Nat.mul_sub_right_distrib,ZDN,ZFf h2 hlt,Nat.one_mul]
theorem ZIQ {d r : Nat} (h0 : d≠0) (hd : d < 4294967296) : tz (d + 4294967296 * r) = tz d:=by
 have ⟨_,hk⟩:=Zvo h0 hd
 have ⟨h1,h2⟩:=ZfL h0
 generalize tz d = k at *
 generalize d / 2 ^ k = m at *
 have e : (4294967296 : Nat) = 2 ^ (31 - k) * 2 * 2 ^ k:=by
  rw [← Nat.pow_succ,← Nat.pow_add,show (31 - k).succ + k = 32 by omega]
 have : d + 4294967296 * r = (m + 2 * (2 ^ (31 - k) * r)) * 2 ^ k:=by
  rw [h1,e,Nat.add_mul]; congr 1
  simp only [Nat.mul_assoc,Nat.mul_left_comm,Nat.mul_comm]
 rw [this]
 exact ZfM (by omega)
theorem ZIP {l : List Nat} (hd : Dg l) {i : Nat} (hi : i < l.length) (h1 : val (l.take i) = 0) (h2 : dg l i≠0) : tz (val l) = 32 * i + tz (dg l i):=by
 rw [Zrr hi,h1,Nat.zero_add,Nat.mul_comm,pow32,ZDG (by omega),ZIQ h2 (hd.dg i)]; omega
theorem Zyq (a i : Nat) : dg (dl a) (i / 32) / 2 ^ (i % 32) % 2 = a / 2 ^ i % 2:=by
 rw [Zpw (Zao a),ZaE,pow32]
 have e : a / 2 ^ i = a / 2 ^ (32 * (i / 32)) / 2 ^ (i % 32):=by
  rw [Nat.div_div_eq_div_mul,← Nat.pow_add]; congr 2; omega
 rw [e]
 generalize a / 2 ^ (32 * (i / 32)) = X
 have hs : i % 32 < 32:=by omega
 generalize i % 32 = s at *
 have e32 : (4294967296 : Nat) = 2 ^ 32:=rfl
 rw [e32,← Nat.shiftRight_eq_div_pow,← Nat.shiftRight_eq_div_pow]
 have t1:=Nat.testBit_zero ((X % 2 ^ 32) >>> s)
 have t2:=Nat.testBit_zero (X >>> s)
 rw [Nat.testBit_shiftRight,Nat.testBit_mod_two_pow] at t1
 rw [Nat.testBit_shiftRight] at t2
 simp only [Nat.add_zero,hs,decide_true,Bool.true_and] at t1 t2
 rw [t1] at t2
 have:=decide_eq_decide.1 t2
 omega
end Go.Cv
namespace Go.Cv
variable (G : Nat→Option (List AV)) (T : Tbl)
def sub (cs : List AV) (off n : Nat) : Option (List AV):=if off + n≤cs.length then some ((cs.drop off).take n) else none
def consL (v : AV) (o : Option (List AV)) : Option (List AV):=o.map (v :: ·)
theorem ZxE (v : AV) (l : List AV) : consL v (some l) = some (v :: l):=rfl
theorem ZGc (cs : List AV) : sub cs 0 0 = some []:=by simp [sub]
theorem ZCL (v : AV) (cs : List AV) (n : Nat) : sub (v :: cs) 0 (n + 1) = consL v (sub cs 0 n):=by
 simp only [sub,consL,List.length_cons,Nat.zero_add,List.drop_zero,List.take_succ_cons,Nat.add_le_add_iff_right]
 split <;> rfl
theorem ZCK (v : AV) (cs : List AV) (k n : Nat) : sub (v :: cs) (k + 1) n = sub cs k n:=by
 simp only [sub,List.length_cons,List.drop_succ_cons]
 have : (k + 1 + n≤cs.length + 1)↔(k + n≤cs.length):=by omega
 simp only [this]
theorem ZAr {l : List Nat} {i : Nat} (h : i < l.length) : sub (cells l) i 1 = some [.int .u32 (dg l i)]:=by
 rw [sub,if_pos (by rw [Zbp]; omega),Zqe l i h]
theorem ZAq (l : List Nat) : sub (cells l) 0 l.length = some (cells l):=by
 rw [sub,if_pos (by rw [Zbp]; omega),List.drop_zero,List.take_of_length_le (by rw [Zbp]; exact Nat.le_refl _)]
theorem ZGd {l : List Nat} {n : Nat} (h : n≤l.length) : sub (cells l) 0 n = some (cells (l.take n)):=by
 rw [sub,if_pos (by rw [Zbp]; omega),List.drop_zero,ZhM]
def subB : Option Blk→Nat→Nat→Option (List AV)
 | some k,off,n => if k.dead then none else sub k.cs off n
 | none,_,_ => none
theorem Zrp (cs : List AV) (off n : Nat) : subB (some ⟨cs,false⟩) off n = sub cs off n:=rfl
theorem Znr (bs : List Blk) (f : List Nat) (b off n : Nat) : rdBlk (Heap.mem ⟨bs,f⟩) b off n = subB (bs[b]?) off n:=by
 simp only [rdBlk,Heap.mem,subB,sub]
 cases bs[b]? <;> rfl
theorem ZIe (bs : List Blk) (f : List Nat) (b off n : Nat) : rdAt G (Heap.mem ⟨bs,f⟩) n (.ptr b off) = subB (bs[b]?) off n:=Znr bs f b off n
theorem ZFw (h : Mem) (cs : List AV) (off n : Nat) : rdAt G h n (.iptr cs off) = sub cs off n:=rfl
theorem ZFj (k : IntKind) (n : Int) : okCell (.int k n) = true:=rfl
theorem ZBX (b : Bool) : okCell (.bool b) = true:=rfl
theorem ZFk : okCell .nil = true:=rfl
theorem ZFi (n : Nat) (cs : List AV) : okCell (.imm n cs) = true:=rfl
theorem ZFl (b o n s : Nat) : okCell (.own b o n s) = true:=rfl
theorem ZFm (b o : Nat) : okCell (.ptr b o) = true:=rfl
theorem ZHQ (f : Nat) (cs : List AV) : okCell (.fn f cs) = true:=rfl
theorem ZHP (k : FloatKind) (n : Nat) : okCell (.fl k n) = true:=rfl
theorem ZJZ (z : Bool) (l : List Nat) : okCell (D z l) = true:=by cases l <;> cases z <;> rfl
theorem ZGF (k : IntKind) (n : Int) : cellsA (.int k n) = [.int k n]:=rfl
theorem ZEk (b : Bool) : cellsA (.bool b) = [.bool b]:=rfl
theorem ZGG : cellsA .nil = [.nil]:=rfl
theorem ZGE (n : Nat) (cs : List AV) : cellsA (.imm n cs) = [.imm n cs]:=rfl
theorem ZGH (b o n s : Nat) : cellsA (.own b o n s) = [.own b o n s]:=rfl
theorem ZGI (b o : Nat) : cellsA (.ptr b o) = [.ptr b o]:=rfl
theorem ZJk (f : Nat) (cs : List AV) : cellsA (.fn f cs) = [.fn f cs]:=rfl
theorem ZJj (k : FloatKind) (n : Nat) : cellsA (.fl k n) = [.fl k n]:=rfl
theorem ZGD (cs : List AV) : cellsA (.agg cs) = cs:=rfl
theorem ca_D (z : Bool) (l : List Nat) : cellsA (D z l) = [D z l]:=by cases l <;> cases z <;> rfl
def okN : Nat→List AV→Bool
 | 0,[] => true
 | n + 1,v :: l => okCell v && okN n l
 | _,_ => false
theorem ZFh : okN 0 [] = true:=rfl
theorem ZBW (n : Nat) (v : AV) (l : List AV) : okN (n + 1) (v :: l) = (okCell v && okN n l):=rfl
theorem ZwJ : ∀ (n : Nat) (l : List AV),okN n l = (decide (l.length = n) && l.all okCell)
 | 0,[] => rfl
 | 0,v :: l => by simp [okN]
 | n + 1,[] => by simp [okN]
 | n + 1,v :: l => by rw [okN,ZwJ n l]; simp [Bool.and_left_comm]
theorem ZJh (n : Nat) (v : AV) : boxOk n v = okN n (cellsA v):=by rw [ZwJ]; rfl
theorem ZJY {α : Type} (n : Nat) (v : AV) (x y : α) : (if (cellsA v).length = n∧(cellsA v).all okCell = true then x else y) = bif okN n (cellsA v) then x else y:=by
 rw [ZwJ]
 by_cases h : (cellsA v).length = n <;> cases h2 : (cellsA v).all okCell <;> simp [h]
def setO (cs : List AV) (off : Nat) (vs : List AV) : Option (List AV):=if off + vs.length≤cs.length then some (setAt cs off vs) else none
theorem Zpe : ∀ (vs : List AV) (c : AV) (cs : List AV) (k : Nat),setAt (c :: cs) (k + 1) vs = c :: setAt cs k vs
 | [],_,_,_ => rfl
 | v :: vs,c,cs,k => by rw [setAt,setAt,List.set_cons_succ,Zpe vs c _ (k + 1)]
theorem ZAd (c : AV) (cs : List AV) (k : Nat) (vs : List AV) : setO (c :: cs) (k + 1) vs = consL c (setO cs k vs):=by
 simp only [setO,consL,List.length_cons,Zpe]
 have : (k + 1 + vs.length≤cs.length + 1)↔(k + vs.length≤cs.length):=by omega
 simp only [this]
 split <;> rfl
theorem ZAc (c : AV) (cs : List AV) (v : AV) (vs : List AV) : setO (c :: cs) 0 (v :: vs) = consL v (setO cs 0 vs):=by
 simp only [setO,consL,List.length_cons,setAt,List.set_cons_zero,Nat.zero_add,Nat.add_le_add_iff_right]
 rw [Zpe]
 split <;> rfl
theorem ZCt (cs : List AV) : setO cs 0 [] = some cs:=by simp [setO,setAt]
theorem ZxT {l : List Nat} {i : Nat} {x : Int} (h : i < l.length∧0≤x) : setO (cells l) i [.int .u32 x] = some (cells (l.set i x.toNat)):=by
 rw [setO,if_pos (by rw [Zbp]; exact h.1),← ZtJ,Int.toNat_of_nonneg h.2]; rfl
def stO (ok fz : Bool) (bs : List Blk) (f : List Nat) (b : Nat) (o : Option (List AV)) : Option (AV × Heap) :=
 bif ok && !fz then o.map fun cs => (.tup [],⟨bs.set b ⟨cs,false⟩,f⟩) else none
def setB : Option Blk→Nat→List AV→Option (List AV)
 | some k,off,vs => if k.dead then none else setO k.cs off vs
 | none,_,_ => none
theorem ZAb (cs : List AV) (off : Nat) (vs : List AV) : setB (some ⟨cs,false⟩) off vs = setO cs off vs:=rfl
theorem st_x (bs : List Blk) (f : List Nat) (n b off : Nat) (v : AV) : storeV ⟨bs,f⟩ n (.ptr b off) v = stO (okN n (cellsA v)) (f.contains b) bs f b (setB (bs[b]?) off (cellsA v)):=by
 rw [storeV,ZJY]
 unfold stO
 cases okN n (cellsA v)
 ·rfl
 ·simp only [cond_true,Bool.true_and,wrBlk]
  cases hb : bs[b]? with
  | none => cases f.contains b <;> rfl
  | some k =>
   obtain ⟨cs,d⟩:=k
   cases d <;> cases hf : f.contains b <;> simp [setB,setO] <;> split <;> simp_all
theorem ZIC (bs : List Blk) (f : List Nat) (b : Nat) (cs : List AV) : stO true false bs f b (some cs) = some (.tup [],⟨bs.set b ⟨cs,false⟩,f⟩):=rfl
def fiO (ok : Bool) (o : Option (List AV)) (r : List (Nat × Nat × AV)) : Option (List AV):=bif ok then o.bind fun cs => fillA cs r else none
theorem ZGV (cs : List AV) (r : List (Nat × Nat × AV)) : fiO true (some cs) r = fillA cs r:=rfl
theorem ZBt (cs : List AV) : fillA cs [] = some cs:=rfl
theorem ZGW (cs : List AV) (off n : Nat) (v : AV) (r : List (Nat × Nat × AV)) : fillA cs ((off,n,v) :: r) = fiO (okN n (cellsA v)) (setO cs off (cellsA v)) r:=by
 rw [fillA]
 unfold fiO setO
 rw [ZwJ]
 by_cases h : (cellsA v).length = n
 ·subst h
  cases h2 : (cellsA v).all okCell
  ·simp
  ·by_cases h3 : off + (cellsA v).length≤cs.length <;> simp [h3]
 ·simp [h]
def fz1 (r : AV) (l : List Nat) : List Nat:=if refA r then l else []
theorem ZoM (h : Mem) (r : AV) (b o n s : Nat) (args : List AV) : frz h r (.own b o n s :: args) = fz1 r (reachG h 3 b) ++ frz h r args:=by
 simp only [frz,fz1,reachL,reachA]; split <;> rfl
theorem Zza (h : Mem) (r : AV) (n : Nat) (cs : List AV) (args : List AV) : frz h r (.imm n cs :: args) = frz h r args:=by simp [frz,reachL,reachA]
theorem Zwu (h : Mem) (r : AV) (args : List AV) : frz h r (.nil :: args) = frz h r args:=by simp [frz,reachL,reachA]
theorem ZpL (g : Nat→List Nat) : ∀ cs,reachA.go g cs = reachL g cs
 | [] => rfl
 | v :: vs => by rw [reachA.go,reachL,ZpL g vs]
theorem ZmE (g : Nat→List Nat) : ∀ a b,reachL g (a ++ b) = reachL g a ++ reachL g b
 | [],b => rfl
 | v :: a,b => by rw [List.cons_append,reachL,reachL,ZmE g a b,List.append_assoc]
theorem ZEC (h : Mem) (r : AV) (cs args : List AV) : frz h r (.agg cs :: args) = frz h r (cs ++ args):=by
 simp only [frz,reachL,reachA,ZpL,ZmE]
theorem ZEE (h : Mem) (r : AV) (cs args : List AV) : frz h r (.tup cs :: args) = frz h r (cs ++ args):=by
 simp only [frz,reachL,reachA,ZpL,ZmE]
theorem ZGY (h : Mem) (r : AV) (f : Nat) (cs args : List AV) : frz h r (.fn f cs :: args) = frz h r (cs ++ args):=by
 simp only [frz,reachL,reachA,ZpL,ZmE]
theorem ZGX (h : Mem) (r : AV) (k : FloatKind) (n : Nat) (args : List AV) : frz h r (.fl k n :: args) = frz h r args:=by simp [frz,reachL,reachA]
def rgO (g : Nat→List Nat) : Option Blk→List Nat
 | some k => reachL g k.cs
 | none => []
theorem rg_x (bs : List Blk) (f : List Nat) (d b : Nat) : reachG (Heap.mem ⟨bs,f⟩) (d + 1) b = b :: rgO (reachG (Heap.mem ⟨bs,f⟩) d) (bs[b]?):=by
 simp only [reachG,Heap.mem]; cases bs[b]? <;> rfl
theorem Ztc (g : Nat→List Nat) (cs : List AV) (d : Bool) : rgO g (some ⟨cs,d⟩) = reachL g cs:=rfl
theorem ZIh (g : Nat→List Nat) : reachL g [] = []:=rfl
theorem Ztd (g : Nat→List Nat) (l : List Nat) : reachL g (cells l) = []:=by
 induction l with
 | nil => rfl
 | cons a l ih => simp only [cells,List.map_cons] at ih ⊢; rw [reachL,ih]; simp [reachA]
theorem ZIg (g : Nat→List Nat) (k : IntKind) (n : Int) (l : List AV) : reachL g (.int k n :: l) = reachL g l:=by simp [reachL,reachA]
theorem ZFB (g : Nat→List Nat) (b : Bool) (l : List AV) : reachL g (.bool b :: l) = reachL g l:=by simp [reachL,reachA]
theorem ZzP (g : Nat→List Nat) (l : List AV) : reachL g (.nil :: l) = reachL g l:=by simp [reachL,reachA]
theorem ZDw (g : Nat→List Nat) (n : Nat) (cs l : List AV) : reachL g (.imm n cs :: l) = reachL g l:=by simp [reachL,reachA]
theorem rl_D (g : Nat→List Nat) (z : Bool) (m : List Nat) (l : List AV) : reachL g (D z m :: l) = reachL g l:=by
 have : reachA g (D z m) = []:=by cases m <;> cases z <;> simp [D,reachA]
 simp [reachL,this]
theorem ZIi (g : Nat→List Nat) (b o n s : Nat) (l : List AV) : reachL g (.own b o n s :: l) = g b ++ reachL g l:=by simp [reachL,reachA]
theorem ZDh (b : Nat) : ([] : List Nat).contains b = false:=rfl
theorem ZyC (a : Nat) (l : List Nat) (b : Nat) : (a :: l).contains b = (decide (b = a) || l.contains b):=by
 rw [List.contains_cons]; congr 1
theorem ZGN (a l : List Nat) (b : Nat) : (a ++ l).contains b = (a.contains b || l.contains b):=by simp
theorem ZJl (r : AV) {l : List Nat} {b : Nat} (h : l.contains b = false) : (fz1 r l).contains b = false:=by unfold fz1; split <;> simp_all
theorem ZGO (r : AV) (a b : Nat) (h : a≠b) : (fz1 r [a]).contains b = false:=ZJl r (by rw [ZyC,ZDh,decide_eq_false (Ne.symm h)]; rfl)
def snO (n : Nat) (g : Nat→Nat→Nat→Nat→Option AV) (o : Option (List AV)) : Option AV:=o.bind fun cs => (snapL g cs).map (.imm n)
theorem sg_x (bs : List Blk) (f : List Nat) (d b off n sz : Nat) : snapG (Heap.mem ⟨bs,f⟩) (d + 1) b off n sz = snO n (snapG (Heap.mem ⟨bs,f⟩) d) (subB (bs[b]?) off (n * sz)):=by
 simp only [snapG,Znr,snO]; cases subB (bs[b]?) off (n * sz) <;> rfl
theorem ZCw (n : Nat) (g : Nat→Nat→Nat→Nat→Option AV) (cs : List AV) : snO n g (some cs) = (snapL g cs).map (.imm n):=rfl
theorem ZJF : AV.imm 1 [.int .u32 1] = D false [1]:=rfl
theorem ZKq (g : Nat→Nat→Nat→Nat→Option AV) (k : FloatKind) (n : Nat) : snapA g (.fl k n) = some (.fl k n):=by simp only [snapA]
theorem ZKr (g : Nat→Nat→Nat→Nat→Option AV) (f : Nat) (cs : List AV) : snapA g (.fn f cs) = (snapL g cs).map (.fn f):=by
 have h : ∀ l,snapA.go g l = snapL g l:=by
  intro l; induction l with
  | nil => rfl
  | cons a l ih => rw [snapA.go,snapL,ih]
 rw [snapA,h]
theorem kI_d (p : Prop) [Decidable p] (a b : IC) (e : Env) (h : Heap) : kI G T (.bool (decide p)) a b e h = if p then evL G T a e h else evL G T b e h:=by
 by_cases hp : p
 ·rw [decide_eq_true hp,Zzk,if_pos hp]
 ·rw [decide_eq_false hp,ZwB,if_neg hp]
theorem kI_v (p : Bool) (a b : IC) (e : Env) (h : Heap) : kI G T (.bool p) a b e h = if p = true then evL G T a e h else evL G T b e h:=by
 cases p <;> rfl
section
variable (F : CallF) (d : Option Nat) (o : IOp) (os : List IOper) (e : Env) (h : Heap)
theorem ZJJ (p : Prop) [Decidable p] : kG G F (.bool (decide p)) true d o os e h = if p then evOps G F (⟨d,o,none⟩ :: os) e h else evOps G F os (putE d (.tup []) e) h:=by
 by_cases hp : p
 ·rw [decide_eq_true hp,ZHq,if_pos hp]
 ·rw [decide_eq_false hp,ZHo,if_neg hp]
theorem ZJI (p : Prop) [Decidable p] : kG G F (.bool (decide p)) false d o os e h = if p then evOps G F os (putE d (.tup []) e) h else evOps G F (⟨d,o,none⟩ :: os) e h:=by
 by_cases hp : p
 ·rw [decide_eq_true hp,ZHp,if_pos hp]
 ·rw [decide_eq_false hp,ZHn,if_neg hp]
theorem ZJM (p : Bool) : kG G F (.bool p) true d o os e h = if p = true then evOps G F (⟨d,o,none⟩ :: os) e h else evOps G F os (putE d (.tup []) e) h:=by cases p <;> rfl
theorem ZJL (p : Bool) : kG G F (.bool p) false d o os e h = if p = true then evOps G F os (putE d (.tup []) e) h else evOps G F (⟨d,o,none⟩ :: os) e h:=by cases p <;> rfl
end
theorem bv_t {p : Bool} (h : p = true) : AV.bool p = .bool true:=by rw [h]
theorem bv_f {p : Bool} (h : ¬ p = true) : AV.bool p = .bool false:=by rw [Bool.eq_false_iff.2 h]
theorem ZJo {p : Prop} [Decidable p] (h : p) : decide p = true:=decide_eq_true h
theorem ZJn {p : Prop} [Decidable p] (h : ¬ p) : decide p = false:=decide_eq_false h
theorem ZJt (p q : Prop) [Decidable p] [Decidable q] : eqbA false (.bool (decide p)) (.bool (decide q)) = some (.bool (decide (p↔q))):=by
 by_cases hp : p <;> by_cases hq : q <;> simp [eqbA,hp,hq]
theorem ZJu (a b : Bool) : eqbA false (.bool a) (.bool b) = some (.bool (decide (a = b))):=by cases a <;> cases b <;> rfl
theorem ZJW (a b : Bool) : eqbA true (.bool a) (.bool b) = some (.bool (decide (a≠b))):=by cases a <;> cases b <;> rfl
theorem ZGg {a b : Int} (h : 0≤a) : a.tmod b = a % b:=Int.tmod_eq_emod_of_nonneg h
theorem ZGf {a b : Int} (h : 0≤a) : a.tdiv b = a / b:=Int.tdiv_eq_ediv_of_nonneg h
theorem ZmO {k : IntKind} {a b : Int} (h : a = b) : some (AV.int k a) = some (AV.int k b):=by rw [h]
theorem ZlI (k k' : IntKind) (x y : Int) : evMm true (.int k x) [.int k' y] = some (.int k (max x y)):=by
 simp only [evMm,if_true]
 congr 2
 split <;> omega
theorem ZFa (k k' : IntKind) (x y : Int) : evMm false (.int k x) [.int k' y] = some (.int k (min x y)):=by
 simp only [evMm,Bool.false_eq_true,if_false]
 congr 2
 split <;> omega
theorem Zhh {k : IntKind} {a b : Int} {l : List AV} (h : a = b) : some (AV.tup (.int k a :: l)) = some (AV.tup (.int k b :: l)):=by rw [h]
theorem Zph (F : CallF) (d : Option Nat) (os : List IOper) (e : Env) (h : Heap) (n : Nat) (zero : List AV) (ps : List (Nat × Nat × IOpd)) : evOps G F (⟨d,.bslice n 3 zero ps,none⟩ :: os) e h =
  kBs G F (fillA (repA n zero) (ps.map fun (o,n,x) => (o,n,opd e x))) (.own h.b.length 0 n 3) d os e h:=Zhb G F d os e h n 3 zero ps
theorem ZIf (z : List AV) : repA 1 z = z:=by simp [repA]
theorem ZbI (z : List AV) : repA 2 z = z ++ z:=by simp [repA]
def ckA (e : Env) : Option IOper→Option IOper→Bool
 | some ⟨_,.load _ _ a,_⟩,some ⟨_,.store _ b _,_⟩ => apart (opd e a) (opd e b)
 | _,_ => false
theorem ZGL (e : Env) (ops : List IOper) : chkOk e ops [] = true:=rfl
theorem ZEm (e : Env) (ops : List IOper) (i j : Nat) (r : List (Nat × Nat)) : chkOk e ops ((i,j) :: r) = (ckA e ops[i]? ops[j]? && chkOk e ops r):=by
 rw [chkOk]; congr 1
theorem ZGK (e : Env) (d d' : Option Nat) (g : Bool) (n n' : Nat) (a b v : IOpd) (q q' : Option (Nat × Bool)) : ckA e (some ⟨d,.load g n a,q⟩) (some ⟨d',.store n' b v,q'⟩) = apart (opd e a) (opd e b):=rfl
theorem ZAQ (b c o p : Nat) : apart (.ptr b o) (.ptr c p) = !decide (b = c):=by
 simp only [apart,bne]; congr 1
theorem ZHB : min 23 64 = 23:=rfl
theorem ZHG : min 52 64 = 52:=rfl
theorem ZHA : min 22 64 = 22:=rfl
theorem ZHF : min 51 64 = 51:=rfl
end Go.Cv
namespace Go.Cv
theorem ZzH (t : Nat) (v : AV) (e : Env) : putE (some t) v e = (t,v) :: e:=rfl
theorem ZzG (v : AV) (e : Env) : putE none v e = e:=rfl
theorem ZsR (n : Nat) : numE n [] = []:=rfl
theorem ZqN (n : Nat) (v : AV) (l : List AV) : numE n (v :: l) = (n,v) :: numE (n + 1) l:=rfl
theorem ZBP (l : List Nat) (e : Env) : keepE l e = l.map fun t => (t,getE e t):=rfl
def evB:=(ai (ai (ai (ai (ai (ai (ai @ZCs (ai @ZIo @ZBM)) (ai @ZIp (ai @ZIn @ZFM))) (ai (ai @ZyP (ai @ZBh @ZBk)) (ai @ZBi (ai @ZsE @ZHu)))) (ai (ai (ai @ZEN (ai @ZHs @ZHr)) (ai @Zzk (ai @ZwB @ZEQ))) (ai (ai @ZHw (ai @ZEP @ZHl)) (ai @ZEK (ai @Zzm @ZEL))))) (ai (ai (ai (ai @ZEO (ai @Zzi @ZBK)) (ai @ZEJ (ai @ZHq @ZHn))) (ai (ai @ZHp (ai @ZHo @ZJK)) (ai @ZIL (ai @ZIK @ZGa)))) (ai (ai (ai @ZIE (ai @ZIH @ZKu)) (ai @ZIG (ai @ZII @ZFY))) (ai (ai @ZCH (ai @ZIF @ZxU)) (ai @Zsd (ai @ZEI @ZCB)))))) (ai (ai (ai (ai (ai @ZCC (ai @ZCE @ZAk)) (ai @ZCF (ai @ZCI @ZCG))) (ai (ai @ZKs (ai @ZIJ @ZKt)) (ai @ZFZ (ai @ZtH @ZID)))) (ai (ai (ai @ZFX (ai @ZCD @ZKf)) (ai @ZKc (ai @ZKe @ZKd))) (ai (ai @Zzc (ai @ZBw @ZHx)) (ai @ZBR (ai @ZBQ @Zje))))) (ai (ai (ai (ai @ZDP (ai @ZDZ @ZAS)) (ai @ZAR (ai @ZAT @ZDX))) (ai (ai @ZDY (ai @ZDQ @ZGA)) (ai @ZEa (ai @Zxx @ZDR)))) (ai (ai (ai @ZDW (ai @ZDV @ZDU)) (ai @ZDT (ai @ZDS @Zyo))) (ai (ai @Zyp (ai @ZIS @ZIT)) (ai (ai @ZHT @ZHS) (ai @ZFp @ZEq))))))) (ai (ai (ai (ai (ai (ai @ZJv (ai @ZJw @ZJx)) (ai @ZFz (ai @ZCj @ZFA))) (ai (ai @ZzO (ai @ZCc @ZCd)) (ai @ZAh (ai @Zrl @ZvJ)))) (ai (ai (ai @Zxf (ai @ZAg @sn_D)) (ai @ZuK (ai @ZDD @ZAf))) (ai (ai @Zxe (ai @Znx @Zga)) (ai @ZKa (ai @ZKb @Zll))))) (ai (ai (ai (ai @Zlk (ai @Zjq @ZpV)) (ai @ZHE (ai @ZEX @ZHI))) (ai (ai @ZHH (ai @ZHz @ZJV)) (ai @ZJU (ai @ZHC @ZHD)))) (ai (ai (ai @ZAX (ai @ZAW @ZAV)) (ai @ZEd (ai @ZDA @ZxL))) (ai (ai @Zvn (ai @ZCy @tdiv32)) (ai @tmod32 (ai @ZBx @ZsD)))))) (ai (ai (ai (ai (ai @ZsC (ai @ZED @ZJA)) (ai @ZBu (ai @ZyZ @ZDp))) (ai (ai @if_true.{1} (ai @if_false.{1} @List.map_cons.{0,0})) (ai @List.map_nil.{0,0} (ai @Option.bind_some.{0,0} @Option.map_some.{0,0})))) (ai (ai (ai @Option.map_none.{0,0} (ai @decide_true @decide_false)) (ai @decide_not (ai @Bool.not_true @Bool.not_false))) (ai (ai @not_true_eq_false (ai @not_false_eq_true @ne_eq.{1})) (ai @Int.toNat_natCast (ai @List.append_nil.{0} @Int.natCast_nonneg))))) (ai (ai (ai (ai @List.nil_append.{0} (ai @Bool.and_self @Bool.and_true)) (ai @Bool.true_and (ai @Bool.or_self @Bool.or_false))) (ai (ai @Bool.false_or (ai @List.getElem?_cons_succ.{0} @List.getElem?_cons_zero.{0})) (ai @List.set_cons_zero.{0} (ai @List.set_cons_succ.{0} @List.length_nil.{0})))) (ai (ai (ai @List.length_cons.{0} (ai @List.cons_append.{0} @Nat.zero_add)) (ai @Nat.mul_one (ai @Int.cast_ofNat_Int @List.all_cons.{0}))) (ai (ai @List.all_nil.{0} (ai @ZzH @ZzG)) (ai (ai @ZsR @ZqN) (ai @ZBP @jB))))))))
def dsB:=(ai (ai (ai @Zac @Zzf) (ai @ZzL @Zll)) (ai (ai @Zlk @ZIv) (ai @ZIw (ai @ZtY @ZDq))))
end Go.Cv
namespace Go.Cv
variable {G : Nat→Option (List AV)}
theorem Zio (off b o : Nat) : faddrA off (.ptr b o) = some (.ptr b (o + off)):=rfl
theorem nilb : Heap.nil.b = []:=rfl
theorem nilf : Heap.nil.f = []:=rfl
def resC (h : Heap) (agg : Bool) (n : Nat) : AV→Option AV
 | .ptr b off => (rdAt G h.mem n (.ptr b off)).bind (one agg)
 | _ => none
theorem ZmM (e : Env) (h : Heap) (t : Nat) (agg : Bool) (n : Nat) : resOf G e h (.cell t agg n) = resC (G:=G) h agg n (getE e t):=by
 simp only [resOf,resC]
 cases getE e t <;> try rfl
 case ptr b off => simp only; cases rdAt G h.mem n (.ptr b off) <;> rfl
theorem ZmL (h : Heap) (agg : Bool) (n b off : Nat) : resC (G:=G) h agg n (.ptr b off) = (rdAt G h.mem n (.ptr b off)).bind (one agg):=rfl
def exB:=(ai (ai (ai (ai (ai (ai @Zxh @ZpR) (ai @ZJh (ai @ZFh @ZBW))) (ai (ai @ZFj @ZBX) (ai @ZFk (ai @ZFi @ZFl)))) (ai (ai (ai @ZFm @ZHQ) (ai @ZHP (ai @ZJZ @ZGF))) (ai (ai @ZEk (ai @ZGG @ZGE)) (ai @ZGH (ai @ZGI @ZJk))))) (ai (ai (ai (ai @ZJj @ZGD) (ai @ca_D (ai @ZIe @Zrp))) (ai (ai @ZGc (ai @ZCL @ZCK)) (ai @ZxE (ai @st_x @ZAb)))) (ai (ai (ai @ZAd @ZAc) (ai @ZCt (ai @ZIC @ZGW))) (ai (ai @ZGV (ai @ZBt @ZoM)) (ai @Zza (ai @Zwu @ZEC)))))) (ai (ai (ai (ai (ai @ZEE @ZGY) (ai @ZGX (ai @rg_x @Ztc))) (ai (ai @ZIh @Ztd) (ai @ZIg (ai @ZFB @ZzP)))) (ai (ai (ai @ZDw @rl_D) (ai @ZIi (ai @ZDh @ZyC))) (ai (ai @ZGN (ai @sg_x @ZCw)) (ai @ZAq (ai @ZJF @ZKq))))) (ai (ai (ai (ai @ZKr @ZmL) (ai @ZmM (ai @nilb @nilf))) (ai (ai @Zio (ai @ZJt @ZJu)) (ai @ZJW (ai @ZHB @ZHG)))) (ai (ai (ai @ZHA @ZHF) (ai @ZlI (ai @ZFa @Zph))) (ai (ai @ZIf (ai @ZbI @ZGL)) (ai @ZEm (ai @ZGK @ZAQ)))))))
def exC:=ai evB exB
def dxB:=(ai (ai (ai (ai @Zac @Zzf) (ai @ZzL (ai @Zll @Zlk))) (ai (ai @ZIv @ZIw) (ai @ZtY (ai @ZDq @ZAr)))) (ai (ai (ai @ZxT @ZGd) (ai @ZGO (ai @ZJo @ZJn))) (ai (ai @bv_t (ai @bv_f @ZGg)) (ai @ZGf (ai @Zyo @Zyp)))))
def kdB:=(ai @kI_d (ai @ZJJ @ZJI))
def kvB:=(ai @kI_v (ai @ZJM @ZJL))
end Go.Cv
namespace Go.Cv
variable {G : Nat→Option (List AV)} {T : Tbl} {g : Nat}
def mayL (l : List Nat) : Bool:=decide (l.length≤4096) && (l.isEmpty || decide (dg l (l.length - 1)≠0))
theorem ZbJ (J : Al G T g) (z : Bool) (l : List Nat) : run G T 86 [D z l] = some (.bool (mayL l)):=by
 rw [Zab G T J.A.ZbJ]
 by_cases h1 : (l.length : Int)≤4096
 ·by_cases h2 : (l.length : Int) = 0
  ·repeat (first | simp only [seval,evB,ZjM,h1,h2] | simp (disch:=omega) only [dsB])
   have : l = []:=List.length_eq_zero_iff.1 (by omega)
   subst this; rfl
  ·repeat (first | simp only [seval,evB,ZjM,h1,h2] | simp (disch:=omega) only [dsB])
   have e1 : decide (l.length≤4096) = true:=decide_eq_true (by omega)
   have e2 : l.isEmpty = false:=by cases l with
    | nil => exact absurd rfl h2
    | cons => rfl
   simp [mayL,e1,e2,Bool.true_and,Bool.false_or]
 ·repeat (first | simp only [seval,evB,ZjM,h1] | simp (disch:=omega) only [dsB])
  have e1 : decide (l.length≤4096) = false:=decide_eq_false (by omega)
  simp only [mayL,e1,Bool.false_and]
theorem ZaO {l : List Nat} : mayL l = true↔l.length≤4096∧Nm l:=by
 simp only [mayL,Bool.and_eq_true,Bool.or_eq_true,decide_eq_true_eq,List.isEmpty_iff,Nm]
theorem ZuT (h : Heap) : ∀ (n : Nat) (l : List Nat) (z : Bool),l.length = n→n < 1099511627776→Dg l →
  ∃ z' e',evL G T Zbr [(0,D z l)] h = some (.exit 0,(0,D z' (dl (val l))) :: e',h)
 | n,l,z,hn,hb,hd => by
  by_cases h0 : (0 : Int) < l.length
  ·by_cases h1 : ((dg l (l.length - 1) : Nat) : Int) = 0
   ·cases n with
    | zero => omega
    | succ n =>
     obtain ⟨z',e',ih⟩:=ZuT h n (l.take (l.length - 1)) (zz z l) (by rw [List.length_take]; omega) (by omega) (hd.take _)
     refine ⟨z',e',?_⟩
     rw [Zae G T (c:=Zbr) rfl]
     repeat (first | simp only [seval,evB,Zcx,h0,h1] | simp (disch:=omega) only [dsB])
     rw [ih]
     have : dl (val (l.take (l.length - 1))) = dl (val l):=by
      have e:=ZoD (l:=l) (i:=l.length - 1) (by omega)
      rw [show l.length - 1 + 1 = l.length by omega,List.take_length] at e
      rw [e,show dg l (l.length - 1) = 0 by omega,Nat.mul_zero,Nat.add_zero]
     rw [this]
   ·refine ⟨z,[(14,.bool false)],?_⟩
    rw [Zae G T (c:=Zbr) rfl]
    repeat (first | simp only [seval,evB,Zcx,h0,h1] | simp (disch:=omega) only [dsB])
    rw [Zwl hd (Or.inr (by omega))]
  ·refine ⟨z,[(14,.bool false)],?_⟩
   rw [Zae G T (c:=Zbr) rfl]
   repeat (first | simp only [seval,evB,Zcx,h0] | simp (disch:=omega) only [dsB])
   rw [Zwl hd (Or.inl (List.length_eq_zero_iff.1 (by omega)))]
theorem Zcg (J : Al G T g) {z : Bool} {l : List Nat} (hd : Dg l) (hb : l.length < 1099511627776) : ∃ z',run G T 94 [D z l] = some (D z' (dl (val l))):=by
 obtain ⟨z',e',hl⟩:=ZuT (G:=G) (T:=T) .nil l.length l z rfl hb hd
 refine ⟨z',?_⟩
 rw [Zab G T J.A.Zcg]
 repeat (first | simp only [seval,evB,ZhK,hl] | simp (disch:=omega) only [dsB])
theorem Ztz (h : Heap) (l : List Nat) (z : Bool) (hb : l.length < 1099511627776) (hd : Dg l) : ∀ n : Nat,n≤l.length→val (l.drop n) = 0 →
  ∃ (n' : Nat) (e' : Env),evL G T Zdm [(0,D z l),(3,.int .i64 (n : Int))] h = some (.exit 0,(0,D z l) :: (3,.int .i64 (n' : Int)) :: e',h)∧n'≤l.length∧l.take n' = dl (val l)
 | n,hn,hr => by
  by_cases h0 : (0 : Int) < n
  ·by_cases h1 : ((dg l (n - 1) : Nat) : Int) = 0
   ·cases n with
    | zero => omega
    | succ n =>
     obtain ⟨n',e',ih,hk⟩:=Ztz h l z hb hd n (by omega) (ZtM (by simpa using h1) hr)
     refine ⟨n',e',?_,hk⟩
     rw [Zae G T (c:=Zdm) rfl]
     have e1 : ((n + 1 : Nat) : Int) - 1 = n:=by omega
     rw [Nat.add_sub_cancel] at h1
     repeat (first | simp only [seval,evB,Zfe,h0,h1,e1] | simp (disch:=omega) only [dsB])
     rw [ih]
   ·refine ⟨n,[(15,.bool false)],?_,hn,ZyG hd n hn (by omega) hr⟩
    rw [Zae G T (c:=Zdm) rfl]
    repeat (first | simp only [seval,evB,Zfe,h0,h1] | simp (disch:=omega) only [dsB])
  ·refine ⟨n,[(15,.bool false)],?_,hn,ZyG hd n hn (by omega) hr⟩
   rw [Zae G T (c:=Zdm) rfl]
   repeat (first | simp only [seval,evB,Zfe,h0] | simp (disch:=omega) only [dsB])
theorem ZcQ (J : Al G T g) {z : Bool} {l : List Nat} (hd : Dg l) (hb : l.length < 1099511627776) : ∃ z',run G T 85 [D z l] = some (D z' (dl (val l))):=by
 obtain ⟨n',e',hl,hn,ht⟩:=Ztz (G:=G) (T:=T) .nil l z hb hd l.length (Nat.le_refl _) (by rw [List.drop_length]; rfl)
 refine ⟨zz z l,?_⟩
 rw [Zab G T J.B.ZcQ]
 repeat (first | simp only [seval,evB,ZiP,hl,ht] | simp (disch:=omega) only [dsB])
theorem Zty (h : Heap) (a b : List Nat) (z y : Bool) (hb : a.length < 1099511627776) (hl : a.length = b.length) : ∀ m n : Nat,m + n = a.length→a.take n = b.take n →
  Post (evL G T Zfd [(0,D z a),(1,D y b),(5,.int .i64 (n : Int))] h) fun r =>
   (∃ e,r = (.exit 0,e,h)∧a = b)∨r = (.ret,[(4,.bool false)],h)∧a≠b
 | 0,n,hm,ht => by
  rw [Zae G T (c:=Zfd) rfl]
  have h0 : ¬ (n : Int) < a.length:=by omega
  repeat (first | simp only [seval,evB,Zfc,h0] | simp (disch:=omega) only [dsB])
  refine Post.some (Or.inl ⟨_,rfl,?_⟩)
  rw [List.take_of_length_le (by omega),List.take_of_length_le (by omega)] at ht; exact ht
 | m + 1,n,hm,ht => by
  rw [Zae G T (c:=Zfd) rfl]
  have h0 : (n : Int) < a.length:=by omega
  by_cases h1 : (dg a n : Int) = dg b n
  ·repeat (first | simp only [seval,evB,Zfc,h0,h1] | simp (disch:=omega) only [dsB])
   exact Zty h a b z y hb hl m (n + 1) (by omega) (by rw [Zmf (by omega),Zmf (by omega),ht]; congr 2; omega)
  ·repeat (first | simp only [seval,evB,Zfc,h0,h1] | simp (disch:=omega) only [dsB])
   refine Post.some (Or.inr ⟨rfl,?_⟩)
   rintro rfl; exact h1 rfl
theorem Zkb (J : Al G T g) {z y : Bool} {a b : List Nat} (hb : a.length < 1099511627776) : run G T 39 [D z a,D y b] = some (.bool (decide (a = b))):=by
 rw [Zab G T J.B.Zkb]
 by_cases h0 : (a.length : Int) = b.length
 ·obtain ⟨r,hr,hp⟩:=Zty (G:=G) (T:=T) .nil a b z y hb (by omega) a.length 0 (by omega) rfl
  rw [cast0] at hr
  rcases hp with ⟨e,rfl,he⟩ | ⟨rfl,he⟩
  ·repeat (first | simp only [seval,evB,ZeE,h0,hr] | simp (disch:=omega) only [dsB])
   rw [decide_eq_true he]
  ·repeat (first | simp only [seval,evB,ZeE,h0,hr] | simp (disch:=omega) only [dsB])
   rw [decide_eq_false he]
 ·repeat (first | simp only [seval,evB,ZeE,h0] | simp (disch:=omega) only [dsB])
  rw [decide_eq_false (by rintro rfl; exact h0 rfl)]
end Go.Cv
