/-
 A part of the proof of the statements of this seat (texts that the law's own text leans on): no condition.
-/
import Derived.Calls
import Derived.KernelRfl
set_option linter.unusedVariables false
set_option linter.unusedSimpArgs false
namespace Go.Cv
inductive AV where
 | undef
 | int (k : IntKind) (n : Int)
 | bool (b : Bool)
 | fl (k : FloatKind) (bits : Nat)
 | nil
 | imm (n : Nat) (cs : List AV)
 | own (b off n sz : Nat)
 | ptr (b off : Nat)
 | iptr (cs : List AV) (off : Nat)
 | gptr (g off : Nat)
 | agg (cs : List AV)
 | tup (vs : List AV)
 | fn (f : Nat) (cap : List AV)
 | np
 | nf
 | nan (k : FloatKind)
 deriving Inhabited
structure Blk where
 cs : List AV
 dead : Bool:=false
 deriving Inhabited
structure Heap where
 b : List Blk
 f : List Nat
 deriving Inhabited
abbrev Mem:=Nat→Option Blk
def Heap.mem (h : Heap) : Mem:=fun b => h.b[b]?
def Heap.nil : Heap:=⟨[],[]⟩
abbrev Env:=List (Nat × AV)
def getE : Env→Nat→AV
 | [],_ => .undef
 | (t,v) :: e,s => if s = t then v else getE e s
def putE (d : Option Nat) (v : AV) (e : Env) : Env :=
 match d with
 | none => e
 | some t => (t,v) :: e
def keepE (l : List Nat) (e : Env) : Env:=l.map fun t => (t,getE e t)
inductive IOpd where
 | t (n : Nat)
 | c (v : AV)
 | g (n : Nat)
 | f (n : Nat)
 deriving Inhabited
def opd (e : Env) : IOpd→AV
 | .t n => getE e n
 | .c v => v
 | .g n => .gptr n 0
 | .f n => .fn n []
inductive IOp where
 | mov (x : IOpd)
 | pick (c a b : IOpd)
 | bin (op : BinOp) (x y : IOpd)
 | eqb (neg : Bool) (x y : IOpd)
 | eqs (neg : Bool) (leaves : List Bool) (x y : IOpd)
 | un (op : UnOp) (x : IOpd)
 | cvt (k : IntKind) (x : IOpd)
 | ext (x : IOpd) (i : Nat)
 | load (agg : Bool) (n : Nat) (a : IOpd)
 | store (n : Nat) (a v : IOpd)
 | alloc (zero : List AV)
 | box (n : Nat) (x : IOpd)
 | build (zero : List AV) (parts : List (Nat × Nat × IOpd))
 | bslice (n sz : Nat) (zero : List AV) (parts : List (Nat × Nat × IOpd))
 | faddr (off : Nat) (x : IOpd)
 | field (agg : Bool) (off n : Nat) (x : IOpd)
 | iaddr (sz : Nat) (x i : IOpd)
 | iaddrA (len sz : Nat) (x i : IOpd)
 | index (agg : Bool) (len sz : Nat) (x i : IOpd)
 | strix (bs : List Nat) (i : IOpd)
 | slice (sz : Nat) (x : IOpd) (lo hi : Option IOpd)
 | mk (sz bytes : Nat) (zero : List AV) (l c : IOpd)
 | len (x : IOpd)
 | mm (mx : Bool) (x : IOpd) (xs : List IOpd)
 | app (sz bytes : Nat) (x y : IOpd)
 | call (inl : Bool) (f : IOpd) (args : List IOpd)
 | mkfn (f : Nat) (cap : List IOpd)
 | nck (x : IOpd)
 | eqn (neg : Bool) (x : IOpd)
 | fbin (op : BinOp) (k : FloatKind) (x y : IOpd)
 | fcv (s d : FloatKind) (x : IOpd)
 deriving Inhabited
inductive Prim where
 | b64 | of64 | b32 | of32 | sqrt | ald | aadd
 deriving DecidableEq,Inhabited
structure IOper where
 dst : Option Nat
 op : IOp
 guard : Option (Nat × Bool):=none
 deriving Inhabited
inductive OT where
 | done
 | no
 | op (i : Nat) (t : OT)
 | alt (a b : OT)
 deriving Inhabited
inductive IC where
 | fail
 | skip
 | ret
 | exit (id : Nat)
 | reg (ops : List IOper) (keep : List Nat) (chk : List (Nat × Nat))
 | tree (ops : List IOper) (t : OT) (keep : List Nat)
 | seq (a b : IC)
 | cond (c : IOpd) (a b : IC)
 | block (id : Nat) (a : IC)
 | loop (keep : List Nat) (a : IC)
 | prim (p : Prim)
 deriving Inhabited
inductive IRes where
 | tmp (t : Nat)
 | cell (t : Nat) (agg : Bool) (n : Nat)
 deriving Inhabited
structure IFn where
 res : List IRes
 body : IC
 deriving Inhabited
def cellsA : AV→List AV
 | .agg cs => cs
 | v => [v]
def okCell : AV→Bool
 | .undef | .agg _ | .tup _ => false
 | _ => true
def arI (op : BinOp) (k : IntKind) (x y : Int) : Option AV :=
 match op with
 | .add => some (.int k (k.wrap (x + y)))
 | .sub => some (.int k (k.wrap (x - y)))
 | .mul => some (.int k (k.wrap (x * y)))
 | .quo => if y = 0 then none else some (.int k (k.wrap (x.tdiv y)))
 | .rem => if y = 0 then none else some (.int k (x.tmod y))
 | .and => some (.int k (k.wrap (BitVec.ofInt k.bits x &&& BitVec.ofInt k.bits y).toNat))
 | .or => some (.int k (k.wrap (BitVec.ofInt k.bits x ||| BitVec.ofInt k.bits y).toNat))
 | .xor => some (.int k (k.wrap (BitVec.ofInt k.bits x ^^^ BitVec.ofInt k.bits y).toNat))
 | .andNot => some (.int k (k.wrap (BitVec.ofInt k.bits x &&& ~~~BitVec.ofInt k.bits y).toNat))
 | .eql => some (.bool (x == y))
 | .neq => some (.bool (x != y))
 | .lss => some (.bool (decide (x < y)))
 | .leq => some (.bool (decide (x≤y)))
 | .gtr => some (.bool (decide (x > y)))
 | .geq => some (.bool (decide (x ≥ y)))
 | _ => none
def shI (op : BinOp) (k : IntKind) (x y : Int) : Option AV :=
 if y < 0 then none else
 match op with
 | .shl => some (.int k (k.wrap (x * 2 ^ (min y.toNat k.bits))))
 | .shr => some (.int k (x.fdiv (2 ^ (min y.toNat k.bits))))
 | _ => none
def isSh : BinOp→Bool
 | .shl | .shr => true
 | _ => false
def evBin (op : BinOp) : AV→AV→Option AV
 | .int k x,.int k' y => if isSh op then shI op k x y else if k = k' then arI op k x y else none
 | _,_ => none
def evUn (op : UnOp) : AV→Option AV
 | .int k n =>
  match op with
  | .neg => some (.int k (k.wrap (0 - n)))
  | .xor => some (.int k (k.wrap (BitVec.ofInt k.bits (if k.signed then -1 else k.max) ^^^ BitVec.ofInt k.bits n).toNat))
  | _ => none
 | .bool b => match op with
  | .not => some (.bool !b)
  | _ => none
 | _ => none
def flR (k : FloatKind) : Option Nat→AV
 | some r => .fl k r
 | none => .nan k
def flOp (op : BinOp) (k : FloatKind) (a b : Nat) : Option AV :=
 match op with
 | .add => some (flR k (k.format.add a b))
 | .sub => some (flR k (k.format.sub a b))
 | .mul => some (flR k (k.format.mul a b))
 | .quo => some (flR k (k.format.div a b))
 | .eql => some (.bool (k.format.order a b == some .eq))
 | .neq => some (.bool (k.format.order a b != some .eq))
 | _ => none
def flNo (op : BinOp) (k : FloatKind) : Option AV :=
 match op with
 | .add | .sub | .mul | .quo => some (.nan k)
 | .eql => some (.bool false)
 | .neq => some (.bool true)
 | _ => none
def evFl (op : BinOp) (k : FloatKind) : AV→AV→Option AV
 | .fl k1 a,.fl k2 b => if k1 = k∧k2 = k then flOp op k a b else none
 | .nan k1,.fl k2 _ => if k1 = k∧k2 = k then flNo op k else none
 | .fl k1 _,.nan k2 => if k1 = k∧k2 = k then flNo op k else none
 | .nan k1,.nan k2 => if k1 = k∧k2 = k then flNo op k else none
 | _,_ => none
def evFcv (s d : FloatKind) : AV→Option AV
 | .fl k b => if k≠s then none else if s = d then some (.fl d b) else
  match s.decode b with
  | .nan _ _ => some (.nan d)
  | .infinity n => some (.fl d (d.encode (.infinity n)))
  | .number n m e => if (d.decode (d.encode (.number n m e))).isInfinity then none else some (.fl d (d.encode (.number n m e)))
 | .nan k => if k = s then some (.nan d) else none
 | _ => none
def eqCells : List AV→List AV→Option Bool
 | [],[] => some true
 | .int k x :: a,.int k' y :: b => if k = k' then (eqCells a b).map fun r => (x == y) && r else none
 | .bool x :: a,.bool y :: b => (eqCells a b).map fun r => (x == y) && r
 | _,_ => none
def kindsA : List Bool→List AV→Bool
 | [],[] => true
 | false :: ls,.int _ _ :: a => kindsA ls a
 | true :: ls,.bool _ :: a => kindsA ls a
 | _,_ => false
def rdBlk (h : Mem) (b off n : Nat) : Option (List AV) :=
 match h b with
 | some k => if k.dead then none else if off + n≤k.cs.length then some ((k.cs.drop off).take n) else none
 | none => none
def rdAt (G : Nat→Option (List AV)) (h : Mem) (n : Nat) : AV→Option (List AV)
 | .ptr b off => rdBlk h b off n
 | .iptr cs off => if off + n≤cs.length then some ((cs.drop off).take n) else none
 | .gptr g off => match G g with
  | some cs => if off + n≤cs.length then some ((cs.drop off).take n) else none
  | none => none
 | _ => none
def one (agg : Bool) (cs : List AV) : Option AV :=
 if agg then some (.agg cs) else match cs with
  | [v] => some v
  | _ => none
def setAt (cs : List AV) (off : Nat) : List AV→List AV
 | [] => cs
 | v :: vs => setAt (cs.set off v) (off + 1) vs
def wrBlk (h : Heap) (b off : Nat) (vs : List AV) : Option Heap :=
 match h.b[b]? with
 | some k => if k.dead = false∧h.f.contains b = false∧off + vs.length≤k.cs.length then some ⟨h.b.set b { k with cs:=setAt k.cs off vs },h.f⟩ else none
 | none => none
def fillA (cs : List AV) : List (Nat × Nat × AV)→Option (List AV)
 | [] => some cs
 | (off,n,v) :: r => if (cellsA v).length = n∧(cellsA v).all okCell = true∧off + n≤cs.length then fillA (setAt cs off (cellsA v)) r else none
def repA (n : Nat) (z : List AV) : List AV:=(List.replicate n z).flatten
def sliceCells (h : Mem) (sz : Nat) : AV→Option (Nat × List AV)
 | .nil => some (0,[])
 | .imm n cs => if cs.length = n * sz then some (n,cs) else none
 | .own b off n s => if s = sz then (rdBlk h b off (n * sz)).map fun cs => (n,cs) else none
 | _ => none
def lenA : AV→Option Nat
 | .nil => some 0
 | .imm n _ => some n
 | .own _ _ n _ => some n
 | _ => none
def capA (h : Mem) : AV→Option Nat
 | .nil => some 0
 | .imm n _ => some n
 | .own b off n sz => match h b with
  | some k => if k.dead then none else some (if sz = 0 then n else max n ((k.cs.length - off) / sz))
  | none => none
 | _ => none
def bound (d : Nat) : Option AV→Option Int
 | none => some (d : Int)
 | some (.int _ n) => some n
 | some _ => none
def evSlice (h : Mem) (sz : Nat) (x : AV) (lo hi : Option AV) : Option AV :=
 match lenA x,capA h x with
 | some n,some c =>
  match bound 0 lo,bound n hi with
  | some l,some u =>
   if 0≤l∧l≤u∧u≤(c : Int) then
    match x with
    | .nil => some .nil
    | .imm _ cs => if cs.length = n * sz then some (.imm (u - l).toNat ((cs.drop (l.toNat * sz)).take ((u - l).toNat * sz))) else none
    | .own b off _ s => if s = sz∧(l = 0∨l < (c : Int)) then some (.own b (off + l.toNat * sz) (u - l).toNat sz) else none
    | _ => none
   else none
  | _,_ => none
 | _,_ => none
def snapA (g : Nat→Nat→Nat→Nat→Option AV) : AV→Option AV
 | .own b off n sz => g b off n sz
 | .agg cs => (go cs).map .agg
 | .tup cs => (go cs).map .tup
 | .fn f cs => (go cs).map (.fn f)
 | .imm n cs => some (.imm n cs)
 | .int k n => some (.int k n)
 | .bool b => some (.bool b)
 | .fl k b => some (.fl k b)
 | .nil => some .nil
 | .np => some .np
 | .nf => some .nf
 | .nan k => some (.nan k)
 | _ => none
 where
 go : List AV→Option (List AV)
  | [] => some []
  | v :: vs => match snapA g v,go vs with
   | some a,some b => some (a :: b)
   | _,_ => none
def snapL (g : Nat→Nat→Nat→Nat→Option AV) : List AV→Option (List AV)
 | [] => some []
 | v :: vs => match snapA g v,snapL g vs with
  | some a,some b => some (a :: b)
  | _,_ => none
def snapG (h : Mem) : Nat→Nat→Nat→Nat→Nat→Option AV
 | 0,_,_,_,_ => none
 | d + 1,b,off,n,sz => match rdBlk h b off (n * sz) with
  | some cs => (snapL (snapG h d) cs).map (.imm n)
  | none => none
def snap (h : Mem) (v : AV) : Option AV:=snapA (snapG h 3) v
def snaps (h : Mem) (vs : List AV) : Option (List AV):=snapL (snapG h 3) vs
def refA : AV→Bool
 | .imm _ _ => true
 | .agg cs => go cs
 | .tup cs => go cs
 | .fn _ cs => go cs
 | .int _ _ => false
 | .bool _ => false
 | .fl _ _ => false
 | .nil => false
 | .np => false
 | .nf => false
 | .nan _ => false
 | _ => true
 where
 go : List AV→Bool
  | [] => false
  | v :: vs => refA v || go vs
def reachA (g : Nat→List Nat) : AV→List Nat
 | .own b _ _ _ => g b
 | .agg cs => go cs
 | .tup cs => go cs
 | .fn _ cs => go cs
 | _ => []
 where
 go : List AV→List Nat
  | [] => []
  | v :: vs => reachA g v ++ go vs
def reachL (g : Nat→List Nat) : List AV→List Nat
 | [] => []
 | v :: vs => reachA g v ++ reachL g vs
def reachG (h : Mem) : Nat→Nat→List Nat
 | 0,b => [b]
 | d + 1,b => b :: match h b with
  | some k => reachL (reachG h d) k.cs
  | none => []
def boundBytes : Nat:=2 ^ 46
def boundApp : Nat:=2 ^ 47
def evMm (mx : Bool) : AV→List AV→Option AV
 | x,[] => some x
 | .int k x,.int _ y :: r => evMm mx (.int k (if mx then (if y > x then y else x) else (if y < x then y else x))) r
 | _,_ => none
abbrev CallF:=Bool→Nat→List AV→Heap→Option (AV × Heap)
def evCall (F : CallF) (h : Mem) (f : AV) (args : List AV) : Option (AV × List Blk × List Nat) :=
 match f with
 | .fn f cap => match snaps h (args ++ cap) with
  | some as => match F false f as .nil with
   | some (r,_) => some (r,[],if refA r then reachL (reachG h 3) (args ++ cap) else [])
   | none => none
  | none => none
 | _ => none
def evQ (G : Nat→Option (List AV)) (F : CallF) (e : Env) (h : Mem) (p : Nat) : IOp→Option (AV × List Blk × List Nat)
 | .mov x => some (opd e x,[],[])
 | .pick c a b => match opd e c with
  | .bool t => some (if t then opd e a else opd e b,[],[])
  | _ => none
 | .bin op x y => (evBin op (opd e x) (opd e y)).map fun v => (v,[],[])
 | .eqb neg x y => match opd e x,opd e y with
  | .bool a,.bool b => some (.bool (if neg then a != b else a == b),[],[])
  | _,_ => none
 | .eqs neg ls x y => match opd e x,opd e y with
  | .agg a,.agg b => if (kindsA ls a && kindsA ls b) = true then (eqCells a b).map fun r => (.bool (if neg then !r else r),[],[]) else none
  | _,_ => none
 | .un op x => (evUn op (opd e x)).map fun v => (v,[],[])
 | .cvt k x => match opd e x with
  | .int _ n => some (.int k (k.wrap n),[],[])
  | _ => none
 | .ext x i => match opd e x with
  | .tup vs => (vs[i]?).map fun v => (v,[],[])
  | _ => none
 | .load agg n a => match rdAt G h n (opd e a) with
  | some cs => (one agg cs).map fun v => (v,[],[])
  | none => none
 | .alloc zero => some (.ptr p 0,[⟨zero,false⟩],[])
 | .box n x => if (cellsA (opd e x)).length = n∧(cellsA (opd e x)).all okCell = true then some (.ptr p 0,[⟨cellsA (opd e x),false⟩],[]) else none
 | .build zero ps => (fillA zero (ps.map fun (o,n,x) => (o,n,opd e x))).map fun cs => (.agg cs,[],[])
 | .bslice n sz zero ps => match fillA (repA n zero) (ps.map fun (o,n,x) => (o,n,opd e x)) with
  | some cs => if cs.all okCell = true then some (.own p 0 n sz,[⟨cs,false⟩],[]) else none
  | none => none
 | .faddr off x => match opd e x with
  | .ptr b o => some (.ptr b (o + off),[],[])
  | .iptr cs o => some (.iptr cs (o + off),[],[])
  | _ => none
 | .field agg off n x => match opd e x with
  | .agg cs => if off + n≤cs.length then (one agg ((cs.drop off).take n)).map fun v => (v,[],[]) else none
  | _ => none
 | .iaddr sz x i => match opd e i with
  | .int _ j => match opd e x with
   | .imm n cs => if 0≤j∧j < (n : Int)∧0 < sz∧cs.length = n * sz then some (.iptr cs (j.toNat * sz),[],[]) else none
   | .own b off n s => if 0≤j∧j < (n : Int)∧s = sz then some (.ptr b (off + j.toNat * sz),[],[]) else none
   | _ => none
  | _ => none
 | .iaddrA len sz x i => match opd e i with
  | .int _ j => if 0≤j∧j < (len : Int) then (match opd e x with
   | .ptr b off => some (.ptr b (off + j.toNat * sz),[],[])
   | .iptr cs off => some (.iptr cs (off + j.toNat * sz),[],[])
   | .gptr g off => some (.gptr g (off + j.toNat * sz),[],[])
   | _ => none) else none
  | _ => none
 | .index agg len sz x i => match opd e i with
  | .int _ j => match opd e x with
   | .agg cs => if 0≤j∧j < (len : Int)∧j.toNat * sz + sz≤cs.length then (one agg ((cs.drop (j.toNat * sz)).take sz)).map fun v => (v,[],[]) else none
   | _ => none
  | _ => none
 | .strix bs i => match opd e i with
  | .int _ j => if 0≤j then (bs[j.toNat]?).map fun (b : Nat) => (.int .u8 (b : Int),[],[]) else none
  | _ => none
 | .slice sz x lo hi => (evSlice h sz (opd e x) (lo.map (opd e)) (hi.map (opd e))).map fun v => (v,[],[])
 | .mk sz bytes zero l c => match opd e l,opd e c with
  | .int .i64 n,.int .i64 m => if 0≤n∧n≤m∧m * (bytes + 1)≤boundBytes then some (.own p 0 n.toNat sz,[⟨repA m.toNat zero,false⟩],[]) else none
  | _,_ => none
 | .len x => (lenA (opd e x)).map fun (n : Nat) => (.int .i64 (n : Int),[],[])
 | .mm mx x xs => (evMm mx (opd e x) (xs.map (opd e))).map fun v => (v,[],[])
 | .call false f args => evCall F h (opd e f) (args.map (opd e))
 | .mkfn f cap => some (.fn f (cap.map (opd e)),[],[])
 | .nck x => match opd e x with
  | .ptr b o => some (.ptr b o,[],[])
  | .iptr cs o => some (.iptr cs o,[],[])
  | .gptr g o => some (.gptr g o,[],[])
  | _ => none
 | .eqn neg x => match opd e x with
  | .np => some (.bool !neg,[],[])
  | .ptr _ _ => some (.bool neg,[],[])
  | .iptr _ _ => some (.bool neg,[],[])
  | .gptr _ _ => some (.bool neg,[],[])
  | _ => none
 | .fbin op k x y => (evFl op k (opd e x) (opd e y)).map fun v => (v,[],[])
 | .fcv s d x => (evFcv s d (opd e x)).map fun v => (v,[],[])
 | .store _ _ _ => none
 | .app _ _ _ _ => none
 | .call true _ _ => none
def evW (G : Nat→Option (List AV)) (F : CallF) (e : Env) (h : Heap) : IOp→Option (AV × Heap)
 | .store n a v => match opd e a with
  | .ptr b off => if (cellsA (opd e v)).length = n∧(cellsA (opd e v)).all okCell = true then (wrBlk h b off (cellsA (opd e v))).map fun h' => (.tup [],h') else none
  | _ => none
 | .app sz bytes x y => match sliceCells h.mem sz (opd e y) with
  | some (m,new) => match opd e x with
   | .nil => if m = 0 then some (.nil,h) else if m * bytes≤boundApp then some (.own h.b.length 0 m sz,⟨h.b ++ [⟨new,false⟩],h.f⟩) else none
   | .own b off n s => match h.b[b]? with
    | some k => if s = sz∧k.dead = false∧h.f.contains b = false∧off + n * sz≤k.cs.length∧(n + m) * bytes≤boundApp then
      some (.own h.b.length 0 (n + m) sz,⟨h.b.set b { k with dead:=true } ++ [⟨(k.cs.drop off).take (n * sz) ++ new,false⟩],h.f⟩) else none
    | none => none
   | _ => none
  | none => none
 | .call true f args => match opd e f with
  | .fn f cap => F true f (args.map (opd e) ++ cap) h
  | _ => none
 | _ => none
def evPrim (p : Prim) (e : Env) (h : Heap) : Option (AV × Heap) :=
 match p,e with
 | .b64,[(0,.fl .f64 b)] => some (.int .u64 (b : Int),h)
 | .of64,[(0,.int .u64 n)] => some (.fl .f64 n.toNat,h)
 | .b32,[(0,.fl .f32 b)] => some (.int .u32 (b : Int),h)
 | .of32,[(0,.int .u32 n)] => some (.fl .f32 n.toNat,h)
 | .sqrt,[(0,.fl .f64 x)] => some (flR .f64 (FloatKind.f64.format.sqrt x),h)
 | .sqrt,[(0,.nan .f64)] => some (.nan .f64,h)
 | .ald,[(0,.ptr b off)] => match rdBlk h.mem b off 1 with
  | some [.int .u64 n] => some (.int .u64 n,h)
  | _ => none
 | .aadd,[(0,.ptr b off),(1,.int .u64 d)] => match rdBlk h.mem b off 1 with
  | some [.int .u64 n] => (wrBlk h b off [.int .u64 (IntKind.u64.wrap (n + d))]).map fun h' => (.int .u64 (IntKind.u64.wrap (n + d)),h')
  | _ => none
 | _,_ => none
def primFn (p : Prim) : IFn:=⟨[.tmp 9],.prim p⟩
def isW : IOp→Bool
 | .store _ _ _ => true
 | .app _ _ _ _ => true
 | .call true _ _ => true
 | _ => false
def evOp (G : Nat→Option (List AV)) (F : CallF) (e : Env) (h : Heap) (o : IOp) : Option (AV × Heap) :=
 if isW o then evW G F e h o
 else (evQ G F e h.mem h.b.length o).map fun r => (r.1,⟨h.b ++ r.2.1,r.2.2 ++ h.f⟩)
def guardV (e : Env) : Option (Nat × Bool)→Option Bool
 | none => some true
 | some (t,want) => match getE e t with
  | .bool b => some (b == want)
  | .tup [] => some false
  | _ => none
def evOps (G : Nat→Option (List AV)) (F : CallF) : List IOper→Env→Heap→Option (Env × Heap)
 | [],e,h => some (e,h)
 | o :: os,e,h => match guardV e o.guard with
  | some true => match evOp G F e h o.op with
   | some (v,h') => evOps G F os (putE o.dst v e) h'
   | none => none
  | some false => evOps G F os (putE o.dst (.tup []) e) h
  | none => none
def apart : AV→AV→Bool
 | .ptr b _,.ptr c _ => b != c
 | .iptr _ _,.ptr _ _ => true
 | .gptr _ _,.ptr _ _ => true
 | _,_ => false
def chkOk (e : Env) (ops : List IOper) : List (Nat × Nat)→Bool
 | [] => true
 | (i,j) :: r => (match ops[i]?,ops[j]? with
  | some ⟨_,.load _ _ a,_⟩,some ⟨_,.store _ b _,_⟩ => apart (opd e a) (opd e b)
  | _,_ => false) && chkOk e ops r
def finT (keep : List Nat) (e : Env) (h : Heap) : Option (Env × Heap):=some (keepE keep e,h)
open Classical in
noncomputable def bothO {α : Type} (a b : Option α) : Option α:=a.bind fun x => b.bind fun y => if x = y then some x else none
noncomputable def evT (G : Nat→Option (List AV)) (F : CallF) (ops : List IOper) (fin : Env→Heap→Option (Env × Heap)) : OT→Env→Heap→Option (Env × Heap)
 | .done,e,h => fin e h
 | .no,_,_ => none
 | .op i t,e,h => match ops[i]? with
  | some o => (evOps G F [o] e h).bind fun r => evT G F ops fin t r.1 r.2
  | none => none
 | .alt a b,e,h => bothO (evT G F ops fin a e h) (evT G F ops fin b e h)
inductive Ex where
 | norm | ret
 | exit (id : Nat)
 deriving DecidableEq,Inhabited
def Ex.inBlock (id : Nat) : Ex→Ex
 | .exit j => if j = id then .norm else .exit j
 | x => x
def resOf (G : Nat→Option (List AV)) (e : Env) (h : Heap) : IRes→Option AV
 | .tmp t => some (getE e t)
 | .cell t agg n => match getE e t with
  | .ptr b off => match rdAt G h.mem n (.ptr b off) with
   | some cs => one agg cs
   | none => none
  | _ => none
def resL (G : Nat→Option (List AV)) (e : Env) (h : Heap) : List IRes→Option (List AV)
 | [] => some []
 | r :: rs => match resOf G e h r,resL G e h rs with
  | some a,some b => some (a :: b)
  | _,_ => none
def pack : List AV→AV
 | [v] => v
 | vs => .tup vs
def numE (n : Nat) : List AV→Env
 | [] => []
 | v :: vs => (n,v) :: numE (n + 1) vs
abbrev Tbl:=Nat→Option IFn
def callB (G : Nat→Option (List AV)) (T : Tbl) (ev : IC→Env→Heap→Option (Ex × Env × Heap)) : CallF:=fun inl f args h =>
 match T f with
 | none => none
 | some fn => match ev fn.body (numE 0 args) h with
  | some (.exit _,_,_) => none
  | some (_,e,h') => match resL G e h' fn.res with
   | some vs => if inl then some (pack vs,h') else (snap h'.mem (pack vs)).map fun r => (r,.nil)
   | none => none
  | none => none
noncomputable def ev (G : Nat→Option (List AV)) (T : Tbl) : Nat→IC→Env→Heap→Option (Ex × Env × Heap)
 | 0,_,_,_ => none
 | k + 1,c,e,h => match c with
  | .fail => none
  | .skip => some (.norm,e,h)
  | .ret => some (.ret,e,h)
  | .exit id => some (.exit id,e,h)
  | .reg ops keep chk => match evOps G (callB G T (ev G T k)) ops e h with
   | some (e',h') => if chkOk e' ops chk then some (.norm,keepE keep e',h') else none
   | none => none
  | .tree ops t keep => (evT G (callB G T (ev G T k)) ops (finT keep) t e h).map fun r => (.norm,r.1,r.2)
  | .seq a b => match ev G T k a e h with
   | some (.norm,e',h') => ev G T k b e' h'
   | r => r
  | .cond c a b => match opd e c with
   | .bool true => ev G T k a e h
   | .bool false => ev G T k b e h
   | _ => none
  | .block id a => match ev G T k a e h with
   | some (x,e',h') => some (x.inBlock id,e',h')
   | none => none
  | .prim p => (evPrim p e h).map fun r => (.norm,putE (some 9) r.1 e,r.2)
  | .loop keep a => match ev G T k a (keepE keep e) h with
   | some (.norm,e',h') => ev G T k (.loop keep a) e' h'
   | r => r
end Go.Cv
namespace Go.Cv
def LeO {α : Type} (a b : Option α) : Prop:=∀ r,a = some r→b = some r
theorem LeO.refl {α : Type} (a : Option α) : LeO a a:=fun _ h => h
theorem LeO.trans {α : Type} {a b c : Option α} (h : LeO a b) (k : LeO b c) : LeO a c:=fun r x => k r (h r x)
structure Sup {α : Type} (g : Nat→Option α) (s : Option α) : Prop where
 mono : ∀ k,LeO (g k) (g (k + 1))
 sup : ∀ r,s = some r↔∃ k,g k = some r
theorem ZpU {α : Type} {g : Nat→Option α} (h : ∀ k,LeO (g k) (g (k + 1))) {i j : Nat} (hij : i≤j) : LeO (g i) (g j):=by
 induction hij with
 | refl => exact LeO.refl _
 | step _ ih => exact ih.trans (h _)
open Classical in
noncomputable def lim {α : Type} (g : Nat→Option α) : Option α :=
 if h : ∃ r k,g k = some r then some h.choose else none
theorem ZDk {α : Type} {g : Nat→Option α} (h : ∀ k,LeO (g k) (g (k + 1))) : Sup g (lim g):=by
 refine ⟨h,fun r => ?_⟩
 unfold lim
 by_cases hx : ∃ r k,g k = some r
 ·rw [dif_pos hx]
  have hc:=hx.choose_spec
  obtain ⟨i,hi⟩:=hc
  constructor
  ·intro e; exact ⟨i,by rw [hi,← Option.some.inj e]⟩
  ·rintro ⟨j,hj⟩
   have a:=ZpU h (Nat.le_max_left i j) _ hi
   have b:=ZpU h (Nat.le_max_right i j) _ hj
   rw [a] at b; rw [Option.some.inj b]
 ·rw [dif_neg hx]
  constructor
  ·intro e; cases e
  ·rintro ⟨j,hj⟩; exact absurd ⟨r,j,hj⟩ hx
theorem Sup.eq {α : Type} {g : Nat→Option α} {s t : Option α} (h : Sup g s) (k : Sup g t) : s = t:=by
 cases s with
 | none =>
  cases t with
  | none => rfl
  | some r => have:=(h.sup r).2 ((k.sup r).1 rfl); cases this
 | some r => exact ((k.sup r).2 ((h.sup r).1 rfl)).symm
theorem Sup.const {α : Type} (s : Option α) : Sup (fun _ => s) s:=⟨fun _ => LeO.refl _,fun _ => ⟨fun h => ⟨0,h⟩,fun ⟨_,h⟩ => h⟩⟩
theorem Sup.shift {α : Type} {g : Nat→Option α} {s : Option α} (h : Sup g s) : Sup (fun k => g (k + 1)) s :=
 ⟨fun k => h.mono (k + 1),fun r => ⟨fun e => let ⟨k,hk⟩:=(h.sup r).1 e; ⟨k,h.mono k r hk⟩,fun ⟨k,hk⟩ => (h.sup r).2 ⟨k + 1,hk⟩⟩⟩
theorem Sup.unshift {α : Type} {g : Nat→Option α} {s : Option α} (h0 : g 0 = none) (h : Sup (fun k => g (k + 1)) s) : Sup g s :=
 ⟨fun k => by
  cases k with
  | zero => intro r e; rw [h0] at e; cases e
  | succ k => exact h.mono k,
  fun r => ⟨fun e => let ⟨k,hk⟩:=(h.sup r).1 e; ⟨k + 1,hk⟩,fun ⟨k,hk⟩ => by
  cases k with
  | zero => rw [h0] at hk; cases hk
  | succ k => exact (h.sup r).2 ⟨k,hk⟩⟩⟩
theorem Sup.bind {α β : Type} {g : Nat→Option α} {s : Option α} (hg : Sup g s) {f : α→Nat→Option β} {t : α→Option β} (hf : ∀ a,Sup (f a) (t a)) :
  Sup (fun k => (g k).bind fun a => f a k) (s.bind t):=by
 constructor
 ·intro k r e
  cases h : g k with
  | none => simp only [h,Option.bind_none] at e; cases e
  | some a =>
   simp only [h,Option.bind_some] at e
   show (g (k + 1)).bind _ = _
   rw [hg.mono k a h]
   exact (hf a).mono k r e
 ·intro r
  constructor
  ·intro e
   cases h : s with
   | none => simp only [h,Option.bind_none] at e; cases e
   | some a =>
    simp only [h,Option.bind_some] at e
    obtain ⟨i,hi⟩:=(hg.sup a).1 h
    obtain ⟨j,hj⟩:=((hf a).sup r).1 e
    refine ⟨max i j,?_⟩
    show (g (max i j)).bind _ = _
    rw [ZpU hg.mono (Nat.le_max_left i j) a hi]
    exact ZpU (hf a).mono (Nat.le_max_right i j) r hj
  ·rintro ⟨k,hk⟩
   cases h : g k with
   | none => simp only [h,Option.bind_none] at hk; cases hk
   | some a =>
    simp only [h,Option.bind_some] at hk
    rw [(hg.sup a).2 ⟨k,h⟩]
    exact ((hf a).sup r).2 ⟨k,hk⟩
def SupF (F : Nat→CallF) (S : CallF) : Prop:=∀ inl f args h,Sup (fun k => F k inl f args h) (S inl f args h)
theorem ZnC (F : CallF) (h : Mem) (f : AV) (args : List AV) : evCall F h f args =
  match f with
  | .fn f cap => (snaps h (args ++ cap)).bind fun as => (F false f as .nil).bind fun r => some (r.1,[],if refA r.1 then reachL (reachG h 3) (args ++ cap) else [])
  | _ => none:=by
 cases f <;> simp only [evCall]
 cases snaps h (args ++ _) with
 | none => rfl
 | some as =>
  show (match F false _ as .nil with | some (r,_) => _ | none => none) = (F false _ as .nil).bind _
  cases F false _ as .nil with
  | none => rfl
  | some r => rfl
theorem Zvn {F : Nat→CallF} {S : CallF} (hF : SupF F S) (h : Mem) (f : AV) (args : List AV) :
  Sup (fun k => evCall (F k) h f args) (evCall S h f args):=by
 simp only [ZnC]
 cases f
 case fn f cap => exact (Sup.const _).bind fun as => (hF false f as .nil).bind fun r => Sup.const _
 all_goals exact Sup.const _
theorem Sup.map {α β : Type} {g : Nat→Option α} {s : Option α} (h : Sup g s) (f : α→β) : Sup (fun k => (g k).map f) (s.map f):=by
 have:=h.bind (f:=fun a _ => some (f a)) (t:=fun a => some (f a)) fun a => Sup.const _
 simpa only [Option.map_eq_bind,Function.comp_def] using this
theorem ZDb {G : Nat→Option (List AV)} {F : Nat→CallF} {S : CallF} (hF : SupF F S) (e : Env) (h : Mem) (p : Nat) (o : IOp) :
  Sup (fun k => evQ G (F k) e h p o) (evQ G S e h p o):=by
 cases o
 case call inl f args =>
  cases inl
  ·exact Zvn hF h _ _
  ·exact Sup.const _
 all_goals exact Sup.const _
theorem ZDc {G : Nat→Option (List AV)} {F : Nat→CallF} {S : CallF} (hF : SupF F S) (e : Env) (h : Heap) (o : IOp) :
  Sup (fun k => evW G (F k) e h o) (evW G S e h o):=by
 cases o
 case call inl f args =>
  cases inl
  ·exact Sup.const _
  ·simp only [evW]
   cases opd e f
   case fn f cap => exact hF true f _ h
   all_goals exact Sup.const _
 all_goals exact Sup.const _
theorem ZzH {G : Nat→Option (List AV)} {F : Nat→CallF} {S : CallF} (hF : SupF F S) (e : Env) (h : Heap) (o : IOp) :
  Sup (fun k => evOp G (F k) e h o) (evOp G S e h o):=by
 unfold evOp
 split
 ·exact ZDc hF e h o
 ·exact (ZDb hF e _ _ o).map _
theorem ZhI (G : Nat→Option (List AV)) (F : CallF) (o : IOper) (os : List IOper) (e : Env) (h : Heap) : evOps G F (o :: os) e h =
  match guardV e o.guard with
  | some true => (evOp G F e h o.op).bind fun r => evOps G F os (putE o.dst r.1 e) r.2
  | some false => evOps G F os (putE o.dst (.tup []) e) h
  | none => none:=by
 simp only [evOps]
 cases guardV e o.guard with
 | none => rfl
 | some b =>
  cases b
  ·rfl
  ·show (match evOp G F e h o.op with | some (v,h') => _ | none => none) = _
   cases evOp G F e h o.op <;> rfl
theorem Zjp {G : Nat→Option (List AV)} {F : Nat→CallF} {S : CallF} (hF : SupF F S) : ∀ (os : List IOper) (e : Env) (h : Heap),
  Sup (fun k => evOps G (F k) os e h) (evOps G S os e h)
 | [],e,h => Sup.const _
 | o :: os,e,h => by
  simp only [ZhI]
  cases guardV e o.guard with
  | none => exact Sup.const _
  | some b =>
   cases b
   ·exact Zjp hF os _ _
   ·exact (ZzH hF e h o.op).bind fun r => Zjp hF os _ _
theorem ZnE {G : Nat→Option (List AV)} {F : Nat→CallF} {S : CallF} (hF : SupF F S) (ops : List IOper) (fin : Env→Heap→Option (Env × Heap)) : ∀ (t : OT) (e : Env) (h : Heap),
  Sup (fun k => evT G (F k) ops fin t e h) (evT G S ops fin t e h)
 | .done,e,h => Sup.const _
 | .no,e,h => Sup.const _
 | .op i t,e,h => by
  simp only [evT]
  cases ops[i]? with
  | none => exact Sup.const _
  | some o => exact (Zjp hF [o] e h).bind fun r => ZnE hF ops fin t r.1 r.2
 | .alt a b,e,h => by
  simp only [evT,bothO]
  exact (ZnE hF ops fin a e h).bind fun x => (ZnE hF ops fin b e h).bind fun y => Sup.const _
def SupE (E : Nat→IC→Env→Heap→Option (Ex × Env × Heap)) (S : IC→Env→Heap→Option (Ex × Env × Heap)) : Prop:=∀ c e h,Sup (fun k => E k c e h) (S c e h)
def callEnd (G : Nat→Option (List AV)) (fn : IFn) (inl : Bool) : Ex × Env × Heap→Option (AV × Heap)
 | (.exit _,_,_) => none
 | (_,e,h') => (resL G e h' fn.res).bind fun vs => if inl then some (pack vs,h') else (snap h'.mem (pack vs)).map fun r => (r,.nil)
theorem Zex (G : Nat→Option (List AV)) (T : Tbl) (E : IC→Env→Heap→Option (Ex × Env × Heap)) (inl : Bool) (f : Nat) (args : List AV) (h : Heap) :
  callB G T E inl f args h = (T f).bind fun fn => (E fn.body (numE 0 args) h).bind (callEnd G fn inl):=by
 unfold callB
 cases T f with
 | none => rfl
 | some fn =>
  simp only [Option.bind_some]
  cases E fn.body (numE 0 args) h with
  | none => rfl
  | some r =>
   obtain ⟨x,e,h'⟩:=r
   simp only [Option.bind_some]
   cases x <;> simp only [callEnd] <;> cases resL G e h' fn.res <;> rfl
theorem Znm {G : Nat→Option (List AV)} {T : Tbl} {E : Nat→IC→Env→Heap→Option (Ex × Env × Heap)} {S : IC→Env→Heap→Option (Ex × Env × Heap)} (hE : SupE E S) :
  SupF (fun k => callB G T (E k)) (callB G T S):=by
 intro inl f args h
 simp only [Zex]
 exact (Sup.const _).bind fun fn => (hE _ _ _).bind fun r => Sup.const _
def thenB (nx : Env→Heap→Option (Ex × Env × Heap)) : Ex × Env × Heap→Option (Ex × Env × Heap)
 | (.norm,e,h) => nx e h
 | r => some r
variable (G : Nat→Option (List AV)) (T : Tbl)
theorem Ztw (k : Nat) (a b : IC) (e : Env) (h : Heap) : ev G T (k + 1) (.seq a b) e h = (ev G T k a e h).bind (thenB (ev G T k b)):=by
 show (match ev G T k a e h with | some (.norm,e',h') => ev G T k b e' h' | r => r) = _
 cases ev G T k a e h with
 | none => rfl
 | some r => obtain ⟨x,e,h'⟩:=r; cases x <;> rfl
theorem ZpF (k : Nat) (l : List Nat) (a : IC) (e : Env) (h : Heap) :
  ev G T (k + 1) (.loop l a) e h = (ev G T k a (keepE l e) h).bind (thenB (ev G T k (.loop l a))):=by
 show (match ev G T k a (keepE l e) h with | some (.norm,e',h') => ev G T k (.loop l a) e' h' | r => r) = _
 cases ev G T k a (keepE l e) h with
 | none => rfl
 | some r => obtain ⟨x,e,h'⟩:=r; cases x <;> rfl
theorem ZmN (k : Nat) (id : Nat) (a : IC) (e : Env) (h : Heap) :
  ev G T (k + 1) (.block id a) e h = (ev G T k a e h).bind fun r => some (r.1.inBlock id,r.2.1,r.2.2):=by
 show (match ev G T k a e h with | some (x,e',h') => some (x.inBlock id,e',h') | none => none) = _
 cases ev G T k a e h with
 | none => rfl
 | some r => rfl
theorem Ztv (k : Nat) (ops : List IOper) (l : List Nat) (chk : List (Nat × Nat)) (e : Env) (h : Heap) :
  ev G T (k + 1) (.reg ops l chk) e h = (evOps G (callB G T (ev G T k)) ops e h).bind fun r => if chkOk r.1 ops chk then some (.norm,keepE l r.1,r.2) else none:=by
 show (match evOps G (callB G T (ev G T k)) ops e h with | some (e',h') => if chkOk e' ops chk then some (Ex.norm,keepE l e',h') else none | none => none) = _
 cases evOps G (callB G T (ev G T k)) ops e h with
 | none => rfl
 | some r => rfl
theorem ZpG (k : Nat) (ops : List IOper) (t : OT) (l : List Nat) (e : Env) (h : Heap) :
  ev G T (k + 1) (.tree ops t l) e h = (evT G (callB G T (ev G T k)) ops (finT l) t e h).map fun r => (.norm,r.1,r.2):=rfl
theorem ZpE (k : Nat) (c : IOpd) (a b : IC) (e : Env) (h : Heap) :
  ev G T (k + 1) (.cond c a b) e h = match opd e c with | .bool t => if t then ev G T k a e h else ev G T k b e h | _ => none:=by
 show (match opd e c with | .bool true => ev G T k a e h | .bool false => ev G T k b e h | _ => none) = _
 cases opd e c <;> try rfl
 case bool t => cases t <;> rfl
theorem ZwY : ∀ (k : Nat) (c : IC) (e : Env) (h : Heap),LeO (ev G T k c e h) (ev G T (k + 1) c e h)
 | 0,c,e,h => fun r x => by cases x
 | k + 1,c,e,h => by
  have ih:=ZwY k
  have bnd : ∀ {α β : Type} {g g' : Option α} {f f' : α→Option β},LeO g g'→(∀ a,LeO (f a) (f' a))→LeO (g.bind f) (g'.bind f'):=by
   intro α β g g' f f' hg hf r e
   cases hx : g with
   | none => rw [hx] at e; cases e
   | some a => rw [hx] at e; rw [hg a hx]; exact hf a r e
  cases c with
  | fail => exact LeO.refl _
  | skip => exact LeO.refl _
  | ret => exact LeO.refl _
  | exit id => exact LeO.refl _
  | seq a b =>
   rw [Ztw,Ztw]
   refine bnd (ih a e h) fun r => ?_
   obtain ⟨x,e,h'⟩:=r
   cases x <;> first | exact ih b _ _ | exact LeO.refl _
  | loop l a =>
   rw [ZpF,ZpF]
   refine bnd (ih a _ h) fun r => ?_
   obtain ⟨x,e,h'⟩:=r
   cases x <;> first | exact ih _ _ _ | exact LeO.refl _
  | block id a =>
   rw [ZmN,ZmN]
   exact bnd (ih a e h) fun r => LeO.refl _
  | cond c a b =>
   rw [ZpE,ZpE]
   cases opd e c <;> try exact LeO.refl _
   case bool t => cases t <;> first | exact ih a e h | exact ih b e h
  | reg ops l chk =>
   rw [Ztv,Ztv]
   refine bnd ?_ fun r => LeO.refl _
   -- a chain of two: as a chain without end
   let E : Nat→IC→Env→Heap→Option (Ex × Env × Heap):=fun n => if n = 0 then ev G T k else ev G T (k + 1)
   have hE : SupE E (ev G T (k + 1)):=fun c e h => ⟨fun n => by
    cases n with
    | zero => exact ih c e h
    | succ n => exact LeO.refl _,fun r => ⟨fun x => ⟨1,x⟩,fun ⟨n,x⟩ => by
     cases n with
     | zero => exact ih c e h r x
     | succ n => exact x⟩⟩
   exact (Zjp (Znm hE) ops e h).mono 0
  | prim p => exact LeO.refl _
  | tree ops t l =>
   rw [ZpG,ZpG]
   let E : Nat→IC→Env→Heap→Option (Ex × Env × Heap):=fun n => if n = 0 then ev G T k else ev G T (k + 1)
   have hE : SupE E (ev G T (k + 1)):=fun c e h => ⟨fun n => by
    cases n with
    | zero => exact ih c e h
    | succ n => exact LeO.refl _,fun r => ⟨fun x => ⟨1,x⟩,fun ⟨n,x⟩ => by
     cases n with
     | zero => exact ih c e h r x
     | succ n => exact x⟩⟩
   exact ((ZnE (Znm hE) ops (finT l) t e h).map _).mono 0
noncomputable def evL (c : IC) (e : Env) (h : Heap) : Option (Ex × Env × Heap):=lim fun k => ev G T k c e h
theorem ZiE : SupE (ev G T) (evL G T):=fun c e h => ZDk fun k => ZwY G T k c e h
noncomputable def CF : CallF:=callB G T (evL G T)
theorem ZvJ : SupF (fun k => callB G T (ev G T k)) (CF G T):=Znm (ZiE G T)
noncomputable def run (f : Nat) (args : List AV) : Option AV:=(CF G T false f args .nil).map (·.1)
theorem Zjo {c : IC} {e : Env} {h : Heap} {s : Option (Ex × Env × Heap)} (hs : Sup (fun k => ev G T (k + 1) c e h) s) : evL G T c e h = s :=
 (ZiE G T c e h).eq (Sup.unshift rfl hs)
theorem Ztr (e : Env) (h : Heap) : evL G T .fail e h = none:=Zjo G T (Sup.const _)
theorem Zts (e : Env) (h : Heap) : evL G T .skip e h = some (.norm,e,h):=Zjo G T (Sup.const _)
theorem Zse (e : Env) (h : Heap) : evL G T .ret e h = some (.ret,e,h):=Zjo G T (Sup.const _)
theorem Ztq (id : Nat) (e : Env) (h : Heap) : evL G T (.exit id) e h = some (.exit id,e,h):=Zjo G T (Sup.const _)
theorem ZCZ (a b : IC) (e : Env) (h : Heap) : evL G T (.seq a b) e h = (evL G T a e h).bind (thenB (evL G T b)):=by
 refine Zjo G T ?_
 simp only [Ztw]
 refine (ZiE G T a e h).bind fun r => ?_
 obtain ⟨x,e,h'⟩:=r
 cases x <;> first | exact ZiE G T b _ _ | exact Sup.const _
theorem ZzF (l : List Nat) (a : IC) (e : Env) (h : Heap) : evL G T (.loop l a) e h = (evL G T a (keepE l e) h).bind (thenB (evL G T (.loop l a))):=by
 refine Zjo G T ?_
 simp only [ZpF]
 refine (ZiE G T a _ h).bind fun r => ?_
 obtain ⟨x,e,h'⟩:=r
 cases x <;> first | exact ZiE G T _ _ _ | exact Sup.const _
theorem ZwU (id : Nat) (a : IC) (e : Env) (h : Heap) : evL G T (.block id a) e h = (evL G T a e h).bind fun r => some (r.1.inBlock id,r.2.1,r.2.2):=by
 refine Zjo G T ?_
 simp only [ZmN]
 exact (ZiE G T a e h).bind fun r => Sup.const _
theorem ZzE (c : IOpd) (a b : IC) (e : Env) (h : Heap) :
  evL G T (.cond c a b) e h = match opd e c with | .bool t => if t then evL G T a e h else evL G T b e h | _ => none:=by
 refine Zjo G T ?_
 simp only [ZpE]
 cases opd e c <;> try exact Sup.const _
 case bool t => cases t <;> first | exact ZiE G T a e h | exact ZiE G T b e h
theorem ZwV (ops : List IOper) (l : List Nat) (chk : List (Nat × Nat)) (e : Env) (h : Heap) :
  evL G T (.reg ops l chk) e h = (evOps G (CF G T) ops e h).bind fun r => if chkOk r.1 ops chk then some (.norm,keepE l r.1,r.2) else none:=by
 refine Zjo G T ?_
 simp only [Ztv]
 exact (Zjp (ZvJ G T) ops e h).bind fun r => Sup.const _
theorem ZzG (ops : List IOper) (t : OT) (l : List Nat) (e : Env) (h : Heap) :
  evL G T (.tree ops t l) e h = (evT G (CF G T) ops (finT l) t e h).map fun r => (.norm,r.1,r.2):=by
 refine Zjo G T ?_
 simp only [ZpG]
 exact (ZnE (ZvJ G T) ops (finT l) t e h).map _
theorem ZiD (p : Prim) (e : Env) (h : Heap) : evL G T (.prim p) e h = (evPrim p e h).map fun r => (.norm,putE (some 9) r.1 e,r.2):=Zjo G T (Sup.const _)
theorem ZBM (f : Nat) (args : List AV) : run G T f args =
  (T f).bind fun fn => (evL G T fn.body (numE 0 args) .nil).bind fun r => (callEnd G fn false r).map (·.1):=by
 unfold run CF
 rw [Zex]
 cases T f with
 | none => rfl
 | some fn => simp only [Option.bind_some]; cases evL G T fn.body (numE 0 args) .nil <;> rfl
theorem Zzh (f : Nat) (args : List AV) : CF G T false f args .nil = (run G T f args).map fun r => (r,.nil):=by
 rw [ZBM]
 unfold CF
 rw [Zex]
 cases T f with
 | none => rfl
 | some fn =>
  simp only [Option.bind_some]
  cases evL G T fn.body (numE 0 args) .nil with
  | none => rfl
  | some r =>
   obtain ⟨x,e,h'⟩:=r
   simp only [Option.bind_some]
   cases x <;> simp only [callEnd] <;> (try rfl)
   all_goals
    cases resL G e h' fn.res with
    | none => rfl
    | some vs =>
     simp only [Option.bind_some,Bool.false_eq_true,if_false]
     cases snap h'.mem (pack vs) <;> rfl
theorem ZvK (f : Nat) (args : List AV) (h : Heap) : CF G T true f args h =
  (T f).bind fun fn => (evL G T fn.body (numE 0 args) h).bind (callEnd G fn true):=by
 unfold CF; rw [Zex]
theorem Zvm (h : Mem) (f : Nat) (cap args : List AV) : evCall (CF G T) h (.fn f cap) args =
  (snaps h (args ++ cap)).bind fun as => (run G T f as).bind fun r => some (r,[],if refA r then reachL (reachG h 3) (args ++ cap) else []):=by
 rw [ZnC]
 simp only
 cases snaps h (args ++ cap) with
 | none => rfl
 | some as =>
  simp only [Option.bind_some]
  rw [Zzh]
  cases run G T f as <;> rfl
end Go.Cv
