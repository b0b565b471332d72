/-
 A part of the proof of the statements of this seat (texts that the law's own text leans on): no condition.
-/
import Derived.Calls
import Derived.KernelRfl
set_option linter.unusedVariables false
set_option linter.unusedSimpArgs false
namespace Go.Cv
inductive AV where
 | undef
 | int (k : IntKind) (n : Int)
 | bool (b : Bool)
 | fl (k : FloatKind) (bits : Nat)
 | nil
 | imm (n : Nat) (cs : List AV)
 | own (b off n sz : Nat)
 | ptr (b off : Nat)
 | iptr (cs : List AV) (off : Nat)
 | gptr (g off : Nat)
 | agg (cs : List AV)
 | tup (vs : List AV)
 | fn (f : Nat) (cap : List AV)
 | np
 | nf
 | nan (k : FloatKind)
 | yv
 deriving Inhabited
structure Blk where
 cs : List AV
 dead : Bool:=false
 deriving Inhabited
structure Heap where
 b : List Blk
 f : List Nat
 deriving Inhabited
abbrev Mem:=Nat→Option Blk
def Heap.mem (h : Heap) : Mem:=fun b => h.b[b]?
def Heap.nil : Heap:=⟨[],[]⟩
abbrev Env:=List (Nat × AV)
def getE : Env→Nat→AV
 | [],_ => .undef
 | (t,v) :: e,s => if s = t then v else getE e s
def putE (d : Option Nat) (v : AV) (e : Env) : Env :=
 match d with
 | none => e
 | some t => (t,v) :: e
def keepE (l : List Nat) (e : Env) : Env:=l.map fun t => (t,getE e t)
inductive IOpd where
 | t (n : Nat)
 | c (v : AV)
 | g (n : Nat)
 | f (n : Nat)
 deriving Inhabited
def opd (e : Env) : IOpd→AV
 | .t n => getE e n
 | .c v => v
 | .g n => .gptr n 0
 | .f n => .fn n []
inductive IOp where
 | mov (x : IOpd)
 | pick (c a b : IOpd)
 | bin (op : BinOp) (x y : IOpd)
 | eqb (neg : Bool) (x y : IOpd)
 | eqs (neg : Bool) (leaves : List Bool) (x y : IOpd)
 | un (op : UnOp) (x : IOpd)
 | cvt (k : IntKind) (x : IOpd)
 | ext (x : IOpd) (i : Nat)
 | load (agg : Bool) (n : Nat) (a : IOpd)
 | store (n : Nat) (a v : IOpd)
 | alloc (zero : List AV)
 | box (n : Nat) (x : IOpd)
 | build (zero : List AV) (parts : List (Nat × Nat × IOpd))
 | bslice (n sz : Nat) (zero : List AV) (parts : List (Nat × Nat × IOpd))
 | faddr (off : Nat) (x : IOpd)
 | field (agg : Bool) (off n : Nat) (x : IOpd)
 | iaddr (sz : Nat) (x i : IOpd)
 | iaddrA (len sz : Nat) (x i : IOpd)
 | index (agg : Bool) (len sz : Nat) (x i : IOpd)
 | strix (bs : List Nat) (i : IOpd)
 | slice (sz : Nat) (x : IOpd) (lo hi : Option IOpd)
 | mk (sz bytes : Nat) (zero : List AV) (l c : IOpd)
 | len (x : IOpd)
 | mm (mx : Bool) (x : IOpd) (xs : List IOpd)
 | app (sz bytes : Nat) (x y : IOpd)
 | call (inl : Bool) (f : IOpd) (args : List IOpd)
 | mkfn (f : Nat) (cap : List IOpd)
 deriving Inhabited
structure IOper where
 dst : Option Nat
 op : IOp
 guard : Option (Nat × Bool):=none
 deriving Inhabited
inductive IC where
 | fail
 | skip
 | ret
 | exit (id : Nat)
 | reg (ops : List IOper) (keep : List Nat) (chk : List (Nat × Nat))
 | seq (a b : IC)
 | cond (c : IOpd) (a b : IC)
 | block (id : Nat) (a : IC)
 | loop (keep : List Nat) (a : IC)
 | rangeF (g : IOpd) (ps : List Nat) (a b : IC)
 deriving Inhabited
inductive IRes where
 | tmp (t : Nat)
 | cell (t : Nat) (agg : Bool) (n : Nat)
 deriving Inhabited
structure IFn where
 res : List IRes
 body : IC
 deriving Inhabited
def cellsA : AV→List AV
 | .agg cs => cs
 | v => [v]
def okCell : AV→Bool
 | .undef | .agg _ | .tup _ | .yv => false
 | _ => true
def cellV (v : AV) : AV:=if okCell v = true then v else .undef
def arI (op : BinOp) (k : IntKind) (x y : Int) : Option AV :=
 match op with
 | .add => some (.int k (k.wrap (x + y)))
 | .sub => some (.int k (k.wrap (x - y)))
 | .mul => some (.int k (k.wrap (x * y)))
 | .quo => if y = 0 then none else some (.int k (k.wrap (x.tdiv y)))
 | .rem => if y = 0 then none else some (.int k (x.tmod y))
 | .and => some (.int k (k.wrap (BitVec.ofInt k.bits x &&& BitVec.ofInt k.bits y).toNat))
 | .or => some (.int k (k.wrap (BitVec.ofInt k.bits x ||| BitVec.ofInt k.bits y).toNat))
 | .xor => some (.int k (k.wrap (BitVec.ofInt k.bits x ^^^ BitVec.ofInt k.bits y).toNat))
 | .andNot => some (.int k (k.wrap (BitVec.ofInt k.bits x &&& ~~~BitVec.ofInt k.bits y).toNat))
 | .eql => some (.bool (x == y))
 | .neq => some (.bool (x != y))
 | .lss => some (.bool (decide (x < y)))
 | .leq => some (.bool (decide (x≤y)))
 | .gtr => some (.bool (decide (x > y)))
 | .geq => some (.bool (decide (x ≥ y)))
 | _ => none
def shI (op : BinOp) (k : IntKind) (x y : Int) : Option AV :=
 if y < 0 then none else
 match op with
 | .shl => some (.int k (k.wrap (x * 2 ^ (min y.toNat k.bits))))
 | .shr => some (.int k (x.fdiv (2 ^ (min y.toNat k.bits))))
 | _ => none
def isSh : BinOp→Bool
 | .shl | .shr => true
 | _ => false
def evBin (op : BinOp) : AV→AV→Option AV
 | .int k x,.int k' y => if isSh op then shI op k x y else if k = k' then arI op k x y else none
 | _,_ => none
def evUn (op : UnOp) : AV→Option AV
 | .int k n =>
  match op with
  | .neg => some (.int k (k.wrap (0 - n)))
  | .xor => some (.int k (k.wrap (BitVec.ofInt k.bits (if k.signed then -1 else k.max) ^^^ BitVec.ofInt k.bits n).toNat))
  | _ => none
 | .bool b => match op with
  | .not => some (.bool !b)
  | _ => none
 | _ => none
def eqCells : List AV→List AV→Option Bool
 | [],[] => some true
 | .int k x :: a,.int k' y :: b => if k = k' then (eqCells a b).map fun r => (x == y) && r else none
 | .bool x :: a,.bool y :: b => (eqCells a b).map fun r => (x == y) && r
 | _,_ => none
def kindsA : List Bool→List AV→Bool
 | [],[] => true
 | false :: ls,.int _ _ :: a => kindsA ls a
 | true :: ls,.bool _ :: a => kindsA ls a
 | _,_ => false
def rdBlk (h : Mem) (b off n : Nat) : Option (List AV) :=
 match h b with
 | some k => if k.dead then none else if off + n≤k.cs.length then some ((k.cs.drop off).take n) else none
 | none => none
def rdAt (G : Nat→Option (List AV)) (h : Mem) (n : Nat) : AV→Option (List AV)
 | .ptr b off => rdBlk h b off n
 | .iptr cs off => if off + n≤cs.length then some ((cs.drop off).take n) else none
 | .gptr g off => match G g with
  | some cs => if off + n≤cs.length then some ((cs.drop off).take n) else none
  | none => none
 | _ => none
def one (agg : Bool) (cs : List AV) : Option AV :=
 if agg then some (.agg cs) else match cs with
  | [v] => some v
  | _ => none
def setAt (cs : List AV) (off : Nat) : List AV→List AV
 | [] => cs
 | v :: vs => setAt (cs.set off v) (off + 1) vs
def wrBlk (h : Heap) (b off : Nat) (vs : List AV) : Option Heap :=
 match h.b[b]? with
 | some k => if k.dead = false∧h.f.contains b = false∧off + vs.length≤k.cs.length then some ⟨h.b.set b { k with cs:=setAt k.cs off vs },h.f⟩ else none
 | none => none
def fillA (cs : List AV) : List (Nat × Nat × AV)→Option (List AV)
 | [] => some cs
 | (off,n,v) :: r => if (cellsA v).length = n∧(cellsA v).all okCell = true∧off + n≤cs.length then fillA (setAt cs off (cellsA v)) r else none
def repA (n : Nat) (z : List AV) : List AV:=(List.replicate n z).flatten
def sliceCells (h : Mem) (sz : Nat) : AV→Option (Nat × List AV)
 | .nil => some (0,[])
 | .imm n cs => if cs.length = n * sz then some (n,cs) else none
 | .own b off n s => if s = sz then (rdBlk h b off (n * sz)).map fun cs => (n,cs) else none
 | _ => none
def lenA : AV→Option Nat
 | .nil => some 0
 | .imm n _ => some n
 | .own _ _ n _ => some n
 | _ => none
def capA (h : Mem) : AV→Option Nat
 | .nil => some 0
 | .imm n _ => some n
 | .own b off n sz => match h b with
  | some k => if k.dead then none else some (if sz = 0 then n else max n ((k.cs.length - off) / sz))
  | none => none
 | _ => none
def bound (d : Nat) : Option AV→Option Int
 | none => some (d : Int)
 | some (.int _ n) => some n
 | some _ => none
def evSlice (h : Mem) (sz : Nat) (x : AV) (lo hi : Option AV) : Option AV :=
 match lenA x,capA h x with
 | some n,some c =>
  match bound 0 lo,bound n hi with
  | some l,some u =>
   if 0≤l∧l≤u∧u≤(c : Int) then
    match x with
    | .nil => some .nil
    | .imm _ cs => if cs.length = n * sz then some (.imm (u - l).toNat ((cs.drop (l.toNat * sz)).take ((u - l).toNat * sz))) else none
    | .own b off _ s => if s = sz∧(l = 0∨l < (c : Int)) then some (.own b (off + l.toNat * sz) (u - l).toNat sz) else none
    | _ => none
   else none
  | _,_ => none
 | _,_ => none
def snapA (g : Nat→Nat→Nat→Nat→Option AV) : AV→Option AV
 | .own b off n sz => g b off n sz
 | .agg cs => (go cs).map .agg
 | .tup cs => (go cs).map .tup
 | .fn f cs => (go cs).map (.fn f)
 | .imm n cs => some (.imm n cs)
 | .int k n => some (.int k n)
 | .bool b => some (.bool b)
 | .fl k b => some (.fl k b)
 | .nil => some .nil
 | .np => some .np
 | .nf => some .nf
 | .nan k => some (.nan k)
 | _ => none
 where
 go : List AV→Option (List AV)
  | [] => some []
  | v :: vs => match snapA g v,go vs with
   | some a,some b => some (a :: b)
   | _,_ => none
def snapL (g : Nat→Nat→Nat→Nat→Option AV) : List AV→Option (List AV)
 | [] => some []
 | v :: vs => match snapA g v,snapL g vs with
  | some a,some b => some (a :: b)
  | _,_ => none
def snapG (h : Mem) : Nat→Nat→Nat→Nat→Nat→Option AV
 | 0,_,_,_,_ => none
 | d + 1,b,off,n,sz => match rdBlk h b off (n * sz) with
  | some cs => (snapL (snapG h d) cs).map (.imm n)
  | none => none
def snap (h : Mem) (v : AV) : Option AV:=snapA (snapG h 3) v
def snaps (h : Mem) (vs : List AV) : Option (List AV):=snapL (snapG h 3) vs
def refA : AV→Bool
 | .imm _ _ => true
 | .agg cs => go cs
 | .tup cs => go cs
 | .fn _ cs => go cs
 | .int _ _ => false
 | .bool _ => false
 | .fl _ _ => false
 | .nil => false
 | .np => false
 | .nf => false
 | .nan _ => false
 | _ => true
 where
 go : List AV→Bool
  | [] => false
  | v :: vs => refA v || go vs
def reachA (g : Nat→List Nat) : AV→List Nat
 | .own b _ _ _ => g b
 | .agg cs => go cs
 | .tup cs => go cs
 | .fn _ cs => go cs
 | _ => []
 where
 go : List AV→List Nat
  | [] => []
  | v :: vs => reachA g v ++ go vs
def reachL (g : Nat→List Nat) : List AV→List Nat
 | [] => []
 | v :: vs => reachA g v ++ reachL g vs
def reachG (h : Mem) : Nat→Nat→List Nat
 | 0,b => [b]
 | d + 1,b => b :: match h b with
  | some k => reachL (reachG h d) k.cs
  | none => []
def boundBytes : Nat:=2 ^ 46
def boundApp : Nat:=2 ^ 47
def evMm (mx : Bool) : AV→List AV→Option AV
 | x,[] => some x
 | .int k x,.int _ y :: r => evMm mx (.int k (if mx then (if y > x then y else x) else (if y < x then y else x))) r
 | _,_ => none
abbrev CallF:=Bool→Nat→List AV→Heap→Option (AV × Heap)
def evCall (F : CallF) (h : Mem) (f : AV) (args : List AV) : Option (AV × List Blk × List Nat) :=
 match f with
 | .fn f cap => match snaps h (args ++ cap) with
  | some as => match F false f as .nil with
   | some (r,_) => some (r,[],if refA r then reachL (reachG h 3) (args ++ cap) else [])
   | none => none
  | none => none
 | _ => none
def evQ (G : Nat→Option (List AV)) (F : CallF) (e : Env) (h : Mem) (p : Nat) : IOp→Option (AV × List Blk × List Nat)
 | .mov x => some (opd e x,[],[])
 | .pick c a b => match opd e c with
  | .bool t => some (if t then opd e a else opd e b,[],[])
  | _ => none
 | .bin op x y => (evBin op (opd e x) (opd e y)).map fun v => (v,[],[])
 | .eqb neg x y => match opd e x,opd e y with
  | .bool a,.bool b => some (.bool (if neg then a != b else a == b),[],[])
  | _,_ => none
 | .eqs neg ls x y => match opd e x,opd e y with
  | .agg a,.agg b => if (kindsA ls a && kindsA ls b) = true then (eqCells a b).map fun r => (.bool (if neg then !r else r),[],[]) else none
  | _,_ => none
 | .un op x => (evUn op (opd e x)).map fun v => (v,[],[])
 | .cvt k x => match opd e x with
  | .int _ n => some (.int k (k.wrap n),[],[])
  | _ => none
 | .ext x i => match opd e x with
  | .tup vs => (vs[i]?).map fun v => (v,[],[])
  | _ => none
 | .load agg n a => match rdAt G h n (opd e a) with
  | some cs => (one agg cs).map fun v => (v,[],[])
  | none => none
 | .alloc zero => some (.ptr p 0,[⟨zero,false⟩],[])
 | .box n x => if (cellsA (opd e x)).length = n∧(cellsA (opd e x)).all okCell = true then some (.ptr p 0,[⟨cellsA (opd e x),false⟩],[]) else none
 | .build zero ps => (fillA zero (ps.map fun (o,n,x) => (o,n,opd e x))).map fun cs => (.agg cs,[],[])
 | .bslice n sz zero ps => match fillA (repA n zero) (ps.map fun (o,n,x) => (o,n,opd e x)) with
  | some cs => if cs.all okCell = true then some (.own p 0 n sz,[⟨cs,false⟩],[]) else none
  | none => none
 | .faddr off x => match opd e x with
  | .ptr b o => some (.ptr b (o + off),[],[])
  | .iptr cs o => some (.iptr cs (o + off),[],[])
  | _ => none
 | .field agg off n x => match opd e x with
  | .agg cs => if off + n≤cs.length then (one agg ((cs.drop off).take n)).map fun v => (v,[],[]) else none
  | _ => none
 | .iaddr sz x i => match opd e i with
  | .int _ j => match opd e x with
   | .imm n cs => if 0≤j∧j < (n : Int)∧0 < sz∧cs.length = n * sz then some (.iptr cs (j.toNat * sz),[],[]) else none
   | .own b off n s => if 0≤j∧j < (n : Int)∧s = sz then some (.ptr b (off + j.toNat * sz),[],[]) else none
   | _ => none
  | _ => none
 | .iaddrA len sz x i => match opd e i with
  | .int _ j => if 0≤j∧j < (len : Int) then (match opd e x with
   | .ptr b off => some (.ptr b (off + j.toNat * sz),[],[])
   | .iptr cs off => some (.iptr cs (off + j.toNat * sz),[],[])
   | .gptr g off => some (.gptr g (off + j.toNat * sz),[],[])
   | _ => none) else none
  | _ => none
 | .index agg len sz x i => match opd e i with
  | .int _ j => match opd e x with
   | .agg cs => if 0≤j∧j < (len : Int)∧j.toNat * sz + sz≤cs.length then (one agg ((cs.drop (j.toNat * sz)).take sz)).map fun v => (v,[],[]) else none
   | _ => none
  | _ => none
 | .strix bs i => match opd e i with
  | .int _ j => if 0≤j then (bs[j.toNat]?).map fun (b : Nat) => (.int .u8 (b : Int),[],[]) else none
  | _ => none
 | .slice sz x lo hi => (evSlice h sz (opd e x) (lo.map (opd e)) (hi.map (opd e))).map fun v => (v,[],[])
 | .mk sz bytes zero l c => match opd e l,opd e c with
  | .int .i64 n,.int .i64 m => if 0≤n∧n≤m∧m * (bytes + 1)≤boundBytes then some (.own p 0 n.toNat sz,[⟨repA m.toNat zero,false⟩],[]) else none
  | _,_ => none
 | .len x => (lenA (opd e x)).map fun (n : Nat) => (.int .i64 (n : Int),[],[])
 | .mm mx x xs => (evMm mx (opd e x) (xs.map (opd e))).map fun v => (v,[],[])
 | .call false f args => evCall F h (opd e f) (args.map (opd e))
 | .mkfn f cap => some (.fn f ((cap.map (opd e)).map cellV),[],[])
 | .store _ _ _ => none
 | .app _ _ _ _ => none
 | .call true _ _ => none
def evW (G : Nat→Option (List AV)) (F : CallF) (e : Env) (h : Heap) : IOp→Option (AV × Heap)
 | .store n a v => match opd e a with
  | .ptr b off => if (cellsA (opd e v)).length = n∧(cellsA (opd e v)).all okCell = true then (wrBlk h b off (cellsA (opd e v))).map fun h' => (.tup [],h') else none
  | _ => none
 | .app sz bytes x y => match sliceCells h.mem sz (opd e y) with
  | some (m,new) => match opd e x with
   | .nil => if m = 0 then some (.nil,h) else if m * bytes≤boundApp then some (.own h.b.length 0 m sz,⟨h.b ++ [⟨new,false⟩],h.f⟩) else none
   | .own b off n s => match h.b[b]? with
    | some k => if s = sz∧k.dead = false∧h.f.contains b = false∧off + n * sz≤k.cs.length∧(n + m) * bytes≤boundApp then
      some (.own h.b.length 0 (n + m) sz,⟨h.b.set b { k with dead:=true } ++ [⟨(k.cs.drop off).take (n * sz) ++ new,false⟩],h.f⟩) else none
    | none => none
   | _ => none
  | none => none
 | .call true f args => match opd e f with
  | .fn f cap => F true f (args.map (opd e) ++ cap) h
  | .yv => F true 0 (args.map (opd e)) h
  | _ => none
 | _ => none
def isW : IOp→Bool
 | .store _ _ _ => true
 | .app _ _ _ _ => true
 | .call true _ _ => true
 | _ => false
def evOp (G : Nat→Option (List AV)) (F : CallF) (e : Env) (h : Heap) (o : IOp) : Option (AV × Heap) :=
 if isW o then evW G F e h o
 else (evQ G F e h.mem h.b.length o).map fun r => (r.1,⟨h.b ++ r.2.1,r.2.2 ++ h.f⟩)
def guardV (e : Env) : Option (Nat × Bool)→Option Bool
 | none => some true
 | some (t,want) => match getE e t with
  | .bool b => some (b == want)
  | .tup [] => some false
  | _ => none
def evOps (G : Nat→Option (List AV)) (F : CallF) : List IOper→Env→Heap→Option (Env × Heap)
 | [],e,h => some (e,h)
 | o :: os,e,h => match guardV e o.guard with
  | some true => match evOp G F e h o.op with
   | some (v,h') => evOps G F os (putE o.dst v e) h'
   | none => none
  | some false => evOps G F os (putE o.dst (.tup []) e) h
  | none => none
def apart : AV→AV→Bool
 | .ptr b _,.ptr c _ => b != c
 | .iptr _ _,.ptr _ _ => true
 | .gptr _ _,.ptr _ _ => true
 | _,_ => false
def chkOk (e : Env) (ops : List IOper) : List (Nat × Nat)→Bool
 | [] => true
 | (i,j) :: r => (match ops[i]?,ops[j]? with
  | some ⟨_,.load _ _ a,_⟩,some ⟨_,.store _ b _,_⟩ => apart (opd e a) (opd e b)
  | _,_ => false) && chkOk e ops r
inductive Ex where
 | norm | ret
 | exit (id : Nat)
 deriving DecidableEq,Inhabited
def Ex.inBlock (id : Nat) : Ex→Ex
 | .exit j => if j = id then .norm else .exit j
 | x => x
def resOf (G : Nat→Option (List AV)) (e : Env) (h : Heap) : IRes→Option AV
 | .tmp t => some (getE e t)
 | .cell t agg n => match getE e t with
  | .ptr b off => match rdAt G h.mem n (.ptr b off) with
   | some cs => one agg cs
   | none => none
  | _ => none
def resL (G : Nat→Option (List AV)) (e : Env) (h : Heap) : List IRes→Option (List AV)
 | [] => some []
 | r :: rs => match resOf G e h r,resL G e h rs with
  | some a,some b => some (a :: b)
  | _,_ => none
def pack : List AV→AV
 | [v] => v
 | vs => .tup vs
def numE (n : Nat) : List AV→Env
 | [] => []
 | v :: vs => (n,v) :: numE (n + 1) vs
abbrev Tbl:=Nat→Option IFn
abbrev XF:=List AV→Heap→Option (AV × Heap)
def noX : XF:=fun _ _ => none
def callB (G : Nat→Option (List AV)) (T : Tbl) (X : XF) (ev : IC→Env→Heap→Option (Ex × Env × Heap)) : CallF:=fun inl f args h =>
 match T f with
 | none => if f = 0∧inl = true then X args h else none
 | some fn => match ev fn.body (numE 0 args) h with
  | some (.exit _,_,_) => none
  | some (_,e,h') => match resL G e h' fn.res with
   | some vs => if inl then some (pack vs,h') else (snap h'.mem (pack vs)).map fun r => (r,.nil)
   | none => none
  | none => none
def setPs : List Nat→List AV→Env→Env
 | p :: ps,v :: vs,e => setPs ps vs (putE (some p) v e)
 | _,_,e => e
def okV (v : AV) : Bool:=(cellsA v).all okCell
def roundB (E : IC→Env→Heap→Option (Ex × Env × Heap)) (ps : List Nat) (c : IC) (e : Env) : XF:=fun args h =>
 if args.length = ps.length∧args.all okV = true then (E c (setPs ps args e) h).bind fun r => match r with
  | (.norm,_,h') => some (.bool true,h')
  | _ => none
 else none
def endF (e : Env) : Ex × Env × Heap→Option (Ex × Env × Heap)
 | (.exit _,_,_) => none
 | (_,_,h') => some (.norm,e,h')
noncomputable def ev (G : Nat→Option (List AV)) (T : Tbl) : Nat→XF→IC→Env→Heap→Option (Ex × Env × Heap)
 | 0,_,_,_,_ => none
 | k + 1,X,c,e,h => match c with
  | .fail => none
  | .skip => some (.norm,e,h)
  | .ret => some (.ret,e,h)
  | .exit id => some (.exit id,e,h)
  | .reg ops keep chk => match evOps G (callB G T X (ev G T k noX)) ops e h with
   | some (e',h') => if chkOk e' ops chk then some (.norm,keepE keep e',h') else none
   | none => none
  | .seq a b => match ev G T k X a e h with
   | some (.norm,e',h') => ev G T k X b e' h'
   | r => r
  | .cond c a b => match opd e c with
   | .bool true => ev G T k X a e h
   | .bool false => ev G T k X b e h
   | _ => none
  | .block id a => match ev G T k X a e h with
   | some (x,e',h') => some (x.inBlock id,e',h')
   | none => none
  | .loop keep a => match ev G T k X a (keepE keep e) h with
   | some (.norm,e',h') => ev G T k X (.loop keep a) e' h'
   | r => r
  | .rangeF g ps a b => match opd e g with
   | .fn f cap => (T f).bind fun fn => if fn.res.isEmpty = true then (ev G T k (roundB (ev G T k noX) ps (.seq a b) e) fn.body (numE 0 (.yv :: cap)) h).bind (endF e) else none
   | _ => none
end Go.Cv
namespace Go.Cv
def LeO {α : Type} (a b : Option α) : Prop:=∀ r,a = some r→b = some r
theorem LeO.refl {α : Type} (a : Option α) : LeO a a:=fun _ h => h
theorem LeO.trans {α : Type} {a b c : Option α} (h : LeO a b) (k : LeO b c) : LeO a c:=fun r x => k r (h r x)
structure Sup {α : Type} (g : Nat→Option α) (s : Option α) : Prop where
 mono : ∀ k,LeO (g k) (g (k + 1))
 sup : ∀ r,s = some r↔∃ k,g k = some r
theorem ZoN {α : Type} {g : Nat→Option α} (h : ∀ k,LeO (g k) (g (k + 1))) {i j : Nat} (hij : i≤j) : LeO (g i) (g j):=by
 induction hij with
 | refl => exact LeO.refl _
 | step _ ih => exact ih.trans (h _)
open Classical in
noncomputable def lim {α : Type} (g : Nat→Option α) : Option α :=
 if h : ∃ r k,g k = some r then some h.choose else none
theorem ZER {α : Type} {g : Nat→Option α} (h : ∀ k,LeO (g k) (g (k + 1))) : Sup g (lim g):=by
 refine ⟨h,fun r => ?_⟩
 unfold lim
 by_cases hx : ∃ r k,g k = some r
 ·rw [dif_pos hx]
  have hc:=hx.choose_spec
  obtain ⟨i,hi⟩:=hc
  constructor
  ·intro e; exact ⟨i,by rw [hi,← Option.some.inj e]⟩
  ·rintro ⟨j,hj⟩
   have a:=ZoN h (Nat.le_max_left i j) _ hi
   have b:=ZoN h (Nat.le_max_right i j) _ hj
   rw [a] at b; rw [Option.some.inj b]
 ·rw [dif_neg hx]
  constructor
  ·intro e; cases e
  ·rintro ⟨j,hj⟩; exact absurd ⟨r,j,hj⟩ hx
theorem Sup.eq {α : Type} {g : Nat→Option α} {s t : Option α} (h : Sup g s) (k : Sup g t) : s = t:=by
 cases s with
 | none =>
  cases t with
  | none => rfl
  | some r => have:=(h.sup r).2 ((k.sup r).1 rfl); cases this
 | some r => exact ((k.sup r).2 ((h.sup r).1 rfl)).symm
theorem Sup.const {α : Type} (s : Option α) : Sup (fun _ => s) s:=⟨fun _ => LeO.refl _,fun _ => ⟨fun h => ⟨0,h⟩,fun ⟨_,h⟩ => h⟩⟩
theorem Sup.unshift {α : Type} {g : Nat→Option α} {s : Option α} (h0 : g 0 = none) (h : Sup (fun k => g (k + 1)) s) : Sup g s :=
 ⟨fun k => by
  cases k with
  | zero => intro r e; rw [h0] at e; cases e
  | succ k => exact h.mono k,
  fun r => ⟨fun e => let ⟨k,hk⟩:=(h.sup r).1 e; ⟨k + 1,hk⟩,fun ⟨k,hk⟩ => by
  cases k with
  | zero => rw [h0] at hk; cases hk
  | succ k => exact (h.sup r).2 ⟨k,hk⟩⟩⟩
theorem Sup.bind {α β : Type} {g : Nat→Option α} {s : Option α} (hg : Sup g s) {f : α→Nat→Option β} {t : α→Option β} (hf : ∀ a,Sup (f a) (t a)) :
  Sup (fun k => (g k).bind fun a => f a k) (s.bind t):=by
 constructor
 ·intro k r e
  cases h : g k with
  | none => simp only [h,Option.bind_none] at e; cases e
  | some a =>
   simp only [h,Option.bind_some] at e
   show (g (k + 1)).bind _ = _
   rw [hg.mono k a h]
   exact (hf a).mono k r e
 ·intro r
  constructor
  ·intro e
   cases h : s with
   | none => simp only [h,Option.bind_none] at e; cases e
   | some a =>
    simp only [h,Option.bind_some] at e
    obtain ⟨i,hi⟩:=(hg.sup a).1 h
    obtain ⟨j,hj⟩:=((hf a).sup r).1 e
    refine ⟨max i j,?_⟩
    show (g (max i j)).bind _ = _
    rw [ZoN hg.mono (Nat.le_max_left i j) a hi]
    exact ZoN (hf a).mono (Nat.le_max_right i j) r hj
  ·rintro ⟨k,hk⟩
   cases h : g k with
   | none => simp only [h,Option.bind_none] at hk; cases hk
   | some a =>
    simp only [h,Option.bind_some] at hk
    rw [(hg.sup a).2 ⟨k,h⟩]
    exact ((hf a).sup r).2 ⟨k,hk⟩
def SupF (F : Nat→CallF) (S : CallF) : Prop:=∀ inl f args h,Sup (fun k => F k inl f args h) (S inl f args h)
theorem Zqq (F : CallF) (h : Mem) (f : AV) (args : List AV) : evCall F h f args =
  match f with
  | .fn f cap => (snaps h (args ++ cap)).bind fun as => (F false f as .nil).bind fun r => some (r.1,[],if refA r.1 then reachL (reachG h 3) (args ++ cap) else [])
  | _ => none:=by
 cases f <;> simp only [evCall]
 cases snaps h (args ++ _) with
 | none => rfl
 | some as =>
  show (match F false _ as .nil with | some (r,_) => _ | none => none) = (F false _ as .nil).bind _
  cases F false _ as .nil with
  | none => rfl
  | some r => rfl
theorem ZxH {F : Nat→CallF} {S : CallF} (hF : SupF F S) (h : Mem) (f : AV) (args : List AV) :
  Sup (fun k => evCall (F k) h f args) (evCall S h f args):=by
 simp only [Zqq]
 cases f
 case fn f cap => exact (Sup.const _).bind fun as => (hF false f as .nil).bind fun r => Sup.const _
 all_goals exact Sup.const _
theorem Sup.map {α β : Type} {g : Nat→Option α} {s : Option α} (h : Sup g s) (f : α→β) : Sup (fun k => (g k).map f) (s.map f):=by
 have:=h.bind (f:=fun a _ => some (f a)) (t:=fun a => some (f a)) fun a => Sup.const _
 simpa only [Option.map_eq_bind,Function.comp_def] using this
theorem ZEx {G : Nat→Option (List AV)} {F : Nat→CallF} {S : CallF} (hF : SupF F S) (e : Env) (h : Mem) (p : Nat) (o : IOp) :
  Sup (fun k => evQ G (F k) e h p o) (evQ G S e h p o):=by
 cases o
 case call inl f args =>
  cases inl
  ·exact ZxH hF h _ _
  ·exact Sup.const _
 all_goals exact Sup.const _
theorem ZEy {G : Nat→Option (List AV)} {F : Nat→CallF} {S : CallF} (hF : SupF F S) (e : Env) (h : Heap) (o : IOp) :
  Sup (fun k => evW G (F k) e h o) (evW G S e h o):=by
 cases o
 case call inl f args =>
  cases inl
  ·exact Sup.const _
  ·simp only [evW]
   cases opd e f
   case fn f cap => exact hF true f _ h
   case yv => exact hF true 0 _ h
   all_goals exact Sup.const _
 all_goals exact Sup.const _
theorem ZBl {G : Nat→Option (List AV)} {F : Nat→CallF} {S : CallF} (hF : SupF F S) (e : Env) (h : Heap) (o : IOp) :
  Sup (fun k => evOp G (F k) e h o) (evOp G S e h o):=by
 unfold evOp
 split
 ·exact ZEy hF e h o
 ·exact (ZEx hF e _ _ o).map _
theorem Zmy (G : Nat→Option (List AV)) (F : CallF) (o : IOper) (os : List IOper) (e : Env) (h : Heap) : evOps G F (o :: os) e h =
  match guardV e o.guard with
  | some true => (evOp G F e h o.op).bind fun r => evOps G F os (putE o.dst r.1 e) r.2
  | some false => evOps G F os (putE o.dst (.tup []) e) h
  | none => none:=by
 simp only [evOps]
 cases guardV e o.guard with
 | none => rfl
 | some b =>
  cases b
  ·rfl
  ·show (match evOp G F e h o.op with | some (v,h') => _ | none => none) = _
   cases evOp G F e h o.op <;> rfl
theorem ZlB {G : Nat→Option (List AV)} {F : Nat→CallF} {S : CallF} (hF : SupF F S) : ∀ (os : List IOper) (e : Env) (h : Heap),
  Sup (fun k => evOps G (F k) os e h) (evOps G S os e h)
 | [],e,h => Sup.const _
 | o :: os,e,h => by
  simp only [Zmy]
  cases guardV e o.guard with
  | none => exact Sup.const _
  | some b =>
   cases b
   ·exact ZlB hF os _ _
   ·exact (ZBl hF e h o.op).bind fun r => ZlB hF os _ _
def SupE (E : Nat→IC→Env→Heap→Option (Ex × Env × Heap)) (S : IC→Env→Heap→Option (Ex × Env × Heap)) : Prop:=∀ c e h,Sup (fun k => E k c e h) (S c e h)
def callEnd (G : Nat→Option (List AV)) (fn : IFn) (inl : Bool) : Ex × Env × Heap→Option (AV × Heap)
 | (.exit _,_,_) => none
 | (_,e,h') => (resL G e h' fn.res).bind fun vs => if inl then some (pack vs,h') else (snap h'.mem (pack vs)).map fun r => (r,.nil)
theorem Znh (G : Nat→Option (List AV)) (T : Tbl) (X : XF) (E : IC→Env→Heap→Option (Ex × Env × Heap)) (inl : Bool) (f : Nat) (args : List AV) (h : Heap) :
  callB G T X E inl f args h = match T f with
   | none => if f = 0∧inl = true then X args h else none
   | some fn => (E fn.body (numE 0 args) h).bind (callEnd G fn inl):=by
 unfold callB
 cases T f with
 | none => rfl
 | some fn =>
  simp only
  cases E fn.body (numE 0 args) h with
  | none => rfl
  | some r =>
   obtain ⟨x,e,h'⟩:=r
   simp only [Option.bind_some]
   cases x <;> simp only [callEnd] <;> cases resL G e h' fn.res <;> rfl
theorem Zxz (G : Nat→Option (List AV)) {T : Tbl} (X : XF) (E : IC→Env→Heap→Option (Ex × Env × Heap)) (inl : Bool) {f : Nat} {fn : IFn} (hT : T f = some fn) (args : List AV) (h : Heap) :
  callB G T X E inl f args h = (E fn.body (numE 0 args) h).bind (callEnd G fn inl):=by rw [Znh,hT]
theorem ZoH (G : Nat→Option (List AV)) (T : Tbl) (E : IC→Env→Heap→Option (Ex × Env × Heap)) (inl : Bool) (f : Nat) (args : List AV) (h : Heap) :
  callB G T noX E inl f args h = (T f).bind fun fn => (E fn.body (numE 0 args) h).bind (callEnd G fn inl):=by
 rw [Znh]
 cases T f with
 | none => simp only [noX,ite_self]; rfl
 | some fn => rfl
def SupX (Xk : Nat→XF) (X : XF) : Prop:=∀ args h,Sup (fun k => Xk k args h) (X args h)
theorem SupX.const (X : XF) : SupX (fun _ => X) X:=fun _ _ => Sup.const _
theorem Zqd {G : Nat→Option (List AV)} {T : Tbl} {Xk : Nat→XF} {X : XF} (hX : SupX Xk X) {E : Nat→IC→Env→Heap→Option (Ex × Env × Heap)} {S : IC→Env→Heap→Option (Ex × Env × Heap)} (hE : SupE E S) :
  SupF (fun k => callB G T (Xk k) (E k)) (callB G T X S):=by
 intro inl f args h
 simp only [Znh]
 cases T f with
 | none =>
  simp only
  split
  ·exact hX args h
  ·exact Sup.const _
 | some fn => exact (hE _ _ _).bind fun r => Sup.const _
theorem ZrX {E : Nat→IC→Env→Heap→Option (Ex × Env × Heap)} {S : IC→Env→Heap→Option (Ex × Env × Heap)} (hE : SupE E S) (ps : List Nat) (c : IC) (e : Env) : SupX (fun k => roundB (E k) ps c e) (roundB S ps c e):=by
 intro args h
 by_cases hl : args.length = ps.length∧args.all okV = true
 ·simp only [roundB,if_pos hl]
  exact (hE _ _ _).bind fun r => Sup.const _
 ·simp only [roundB,if_neg hl]
  exact Sup.const _
def thenB (nx : Env→Heap→Option (Ex × Env × Heap)) : Ex × Env × Heap→Option (Ex × Env × Heap)
 | (.norm,e,h) => nx e h
 | r => some r
variable (G : Nat→Option (List AV)) (T : Tbl)
theorem ZrQ (k : Nat) (X : XF) (a b : IC) (e : Env) (h : Heap) : ev G T (k + 1) X (.seq a b) e h = (ev G T k X a e h).bind (thenB (ev G T k X b)):=by
 show (match ev G T k X a e h with | some (.norm,e',h') => ev G T k X b e' h' | r => r) = _
 cases ev G T k X a e h with
 | none => rfl
 | some r => obtain ⟨x,e,h'⟩:=r; cases x <;> rfl
theorem Zqs (k : Nat) (X : XF) (l : List Nat) (a : IC) (e : Env) (h : Heap) :
  ev G T (k + 1) X (.loop l a) e h = (ev G T k X a (keepE l e) h).bind (thenB (ev G T k X (.loop l a))):=by
 show (match ev G T k X a (keepE l e) h with | some (.norm,e',h') => ev G T k X (.loop l a) e' h' | r => r) = _
 cases ev G T k X a (keepE l e) h with
 | none => rfl
 | some r => obtain ⟨x,e,h'⟩:=r; cases x <;> rfl
theorem ZnS (k : Nat) (X : XF) (id : Nat) (a : IC) (e : Env) (h : Heap) :
  ev G T (k + 1) X (.block id a) e h = (ev G T k X a e h).bind fun r => some (r.1.inBlock id,r.2.1,r.2.2):=by
 show (match ev G T k X a e h with | some (x,e',h') => some (x.inBlock id,e',h') | none => none) = _
 cases ev G T k X a e h with
 | none => rfl
 | some r => rfl
theorem ZtU (k : Nat) (X : XF) (ops : List IOper) (l : List Nat) (chk : List (Nat × Nat)) (e : Env) (h : Heap) :
  ev G T (k + 1) X (.reg ops l chk) e h = (evOps G (callB G T X (ev G T k noX)) ops e h).bind fun r => if chkOk r.1 ops chk then some (.norm,keepE l r.1,r.2) else none:=by
 show (match evOps G (callB G T X (ev G T k noX)) ops e h with | some (e',h') => if chkOk e' ops chk then some (Ex.norm,keepE l e',h') else none | none => none) = _
 cases evOps G (callB G T X (ev G T k noX)) ops e h with
 | none => rfl
 | some r => rfl
theorem Zqr (k : Nat) (X : XF) (c : IOpd) (a b : IC) (e : Env) (h : Heap) :
  ev G T (k + 1) X (.cond c a b) e h = match opd e c with | .bool t => if t then ev G T k X a e h else ev G T k X b e h | _ => none:=by
 show (match opd e c with | .bool true => ev G T k X a e h | .bool false => ev G T k X b e h | _ => none) = _
 cases opd e c <;> try rfl
 case bool t => cases t <;> rfl
theorem ZnT (k : Nat) (X : XF) (g : IOpd) (ps : List Nat) (a b : IC) (e : Env) (h : Heap) :
  ev G T (k + 1) X (.rangeF g ps a b) e h = match opd e g with
   | .fn f cap => (T f).bind fun fn => if fn.res.isEmpty = true then (ev G T k (roundB (ev G T k noX) ps (.seq a b) e) fn.body (numE 0 (.yv :: cap)) h).bind (endF e) else none
   | _ => none:=rfl
theorem ZoK {Xk : Nat→XF} {X : XF} (hX : SupX Xk X) : ∀ (k : Nat),SupE (fun j => ev G T k (Xk j)) (ev G T k X)
 | 0,c,e,h => Sup.const _
 | k + 1,c,e,h => by
  have ih:=ZoK hX k
  have hE : SupE (fun _ => ev G T k noX) (ev G T k noX):=fun _ _ _ => Sup.const _
  cases c with
  | fail => exact Sup.const _
  | skip => exact Sup.const _
  | ret => exact Sup.const _
  | exit id => exact Sup.const _
  | seq a b =>
   simp only [ZrQ]
   refine (ih a e h).bind fun r => ?_
   obtain ⟨x,e,h'⟩:=r
   cases x <;> first | exact ih b _ _ | exact Sup.const _
  | loop l a =>
   simp only [Zqs]
   refine (ih a _ h).bind fun r => ?_
   obtain ⟨x,e,h'⟩:=r
   cases x <;> first | exact ih _ _ _ | exact Sup.const _
  | block id a =>
   simp only [ZnS]
   exact (ih a e h).bind fun r => Sup.const _
  | cond c a b =>
   simp only [Zqr]
   cases opd e c <;> try exact Sup.const _
   case bool t => cases t <;> first | exact ih a e h | exact ih b e h
  | reg ops l chk =>
   simp only [ZtU]
   exact (ZlB (Zqd hX hE) ops e h).bind fun r => Sup.const _
  | rangeF g ps a b => exact Sup.const _
theorem ZAy {E E' : IC→Env→Heap→Option (Ex × Env × Heap)} (ih : ∀ c e h,LeO (E c e h) (E' c e h)) : SupE (fun n => if n = 0 then E else E') E':=fun c e h => ⟨fun n => by
  cases n with
  | zero => exact ih c e h
  | succ n => exact LeO.refl _,fun r => ⟨fun x => ⟨1,x⟩,fun ⟨n,x⟩ => by
   cases n with
   | zero => exact ih c e h r x
   | succ n => exact x⟩⟩
theorem ZlC : ∀ (k : Nat) (X : XF) (c : IC) (e : Env) (h : Heap),LeO (ev G T k X c e h) (ev G T (k + 1) X c e h)
 | 0,X,c,e,h => fun r x => by cases x
 | k + 1,X,c,e,h => by
  have ih:=ZlC k X
  have ih0:=ZlC k noX
  have bnd : ∀ {α β : Type} {g g' : Option α} {f f' : α→Option β},LeO g g'→(∀ a,LeO (f a) (f' a))→LeO (g.bind f) (g'.bind f'):=by
   intro α β g g' f f' hg hf r e
   cases hx : g with
   | none => rw [hx] at e; cases e
   | some a => rw [hx] at e; rw [hg a hx]; exact hf a r e
  cases c with
  | fail => exact LeO.refl _
  | skip => exact LeO.refl _
  | ret => exact LeO.refl _
  | exit id => exact LeO.refl _
  | seq a b =>
   rw [ZrQ,ZrQ]
   refine bnd (ih a e h) fun r => ?_
   obtain ⟨x,e,h'⟩:=r
   cases x <;> first | exact ih b _ _ | exact LeO.refl _
  | loop l a =>
   rw [Zqs,Zqs]
   refine bnd (ih a _ h) fun r => ?_
   obtain ⟨x,e,h'⟩:=r
   cases x <;> first | exact ih _ _ _ | exact LeO.refl _
  | block id a =>
   rw [ZnS,ZnS]
   exact bnd (ih a e h) fun r => LeO.refl _
  | cond c a b =>
   rw [Zqr,Zqr]
   cases opd e c <;> try exact LeO.refl _
   case bool t => cases t <;> first | exact ih a e h | exact ih b e h
  | reg ops l chk =>
   rw [ZtU,ZtU]
   refine bnd ?_ fun r => LeO.refl _
   exact (ZlB (Zqd (SupX.const X) (ZAy ih0)) ops e h).mono 0
  | rangeF g ps a b =>
   rw [ZnT,ZnT]
   cases opd e g <;> try exact LeO.refl _
   case fn f cap =>
    simp only
    refine bnd (LeO.refl _) fun fn => ?_
    by_cases hq : fn.res.isEmpty = true
    ·rw [if_pos hq,if_pos hq]
     refine bnd ?_ fun r => LeO.refl _
     have h1:=(ZoK G T (ZrX (ZAy ih0) ps (.seq a b) e) k fn.body (numE 0 (.yv :: cap)) h).mono 0
     exact LeO.trans h1 (ZlC k _ _ _ _)
    ·rw [if_neg hq]; exact fun r q => by cases q
noncomputable def evX (X : XF) (c : IC) (e : Env) (h : Heap) : Option (Ex × Env × Heap):=lim fun k => ev G T k X c e h
theorem ZjA (X : XF) : SupE (fun k => ev G T k X) (evX G T X):=fun c e h => ZER fun k => ZlC G T k X c e h
theorem ZBo {Xk : Nat→XF} {X : XF} (hX : SupX Xk X) : SupE (fun k => ev G T k (Xk k)) (evX G T X):=fun c e h => by
 constructor
 ·intro k
  exact ((ZoK G T hX k c e h).mono k).trans (ZlC G T k _ c e h)
 ·intro r
  rw [(ZjA G T X c e h).sup r]
  constructor
  ·rintro ⟨k,hk⟩
   obtain ⟨j,hj⟩:=((ZoK G T hX k c e h).sup r).1 hk
   refine ⟨max k j,?_⟩
   have h1:=ZoN (ZoK G T hX k c e h).mono (Nat.le_max_right k j) r hj
   exact ZoN (fun i => ZlC G T i (Xk (max k j)) c e h) (Nat.le_max_left k j) r h1
  ·rintro ⟨k,hk⟩
   exact ⟨k,((ZoK G T hX k c e h).sup r).2 ⟨k,hk⟩⟩
noncomputable def evL (c : IC) (e : Env) (h : Heap) : Option (Ex × Env × Heap):=evX G T noX c e h
theorem ZyQ : SupE (fun k => ev G T k noX) (evL G T):=ZjA G T noX
noncomputable def CFX (X : XF) : CallF:=callB G T X (evL G T)
noncomputable def CF : CallF:=callB G T noX (evL G T)
theorem Zyd (X : XF) : SupF (fun k => callB G T X (ev G T k noX)) (CFX G T X):=Zqd (SupX.const X) (ZyQ G T)
theorem ZGq : SupF (fun k => callB G T noX (ev G T k noX)) (CF G T):=Zyd G T noX
noncomputable def run (f : Nat) (args : List AV) : Option AV:=(CF G T false f args .nil).map (·.1)
theorem ZmV {X : XF} {c : IC} {e : Env} {h : Heap} {s : Option (Ex × Env × Heap)} (hs : Sup (fun k => ev G T (k + 1) X c e h) s) : evX G T X c e h = s :=
 (ZjA G T X c e h).eq (Sup.unshift rfl hs)
section
variable (X : XF)
theorem ZBq (e : Env) (h : Heap) : evX G T X .fail e h = none:=ZmV G T (Sup.const _)
theorem Zwq (e : Env) (h : Heap) : evX G T X .skip e h = some (.norm,e,h):=ZmV G T (Sup.const _)
theorem ZyU (e : Env) (h : Heap) : evX G T X .ret e h = some (.ret,e,h):=ZmV G T (Sup.const _)
theorem ZBp (id : Nat) (e : Env) (h : Heap) : evX G T X (.exit id) e h = some (.exit id,e,h):=ZmV G T (Sup.const _)
theorem ZyV (a b : IC) (e : Env) (h : Heap) : evX G T X (.seq a b) e h = (evX G T X a e h).bind (thenB (evX G T X b)):=by
 refine ZmV G T ?_
 simp only [ZrQ]
 refine (ZjA G T X a e h).bind fun r => ?_
 obtain ⟨x,e,h'⟩:=r
 cases x <;> first | exact ZjA G T X b _ _ | exact Sup.const _
theorem Zwp (l : List Nat) (a : IC) (e : Env) (h : Heap) : evX G T X (.loop l a) e h = (evX G T X a (keepE l e) h).bind (thenB (evX G T X (.loop l a))):=by
 refine ZmV G T ?_
 simp only [Zqs]
 refine (ZjA G T X a _ h).bind fun r => ?_
 obtain ⟨x,e,h'⟩:=r
 cases x <;> first | exact ZjA G T X _ _ _ | exact Sup.const _
theorem ZtT (id : Nat) (a : IC) (e : Env) (h : Heap) : evX G T X (.block id a) e h = (evX G T X a e h).bind fun r => some (r.1.inBlock id,r.2.1,r.2.2):=by
 refine ZmV G T ?_
 simp only [ZnS]
 exact (ZjA G T X a e h).bind fun r => Sup.const _
theorem Zwo (c : IOpd) (a b : IC) (e : Env) (h : Heap) :
  evX G T X (.cond c a b) e h = match opd e c with | .bool t => if t then evX G T X a e h else evX G T X b e h | _ => none:=by
 refine ZmV G T ?_
 simp only [Zqr]
 cases opd e c <;> try exact Sup.const _
 case bool t => cases t <;> first | exact ZjA G T X a e h | exact ZjA G T X b e h
theorem ZyT (ops : List IOper) (l : List Nat) (chk : List (Nat × Nat)) (e : Env) (h : Heap) :
  evX G T X (.reg ops l chk) e h = (evOps G (CFX G T X) ops e h).bind fun r => if chkOk r.1 ops chk then some (.norm,keepE l r.1,r.2) else none:=by
 refine ZmV G T ?_
 simp only [ZtU]
 exact (ZlB (Zyd G T X) ops e h).bind fun r => Sup.const _
theorem ZxJ (g : IOpd) (ps : List Nat) (a b : IC) (e : Env) (h : Heap) :
  evX G T X (.rangeF g ps a b) e h = match opd e g with
   | .fn f cap => (T f).bind fun fn => if fn.res.isEmpty = true then (evX G T (roundB (evL G T) ps (.seq a b) e) fn.body (numE 0 (.yv :: cap)) h).bind (endF e) else none
   | _ => none:=by
 refine ZmV G T ?_
 simp only [ZnT]
 cases opd e g <;> try exact Sup.const _
 case fn f cap =>
  simp only
  refine (Sup.const _).bind fun fn => ?_
  by_cases hq : fn.res.isEmpty = true
  ·simp only [if_pos hq]; exact (ZBo G T (ZrX (ZyQ G T) ps (.seq a b) e) _ _ _).bind fun r => Sup.const _
  ·simp only [if_neg hq]; exact Sup.const _
end
theorem ZBi (e : Env) (h : Heap) : evL G T .fail e h = none:=ZBq G T noX e h
theorem ZBk (e : Env) (h : Heap) : evL G T .skip e h = some (.norm,e,h):=Zwq G T noX e h
theorem ZyP (e : Env) (h : Heap) : evL G T .ret e h = some (.ret,e,h):=ZyU G T noX e h
theorem ZBh (id : Nat) (e : Env) (h : Heap) : evL G T (.exit id) e h = some (.exit id,e,h):=ZBp G T noX id e h
theorem ZEv (a b : IC) (e : Env) (h : Heap) : evL G T (.seq a b) e h = (evL G T a e h).bind (thenB (evL G T b)):=ZyV G T noX a b e h
theorem ZBj (l : List Nat) (a : IC) (e : Env) (h : Heap) : evL G T (.loop l a) e h = (evL G T a (keepE l e) h).bind (thenB (evL G T (.loop l a))):=Zwp G T noX l a e h
theorem ZyN (id : Nat) (a : IC) (e : Env) (h : Heap) : evL G T (.block id a) e h = (evL G T a e h).bind fun r => some (r.1.inBlock id,r.2.1,r.2.2):=ZtT G T noX id a e h
theorem ZBg (c : IOpd) (a b : IC) (e : Env) (h : Heap) :
  evL G T (.cond c a b) e h = match opd e c with | .bool t => if t then evL G T a e h else evL G T b e h | _ => none:=Zwo G T noX c a b e h
theorem ZyO (ops : List IOper) (l : List Nat) (chk : List (Nat × Nat)) (e : Env) (h : Heap) :
  evL G T (.reg ops l chk) e h = (evOps G (CF G T) ops e h).bind fun r => if chkOk r.1 ops chk then some (.norm,keepE l r.1,r.2) else none:=ZyT G T noX ops l chk e h
theorem ZxI (g : IOpd) (ps : List Nat) (a b : IC) (e : Env) (h : Heap) :
  evL G T (.rangeF g ps a b) e h = match opd e g with
   | .fn f cap => (T f).bind fun fn => if fn.res.isEmpty = true then (evX G T (roundB (evL G T) ps (.seq a b) e) fn.body (numE 0 (.yv :: cap)) h).bind (endF e) else none
   | _ => none:=ZxJ G T noX g ps a b e h
theorem ZDy (f : Nat) (args : List AV) : run G T f args =
  (T f).bind fun fn => (evL G T fn.body (numE 0 args) .nil).bind fun r => (callEnd G fn false r).map (·.1):=by
 unfold run CF
 rw [ZoH]
 cases T f with
 | none => rfl
 | some fn => simp only [Option.bind_some]; cases evL G T fn.body (numE 0 args) .nil <;> rfl
theorem ZAH (f : Nat) (args : List AV) : CF G T false f args .nil = (run G T f args).map fun r => (r,.nil):=by
 rw [ZDy]
 unfold CF
 rw [ZoH]
 cases T f with
 | none => rfl
 | some fn =>
  simp only [Option.bind_some]
  cases evL G T fn.body (numE 0 args) .nil with
  | none => rfl
  | some r =>
   obtain ⟨x,e,h'⟩:=r
   simp only [Option.bind_some]
   cases x <;> simp only [callEnd] <;> (try rfl)
   all_goals
    cases resL G e h' fn.res with
    | none => rfl
    | some vs =>
     simp only [Option.bind_some,Bool.false_eq_true,if_false]
     cases snap h'.mem (pack vs) <;> rfl
theorem Zye (f : Nat) (args : List AV) (h : Heap) : CF G T true f args h =
  (T f).bind fun fn => (evL G T fn.body (numE 0 args) h).bind (callEnd G fn true):=by
 unfold CF; rw [ZoH]
theorem ZxG (h : Mem) (f : Nat) (cap args : List AV) : evCall (CF G T) h (.fn f cap) args =
  (snaps h (args ++ cap)).bind fun as => (run G T f as).bind fun r => some (r,[],if refA r then reachL (reachG h 3) (args ++ cap) else []):=by
 rw [Zqq]
 simp only
 cases snaps h (args ++ cap) with
 | none => rfl
 | some as =>
  simp only [Option.bind_some]
  rw [ZAH]
  cases run G T f as <;> rfl
end Go.Cv
