/- Parts of the walk: AMDef, AMComp. -/
import Derived.Orders
namespace Go.AM
open Go
inductive Sh where
 | bool | int (k : IntKind) | str | sl (e : Sh) | agg (fs : List Sh)
 deriving Inhabited
mutual
def Sh.beq : Sh → Sh → Bool
 | .bool, .bool => true
 | .int j, .int k => decide (j = k)
 | .str, .str => true
 | .sl a, .sl b => Sh.beq a b
 | .agg l, .agg m => Sh.beqL l m
 | _, _ => false
def Sh.beqL : List Sh → List Sh → Bool
 | [], [] => true
 | a :: l, b :: m => Sh.beq a b && Sh.beqL l m
 | _, _ => false
end
def Sh.leafs : Sh → List Sh
 | .agg fs => fs
 | s => [s]
def Sh.size (s : Sh) : Nat := s.leafs.length
def Sh.isAgg : Sh → Bool
 | .agg _ => true
 | _ => false
inductive D where
 | bool (b : Bool) | int (k : IntKind) (n : Int) | str (s : List UInt8)
 | sl (e : Sh) (nil : Bool) (es : List D)
 | agg (cs : List D)
 | nilp | nilm | nilf | nili
 deriving Inhabited
def D.cells : D → List D
 | .agg cs => cs
 | x => [x]
def D.toBool : D → Bool
 | .bool b => b
 | _ => false
def D.toInt : D → Int
 | .int _ n => n
 | _ => 0
def D.toStr : D → List UInt8
 | .str s => s
 | _ => []
def D.toNil : D → Bool
 | .sl _ b _ => b
 | _ => true
def D.toEs : D → List D
 | .sl _ _ es => es
 | _ => []
def etaLeaf : Sh → D → D
 | .bool, x => .bool x.toBool
 | .int k, x => .int k x.toInt
 | .str, x => .str x.toStr
 | .sl e, x => .sl e x.toNil x.toEs
 | .agg _, x => x
def etaL : List Sh → List D → List D
 | [], _ => []
 | f :: fs, cs => etaLeaf f (cs.headD .nilp) :: etaL fs cs.tail
def eta : Sh → D → D
 | .agg fs, x => .agg (etaL fs x.cells)
 | s, x => etaLeaf s x
def etaCells (s : Sh) (x : D) : List D := etaL s.leafs x.cells
def fitsLeaf : Sh → D → Bool
 | .bool, .bool _ => true
 | .int k, .int j _ => decide (j = k)
 | .str, .str _ => true
 | .sl e, .sl f _ _ => Sh.beq f e
 | _, _ => false
def fitsL : List Sh → List D → Bool
 | [], [] => true
 | f :: fs, c :: cs => fitsLeaf f c && fitsL fs cs
 | _, _ => false
def fits : Sh → D → Bool
 | .agg fs, .agg cs => fitsL fs cs
 | .agg _, _ => false
 | s, x => fitsLeaf s x
inductive V where
 | any
 | d (x : D)
 | agg (cs : List V)
 | tup (vs : List V)
 | ptr (id off : Nat)
 | ep (id i off : Nat)
 | sla (id lo n : Nat)
 | rp (cs : List D)
 | own (id : Nat)
 | cap0 (e : Sh)
 | mp (id : Nat)
 | fn (f : Nat) (first caps : List V)
 | ifc (t : Nat) (v : V)
 deriving Inhabited
def allData : List V → Option (List D)
 | [] => some []
 | .d x :: vs => match allData vs with
  | some xs => some (x :: xs)
  | none => none
 | _ :: _ => none
def V.mkAgg (cs : List V) : V :=
 match allData cs with
 | some xs => .d (.agg xs)
 | none => .agg cs
def V.cells : V → List V
 | .d x => x.cells.map .d
 | .agg cs => cs
 | v => [v]
inductive Obj where
 | box (cs : List V)
 | lst (e : Sh) (nil mv fz : Bool) (es : List D)
 | arr (e : Sh) (n : Nat) (fz : Bool) (es : List D)
 | map (ks vs : Sh) (kv : List (D × D))
 | sit (s : List UInt8) (pos : Nat)
 deriving Inhabited
abbrev Obs := List (Nat × Obj)
def Obs.get : Obs → Nat → Option Obj
 | [], _ => none
 | (k, o) :: l, i => if Nat.beq k i then some o else Obs.get l i
def Obs.set : Obs → Nat → Obj → Obs
 | [], i, o => [(i, o)]
 | (k, p) :: l, i, o => if Nat.beq k i then (k, o) :: l else (k, p) :: Obs.set l i o
def Obs.del : Obs → Nat → Obs
 | [], _ => []
 | (k, p) :: l, i => if Nat.beq k i then Obs.del l i else (k, p) :: Obs.del l i
structure St where
 fr : List V
 ob : Obs
inductive Tree (α : Type) where
 | ret (a : α)
 | ite (b : Bool) (t f : Unit → Tree α)
 | stuck
def Tree.bind {α β : Type} : Tree α → (α → Tree β) → Tree β
 | .ret a, k => k a
 | .ite b t f, k => .ite b (fun _ => (t ()).bind k) (fun _ => (f ()).bind k)
 | .stuck, _ => .stuck
def Tree.eval {α : Type} : Tree α → Option α
 | .ret a => some a
 | .ite b t f => match b with
  | true => (t ()).eval
  | false => (f ()).eval
 | .stuck => none
inductive Opd where
 | tmp (t : Nat)
 | con (v : V)
inductive Cv where
 | idn | int (k : IntKind) | b2s | s2b
inductive AOp where
 | mv (x : Opd)
 | pick (c a b : Opd)
 | alloc (cs : List D)
 | allocA (e : Sh) (zero : List D) (n : Nat)
 | box (x : Opd)
 | build (zero : List D) (pz : List (Nat × Nat × Opd))
 | buildSl (e : Sh) (zero : List D) (len : Nat) (pz : List (Nat × Nat × Opd))
 | load (n : Nat) (ag : Bool) (a : Opd)
 | store (n : Nat) (a v : Opd)
 | nilck (x : Opd)
 | bin (op : BinOp) (tk : Nat) (ks : List Sh) (x y : Opd)
 | un (op : UnOp) (x : Opd)
 | conv (c : Cv) (x : Opd)
 | mkF (f : Nat) (first caps : List Opd)
 | mkSl (e : Sh) (zero : List D) (l c : Opd)
 | slc (e : Sh) (x : Opd) (lo hi : Option Opd)
 | slcS (x : Opd) (lo hi : Option Opd)
 | slc0 (x : Opd)
 | slcA (e : Sh) (len : Nat) (x : Opd) (lo hi : Option Opd)
 | fldA (off : Nat) (x : Opd)
 | fld (off n : Nat) (ag : Bool) (x : Opd)
 | ixS (e : Sh) (x i : Opd)
 | ixP (e : Sh) (len : Nat) (x i : Opd)
 | ixStr (x i : Opd)
 | ixArr (e : Sh) (len : Nat) (x i : Opd)
 | ext (i : Nat) (x : Opd)
 | call (f : Opd) (args : List Opd)
 | len (k : Nat) (x : Opd)
 | appd (e : Sh) (s x : Opd)
 | mn (x : Opd) (xs : List Opd)
 | mx (x : Opd) (xs : List Opd)
 | mkMap (ks vs : Sh)
 | mapSet (ks : Sh) (m k v : Opd)
 | mapGet (ks e : Sh) (zero : List D) (ok : Bool) (m k : Opd)
 | mlen (m : Opd)
 | rng (x : Opd)
 | nxt (x : Opd)
 | bad (n : Nat)
structure AOper where
 dst : Option Nat
 op : AOp
 guard : Option (Nat × Bool)
 aft : List Nat
inductive AC where
 | skip | ret
 | seq (a b : AC)
 | cond (c : Opd) (a b : AC)
 | block (id : Nat) (c : AC)
 | loop (key : Nat) (live : Option (List Nat × List Nat)) (c : AC)
 | exit (id : Nat)
 | ops (draw : Bool) (l : List AOper)
 | scope (c : AC)
 | bad
inductive Res where
 | tmp (t : Nat)
 | cell (a n : Nat) (ag : Bool)
structure AFn where
 ntmps : Nat
 res : List Res
 body : AC
inductive Ex where
 | nrm | ext (id : Nat) | ret
def takeN {α : Type} : Nat → List α → Option (List α)
 | 0, _ => some []
 | _ + 1, [] => none
 | n + 1, x :: l => match takeN n l with
  | some r => some (x :: r)
  | none => none
def splice {α : Type} : List α → Nat → List α → Option (List α)
 | cs, 0, [] => some cs
 | _ :: cs, 0, v :: vs => match splice cs 0 vs with
  | some r => some (v :: r)
  | none => none
 | c :: cs, n + 1, vs => match splice cs n vs with
  | some r => some (c :: r)
  | none => none
 | [], _, _ => none
def opd (fr : List V) : Opd → V
 | .tmp t => fr.getD t .any
 | .con v => v
def opds (fr : List V) : List Opd → List V
 | [] => []
 | x :: l => opd fr x :: opds fr l
mutual
def V.sub (r : Nat → Option V) : V → V
 | .own id => match r id with
  | some v => v
  | none => .own id
 | .ptr id off => match r id with
  | some _ => .any
  | none => .ptr id off
 | .ep id i off => match r id with
  | some _ => .any
  | none => .ep id i off
 | .sla id lo n => match r id with
  | some _ => .any
  | none => .sla id lo n
 | .mp id => match r id with
  | some _ => .any
  | none => .mp id
 | .agg cs => .agg (V.subL r cs)
 | .tup vs => .tup (V.subL r vs)
 | .fn f as caps => .fn f (V.subL r as) (V.subL r caps)
 | .ifc t v => .ifc t (V.sub r v)
 | .any => .any
 | .d x => .d x
 | .rp cs => .rp cs
 | .cap0 e => .cap0 e
def V.subL (r : Nat → Option V) : List V → List V
 | [] => []
 | v :: vs => V.sub r v :: V.subL r vs
end
mutual
def V.ren (r : Nat → Option Nat) : V → V
 | .own id => match r id with
  | some j => .own j
  | none => .any
 | .ptr id off => match r id with
  | some j => .ptr j off
  | none => .any
 | .ep id i off => match r id with
  | some j => .ep j i off
  | none => .any
 | .sla id lo n => match r id with
  | some j => .sla j lo n
  | none => .any
 | .mp id => match r id with
  | some j => .mp j
  | none => .any
 | .agg cs => .agg (V.renL r cs)
 | .tup vs => .tup (V.renL r vs)
 | .fn f as caps => .fn f (V.renL r as) (V.renL r caps)
 | .ifc t v => .ifc t (V.ren r v)
 | .any => .any
 | .d x => .d x
 | .rp cs => .rp cs
 | .cap0 e => .cap0 e
def V.renL (r : Nat → Option Nat) : List V → List V
 | [] => []
 | v :: vs => V.ren r v :: V.renL r vs
end
mutual
def V.ids : V → List Nat
 | .own id => [id]
 | .ptr id _ => [id]
 | .ep id _ _ => [id]
 | .sla id _ _ => [id]
 | .mp id => [id]
 | .agg cs => V.idsL cs
 | .tup vs => V.idsL vs
 | .fn _ as caps => V.idsL as ++ V.idsL caps
 | .ifc _ v => V.ids v
 | .any => []
 | .d _ => []
 | .rp _ => []
 | .cap0 _ => []
def V.idsL : List V → List Nat
 | [] => []
 | v :: vs => V.ids v ++ V.idsL vs
end
def Obj.sub (r : Nat → Option V) : Obj → Obj
 | .box cs => .box (V.subL r cs)
 | o => o
def Obj.ren (r : Nat → Option Nat) : Obj → Obj
 | .box cs => .box (V.renL r cs)
 | .lst e nil _ fz es => .lst e nil false fz es
 | o => o
def Obj.ids : Obj → List Nat
 | .box cs => V.idsL cs
 | _ => []
def Obs.sub (r : Nat → Option V) : Obs → Obs
 | [] => []
 | (k, o) :: l => (k, o.sub r) :: Obs.sub r l
def killOf (l : List Nat) (i : Nat) : Option V := if l.contains i then some .any else none
def St.kill (l : List Nat) (st : St) : St :=
 match l with
 | [] => st
 | _ :: _ => ⟨V.subL (killOf l) st.fr, st.ob.sub (killOf l)⟩
def dat1 (ob : Obs) : V → Option (D × List Nat)
 | .d x => some (x, [])
 | .own id => match ob.get id with
  | some (.lst e nil _ _ es) => some (.sl e nil es, [id])
  | _ => none
 | .cap0 e => some (.sl e false [], [])
 | _ => none
def datL (ob : Obs) : List V → Option (List D × List Nat)
 | [] => some ([], [])
 | v :: vs => match dat1 ob v, datL ob vs with
  | some (x, l), some (xs, m) => some (x :: xs, l ++ m)
  | _, _ => none
def dat (ob : Obs) : V → Option (D × List Nat)
 | .agg cs => match datL ob cs with
  | some (xs, l) => some (.agg xs, l)
  | none => none
 | v => dat1 ob v
def datArgs (ob : Obs) : List V → Option (List D × List Nat)
 | [] => some ([], [])
 | v :: vs => match dat ob v, datArgs ob vs with
  | some (x, l), some (xs, m) => some (x :: xs, l ++ m)
  | _, _ => none
def Obj.freeze : Obj → Obj
 | .lst e nil mv _ es => .lst e nil mv true es
 | .arr e n _ es => .arr e n true es
 | o => o
def Obs.freeze (ob : Obs) : List Nat → Obs
 | [] => ob
 | i :: l => match ob.get i with
  | some o => Obs.freeze (ob.set i o.freeze) l
  | none => Obs.freeze ob l
def eqD : D → D → Option Bool
 | .int j m, .int k n => if decide (j = k) then some (m == n) else none
 | .str s, .str t => some (s == t)
 | .bool a, .bool b => some (a == b)
 | _, _ => none
def eqDL : List D → List D → Option Bool
 | [], [] => some true
 | x :: xs, y :: ys => match eqD x y, eqDL xs ys with
  | some a, some b => some (a && b)
  | _, _ => none
 | _, _ => none
def intBin (op : BinOp) (k : IntKind) (a b : Int) : Tree D :=
 match op with
 | .add => .ret (.int k (k.wrap (a + b)))
 | .sub => .ret (.int k (k.wrap (a - b)))
 | .mul => .ret (.int k (k.wrap (a * b)))
 | .quo => .ite (b == 0) (fun _ => .stuck) (fun _ => .ret (.int k (k.wrap (a.tdiv b))))
 | .rem => .ite (b == 0) (fun _ => .stuck) (fun _ => .ret (.int k (a.tmod b)))
 | .and => .ret (.int k (k.wrap ((BitVec.ofInt k.bits a &&& BitVec.ofInt k.bits b).toNat)))
 | .or => .ret (.int k (k.wrap ((BitVec.ofInt k.bits a ||| BitVec.ofInt k.bits b).toNat)))
 | .xor => .ret (.int k (k.wrap ((BitVec.ofInt k.bits a ^^^ BitVec.ofInt k.bits b).toNat)))
 | .andNot => .ret (.int k (k.wrap ((BitVec.ofInt k.bits a &&& ~~~ BitVec.ofInt k.bits b).toNat)))
 | .eql => .ret (.bool (a == b))
 | .neq => .ret (.bool (a != b))
 | .lss => .ret (.bool (decide (a < b)))
 | .leq => .ret (.bool (decide (a ≤ b)))
 | .gtr => .ret (.bool (decide (b < a)))
 | .geq => .ret (.bool (decide (b ≤ a)))
 | _ => .stuck
def strBin (op : BinOp) (s t : List UInt8) : Tree D :=
 match op with
 | .add => .ite (decide (s.length + t.length ≤ 4611686018427387904)) (fun _ => .ret (.str (s ++ t))) (fun _ => .stuck)
 | .eql => .ret (.bool (s == t))
 | .neq => .ret (.bool !(s == t))
 | .lss => .ret (.bool (Op.bytesLess s t))
 | .leq => .ret (.bool (Op.bytesLess s t || s == t))
 | .gtr => .ret (.bool !(Op.bytesLess s t || s == t))
 | .geq => .ret (.bool !(Op.bytesLess s t))
 | _ => .stuck
def eqRes (op : BinOp) (b : Bool) : Tree D :=
 match op with
 | .eql => .ret (.bool b)
 | .neq => .ret (.bool !b)
 | _ => .stuck
def shiftD (op : BinOp) (k : IntKind) (a b : Int) : Tree D :=
 .ite (decide (b < 0)) (fun _ => .stuck) (fun _ => match op with
  | .shl => .ret (.int k (k.wrap (a * 2 ^ (min b.toNat k.bits))))
  | .shr => .ret (.int k (a.fdiv (2 ^ (min b.toNat k.bits))))
  | _ => .stuck)
def binD (op : BinOp) (tk : Nat) (ks : List Sh) : D → D → Tree D
 | .int k a, .int j b => match op with
  | .shl => shiftD .shl k a b
  | .shr => shiftD .shr k a b
  | op => if decide (k = j) then intBin op k a b else .stuck
 | .str s, .str t => strBin op s t
 | .bool a, .bool b => if Nat.beq tk 1 then eqRes op (a == b) else .stuck
 | .agg xs, .agg ys => if Nat.beq tk 6 && fitsL ks xs && fitsL ks ys then match eqDL xs ys with
  | some b => eqRes op b
  | none => .stuck
  else .stuck
 | .sl _ n _, .sl _ true [] => if Nat.beq tk 3 then eqRes op n else .stuck
 | .nilp, .nilp => if Nat.beq tk 2 then eqRes op true else .stuck
 | .nilm, .nilm => if Nat.beq tk 5 then eqRes op true else .stuck
 | .nilf, .nilf => if Nat.beq tk 4 then eqRes op true else .stuck
 | _, _ => .stuck
def Tree.mapD (t : Tree D) : Tree V := t.bind fun x => .ret (.d x)
def eqNil (op : BinOp) (b : Bool) : Tree V := if b then (eqRes op false).mapD else .stuck
def binV (ob : Obs) (op : BinOp) (tk : Nat) (ks : List Sh) : V → V → Tree V
 | .d a, .d b => (binD op tk ks a b).mapD
 | .own id, .d (.sl _ true []) => match ob.get id with
  | some (.lst _ nil _ _ _) => if Nat.beq tk 3 then (eqRes op nil).mapD else .stuck
  | _ => .stuck
 | .cap0 _, .d (.sl _ true []) => eqNil op (Nat.beq tk 3)
 | .ptr _ _, .d .nilp => eqNil op (Nat.beq tk 2)
 | .ep _ _ _, .d .nilp => eqNil op (Nat.beq tk 2)
 | .rp _, .d .nilp => eqNil op (Nat.beq tk 2)
 | .fn _ _ _, .d .nilf => eqNil op (Nat.beq tk 4)
 | _, _ => .stuck
def unD (op : UnOp) : D → Tree D
 | .int k n => match op with
  | .neg => .ret (.int k (k.wrap (0 - n)))
  | .xor => .ret (.int k (k.wrap ((BitVec.ofInt k.bits (if k.signed then -1 else k.max) ^^^ BitVec.ofInt k.bits n).toNat)))
  | _ => .stuck
 | .bool b => match op with
  | .not => .ret (.bool !b)
  | _ => .stuck
 | _ => .stuck
def keySh : Sh → Bool
 | .int _ => true
 | .str => true
 | .bool => true
 | _ => false
def keyEq : D → D → Bool
 | .int _ a, .int _ b => a == b
 | .str a, .str b => a == b
 | .bool a, .bool b => a == b
 | _, _ => false
def kvGet (k z : D) : List (D × D) → D
 | [] => z
 | (j, v) :: l => bif keyEq k j then v else kvGet k z l
def kvHas (k : D) : List (D × D) → Bool
 | [] => false
 | (j, _) :: l => bif keyEq k j then true else kvHas k l
def kvSet (k v : D) : List (D × D) → List (D × D)
 | [] => [(k, v)]
 | (j, u) :: l => bif keyEq k j then (j, v) :: l else (j, u) :: kvSet k v l
def cellsV (n : Nat) (ag : Bool) (cs : List V) : Tree V :=
 match takeN n cs with
 | some l => if ag then .ret (V.mkAgg l) else match l with
  | [v] => .ret v
  | _ => .stuck
 | none => .stuck
def cellsD (n : Nat) (ag : Bool) (cs : List D) : Tree V :=
 match takeN n cs with
 | some l => if ag then .ret (.d (.agg l)) else match l with
  | [x] => .ret (.d x)
  | _ => .stuck
 | none => .stuck
def flatA (e : Sh) : List D → List D
 | [] => []
 | x :: l => etaCells e x ++ flatA e l
def loadAt (ob : Obs) (n : Nat) (ag : Bool) : V → Tree V
 | .ptr id off => match ob.get id with
  | some (.box cs) => cellsV n ag (cs.drop off)
  | some (.arr e m _ es) => if ag && Nat.beq off 0 && Nat.beq n (m * e.size) then .ret (.d (.agg (flatA e es))) else .stuck
  | _ => .stuck
 | .ep id i off => match ob.get id with
  | some (.lst e _ _ _ es) => cellsD n ag ((etaCells e (es.getD i .nilp)).drop off)
  | some (.arr e _ _ es) => cellsD n ag ((etaCells e (es.getD i .nilp)).drop off)
  | _ => .stuck
 | .rp cs => cellsD n ag cs
 | _ => .stuck
def noAny : List V → Bool
 | [] => true
 | .any :: _ => false
 | .agg _ :: _ => false
 | .tup _ :: _ => false
 | .d (.agg _) :: _ => false
 | _ :: l => noAny l
def mkD (e : Sh) (cs : List D) : Option D :=
 match e with
 | .agg _ => some (.agg cs)
 | _ => match cs with
  | [x] => some x
  | _ => none
def putCells (ob : Obs) (e : Sh) (x : D) (off : Nat) (v : V) : Option (D × List Nat) :=
 match datL ob v.cells with
 | some (ds, l) => match splice (etaCells e x) off ds with
  | some cs => match mkD e cs with
   | some y => if fits e y then some (y, l) else none
   | none => none
  | none => none
 | none => none
def chop (e : Sh) : Nat → List D → Option (List D)
 | 0, [] => some []
 | 0, _ :: _ => none
 | n + 1, cs => match takeN e.size cs with
  | some l => match mkD e l with
   | some x => if fits e x then match chop e n (cs.drop e.size) with
     | some r => some (x :: r)
     | none => none
    else none
   | none => none
  | none => none
def storeAt (ob : Obs) (n : Nat) (v : V) : V → Tree Obs
 | .ptr id off => match ob.get id with
  | some (.box cs) => if Nat.beq v.cells.length n && noAny v.cells then match splice cs off v.cells with
    | some cs' => .ret (ob.set id (.box cs'))
    | none => .stuck
   else .stuck
  | some (.arr e m false _) => if Nat.beq off 0 && Nat.beq v.cells.length n && noAny v.cells then match datL ob v.cells with
    | some (ds, l) => match chop e m ds with
     | some es' => if l.contains id then .stuck else .ret ((ob.freeze l).set id (.arr e m false es'))
     | none => .stuck
    | none => .stuck
   else .stuck
  | _ => .stuck
 | .ep id i off => match ob.get id with
  | some (.lst e nil mv false es) => if Nat.beq v.cells.length n && noAny v.cells then match putCells ob e (es.getD i .nilp) off v with
    | some (y, l) => if l.contains id then .stuck else .ret ((ob.freeze l).set id (.lst e nil mv false (es.set i y)))
    | none => .stuck
   else .stuck
  | some (.arr e m false es) => if Nat.beq v.cells.length n && noAny v.cells then match putCells ob e (es.getD i .nilp) off v with
    | some (y, l) => if l.contains id then .stuck else .ret ((ob.freeze l).set id (.arr e m false (es.set i y)))
    | none => .stuck
   else .stuck
  | _ => .stuck
 | _ => .stuck
def fillD : List V → List (Nat × Nat × V) → Option (List V)
 | cs, [] => some cs
 | cs, (off, sz, v) :: r => if Nat.beq v.cells.length sz && noAny v.cells then match splice cs off v.cells with
   | some cs' => fillD cs' r
   | none => none
  else none
def partsV (fr : List V) : List (Nat × Nat × Opd) → List (Nat × Nat × V)
 | [] => []
 | (off, sz, x) :: l => (off, sz, opd fr x) :: partsV fr l
def repl {α : Type} : Nat → List α → List α
 | 0, _ => []
 | n + 1, l => l ++ repl n l
def lim : Nat := 4294967296
def baseId (dst : Option Nat) : Nat := match dst with
 | some d => (d + 1) * 64
 | none => 64
structure Out where
 v : V
 ob : Obs
 kl : List Nat
abbrev CallF := Nat → List V → Obs → Tree (V × Obs)
def out (t : Tree V) (ob : Obs) : Tree Out := t.bind fun v => .ret ⟨v, ob, []⟩
def elemsOf (ob : Obs) (e : Sh) : V → Option (List D × List Nat)
 | .d (.sl f _ es) => if Sh.beq f e then some (es, []) else none
 | .own id => match ob.get id with
  | some (.lst f _ _ _ es) => if Sh.beq f e then some (es, [id]) else none
  | _ => none
 | .cap0 f => if Sh.beq f e then some ([], []) else none
 | .d (.str s) => if Sh.beq e (.int .u8) then some (s.map fun b => .int .u8 b.toNat, []) else none
 | _ => none
def bytesV (ob : Obs) : V → Option (List D)
 | .sla id lo n => match ob.get id with
  | some (.arr f _ _ es) => if Sh.beq f (.int .u8) then some ((es.drop lo).take n) else none
  | _ => none
 | .d (.sl f _ es) => if Sh.beq f (.int .u8) then some es else none
 | .own id => match ob.get id with
  | some (.lst f _ _ _ es) => if Sh.beq f (.int .u8) then some es else none
  | _ => none
 | _ => none
def appD (ob : Obs) (base : Nat) (e : Sh) (s x : V) : Tree Out :=
 match elemsOf ob e x with
 | none => .stuck
 | some (ys, l) =>
  match s with
  | .d (.sl f true []) => if Sh.beq f e then .ite (decide (ys.length ≤ lim)) (fun _ => .ret ⟨.own base, ob.set base (.lst e ys.isEmpty false false ys), [base]⟩) (fun _ => .stuck) else .stuck
  | .cap0 f => if Sh.beq f e then .ite (decide (ys.length ≤ lim)) (fun _ => .ret ⟨.own base, ob.set base (.lst e false false false ys), [base]⟩) (fun _ => .stuck) else .stuck
  | .own id => match ob.get id with
   | some (.lst f nil _ false es) => if Sh.beq f e && !l.contains id then
     .ite (decide (es.length + ys.length ≤ lim)) (fun _ => .ret ⟨.own id, ob.set id (.lst e (nil && ys.isEmpty) true false (es ++ ys)), [id]⟩) (fun _ => .stuck)
    else .stuck
   | _ => .stuck
  | _ => .stuck
def sliceOf (n : Nat) (lo hi : Option V) : Tree (Nat × Nat) :=
 let h : Tree Int := match hi with
  | none => .ret n
  | some (.d (.int _ h)) => .ite (decide (0 ≤ h ∧ h ≤ (n : Int))) (fun _ => .ret h) (fun _ => .stuck)
  | _ => .stuck
 h.bind fun h => match lo with
  | none => .ret (0, h.toNat)
  | some (.d (.int _ l)) => .ite (decide (0 ≤ l ∧ l ≤ h)) (fun _ => .ret (l.toNat, h.toNat)) (fun _ => .stuck)
  | _ => .stuck
def optOpd (fr : List V) : Option Opd → Option V
 | none => none
 | some x => some (opd fr x)
def slcSV (lo hi : Option V) : V → Tree V
 | .d (.str s) => (sliceOf s.length lo hi).bind fun (l, h) => .ret (.d (.str ((s.drop l).take (h - l))))
 | _ => .stuck
def slcV (ob : Obs) (e : Sh) (lo hi : Option V) : V → Tree Out
 | .d (.sl f nil es) => if Sh.beq f e then (sliceOf es.length lo hi).bind fun (l, h) => .ret ⟨.d (.sl e nil ((es.drop l).take (h - l))), ob, []⟩ else .stuck
 | .own id => match ob.get id with
  | some (.lst f nil _ _ es) => if Sh.beq f e then (sliceOf es.length lo hi).bind fun (l, h) => .ret ⟨.d (.sl e nil ((es.drop l).take (h - l))), ob.freeze [id], []⟩ else .stuck
  | _ => .stuck
 | _ => .stuck
def idxOk (i : Int) (n : Nat) : Bool := decide (0 ≤ i ∧ i < (n : Int))
def ixSV (ob : Obs) (e : Sh) : V → V → Tree V
 | .sla id lo n, .d (.int _ i) => match ob.get id with
  | some (.arr f _ _ _) => if Sh.beq f e then .ite (idxOk i n) (fun _ => .ret (.ep id (lo + i.toNat) 0)) (fun _ => .stuck) else .stuck
  | _ => .stuck
 | .d (.sl f _ es), .d (.int _ i) => if Sh.beq f e then .ite (idxOk i es.length) (fun _ => .ret (.rp (etaCells e (es.getD i.toNat .nilp)))) (fun _ => .stuck) else .stuck
 | .own id, .d (.int _ i) => match ob.get id with
  | some (.lst f _ _ _ es) => if Sh.beq f e then .ite (idxOk i es.length) (fun _ => .ret (.ep id i.toNat 0)) (fun _ => .stuck) else .stuck
  | _ => .stuck
 | _, _ => .stuck
def ixPV (ob : Obs) (e : Sh) (len : Nat) : V → V → Tree V
 | .ptr id off, .d (.int _ i) => match ob.get id with
  | some (.arr f m _ _) => if Nat.beq off 0 && Sh.beq f e && Nat.beq m len then .ite (idxOk i len) (fun _ => .ret (.ep id i.toNat 0)) (fun _ => .stuck) else .stuck
  | some (.box _) => .ite (idxOk i len) (fun _ => .ret (.ptr id (off + i.toNat * e.size))) (fun _ => .stuck)
  | _ => .stuck
 | .rp cs, .d (.int _ i) => .ite (idxOk i len) (fun _ => .ret (.rp (cs.drop (i.toNat * e.size)))) (fun _ => .stuck)
 | _, _ => .stuck
def fitsRep (e : Sh) : Nat → List D → Bool
 | 0, [] => true
 | 0, _ :: _ => false
 | n + 1, cs => match takeN e.size cs with
  | some l => fitsL e.leafs l && fitsRep e n (cs.drop e.size)
  | none => false
def ixArrV (e : Sh) (len : Nat) : V → V → Tree V
 | .d (.agg cs), .d (.int _ i) => if fitsRep e len cs then
   .ite (idxOk i len) (fun _ => .ret (.d (match e with
    | .agg fs => .agg (etaL fs (cs.drop (i.toNat * fs.length)))
    | s => etaLeaf s (cs.getD i.toNat .nilp)))) (fun _ => .stuck)
  else .stuck
 | _, _ => .stuck
def ixStrV : V → V → Tree V
 | .d (.str s), .d (.int _ i) => .ite (idxOk i s.length) (fun _ => .ret (.d (.int .u8 (s.getD i.toNat 0).toNat))) (fun _ => .stuck)
 | _, _ => .stuck
def lenV (ob : Obs) (k : Nat) : V → Tree V
 | .sla _ _ n => if Nat.beq k 1 then .ret (.d (.int .i64 n)) else .stuck
 | .d (.sl _ _ es) => if Nat.beq k 1 then .ret (.d (.int .i64 es.length)) else .stuck
 | .d (.str s) => if Nat.beq k 0 then .ret (.d (.int .i64 s.length)) else .stuck
 | .own id => match ob.get id with
  | some (.lst _ _ _ _ es) => if Nat.beq k 1 then .ret (.d (.int .i64 es.length)) else .stuck
  | _ => .stuck
 | .cap0 _ => if Nat.beq k 1 then .ret (.d (.int .i64 0)) else .stuck
 | _ => .stuck
def minI : D → List V → Tree D
 | x, [] => .ret x
 | .int k x, .d (.int j y) :: r => if decide (j = k) then minI (.int k (if y < x then y else x)) r else .stuck
 | _, _ => .stuck
def maxI : D → List V → Tree D
 | x, [] => .ret x
 | .int k x, .d (.int j y) :: r => if decide (j = k) then maxI (.int k (if y > x then y else x)) r else .stuck
 | _, _ => .stuck
def slcAV (ob : Obs) (e : Sh) (len : Nat) (lo hi : Option V) : V → Tree Out
 | .ptr id off => match ob.get id with
  | some (.arr f m _ es) => if Nat.beq off 0 && Sh.beq f e && Nat.beq m len then
    (sliceOf len lo hi).bind fun (l, h) => if Sh.beq e (.int .u8) then .ite (decide (l < len)) (fun _ => .ret ⟨.sla id l (h - l), ob, []⟩) (fun _ => .stuck) else .ret ⟨.d (.sl e false ((es.drop l).take (h - l))), ob.freeze [id], []⟩
   else .stuck
  | _ => .stuck
 | _ => .stuck
def reach (ob : Obs) : Nat → List Nat → List Nat → List Nat
 | 0, _, acc => acc
 | _ + 1, [], acc => acc
 | n + 1, i :: t, acc => if acc.contains i then reach ob n t acc else match ob.get i with
  | some o => reach ob n (o.ids ++ t) (acc ++ [i])
  | none => reach ob n t acc
def indexIn : List Nat → Nat → Nat → Option Nat
 | [], _, _ => none
 | i :: l, k, j => if Nat.beq i j then some k else indexIn l (k + 1) j
def takeObs (ob : Obs) (r : Nat → Option Nat) : List Nat → Nat → Obs
 | [], _ => []
 | i :: l, k => match ob.get i with
  | some o => (k, o.ren r) :: takeObs ob r l (k + 1)
  | none => takeObs ob r l (k + 1)
def nthId : List Nat → Nat → Option Nat
 | [], _ => none
 | i :: _, 0 => some i
 | _ :: l, n + 1 => nthId l n
def Obj.moved : Obj → Bool
 | .lst _ _ mv _ _ => mv
 | _ => false
mutual
def V.res (ob : Obs) : V → V
 | .own id => match ob.get id with
  | some (.lst e nil _ true es) => .d (.sl e nil es)
  | _ => .own id
 | .agg cs => V.mkAgg (V.resL ob cs)
 | .tup vs => .tup (V.resL ob vs)
 | .fn f as caps => .fn f (V.resL ob as) (V.resL ob caps)
 | .ifc t v => .ifc t (V.res ob v)
 | .ptr id off => .ptr id off
 | .ep id i off => .ep id i off
 | .sla id lo n => .sla id lo n
 | .mp id => .mp id
 | .any => .any
 | .d x => .d x
 | .rp cs => .rp cs
 | .cap0 e => .cap0 e
def V.resL (ob : Obs) : List V → List V
 | [] => []
 | v :: vs => V.res ob v :: V.resL ob vs
end
def Obj.res (ob : Obs) : Obj → Obj
 | .box cs => .box (V.resL ob cs)
 | o => o
def Obs.res (whole : Obs) : Obs → Obs
 | [] => []
 | (k, o) :: l => (k, o.res whole) :: Obs.res whole l
def newOf (k : Nat) : List Nat → List Nat
 | [] => []
 | i :: l => if Nat.blt i k then newOf k l else i :: newOf k l
def upto : Nat → List Nat
 | 0 => []
 | n + 1 => upto n ++ [n]
def Obj.mark (m : Bool) : Obj → Obj
 | .lst e nil _ fz es => .lst e nil m fz es
 | o => o
def movedAt (ob : Obs) (i : Nat) : Bool := match ob.get i with
 | some o => o.moved
 | none => false
def backs (o1 : Obs) (r : Nat → Option Nat) (ob : Obs) : List Nat → Nat → List (Nat × Option Obj)
 | [], _ => []
 | i :: l, k => (i, match o1.get k with
   | some o => some ((o.ren r).mark (movedAt ob i || o.moved))
   | none => none) :: backs o1 r ob l (k + 1)
def news (o1 : Obs) (r : Nat → Option Nat) (base : Nat) : List Nat → Nat → List (Nat × Option Obj)
 | [], _ => []
 | i :: l, k => (base + k, match o1.get i with
   | some o => some (o.ren r)
   | none => none) :: news o1 r base l (k + 1)
def movedOf (o1 : Obs) : List Nat → Nat → List Nat
 | [], _ => []
 | i :: l, k => match o1.get k with
  | some o => if o.moved then i :: movedOf o1 l (k + 1) else movedOf o1 l (k + 1)
  | none => i :: movedOf o1 l (k + 1)
def newIds (base : Nat) : List Nat → Nat → List Nat
 | [], _ => []
 | _ :: l, k => (base + k) :: newIds base l (k + 1)
structure Delta where
 v : V
 kl : List Nat
 up : List (Nat × Option Obj)
def Obs.puts : List (Nat × Option Obj) → Obs → Obs
 | [], ob => ob
 | (i, x) :: l, ob => match x with
  | some o => (Obs.puts l ob).set i o
  | none => (Obs.puts l ob).del i
def Delta.app (d : Delta) (st : St) : St :=
 let st1 := st.kill d.kl
 ⟨st1.fr, Obs.puts d.up st1.ob⟩
def inRange (b : Nat) (i : Nat) : Bool := Nat.ble b i && Nat.blt i (b + 32)
def pickBase (base : Nat) (ids : List Nat) : Nat := if ids.any (inRange base) then base + 32 else base
def backOf (ids nid : List Nat) (b : Nat) (j : Nat) : Option Nat :=
 if Nat.blt j ids.length then nthId ids j else match indexIn nid 0 j with
  | some k => some (b + k)
  | none => none
def callD (C : List V → Obs → Tree (V × Obs)) (base : Nat) (args : List V) (ob : Obs) : Tree Delta :=
 let ids := reach ob 64 (V.idsL args) []
 let r := indexIn ids 0
 let b := pickBase base ids
 if ids.any (inRange b) then .stuck else
  (C (V.renL r args) (takeObs ob r ids 0)).bind fun (v, o1) =>
   let v := v.res o1
   let o2 := Obs.res o1 o1
   let nid := newOf ids.length (reach o2 64 (v.ids ++ upto ids.length) [])
   if Nat.ble nid.length 32 then
    let back := backOf ids nid b
    .ret ⟨v.ren back, movedOf o1 ids 0 ++ newIds b nid 0, backs o2 back ob ids 0 ++ news o2 back b nid 0⟩
   else .stuck
def callGen (C : List V → Obs → Tree (V × Obs)) (base : Nat) (args : List V) (st : St) : Tree (V × St) :=
 (callD C base args st.ob).bind fun d => .ret (d.v, d.app st)
inductive Con where
 | pure (borrow : Bool) (g : List D → Tree (List D))
 | gen (ro : Bool) (C : List V → Obs → Tree (V × Obs))
structure Env where
 con : Nat → Option Con
 prog : Nat → Option AFn
def retV : List D → V
 | [x] => .d x
 | xs => .tup (xs.map .d)
def D.flat : D → Bool
 | .bool _ => true
 | .int _ _ => true
 | .str _ => true
 | _ => false
def allFlat : List D → Bool
 | [] => true
 | x :: l => x.flat && allFlat l
def roC (C : List V → Obs → Tree (V × Obs)) (args : List V) (ob : Obs) : Tree (V × Obs) := (C args ob).bind fun p => .ret (p.1, ob)
def conC (ro : Bool) (C : List V → Obs → Tree (V × Obs)) : List V → Obs → Tree (V × Obs) := match ro with
 | true => roC C
 | false => C
def callV (E : Env) (cf : CallF) (base : Nat) (f : Nat) (args : List V) (st : St) : Tree (V × St) :=
 match E.con f with
 | some (.pure borrow g) => match datArgs st.ob args with
  | some (ds, l) => (g ds).bind fun rs => match borrow with
   | true => if allFlat rs then .ret (retV rs, st) else .stuck
   | false => .ret (retV rs, ⟨st.fr, st.ob.freeze l⟩)
  | none => .stuck
 | some (.gen ro C) => callGen (conC ro C) base args st
 | none => callGen (cf f) base args st
def stepP (op : AOp) (base : Nat) (fr : List V) (ob : Obs) : Tree Out :=
 match op with
 | .mv x => .ret ⟨opd fr x, ob, []⟩
 | .pick c a b => match opd fr c with
  | .d (.bool t) => .ite t (fun _ => .ret ⟨opd fr a, ob, []⟩) (fun _ => .ret ⟨opd fr b, ob, []⟩)
  | _ => .stuck
 | .alloc cs => .ret ⟨.ptr base 0, ob.set base (.box (cs.map .d)), [base]⟩
 | .allocA e zero n => match chop e n zero with
  | some es => .ret ⟨.ptr base 0, ob.set base (.arr e n false es), [base]⟩
  | none => .stuck
 | .box x => if noAny (opd fr x).cells then .ret ⟨.ptr base 0, ob.set base (.box (opd fr x).cells), [base]⟩ else .stuck
 | .build zero pz => match fillD (zero.map .d) (partsV fr pz) with
  | some cs => .ret ⟨V.mkAgg cs, ob, []⟩
  | none => .stuck
 | .buildSl e zero len pz => match fillD ((repl len zero).map .d) (partsV fr pz) with
  | some cs => match datL ob cs with
   | some (ds, l) => match chop e len ds with
    | some es => .ret ⟨.own base, (ob.freeze l).set base (.lst e false false false es), [base]⟩
    | none => .stuck
   | none => .stuck
  | none => .stuck
 | .load n ag a => out (loadAt ob n ag (opd fr a)) ob
 | .store n a v => (storeAt ob n (opd fr v) (opd fr a)).bind fun ob' => .ret ⟨.tup [], ob', []⟩
 | .nilck x => match opd fr x with
  | .ptr id off => .ret ⟨.ptr id off, ob, []⟩
  | .ep id i off => .ret ⟨.ep id i off, ob, []⟩
  | .rp cs => .ret ⟨.rp cs, ob, []⟩
  | .fn f as caps => .ret ⟨.fn f as caps, ob, []⟩
  | _ => .stuck
 | .bin o tk ks x y => out (binV ob o tk ks (opd fr x) (opd fr y)) ob
 | .un o x => match opd fr x with
  | .d a => out (unD o a).mapD ob
  | _ => .stuck
 | .conv c x => match c, opd fr x with
  | .idn, .d (.str s) => .ret ⟨.d (.str s), ob, []⟩
  | .int k, .d (.int _ n) => .ret ⟨.d (.int k (k.wrap n)), ob, []⟩
  | .b2s, v => match bytesV ob v with
   | some es => .ret ⟨.d (.str (es.map fun x => UInt8.ofNat x.toInt.toNat)), ob, []⟩
   | none => .stuck
  | .s2b, .d (.str s) => .ite (decide (s.length ≤ lim)) (fun _ => .ret ⟨.own base, ob.set base (.lst (.int .u8) false false false (s.map fun b => .int .u8 b.toNat)), [base]⟩) (fun _ => .stuck)
  | _, _ => .stuck
 | .mkF f as caps => .ret ⟨.fn f (opds fr as) (opds fr caps), ob, []⟩
 | .mkSl e zero l c => match mkD e zero, opd fr l, opd fr c with
  | some z, .d (.int _ l), .d (.int _ c) => if fits e z then .ite (decide (0 ≤ l ∧ l ≤ c ∧ c ≤ (lim : Int))) (fun _ => .ret ⟨.own base, ob.set base (.lst e false false false (List.replicate l.toNat z)), [base]⟩) (fun _ => .stuck) else .stuck
  | _, _, _ => .stuck
 | .slc e x lo hi => slcV ob e (optOpd fr lo) (optOpd fr hi) (opd fr x)
 | .slcS x lo hi => out (slcSV (optOpd fr lo) (optOpd fr hi) (opd fr x)) ob
 | .slc0 x => match opd fr x with
  | .d (.sl e false _) => .ret ⟨.cap0 e, ob, []⟩
  | .d (.sl e true _) => .ret ⟨.d (.sl e true []), ob, []⟩
  | _ => .stuck
 | .slcA e len x lo hi => slcAV ob e len (optOpd fr lo) (optOpd fr hi) (opd fr x)
 | .fldA off x => match opd fr x with
  | .ptr id o => .ret ⟨.ptr id (o + off), ob, []⟩
  | .ep id i o => .ret ⟨.ep id i (o + off), ob, []⟩
  | .rp cs => .ret ⟨.rp (cs.drop off), ob, []⟩
  | _ => .stuck
 | .fld off n ag x => match opd fr x with
  | .d (.agg ds) => out (cellsD n ag (ds.drop off)) ob
  | .agg cs => out (cellsV n ag (cs.drop off)) ob
  | _ => .stuck
 | .ixS e x i => out (ixSV ob e (opd fr x) (opd fr i)) ob
 | .ixP e len x i => out (ixPV ob e len (opd fr x) (opd fr i)) ob
 | .ixStr x i => out (ixStrV (opd fr x) (opd fr i)) ob
 | .ixArr e len x i => out (ixArrV e len (opd fr x) (opd fr i)) ob
 | .ext i x => match opd fr x with
  | .tup vs => match vs[i]? with
   | some v => .ret ⟨v, ob, []⟩
   | none => .stuck
  | _ => .stuck
 | .call _ _ => .stuck
 | .len k x => out (lenV ob k (opd fr x)) ob
 | .appd e s x => appD ob base e (opd fr s) (opd fr x)
 | .mn x xs => match opd fr x with
  | .d a => out (minI a (opds fr xs)).mapD ob
  | _ => .stuck
 | .mx x xs => match opd fr x with
  | .d a => out (maxI a (opds fr xs)).mapD ob
  | _ => .stuck
 | .mkMap ks vs => if keySh ks then .ret ⟨.mp base, ob.set base (.map ks vs []), [base]⟩ else .stuck
 | .mapSet kt m k v => match opd fr m, opd fr k with
  | .mp id, .d kd => match ob.get id with
   | some (.map ks vs kv) => if Sh.beq ks kt && fitsLeaf ks kd then match dat ob (opd fr v) with
     | some (x, l) => if fits vs x then (if l.contains id then .stuck else .ret ⟨.tup [], (ob.freeze l).set id (.map ks vs (kvSet kd x kv)), []⟩) else .stuck
     | none => .stuck
    else .stuck
   | _ => .stuck
  | _, _ => .stuck
 | .mapGet kt e zero ok m k => match mkD e zero, opd fr k with
  | some z, .d kd => if fits e z then match opd fr m with
    | .mp id => match ob.get id with
     | some (.map ks vs kv) => if Sh.beq ks kt && Sh.beq vs e && fitsLeaf ks kd then
       (match ok with
       | true => .ret ⟨.tup [.d (eta e (kvGet kd z kv)), .d (.bool (kvHas kd kv))], ob, []⟩
       | false => .ret ⟨.d (eta e (kvGet kd z kv)), ob, []⟩)
      else .stuck
     | _ => .stuck
    | _ => .stuck
   else .stuck
  | _, _ => .stuck
 | .mlen m => match opd fr m with
  | .mp id => match ob.get id with
   | some (.map _ _ kv) => .ret ⟨.d (.int .i64 kv.length), ob, []⟩
   | _ => .stuck
  | _ => .stuck
 | .rng x => match opd fr x with
  | .d (.str s) => .ret ⟨.ptr base 0, ob.set base (.sit s 0), [base]⟩
  | _ => .stuck
 | .nxt x => match opd fr x with
  | .ptr id 0 => match ob.get id with
   | some (.sit s pos) => .ite (decide (pos < s.length)) (fun _ => .ret ⟨.tup [.d (.bool true), .d (.int .i64 pos), .d (.int .i32 (Utf8.decode ⟨s.toArray⟩ pos).1)], ob.set id (.sit s (pos + (Utf8.decode ⟨s.toArray⟩ pos).2)), []⟩)
     (fun _ => .ret ⟨.tup [.d (.bool false)], ob, []⟩)
   | _ => .stuck
  | _ => .stuck
 | .bad _ => .stuck
def putT (dst : Option Nat) (v : V) (fr : List V) : List V :=
 match dst with
 | some d => fr.set d v
 | none => fr
def stepO (E : Env) (cf : CallF) (o : AOper) (st : St) : Tree St :=
 match o.op with
 | .call f args => match opd st.fr f with
  | .fn g as caps => (callV E cf (baseId o.dst) g (as ++ opds st.fr args ++ caps) st).bind fun (v, st') => .ret ⟨putT o.dst v st'.fr, st'.ob⟩
  | _ => .stuck
 | op => (stepP op (baseId o.dst) st.fr st.ob).bind fun r =>
  match r.kl with
  | [] => .ret ⟨putT o.dst r.v st.fr, r.ob⟩
  | _ :: _ =>
   let st' := St.kill r.kl ⟨st.fr, r.ob⟩
   .ret ⟨putT o.dst r.v st'.fr, st'.ob⟩
def runO (E : Env) (cf : CallF) (o : AOper) (st : St) : Tree St :=
  match o.guard with
  | none => stepO E cf o st
  | some (s, want) => match st.fr.getD s .any with
    | .d (.bool b) =>
      .ite b (fun _ => let st := ⟨st.fr.set s (.d (.bool true)), st.ob⟩
         match want with
         | true => stepO E cf o st
         | false => .ret ⟨putT o.dst (.tup []) st.fr, st.ob⟩) (fun _ => let st := ⟨st.fr.set s (.d (.bool false)), st.ob⟩
         match want with
         | true => .ret ⟨putT o.dst (.tup []) st.fr, st.ob⟩
         | false => stepO E cf o st)
    | .tup [] => .ret ⟨putT o.dst (.tup []) st.fr, st.ob⟩
    | _ => .stuck
def runOps (E : Env) (cf : CallF) : List AOper → St → Tree St
 | [], st => .ret st
 | o :: l, st => (runO E cf o st).bind (runOps E cf l)
def isReader : AOp → Bool
 | .mv _ => true
 | .pick _ _ _ => true
 | .build _ _ => true
 | .load _ _ _ => true
 | .nilck _ => true
 | .bin _ _ _ _ _ => true
 | .un _ _ => true
 | .conv c _ => match c with
  | .s2b => false
  | _ => true
 | .mkF _ _ _ => true
 | .slcS _ _ _ => true
 | .slc0 _ => true
 | .fldA _ _ => true
 | .fld _ _ _ _ => true
 | .ixS _ _ _ => true
 | .ixP _ _ _ _ => true
 | .ixStr _ _ => true
 | .ixArr _ _ _ _ => true
 | .ext _ _ => true
 | .len _ _ => true
 | .mn _ _ => true
 | .mx _ _ => true
 | .mapGet _ _ _ _ _ _ => true
 | .mlen _ => true
 | _ => false
def Opd.slots : Opd → List Nat
 | .tmp t => [t]
 | .con _ => []
def slotsL : List Opd → List Nat
 | [] => []
 | x :: l => x.slots ++ slotsL l
def slotsO : Option Opd → List Nat
 | some x => x.slots
 | none => []
def slotsP : List (Nat × Nat × Opd) → List Nat
 | [] => []
 | (_, _, x) :: l => x.slots ++ slotsP l
def AOp.slots : AOp → List Nat
 | .mv x => x.slots
 | .pick c a b => c.slots ++ a.slots ++ b.slots
 | .alloc _ => []
 | .allocA _ _ _ => []
 | .box x => x.slots
 | .build _ ps => slotsP ps
 | .buildSl _ _ _ ps => slotsP ps
 | .load _ _ a => a.slots
 | .store _ a v => a.slots ++ v.slots
 | .nilck x => x.slots
 | .bin _ _ _ x y => x.slots ++ y.slots
 | .un _ x => x.slots
 | .conv _ x => x.slots
 | .mkF _ as cs => slotsL as ++ slotsL cs
 | .mkSl _ _ l c => l.slots ++ c.slots
 | .slc _ x lo hi => x.slots ++ slotsO lo ++ slotsO hi
 | .slcS x lo hi => x.slots ++ slotsO lo ++ slotsO hi
 | .slc0 x => x.slots
 | .slcA _ _ x lo hi => x.slots ++ slotsO lo ++ slotsO hi
 | .fldA _ x => x.slots
 | .fld _ _ _ x => x.slots
 | .ixS _ x i => x.slots ++ i.slots
 | .ixP _ _ x i => x.slots ++ i.slots
 | .ixStr x i => x.slots ++ i.slots
 | .ixArr _ _ x i => x.slots ++ i.slots
 | .ext _ x => x.slots
 | .call f as => f.slots ++ slotsL as
 | .len _ x => x.slots
 | .appd _ s x => s.slots ++ x.slots
 | .mn x xs => x.slots ++ slotsL xs
 | .mx x xs => x.slots ++ slotsL xs
 | .mkMap _ _ => []
 | .mapSet _ m k v => m.slots ++ k.slots ++ v.slots
 | .mapGet _ _ _ _ m k => m.slots ++ k.slots
 | .mlen m => m.slots
 | .rng x => x.slots
 | .nxt x => x.slots
 | .bad _ => []
def maskF (live : List Nat) : Nat → List V → List V
 | _, [] => []
 | i, v :: r => (if live.contains i then v else .any) :: maskF live (i + 1) r
def stepV (E : Env) (cf : CallF) (op : AOp) (fr : List V) (ob : Obs) : Tree (V × Obs) :=
 match op with
 | .call f args => match opd fr f with
  | .fn g as caps => (callV E cf 64 g (as ++ opds fr args ++ caps) ⟨fr, ob⟩).bind fun (v, st') => .ret (v, st'.ob)
  | _ => .stuck
 | op => (stepP op 64 fr ob).bind fun r => .ret (r.v, (St.kill r.kl ⟨fr, r.ob⟩).ob)
def readD (op : AOp) (args : List V) (ob : Obs) : Tree Delta :=
 let ids := reach ob 64 (V.idsL args) []
 let r := indexIn ids 0
 (stepP op 64 (V.renL r args) (takeObs ob r ids 0)).bind fun q => .ret ⟨q.v.ren (nthId ids), [], []⟩
def isBlind : AOp → Bool
 | .mv _ => true
 | .pick _ _ _ => true
 | .nilck _ => true
 | .fldA _ _ => true
 | .fld _ _ _ _ => true
 | .ext _ _ => true
 | _ => false
def blindD (op : AOp) (args : List V) : Tree Delta := (stepP op 64 args []).bind fun q => .ret ⟨q.v, [], []⟩
def isRo (E : Env) (op : AOp) (fr : List V) : Bool :=
 match op with
 | .call f _ => match opd fr f with
  | .fn g _ _ => match E.con g with
   | some (.gen true _) => true
   | _ => false
  | _ => false
 | _ => false
def roStep (E : Env) (op : AOp) (fr : List V) (ob : Obs) : Tree (V × Obs) :=
 match op with
 | .call f as => match opd fr f with
  | .fn g xs caps => match E.con g with
   | some (.gen true C) => roC C (xs ++ opds fr as ++ caps) ob
   | _ => .stuck
  | _ => .stuck
 | _ => .stuck
def fzAt (ob : Obs) (i : Nat) : Bool := match ob.get i with
 | some (.lst _ _ _ fz _) => fz
 | _ => false
def plainV (ob : Obs) (ids : List Nat) : V → Bool
 | .d _ => true
 | .rp _ => true
 | .cap0 _ => true
 | .ptr id _ => ids.contains id
 | .ep id _ _ => ids.contains id
 | .sla id _ _ => ids.contains id
 | .own id => ids.contains id && !fzAt ob id
 | _ => false
def plainL (ob : Obs) (ids : List Nat) : List V → Bool
 | [] => true
 | v :: vs => plainV ob ids v && plainL ob ids vs
def plainAt (ob : Obs) (ids : List Nat) : List Nat → Bool
 | [] => true
 | i :: l => (match ob.get i with
  | some (.box cs) => plainL ob ids cs
  | some _ => true
  | none => true) && plainAt ob ids l
def roD (ob : Obs) (args : List V) (d : Delta) : Tree Delta :=
 let ids := reach ob 64 (V.idsL args) []
 match d.kl, d.v with
 | [], .d x => if Nat.beq d.up.length ids.length && plainAt ob ids ids then .ret ⟨.d x, [], []⟩ else .stuck
 | _, _ => .stuck
def drawD (E : Env) (cf : CallF) (op : AOp) (dst : Option Nat) (args : List V) (ob : Obs) : Tree Delta :=
 if isBlind op then blindD op args else if isReader op then readD op args ob else match isRo E op args with
  | true => (callD (roStep E op) (baseId dst) args ob).bind (roD ob args)
  | false => callD (stepV E cf op) (baseId dst) args ob
def idsOf (ob : Obs) : List Nat → List Nat
 | [] => []
 | i :: l => match ob.get i with
  | some o => o.ids ++ idsOf ob l
  | none => idsOf ob l
def looks (ob : Obs) (args : List V) : List Nat := V.idsL args ++ idsOf ob (reach ob 64 (V.idsL args) [])
def looksOp (op : AOp) (ob : Obs) (args : List V) : List Nat := match isBlind op with
 | true => []
 | false => looks ob args
structure Rec where
 dst : Option Nat
 rd : List Nat
 F : List Nat
 d : Delta
def Rec.app (r : Rec) (st : St) : St :=
 let st1 := r.d.app st
 ⟨putT r.dst r.d.v st1.fr, st1.ob⟩
def drawO (E : Env) (cf : CallF) (o : AOper) (st : St) : Tree (Rec × St) :=
  let go (rd : List Nat) (st : St) : Tree (Rec × St) :=
    let args := maskF o.op.slots 0 st.fr
    (drawD E cf o.op o.dst args st.ob).bind fun d => .ret (⟨o.dst, rd, looksOp o.op st.ob args, d⟩, st)
  match o.guard with
  | none => go o.op.slots st
  | some (s, want) => match st.fr.getD s .any with
    | .d (.bool b) =>
      .ite b (fun _ => let st := ⟨st.fr.set s (.d (.bool true)), st.ob⟩
         match want with
         | true => go (s :: o.op.slots) st
         | false => .ret (⟨o.dst, [s], [], ⟨.tup [], [], []⟩⟩, st)) (fun _ => let st := ⟨st.fr.set s (.d (.bool false)), st.ob⟩
         match want with
         | true => .ret (⟨o.dst, [s], [], ⟨.tup [], [], []⟩⟩, st)
         | false => go (s :: o.op.slots) st)
    | .tup [] => .ret (⟨o.dst, [s], [], ⟨.tup [], [], []⟩⟩, st)
    | _ => .stuck
def drawL (E : Env) (cf : CallF) : List AOper → St → Tree (List Rec × St)
 | [], st => .ret ([], st)
 | o :: l, st => (drawO E cf o st).bind fun (r, st1) => (drawL E cf l (r.app st1)).bind fun (rs, st2) => .ret (r :: rs, st2)
def upIds : List (Nat × Option Obj) → List Nat
 | [] => []
 | (_, some o) :: l => o.ids ++ upIds l
 | (_, none) :: l => upIds l
def upKeys : List (Nat × Option Obj) → List Nat
 | [] => []
 | (i, _) :: l => i :: upKeys l
def Rec.T (r : Rec) : List Nat := r.d.kl ++ upKeys r.d.up
def Rec.W (r : Rec) : List Nat := r.d.v.ids ++ upIds r.d.up
def slotIds (fr : List V) : List Nat → List Nat
 | [] => []
 | s :: l => (fr.getD s .any).ids ++ slotIds fr l
def isDst (d : Option Nat) (l : List Nat) : Bool := match d with
 | some d => l.contains d
 | none => false
def meets : List Nat → List Nat → Bool
 | [], _ => false
 | x :: l, m => m.contains x || meets l m
def hits (r : Rec) : List Rec → List Nat
 | [] => []
 | q :: l => if isDst q.dst r.rd || meets (upKeys q.d.up) r.F then q.W ++ hits r l else hits r l
def Rec.D (r : Rec) (rs : List Rec) (st : St) : List Nat := r.F ++ r.T ++ r.W ++ slotIds st.fr r.rd ++ idsOf st.ob r.F ++ hits r rs
def apart1 (p q : Rec) (rs : List Rec) (st : St) : Bool :=
 !(isDst p.dst q.rd) && (match p.dst, q.dst with
  | some a, some b => !(Nat.beq a b)
  | _, _ => true) && ((match p.d.kl with
  | [] => true
  | t => !(meets t (q.D rs st))) && (match upKeys p.d.up with
  | [] => true
  | t => !(meets t (q.F ++ q.T))))
def uni : List Nat → List Nat → List Nat
 | [], r => r
 | x :: l, r => uni l (if r.contains x then r else x :: r)
def addOne (j : Nat) (l r : List Nat) : List Nat := match r.contains j with
 | true => r
 | false => j :: uni l r
def addTo (acc : List (List Nat)) : List Nat → List Nat
 | [] => []
 | j :: js => addOne j (acc.getD j []) (addTo acc js)
def preds : List AOper → List (List Nat) → List (List Nat)
 | [], acc => acc
 | o :: l, acc => preds l (acc ++ [addTo acc o.aft])
def nthL (l : List (List Nat)) (k : Nat) : List Nat := l.getD k []
def apartAll (ps : List Nat) (q : Rec) (rs : List Rec) (st : St) : Nat → List Rec → Bool
 | _, [] => true
 | k, p :: l => (ps.contains k || (apart1 p q rs st && apart1 q p rs st)) && apartAll ps q rs st (k + 1) l
def apartFrom (pss : List (List Nat)) (all : List Rec) (st : St) : Nat → List Rec → List Rec → Bool
 | _, _, [] => true
 | k, pre, q :: l => apartAll (nthL pss k) q all st 0 pre && apartFrom pss all st (k + 1) (pre ++ [q]) l
def backward : Nat → List AOper → Bool
 | _, [] => true
 | k, o :: l => o.aft.all (fun j => Nat.blt j k) && backward (k + 1) l
def runDraw (E : Env) (cf : CallF) (l : List AOper) (st : St) : Tree St :=
 if backward 0 l then
  (drawL E cf l st).bind fun (rs, st') => if apartFrom (preds l []) rs st 0 [] rs then .ret st' else .stuck
 else .stuck
def keepObs (keep : List Nat) : Obs → Obs
 | [] => []
 | (k, o) :: l => if keep.contains k then (k, o) :: keepObs keep l else keepObs keep l
def maskSt (m : Option (List Nat × List Nat)) (st : St) : St :=
 match m with
 | none => st
 | some (live, keep) => ⟨maskF live 0 st.fr, keepObs keep st.ob⟩
def iter (m : St → St) (body : St → Tree (Ex × St)) : Nat → St → Tree (Ex × St)
 | 0, _ => .stuck
 | n + 1, st => (body (m st)).bind fun (e, st') => match e with
  | .nrm => iter m body n st'
  | .ext id => .ret (.ext id, st')
  | .ret => .ret (.ret, st')
def setTmp (o : Opd) (b : Bool) (st : St) : St :=
 match o with
 | .tmp t => ⟨st.fr.set t (.d (.bool b)), st.ob⟩
 | .con _ => st
def runC (E : Env) (cf : CallF) (n : Nat) : AC → St → Tree (Ex × St)
 | .skip, st => .ret (.nrm, st)
 | .ret, st => .ret (.ret, st)
 | .seq a b, st => (runC E cf n a st).bind fun (e, st') => match e with
  | .nrm => runC E cf n b st'
  | .ext id => .ret (.ext id, st')
  | .ret => .ret (.ret, st')
 | .cond c a b, st => match opd st.fr c with
  | .d (.bool t) => .ite t (fun _ => runC E cf n a (setTmp c true st)) (fun _ => runC E cf n b (setTmp c false st))
  | _ => .stuck
 | .block id c, st => (runC E cf n c st).bind fun (e, st') => match e with
  | .ext j => if Nat.beq j id then .ret (.nrm, st') else .ret (.ext j, st')
  | .nrm => .ret (.nrm, st')
  | .ret => .ret (.ret, st')
 | .loop _ live c, st => iter (maskSt live) (runC E cf n c) n st
 | .exit id, st => .ret (.ext id, st)
 | .ops d l, st => match d with
  | false => (runOps E cf l st).bind fun st' => .ret (.nrm, st')
  | true => (runDraw E cf l st).bind fun st' => .ret (.nrm, st')
 | .scope c, st => runC E cf n c st
 | .bad, _ => .stuck
def resV (st : St) : List Res → Tree (List V)
 | [] => .ret []
 | .tmp t :: l => (resV st l).bind fun vs => .ret (st.fr.getD t .any :: vs)
 | .cell a n ag :: l => (loadAt st.ob n ag (st.fr.getD a .any)).bind fun v => (resV st l).bind fun vs => .ret (v :: vs)
def padTo (n : Nat) (l : List V) : List V := l ++ List.replicate (n - l.length) (.tup [])
def retOf : List V → V
 | [v] => v
 | vs => .tup vs
def enter (E : Env) (cf : CallF) (n : Nat) (fn : AFn) (args : List V) (ob : Obs) : Tree (V × Obs) :=
 (runC E cf n fn.body ⟨padTo fn.ntmps args, ob⟩).bind fun (e, st) => match e with
  | .ext _ => .stuck
  | _ => (resV st fn.res).bind fun vs => .ret (retOf vs, st.ob)
def callN (E : Env) : Nat → CallF
 | 0 => fun _ _ _ => .stuck
 | n + 1 => fun f args ob => match E.prog f with
  | some fn => enter E (callN E n) n fn args ob
  | none => .stuck
def findFn : List (Nat × AFn) → Nat → Option AFn
 | [], _ => none
 | (k, f) :: l, i => if Nat.beq k i then some f else findFn l i
def isAggD : Option TypeDesc → Bool
 | some (.struct _) => true
 | some (.array _ _) => true
 | _ => false
def flatO {α : Type} : List (Option (List α)) → Option (List α)
 | [] => some []
 | none :: _ => none
 | some l :: r => match flatO r with
  | some m => some (l ++ m)
  | none => none
def allO {α : Type} : List (Option α) → Option (List α)
 | [] => some []
 | none :: _ => none
 | some x :: r => match allO r with
  | some m => some (x :: m)
  | none => none
def leafT (P : Program) : Nat → TypeId → Option (List TypeId)
 | 0, _ => none
 | d + 1, t => match P.underlying t with
  | none => none
  | some (.struct fs) => flatO (fs.toList.map fun f => leafT P d f.type)
  | some (.array n e) => match leafT P d e with
   | some l => some (repl n l)
   | none => none
  | some .invalid => none
  | some (.tuple _) => none
  | some _ => some [t]
def shT (P : Program) : Nat → TypeId → Option Sh
 | 0, _ => none
 | d + 1, t => match P.underlying t with
  | some .bool => some .bool
  | some (.int k) => some (.int k)
  | some .string => some .str
  | some (.slice e) => match shT P d e with
   | some s => some (.sl s)
   | none => none
  | some (.struct _) => match leafT P (d + 1) t with
   | some ts => match allO (ts.map (shT P d)) with
    | some l => some (.agg l)
    | none => none
   | none => none
  | some (.array _ _) => match leafT P (d + 1) t with
   | some ts => match allO (ts.map (shT P d)) with
    | some l => some (.agg l)
    | none => none
   | none => none
  | _ => none
def dep : Nat := 12
def sh (P : Program) (t : TypeId) : Option Sh :=
 match shT P dep t with
 | some s => if Nat.beq (P.cellsOf t) s.size && Nat.ble (P.bytesOf t) 1024 && Nat.blt 0 (P.bytesOf t) then some s else none
 | none => none
def cstLeaf (P : Program) (t : TypeId) : Value → Option D
 | .bool b => some (.bool b)
 | .int k n => some (.int k n)
 | .string s => some (.str s.data.toList)
 | .pointer none => some .nilp
 | .nilFunc => some .nilf
 | .nilIface => some .nili
 | .map none => some .nilm
 | .slice none 0 0 => match P.underlying t with
  | some (.slice e) => match sh P e with
   | some s => some (.sl s true [])
   | none => none
  | _ => none
 | _ => none
def cstL (P : Program) : List TypeId → List Value → Option (List D)
 | [], [] => some []
 | t :: ts, v :: vs => match cstLeaf P t v, cstL P ts vs with
  | some x, some xs => some (x :: xs)
  | _, _ => none
 | _, _ => none
def cst (P : Program) (t : TypeId) : Value → V
 | .agg cs => match leafT P dep t with
  | some ts => match cstL P ts cs.toList with
   | some xs => .d (.agg xs)
   | none => .any
  | none => .any
 | v => match cstLeaf P t v with
  | some x => .d x
  | none => .any
def pow10 : List D := [1, 10, 100, 1000, 10000, 100000, 1000000, 10000000, 100000000, 1000000000, 10000000000, 100000000000, 1000000000000, 10000000000000, 100000000000000, 1000000000000000, 10000000000000000, 100000000000000000, 1000000000000000000, 10000000000000000000].map fun n => .int .u64 n
def tabOf (P : Program) : List (Nat × List D) := match P.globals.toList.findIdx? (fun g => g.name == "internal/strconv.uint64pow10") with
 | some g => [(g, pow10)]
 | none => []
def findTab : List (Nat × List D) → Nat → Option (List D)
 | [], _ => none
 | (g, cs) :: l, h => if Nat.beq g h then some cs else findTab l h
def cOpd (P : Program) (t : TypeId) : Operand → Opd
 | .tmp i => .tmp i
 | .const v => .con (cst P t v)
 | .func f => .con (.fn f [] [])
 | .global g => match findTab (tabOf P) g with
  | some cs => .con (.rp cs)
  | none => .con .any
def zeroOf (P : Program) (t : TypeId) : Option (List D) :=
 match leafT P dep t, P.info? t with
 | some ts, some i => match i.zero with
  | some z => cstL P ts z.cells.toList
  | none => none
 | _, _ => none
def cOpds (P : Program) : List TypeId → List Operand → List Opd
 | [], _ => []
 | _, [] => []
 | t :: ts, x :: xs => cOpd P t x :: cOpds P ts xs
def fieldParts (P : Program) (fs : Array Field) : List (Nat × Operand) → Option (List (Nat × Nat × Opd))
 | [] => some []
 | (i, x) :: l => match fs[i]?, fieldParts P fs l with
  | some f, some r => some ((f.offset, P.cellsOf f.type, cOpd P f.type x) :: r)
  | _, _ => none
def elemParts (P : Program) (e : TypeId) : List (Nat × Operand) → List (Nat × Nat × Opd)
 | [] => []
 | (i, x) :: l => (i * P.cellsOf e, P.cellsOf e, cOpd P e x) :: elemParts P e l
def zeroIs (P : Program) (t : TypeId) (s : Sh) : Bool :=
 match P.info? t with
 | some i => match i.zero with
  | some (.agg _) => s.isAgg
  | some _ => !s.isAgg
  | none => false
 | none => false
def isZeroC : Option Operand → Bool
 | some (.const (.int _ n)) => n == 0
 | _ => false
def cOptO (P : Program) : Option Operand → Option Opd
 | none => none
 | some x => some (cOpd P 0 x)
def cBuiltin (P : Program) (b : Builtin) (ts : List TypeId) (args : List Operand) : AOp :=
 match b, ts, args with
 | .len, [t], [x] => match P.underlying t with
  | some .string => .len 0 (cOpd P t x)
  | some (.slice _) => .len 1 (cOpd P t x)
  | some (.map _ _) => .mlen (cOpd P t x)
  | _ => .bad 5
 | .append, [t, u], [s, x] => match P.underlying t, P.underlying u with
  | some (.slice _), some (.int _) => .bad 1
  | some (.slice e), some _ => match sh P e with
   | some s' => if ((zeroOf P e).map List.length) == some s'.size then .appd s' (cOpd P t s) (cOpd P u x) else .bad 2
   | none => .bad 2
  | _, _ => .bad 3
 | .min, _, x :: xs => .mn (cOpd P 0 x) (xs.map (cOpd P 0))
 | .max, _, x :: xs => .mx (cOpd P 0 x) (xs.map (cOpd P 0))
 | _, _, _ => .bad 4
def cConv (P : Program) (src dst : TypeId) : Option Cv :=
 match P.underlying src, P.underlying dst with
 | some (.int _), some (.int k) => some (.int k)
 | some .string, some .string => some .idn
 | some (.slice e), some .string => match P.underlying e with
  | some (.int .u8) => some .b2s
  | _ => none
 | some .string, some (.slice e) => match P.underlying e with
  | some (.int .u8) => some .s2b
  | _ => none
 | _, _ => none
def repK : Nat → List Sh → List Sh
 | 0, _ => []
 | n + 1, k => k ++ repK n k
def eqSh (P : Program) : Nat → TypeId → Option (List Sh)
  | 0, _ => none
  | d + 1, t => match P.underlying t with
    | some .bool => if Nat.beq (P.cellsOf t) 1 then some [.bool] else none
    | some (.int k) => if Nat.beq (P.cellsOf t) 1 then some [.int k] else none
    | some .string => if Nat.beq (P.cellsOf t) 1 then some [.str] else none
    | some (.struct fs) => if P.stoodInHeld t then none else eqFs (eqSh P d) P (P.cellsOf t) fs.toList 0
    | some (.array n e) => match eqSh P d e with
      | some k => if Nat.beq (n * k.length) (P.cellsOf t) && Nat.blt 0 k.length then some (repK n k) else none
      | none => none
    | _ => none
 where
  eqFs (ok : TypeId → Option (List Sh)) (P : Program) (tot : Nat) : List Field → Nat → Option (List Sh)
    | [], off => if Nat.beq off tot then some [] else none
    | f :: fs, off => if decide (f.name ≠ "_") && Nat.beq f.offset off then match ok f.type, eqFs ok P tot fs (off + P.cellsOf f.type) with
        | some l, some m => if Nat.beq l.length (P.cellsOf f.type) then some (l ++ m) else none
        | _, _ => none
      else none
def tkOf (P : Program) (t : TypeId) : Nat × List Sh :=
 match P.underlying t with
 | some .bool => (1, [])
 | some (.pointer _) => (2, [])
 | some (.slice _) => (3, [])
 | some (.func _ _ _) => (4, [])
 | some (.map _ _) => (5, [])
 | some (.struct _) => match eqSh P dep t with
  | some l => if P.eqGuardType P.depth t then (0, []) else (6, l)
  | none => (0, [])
 | some (.array _ _) => match eqSh P dep t with
  | some l => if P.eqGuardType P.depth t then (0, []) else (6, l)
  | none => (0, [])
 | _ => (0, [])
def cOp (P : Program) (o : Oper) : AOp :=
 match o.op with
 | .move x => .mv (cOpd P o.type x)
 | .assign x => .mv (cOpd P o.type x)
 | .pick c a b => .pick (cOpd P 0 c) (cOpd P o.type a) (cOpd P o.type b)
 | .alloc t => match P.underlying t with
  | some (.array n e) => match sh P e, zeroOf P t with
   | some s, some z => .allocA s z n
   | _, _ => .bad 10
  | _ => match zeroOf P t with
   | some z => .alloc z
   | none => .bad 11
 | .box t x => match P.underlying t with
  | some (.array _ _) => .bad 12
  | _ => .box (cOpd P t x)
 | .build t pz => match P.underlying t with
  | some (.struct fs) => match zeroOf P t, fieldParts P fs pz.toList with
   | some z, some ps => if fs.toList.all fun f => (P.info? f.type).isSome then .build z ps else .bad 13
   | _, _ => .bad 13
  | some (.array _ e) => match zeroOf P t with
   | some z => if (P.info? e).isSome then .build z (elemParts P e pz.toList) else .bad 14
   | none => .bad 14
  | _ => .bad 15
 | .buildSlice t len pz => match P.underlying t with
  | some (.slice e) => match sh P e, zeroOf P e with
   | some s, some z => if Nat.blt (len * s.size) 65536 && Nat.beq z.length s.size then .buildSl s z len (elemParts P e pz.toList) else .bad 16
   | _, _ => .bad 17
  | _ => .bad 18
 | .load t a => if (P.underlying t).isSome then .load (P.cellsOf t) (isAggD (P.underlying t)) (cOpd P 0 a) else .bad 60
 | .store t a v => if (P.underlying t).isSome then .store (P.cellsOf t) (cOpd P 0 a) (cOpd P t v) else .bad 61
 | .nilCheck x => .nilck (cOpd P 0 x)
 | .binOp op t x y _ => .bin op (tkOf P t).1 (tkOf P t).2 (cOpd P t x) (cOpd P t y)
 | .unOp op _ x => .un op (cOpd P 0 x)
 | .convert src dst x => match cConv P src dst with
  | some c => .conv c (cOpd P src x)
  | none => .bad 20
 | .makeFunc (.func f) first caps => .mkF f (first.toList.map (cOpd P 0)) (caps.toList.map (cOpd P 0))
 | .makeSlice t l c => match P.underlying t with
  | some (.slice e) => match sh P e, zeroOf P e with
   | some s, some z => .mkSl s z (cOpd P 0 l) (cOpd P 0 c)
   | _, _ => .bad 22
  | _ => .bad 23
 | .slice t x lo hi mx => match P.underlying t with
  | some .string => match mx with
   | none => .slcS (cOpd P t x) (cOptO P lo) (cOptO P hi)
   | some _ => .bad 24
  | some (.slice e) => match mx with
   | none => match sh P e with
    | some s => .slc s (cOpd P t x) (cOptO P lo) (cOptO P hi)
    | none => .bad 24
   | some m => if lo.isNone && isZeroC hi && isZeroC (some m) && (sh P e).isSome then .slc0 (cOpd P t x) else .bad 25
  | some (.array n e) => match mx, sh P e with
   | none, some s => .slcA s n (cOpd P 0 x) (cOptO P lo) (cOptO P hi)
   | _, _ => .bad 26
  | some (.pointer a) => match P.underlying a, mx with
   | some (.array n e), none => match sh P e with
    | some s => .slcA s n (cOpd P 0 x) (cOptO P lo) (cOptO P hi)
    | none => .bad 26
   | _, _ => .bad 27
  | _ => .bad 28
 | .fieldAddr t x f => match P.underlying t with
  | some (.struct fs) => match fs[f]? with
   | some fd => if Nat.beq (P.cellsOf fd.type) 0 then .bad 29 else .fldA fd.offset (cOpd P 0 x)
   | none => .bad 30
  | _ => .bad 31
 | .field t x f => match P.underlying t with
  | some (.struct fs) => match fs[f]? with
   | some fd => if (P.underlying fd.type).isSome then .fld fd.offset (P.cellsOf fd.type) (isAggD (P.underlying fd.type)) (cOpd P t x) else .bad 62
   | none => .bad 32
  | _ => .bad 33
 | .indexAddr t x i => match P.underlying t with
  | some (.slice e) => match sh P e with
   | some s => .ixS s (cOpd P t x) (cOpd P 0 i)
   | none => .bad 34
  | some (.array n e) => match sh P e with
   | some s => .ixP s n (cOpd P 0 x) (cOpd P 0 i)
   | none => .bad 34
  | _ => .bad 35
 | .index t x i => match P.underlying t with
  | some .string => .ixStr (cOpd P t x) (cOpd P 0 i)
  | some (.array n e) => match sh P e with
   | some s => .ixArr s n (cOpd P t x) (cOpd P 0 i)
   | none => .bad 36
  | _ => .bad 37
 | .extract x i => .ext i (cOpd P 0 x)
 | .call c => match c.callee with
  | .value f => if Nat.beq c.argTypes.size c.args.size then .call (cOpd P 0 f) (cOpds P c.argTypes.toList c.args.toList) else .bad 41
  | .builtin b => cBuiltin P b c.argTypes.toList c.args.toList
  | .invoke _ _ => .bad 40
 | .makeMap t none => match P.underlying t with
  | some (.map k e) => match sh P k, sh P e with
   | some a, some b => .mkMap a b
   | _, _ => .bad 70
  | _ => .bad 70
 | .mapUpdate t m k v => match P.underlying t with
  | some (.map kt e) => match sh P kt, sh P e with
   | some a, some _ => if keySh a then .mapSet a (cOpd P t m) (cOpd P kt k) (cOpd P e v) else .bad 71
   | _, _ => .bad 71
  | _ => .bad 71
 | .insert t m k v => match P.underlying t with
  | some (.map kt e) => match sh P kt, sh P e with
   | some a, some _ => if keySh a then .mapSet a (cOpd P t m) (cOpd P kt k) (cOpd P e v) else .bad 72
   | _, _ => .bad 72
  | _ => .bad 72
 | .lookup t m k ok => match P.underlying t with
  | some (.map kt e) => match sh P kt, sh P e, zeroOf P e with
   | some a, some b, some z => if keySh a && zeroIs P e b then .mapGet a b z ok (cOpd P t m) (cOpd P kt k) else .bad 73
   | _, _, _ => .bad 73
  | _ => .bad 73
 | .range t x => match P.underlying t with
  | some .string => .rng (cOpd P t x)
  | _ => .bad 74
 | .next x true => .nxt (cOpd P 0 x)
 | _ => .bad 50
def onsOf : List Edge → List Nat
 | [] => []
 | e :: l => if Region.binds .any e then e.on :: onsOf l else onsOf l
def maxL : List Nat → Nat
 | [] => 0
 | x :: l => Nat.max x (maxL l)
def normL (l : List Nat) : List Nat := (List.range (maxL l + 1)).filter fun j => l.contains j
def cOper (P : Program) (ops : Array Oper) (draw : Bool) (o : Oper) : Option AOper :=
 match o.guard with
 | none => some ⟨o.dst, cOp P o, none, if draw then normL (onsOf o.after.toList) else []⟩
 | some (j, want) => match ops[j]? with
  | some p => match p.dst with
   | some s => some ⟨o.dst, cOp P o, some (s, want), if draw then normL (onsOf o.after.toList) else []⟩
   | none => none
  | none => none
def cCode (P : Program) : Code → AC
 | .skip => .skip
 | .ret => .ret
 | .seq a b => .seq (cCode P a) (cCode P b)
 | .cond c a b => .cond (cOpd P 0 c) (cCode P a) (cCode P b)
 | .block id c => .block id (cCode P c)
 | .loop c => .loop 0 none (cCode P c)
 | .exit id => .exit id
 | .label _ => .skip
 | .region _ ops draw => match allO (ops.toList.map (cOper P ops draw)) with
  | some l => .ops draw l
  | none => .bad
 | .scope c => .scope (cCode P c)
 | _ => .bad
def cRes (P : Program) : ResultVar → Res
 | .tmp t => .tmp t
 | .cell a t => .cell a (P.cellsOf t) (isAggD (P.underlying t))
def resOk (P : Program) : ResultVar → Bool
 | .tmp _ => true
 | .cell _ t => (P.underlying t).isSome
def cFn (P : Program) (f : Nat) : Option AFn :=
 match P.funcs[f]? with
 | some fn => if fn.name == "runtime.NumGoroutine" then none else if !(fn.results.toList.all (resOk P)) then none else match fn.body with
  | some c => some ⟨fn.ntmps, fn.results.toList.map (cRes P), cCode P c⟩
  | none => none
 | none => none
def AC.erase : AC → AC
 | .seq a b => .seq a.erase b.erase
 | .cond c a b => .cond c a.erase b.erase
 | .block id c => .block id c.erase
 | .loop _ _ c => .loop 0 none c.erase
 | .scope c => .scope c.erase
 | c => c
def AFn.erase (f : AFn) : AFn := ⟨f.ntmps, f.res, f.body.erase⟩
end Go.AM
