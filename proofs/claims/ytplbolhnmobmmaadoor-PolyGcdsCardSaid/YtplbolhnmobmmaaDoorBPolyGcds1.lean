/- Part 1 of the texts of PolyGcds: words, the machine's side of functions (written by a program), plain lemmas. -/
import Derived.WalkKit
set_option linter.unusedVariables false
set_option linter.unusedSimpArgs false
namespace Go.Pe
inductive AV where
  | junk
  | b (x : Bool)
  | i (k : IntKind) (n : Int)
  | s (x : ByteArray)
  | np
  | ns (z : Nat)
  | l (z : Nat) (es : List (List AV))
  | tp (cs : List AV) (o : Nat)
  | sl (r z o n : Nat)
  | p (r e o : Nat)
  | agg (cs : List AV)
  | tup (cs : List AV)
  | own (ap : Bool) (z : Nat) (es : List (List AV))
  | ownp (cs : List AV)
  | back (v : AV) (outs : List AV)
  deriving Inhabited
inductive Row where
  | sl (ap : Bool) (z : Nat) (es : List (List AV))
  | st (cs : List AV)
  | fsl (z : Nat) (es : List (List AV))
  | fst (cs : List AV)
  | dead
abbrev Heap := Nat → Option Row
structure St where
  env : Nat → AV
  h : Heap
def Heap.none : Heap := fun _ => .none
def Heap.put (h : Heap) (r : Nat) (x : Row) : Heap := fun q => if q = r then some x else h q
def Row.freeze : Row → Row
  | .sl _ z es => .fsl z es
  | .st cs => .fst cs
  | x => x
def Heap.freeze (h : Heap) : List Nat → Heap
  | [] => h
  | r :: rs => fun q => if q = r then (h.freeze rs q).map Row.freeze else h.freeze rs q
inductive At where
  | t (n : Nat)
  | c (v : AV)
def upd (e : Nat → AV) (d : Nat) (v : AV) : Nat → AV := fun t => if t = d then v else e t
def At.ev (e : Nat → AV) : At → AV
  | .t n => e n
  | .c v => v
def AV.cells : AV → List AV
  | .agg cs => cs
  | .junk | .tup _ | .own _ _ _ | .ownp _ | .back _ _ => []
  | v => [v]
def Row.win (o n : Nat) : Row → Option (List (List AV))
  | .sl _ _ es | .fsl _ es => some ((es.drop o).take n)
  | _ => none
def Row.at (e : Nat) : Row → Option (List AV)
  | .sl _ _ es | .fsl _ es => es[e]?
  | .st cs | .fst cs => if e = 0 then some cs else none
  | .dead => none
def tell0 (h : Heap) : AV → AV
  | .ns z => .l z []
  | .sl r z o n => match (h r).bind (Row.win o n) with | some es => .l z es | none => .junk
  | .p _ _ _ => .junk
  | .own _ z es => .l z es
  | .ownp _ => .junk
  | v => v
def tellC (h : Heap) : AV → AV
  | .p r e o => match (h r).bind (Row.at e) with | some cs => .tp (cs.map (tell0 h)) o | none => .junk
  | v => tell0 h v
def tell1 (h : Heap) : AV → AV
  | .agg cs => .agg (cs.map (tellC h))
  | .tup _ => .junk
  | v => tellC h v
def tell (h : Heap) : AV → AV
  | .tup cs => .tup (cs.map (tell1 h))
  | .back _ _ => .junk
  | v => tell1 h v
def ref0 : AV → List Nat
  | .sl r _ _ _ => [r]
  | _ => []
def refC (h : Heap) : AV → List Nat
  | .p r e _ => r :: (match (h r).bind (Row.at e) with | some cs => cs.flatMap ref0 | none => [])
  | v => ref0 v
def ref1 (h : Heap) : AV → List Nat
  | .agg cs => cs.flatMap (refC h)
  | v => refC h v
def ref (h : Heap) : AV → List Nat
  | .tup cs => cs.flatMap (ref1 h)
  | v => ref1 h v
def AV.flat : AV → Bool
  | .b _ | .i _ _ | .s _ => true
  | _ => false
def AV.scalar : AV → Bool
  | .tup cs => cs.all AV.flat
  | v => v.flat
def byteNs : List (List AV) → Option (List Int)
  | [] => some []
  | [.i .u8 n] :: l => (byteNs l).map fun ns => n :: ns
  | _ => none
def bytesS (ns : List Int) : ByteArray := ns.foldl (fun r n => r.push (UInt8.ofNat n.toNat)) ByteArray.empty
inductive PO where
  | mv (x : At)
  | pick (c x y : At)
  | box (id sz : Nat) (x : At)
  | alloc (id : Nat) (z : List AV)
  | build (z : List AV) (ps : List (Nat × Nat × At))
  | bsl (id sz : Nat) (z : List AV) (n : Nat) (ps : List (Nat × At))
  | ld (agg : Bool) (sz : Nat) (x : At)
  | st (sz : Nat) (x v : At)
  | nck (x : At)
  | bin (op : BinOp) (x y : At)
  | eqb (neg : Bool) (x y : At)
  | eqs (neg : Bool) (x y : At)
  | not (x : At)
  | neg (x : At)
  | conv (k : IntKind) (x : At)
  | b2s (x : At)
  | mk (id sz bytes : Nat) (z : List AV) (l : At)
  | cut (sz : Nat) (x : At) (lo hi mx : Option At)
  | scut (x : At) (lo hi : Option At)
  | fld (o : Nat) (x : At)
  | idx (sz : Nat) (x i : At)
  | idxa (n sz : Nat) (x i : At)
  | sidx (x i : At)
  | ext (n : Nat) (x : At)
  | fpt (agg : Bool) (sz o : Nat) (x : At)
  | len (x : At)
  | slen (x : At)
  | min (x y : At)
  | max (x y : At)
  | app (id sz bytes : Nat) (x y : At)
  | copy (x y : At)
  | call (f : Nat) (xs : List At)
  | callw (f : Nat) (xs : List At) (li : Nat)
  | callo (f : Nat) (xs : List At) (id : Nat)
structure POp where
  dst : Option Nat
  op : PO
  guard : Option (Nat × Bool)
inductive PC where
  | skip
  | reg (chk : List (Nat × Nat)) (ops : List POp)
  | seq (x y : PC)
  | cond (c : At) (x y : PC)
  | block (id : Nat) (x : PC)
  | loop (live out : List (Nat × Nat)) (x : PC)
  | join (out : List (Nat × Nat)) (x : PC)
  | exit (id : Nat)
  | ret
inductive PR where
  | tmp (t : Nat)
  | cell (t : Nat) (agg : Bool) (sz : Nat)
structure PF where
  res : List (PR × Nat)
  lent : List Nat
  body : PC
inductive Ex where
  | normal
  | exit (id : Nat)
  | ret
def binI (op : BinOp) (k : IntKind) (x y : Int) : Option AV :=
  match op with
  | .add => some (.i k (k.wrap (x + y)))
  | .sub => some (.i k (k.wrap (x - y)))
  | .mul => some (.i k (k.wrap (x * y)))
  | .quo => if y = 0 then none else some (.i k (k.wrap (x.tdiv y)))
  | .rem => if y = 0 then none else some (.i k (x.tmod y))
  | .and | .or | .xor => some (.i k (Go.bits op k x y))
  | .eql => some (.b (decide (x = y)))
  | .neq => some (.b (!decide (x = y)))
  | .lss => some (.b (decide (x < y)))
  | .leq => some (.b (decide (x ≤ y)))
  | .gtr => some (.b (decide (y < x)))
  | .geq => some (.b (decide (y ≤ x)))
  | _ => none
def shI (op : BinOp) (k : IntKind) (x y : Int) : Option AV :=
  if y < 0 then none else
  match op with
  | .shl => some (.i k (k.wrap (x * 2 ^ Nat.min y.toNat k.bits)))
  | .shr => some (.i k (x.fdiv (2 ^ Nat.min y.toNat k.bits)))
  | _ => none
def eqFlat : AV → AV → Option Bool
  | .b x, .b y => some (x == y)
  | .i _ x, .i _ y => some (decide (x = y))
  | .s x, .s y => some (decide (x.toList = y.toList))
  | .np, .np => some true
  | _, _ => none
def eqCells : List AV → List AV → Option Bool
  | [], [] => some true
  | x :: xs, y :: ys => (eqFlat x y).bind fun a => (eqCells xs ys).map fun b => a && b
  | _, _ => none
def binV (op : BinOp) (x y : AV) : Option AV :=
  match x, y with
  | .i k x, .i k' y => match op with
    | .shl | .shr => shI op k x y
    | _ => if k = k' then binI op k x y else none
  | .s x, .s y => match op with
    | .eql => some (.b (decide (x.toList = y.toList)))
    | .neq => some (.b (!decide (x.toList = y.toList)))
    | .add => if x.size + y.size ≤ 9223372036854775807 then some (.s (x ++ y)) else none
    | _ => none
  | _, _ => none
def eqbV (neg : Bool) (x y : AV) : Option AV := match x, y with
  | .b x, .b y => some (.b (if neg then !(x == y) else (x == y)))
  | _, _ => none
def eqsV (neg : Bool) (x y : AV) : Option AV := match x, y with
  | .agg x, .agg y => (eqCells x y).map fun q => .b (if neg then !q else q)
  | _, _ => none
def fillC (z : List AV) (off : Nat) (cs : List AV) : List AV := z.take off ++ cs ++ z.drop (off + cs.length)
def putC (sz : Nat) (es : List (List AV)) (e o : Nat) (cs : List AV) : List (List AV) := es.set e (if o = 0 ∧ cs.length = sz then cs else fillC (es.getD e []) o cs)
def buildV (e : Nat → AV) : List AV → List (Nat × Nat × At) → Option (List AV)
  | z, [] => some z
  | z, (off, sz, x) :: ps =>
    if (x.ev e).cells.length = sz ∧ off + sz ≤ z.length then buildV e (fillC z off (x.ev e).cells) ps else none
def bslV (e : Nat → AV) (h : Heap) (sz : Nat) : List (List AV) → List (Nat × At) → Option (List (List AV))
  | z, [] => some z
  | z, (j, x) :: ps =>
    if (x.ev e).cells.length = sz ∧ j < z.length then bslV e h sz (z.set j ((x.ev e).cells.map (tellC h))) ps else none
def ldC (agg : Bool) (sz o : Nat) (cs : List AV) : Option AV :=
  if agg then (if o = 0 ∧ cs.length = sz then some (.agg cs) else if o + sz ≤ cs.length then some (.agg ((cs.drop o).take sz)) else none)
  else cs[o]?
def lenV : AV → Option Nat
  | .sl _ _ _ n => some n
  | .l _ es => some es.length
  | .ns _ => some 0
  | _ => none
def esV (h : Heap) (sz : Nat) : AV → Option (List (List AV))
  | .sl r z o n => if z = sz then (h r).bind (Row.win o n) else none
  | .l z es => if z = sz then some es else none
  | .ns z => if z = sz then some [] else none
  | _ => none
def ptrAt (h : Heap) : AV → Option (List AV × Nat)
  | .p r e o => ((h r).bind (Row.at e)).map fun cs => (cs, o)
  | .tp cs o => some (cs, o)
  | _ => none
def ldV (h : Heap) (agg : Bool) (sz : Nat) (x : AV) : Option AV := (ptrAt h x).bind fun q => ldC agg sz q.2 q.1
def stV (h : Heap) (sz : Nat) (x v : AV) : Option Heap :=
  match x with
  | .p r e o => match h r with
    | some (.sl ap z es) =>
      if v.cells.length = sz ∧ e < es.length ∧ o + sz ≤ z ∧ r ∉ ref1 h v then some ((h.freeze (ref1 h v)).put r (.sl ap z (putC z es e o (v.cells.map (tellC h))))) else none
    | some (.st cs) =>
      if v.cells.length = sz ∧ e = 0 ∧ o + sz ≤ cs.length then some (h.put r (.st (if o = 0 ∧ sz = cs.length then v.cells else fillC cs o v.cells))) else none
    | _ => none
  | _ => none
def cutV (z : Nat) (x : AV) (l u : Int) : Option AV :=
  match x with
  | .sl r z' o n => if z' = z ∧ 0 ≤ l ∧ l ≤ u ∧ u ≤ (n : Int) then some (.sl r z' (o + l.toNat) (u.toNat - l.toNat)) else none
  | .l z' es => if z' = z ∧ 0 ≤ l ∧ l ≤ u ∧ u ≤ (es.length : Int) then some (.l z' ((es.drop l.toNat).take (u.toNat - l.toNat))) else none
  | .ns z' => if l = 0 ∧ u = 0 then some (.ns z') else none
  | _ => none
def scutV (x : AV) (l u : Option Int) : Option AV := match x, l with
  | .s y, some l => if 0 ≤ l ∧ l ≤ u.getD (y.size : Int) ∧ u.getD (y.size : Int) ≤ (y.size : Int) then some (.s (y.extract l.toNat (u.getD (y.size : Int)).toNat)) else none
  | _, _ => none
def intV : AV → Option Int
  | .i _ n => some n
  | _ => none
def optI (e : Nat → AV) (d : Option Int) : Option At → Option Int
  | some x => intV (x.ev e)
  | none => d
def idxV (z : Nat) (x : AV) (j : Int) : Option AV :=
  match x with
  | .sl r z' o n => if z' = z ∧ 0 ≤ j ∧ j < (n : Int) then some (.p r (o + j.toNat) 0) else none
  | .l z' es => if z' = z ∧ 0 ≤ j ∧ j < (es.length : Int) then some (.tp (es.getD j.toNat []) 0) else none
  | _ => none
def appV (h : Heap) (id sz bytes : Nat) (x y : AV) : Option (AV × Heap) :=
  match esV h sz y with
  | none => none
  | some new => match x with
    | .ns z => if z = sz ∧ new.length * bytes ≤ 140737488355328 ∧ (h id).isNone then some (.sl id z 0 new.length, h.put id (.sl true z new)) else none
    | .sl r z o n => match h r with
      | some (.sl true z' es) => if z = sz ∧ z' = sz ∧ o = 0 ∧ (n + new.length) * bytes ≤ 140737488355328 ∧ (h id).isNone then
          some (.sl id z 0 (n + new.length), (h.put r .dead).put id (.sl true z (es.take n ++ new))) else none
      | _ => none
    | _ => none
def copyV (h : Heap) (x y : AV) : Option (AV × Heap) :=
  match x with
  | .sl r z o n => match h r, esV h z y with
    | some (.sl ap z' es), some new => if z' = z ∧ o + n ≤ es.length then some (.i .i64 (Nat.min new.length n : Nat), h.put r (.sl ap z (es.take o ++ new.take (Nat.min new.length n) ++ es.drop (o + Nat.min new.length n)))) else none
    | _, _ => none
  | _ => none
def lendL (h : Heap) : AV → Option AV
  | .sl r z o n => match h r with
    | some (.sl _ _ es) => some (.own false z ((es.drop o).take n))
    | _ => none
  | .p r 0 0 => match h r with
    | some (.st cs) => some (.ownp (cs.map (tell0 h)))
    | _ => none
  | _ => none
def argsL (h : Heap) (x : AV) : Nat → List AV → List AV
  | _, [] => []
  | 0, _ :: vs => x :: vs.map (tell h)
  | k + 1, v :: vs => tell h v :: argsL h x k vs
def refsL (h : Heap) : Nat → List AV → List Nat
  | _, [] => []
  | 0, _ :: vs => vs.flatMap (ref h)
  | k + 1, v :: vs => ref h v ++ refsL h k vs
def pid (i : Nat) : Nat := 100000 + 100 * i
def demote : AV → AV
  | .own _ z es => .l z es
  | .ownp _ => .junk
  | .sl _ _ _ _ => .junk
  | .p _ _ _ => .junk
  | .back _ _ => .junk
  | v => v
def demoteT : AV → AV
  | .tup cs => .tup (cs.map demote)
  | v => demote v
def callV (call : Nat → List AV → Option AV) (h : Heap) (f : Nat) (vs : List AV) : Option (AV × Heap) :=
  (call f (vs.map (tell h))).map fun r => (demoteT r, if r.scalar then h else h.freeze (vs.flatMap (ref h)))
def lid (i : Nat) : Nat := 200000 + 100 * i
def aliasV (i q o : Nat) : AV → AV
  | .sl r z p n => if r = lid i ∧ 0 < n then .sl q z (o + p) n else if n = 0 then .l z [] else .junk
  | v => demoteT v
def backL (h : Heap) (li : Nat) (x : AV) (refs : List Nat) (r : AV) : Option (AV × Heap) := match x, r with
  | .sl q z o n, .back v [.own _ z2 es2] => match h q with
    | some (.sl ap z' es) => if q ∉ refs ∧ es2.length = n ∧ z2 = z' then some (aliasV li q o v, (h.freeze refs).put q (.sl ap z' (es.take o ++ es2 ++ es.drop (o + n)))) else none
    | _ => none
  | .p q 0 0, .back v [.ownp cs2] => match h q with
    | some (.st cs) => if q ∉ refs ++ cs.flatMap ref0 ∧ cs2.length = cs.length then some (demoteT v, (h.freeze (refs ++ cs.flatMap ref0)).put q (.st (cs2.map demote))) else none
    | _ => none
  | _, _ => none
def callL (call : Nat → List AV → Option AV) (h : Heap) (f : Nat) (vs : List AV) (li : Nat) : Option (AV × Heap) :=
  (lendL h (vs.getD li .junk)).bind fun x => (call f (argsL h x li vs)).bind fun r => backL h li (vs.getD li .junk) (refsL h li vs) r
def ownR (h : Heap) (refs : List Nat) (id : Nat) : AV → Option (AV × Heap)
  | .own ap z es => if (h id).isNone then some (.sl id z 0 es.length, (h.freeze refs).put id (.sl ap z es)) else none
  | .l z [] => some (.l z [], h.freeze refs)
  | _ => none
def callO (call : Nat → List AV → Option AV) (h : Heap) (f : Nat) (vs : List AV) (id : Nat) : Option (AV × Heap) := (call f (vs.map (tell h))).bind (ownR h (vs.flatMap (ref h)) id)
def PO.ev (call : Nat → List AV → Option AV) (o : PO) (e : Nat → AV) (h : Heap) : Option (AV × Heap) :=
  match o with
  | .mv x => some (x.ev e, h)
  | .pick c x y => match c.ev e with
    | .b q => some (if q then x.ev e else y.ev e, h)
    | _ => none
  | .box id sz x => if (x.ev e).cells.length = sz ∧ (h id).isNone then some (.p id 0 0, h.put id (.st (x.ev e).cells)) else none
  | .alloc id z => if (h id).isNone then some (.p id 0 0, h.put id (.st z)) else none
  | .build z ps => (buildV e z ps).map fun cs => (.agg cs, h)
  | .bsl id sz z n ps => if (h id).isNone then (bslV e h sz (List.replicate n z) ps).map fun es => (.sl id sz 0 n, (h.freeze (ps.flatMap fun p => ref1 h (p.2.ev e))).put id (.sl true sz es)) else none
  | .ld agg sz x => (ldV h agg sz (x.ev e)).map fun v => (v, h)
  | .st sz x v => (stV h sz (x.ev e) (v.ev e)).map fun g => (.junk, g)
  | .nck x => match x.ev e with
    | .p r q o => some (.p r q o, h)
    | .tp cs o => some (.tp cs o, h)
    | _ => none
  | .bin op x y => (binV op (x.ev e) (y.ev e)).map fun v => (v, h)
  | .eqb ng x y => (eqbV ng (x.ev e) (y.ev e)).map fun v => (v, h)
  | .eqs ng x y => (eqsV ng (x.ev e) (y.ev e)).map fun v => (v, h)
  | .not x => match x.ev e with
    | .b q => some (.b (!q), h)
    | _ => none
  | .neg x => match x.ev e with
    | .i k n => some (.i k (k.wrap (0 - n)), h)
    | _ => none
  | .conv k x => match x.ev e with
    | .i _ n => some (.i k (k.wrap n), h)
    | _ => none
  | .b2s x => ((esV h 1 (x.ev e)).bind byteNs).map fun ns => (.s (bytesS ns), h)
  | .mk id sz bytes z l => match l.ev e with
    | .i .i64 n => if 0 ≤ n ∧ n.toNat * bytes ≤ 281474976710656 ∧ (h id).isNone then some (.sl id sz 0 n.toNat, h.put id (.sl true sz (List.replicate n.toNat z))) else none
    | _ => none
  | .cut sz x lo hi mx =>
    (optI e (some 0) lo).bind fun l => (optI e ((lenV (x.ev e)).map fun (n : Nat) => (n : Int)) hi).bind fun u => (optI e (some u) mx).bind fun m =>
      if m = u then (cutV sz (x.ev e) l u).map fun v => (v, h) else none
  | .scut x lo hi => (match hi with | none => scutV (x.ev e) (optI e (some 0) lo) none | some y => (intV (y.ev e)).bind fun u => scutV (x.ev e) (optI e (some 0) lo) (some u)).map fun v => (v, h)
  | .fld o x => match x.ev e with
    | .p r q c => some (.p r q (c + o), h)
    | .tp cs c => some (.tp cs (c + o), h)
    | _ => none
  | .idx sz x i => (intV (i.ev e)).bind fun j => (idxV sz (x.ev e) j).map fun v => (v, h)
  | .idxa n sz x i => match intV (i.ev e), x.ev e with
    | some j, .p r q c => if 0 ≤ j ∧ j < (n : Int) then some (.p r q (c + j.toNat * sz), h) else none
    | some j, .tp cs c => if 0 ≤ j ∧ j < (n : Int) then some (.tp cs (c + j.toNat * sz), h) else none
    | _, _ => none
  | .sidx x i => match x.ev e, intV (i.ev e) with
    | .s y, some j => if q : 0 ≤ j ∧ j.toNat < y.size then some (.i .u8 ((y[j.toNat]'q.2).toNat : Int), h) else none
    | _, _ => none
  | .ext n x => match x.ev e with
    | .tup vs => (vs[n]?).map fun v => (v, h)
    | _ => none
  | .fpt agg sz o x => match x.ev e with
    | .agg cs => (ldC agg sz o cs).map fun v => (v, h)
    | _ => none
  | .len x => (lenV (x.ev e)).map fun (n : Nat) => (.i .i64 (n : Int), h)
  | .slen x => match x.ev e with
    | .s s => some (.i .i64 (s.size : Int), h)
    | _ => none
  | .min x y => match x.ev e, y.ev e with
    | .i k x, .i _ y => some (.i k (if y < x then y else x), h)
    | _, _ => none
  | .max x y => match x.ev e, y.ev e with
    | .i k x, .i _ y => some (.i k (if y > x then y else x), h)
    | _, _ => none
  | .app id sz bytes x y => appV h id sz bytes (x.ev e) (y.ev e)
  | .copy x y => copyV h (x.ev e) (y.ev e)
  | .call f xs => callV call h f (xs.map (At.ev e))
  | .callw f xs li => callL call h f (xs.map (At.ev e)) li
  | .callo f xs id => callO call h f (xs.map (At.ev e)) id
def setD (e : Nat → AV) : Option Nat → AV → (Nat → AV)
  | some d, v => upd e d v
  | none, _ => e
def AV.yes (q : Bool) : AV → Option Bool
  | .b z => some (z == q)
  | .tup [] => some false
  | _ => none
def POp.ev (call : Nat → List AV → Option AV) (o : POp) (st : St) : Option St :=
  match o.guard with
  | none => (o.op.ev call st.env st.h).map fun p => ⟨setD st.env o.dst p.1, p.2⟩
  | some (t, q) => match (st.env t).yes q with
    | some true => (o.op.ev call st.env st.h).map fun p => ⟨setD st.env o.dst p.1, p.2⟩
    | some false => some ⟨setD st.env o.dst (.tup []), st.h⟩
    | none => none
def evs (call : Nat → List AV → Option AV) : List POp → St → Option St
  | [], st => some st
  | o :: os, st => (o.ev call st).bind (evs call os)
def packV (ls : List Nat) (h : Heap) : AV → Option (AV × Heap)
  | .ns z => some (.own true z [], h)
  | .sl r z o n => if r ∈ ls then some (.sl r z o n, h) else match h r with
    | some (.sl ap z' es) => some (.own (ap && decide (o = 0)) z ((es.drop o).take n), h.put r .dead)
    | some (.fsl z' es) => some (.l z ((es.drop o).take n), h)
    | _ => none
  | .p r e o => if e = 0 ∧ o = 0 then match h r with
    | some (.st cs) => if r ∈ cs.flatMap ref0 then none else some (.ownp (cs.map (tell0 h)), (h.freeze (cs.flatMap ref0)).put r .dead)
    | some (.fst cs) => some (.tp (cs.map (tell0 h)) 0, h.freeze (cs.flatMap ref0))
    | _ => none
    else none
  | v => some (tell h v, h.freeze (ref h v))
def packL (h : Heap) (r : Nat) : Option (AV × Heap) := match h r with
  | some (.sl ap z es) => some (.own ap z es, h.put r .dead)
  | some (.st cs) => if r ∈ cs.flatMap ref0 then none else some (.ownp (cs.map (tell0 h)), (h.freeze (cs.flatMap ref0)).put r .dead)
  | _ => none
def pack (e : Nat → AV) : List Nat → Heap → List (Nat × Nat) → Option (List AV)
  | _, _, [] => some []
  | ls, h, (t, 0) :: l => (pack e ls (h.freeze (ref h (e t))) l).map fun vs => tell h (e t) :: vs
  | ls, h, (t, 1) :: l => (packV ls h (e t)).bind fun q => (pack e ls q.2 l).map fun vs => q.1 :: vs
  | ls, h, (t, _) :: l => (packL h t).bind fun q => (pack e (t :: ls) q.2 l).map fun vs => q.1 :: vs
def un1 (h : Heap) (k : Nat) : AV → AV × Heap
  | .own ap z es => (.sl k z 0 es.length, h.put k (.sl ap z es))
  | .ownp cs => (.p k 0 0, h.put k (.st cs))
  | v => (v, h)
def unpack : List (Nat × Nat) → List AV → St → St
  | (t, 2) :: l, v :: vs, st => unpack l vs ⟨st.env, (un1 st.h t v).2⟩
  | (t, 3) :: l, v :: vs, st => unpack l vs ⟨upd st.env t (un1 st.h (lid t) v).1, (un1 st.h (lid t) v).2⟩
  | (t, _) :: l, v :: vs, st => unpack l vs ⟨upd st.env t (un1 st.h (pid t) v).1, (un1 st.h (pid t) v).2⟩
  | _, _, st => st
def St.none : St := ⟨fun _ => .junk, Heap.none⟩
def un (l : List (Nat × Nat)) (vs : List AV) : St := unpack l vs St.none
def apartV : AV → AV → Bool
  | .p r _ _, .p q _ _ => r != q
  | .p _ _ _, .tp _ _ => true
  | _, _ => false
def apartL (e : Nat → AV) : List (Nat × Nat) → Bool
  | [] => true
  | (s, l) :: r => apartV (e s) (e l) && apartL e r
def PC.ev (call : Nat → List AV → Option AV) (lp : List (Nat × Nat) → List (Nat × Nat) → PC → List AV → Option (Ex × List AV)) : PC → St → Option (Ex × St)
  | .skip, st => some (.normal, st)
  | .reg chk ops, st => (evs call ops st).bind fun st => if apartL st.env chk then some (.normal, st) else none
  | .seq x y, st => (PC.ev call lp x st).bind fun p => match p.1 with
    | .normal => PC.ev call lp y p.2
    | e => some (e, p.2)
  | .cond c x y, st => match c.ev st.env with
    | .b q => if q then PC.ev call lp x st else PC.ev call lp y st
    | _ => none
  | .block id x, st => (PC.ev call lp x st).map fun p => match p.1 with
    | .exit j => if j = id then (.normal, p.2) else p
    | _ => p
  | .loop live out x, st => (pack st.env [] st.h live).bind fun vs => (lp live out x vs).map fun p => (p.1, un out p.2)
  | .join out x, st => (PC.ev call lp x st).bind fun p => (pack p.2.env [] p.2.h out).map fun vs => (p.1, un out vs)
  | .exit id, st => some (.exit id, st)
  | .ret, st => some (.ret, st)
def round (live out : List (Nat × Nat)) (again : List AV → Option (Ex × List AV)) (p : Ex × St) : Option (Ex × List AV) :=
  match p.1 with
  | .normal => (pack p.2.env [] p.2.h live).bind again
  | e => (pack p.2.env [] p.2.h out).map fun vs => (e, vs)
def loopF (call : Nat → List AV → Option AV) : Nat → List (Nat × Nat) → List (Nat × Nat) → PC → List AV → Option (Ex × List AV)
  | 0, _, _, _, _ => none
  | k + 1, live, out, x, vs => (PC.ev call (loopF call k) x (un live vs)).bind (round live out (loopF call k live out x))
def PR.ev (st : St) : PR → Option AV
  | .tmp t => some (st.env t)
  | .cell t agg sz => ldV st.h agg sz (st.env t)
def kindL : Nat → List (PR × Nat) → List (Nat × Nat)
  | _, [] => []
  | k, (_, q) :: l => (k, q) :: kindL (k + 1) l
def resL (res : List (PR × Nat)) : List Nat → List (Nat × Nat)
  | [] => kindL 0 res
  | i :: l => (lid i, 2) :: resL res l
def envL : Nat → List AV → Nat → AV
  | _, [] => fun _ => .junk
  | k, v :: l => upd (envL (k + 1) l) k v
def resV (st : St) : List (PR × Nat) → Option (List AV)
  | [] => some []
  | (x, _) :: l => (x.ev st).bind fun v => (resV st l).map fun vs => v :: vs
def oneV : List AV → AV
  | [x] => x
  | l => .tup l
def retV (lent : List Nat) (out : List AV) : AV := if lent = [] then oneV out else .back (oneV (out.drop lent.length)) (out.take lent.length)
def fin (p : PF) (st : St) : Option AV := (resV st p.res).bind fun vs => (pack (envL 0 vs) [] st.h (resL p.res p.lent)).map (retV p.lent)
def parN (lent : List Nat) : Nat → List AV → List (Nat × Nat)
  | _, [] => []
  | k, _ :: vs => (k, if k ∈ lent then 3 else 0) :: parN lent (k + 1) vs
def finE (p : PF) (q : Ex × St) : Option AV := match q.1 with
  | .exit _ => none
  | _ => fin p q.2
def runF (F : Nat → Option PF) : Nat → Nat → List AV → Option AV
  | 0, _, _ => none
  | k + 1, f, xs => (F f).bind fun p => (p.body.ev (runF F k) (loopF (runF F k) k) (un (parN p.lent 0 xs) xs)).bind (finE p)
end Go.Pe
namespace Go.Pe
def Le {α : Type} (a b : Option α) : Prop := ∀ x, a = some x → b = some x
theorem Le.refl {α : Type} (a : Option α) : Le a a := fun _ h => h
theorem Le.trans {α : Type} {a b c : Option α} (h : Le a b) (k : Le b c) : Le a c := fun x e => k x (h x e)
theorem Le.bind {α β : Type} {a b : Option α} {f g : α → Option β} (h : Le a b) (k : ∀ x, Le (f x) (g x)) : Le (a.bind f) (b.bind g) := by
  intro y e
  cases a with
  | none => cases e
  | some x => rw [h x rfl]; exact k x y e
theorem Le.map {α β : Type} {a b : Option α} {f : α → β} (h : Le a b) : Le (a.map f) (b.map f) := by
  intro y e
  cases a with
  | none => cases e
  | some x => rw [h x rfl]; exact e
abbrev Call := Nat → List AV → Option AV
abbrev Lp := List (Nat × Nat) → List (Nat × Nat) → PC → List AV → Option (Ex × List AV)
def LeC (c d : Call) : Prop := ∀ f xs, Le (c f xs) (d f xs)
def LeL (c d : Lp) : Prop := ∀ l o x vs, Le (c l o x vs) (d l o x vs)
theorem PO.mono {c d : Call} (h : LeC c d) (o : PO) (e : Nat → AV) (g : Heap) : Le (o.ev c e g) (o.ev d e g) := by
  cases o
  case call f xs => exact Le.map (h _ _)
  case callo f xs id => exact Le.bind (h _ _) fun r => Le.refl _
  case callw f xs li => exact Le.bind (Le.refl _) fun xs => Le.bind (h _ _) fun r => Le.refl _
  all_goals exact Le.refl _
theorem POp.mono {c d : Call} (h : LeC c d) (o : POp) (st : St) : Le (o.ev c st) (o.ev d st) := by
  unfold POp.ev
  split
  · exact Le.map (PO.mono h _ _ _)
  · split
    · exact Le.map (PO.mono h _ _ _)
    · exact Le.refl _
    · exact Le.refl _
theorem evs_mono {c d : Call} (h : LeC c d) (os : List POp) : ∀ st, Le (evs c os st) (evs d os st) := by
  induction os with
  | nil => intro st; exact Le.refl _
  | cons o os ih => intro st; exact Le.bind (POp.mono h o st) fun st => ih st
theorem PC.mono {c d : Call} (h : LeC c d) {l m : Lp} (k : LeL l m) (x : PC) : ∀ st, Le (x.ev c l st) (x.ev d m st) := by
  induction x with
  | skip => intro st; exact Le.refl _
  | reg chk ops => intro st; exact Le.bind (evs_mono h ops st) fun st => Le.refl _
  | seq x y hx hy =>
    intro st
    refine Le.bind (hx st) fun p => ?_
    obtain ⟨e, st'⟩ := p
    cases e
    · exact hy st'
    · exact Le.refl _
    · exact Le.refl _
  | cond v x y hx hy =>
    intro st
    simp only [PC.ev]
    split
    · split
      · exact hx st
      · exact hy st
    · exact Le.refl _
  | block id x hx => intro st; exact Le.map (hx st)
  | loop live out x hx => intro st; exact Le.bind (Le.refl _) fun vs => Le.map (k _ _ _ _)
  | join out x hx => intro st; exact Le.bind (hx st) fun p => Le.refl _
  | exit id => intro st; exact Le.refl _
  | ret => intro st; exact Le.refl _
theorem round_mono {l o : List (Nat × Nat)} {a b : List AV → Option (Ex × List AV)} (h : ∀ vs, Le (a vs) (b vs)) (p : Ex × St) : Le (round l o a p) (round l o b p) := by
  unfold round
  split
  · exact Le.bind (Le.refl _) h
  · exact Le.refl _
theorem loopF_succ (c : Call) : ∀ k, LeL (loopF c k) (loopF c (k + 1)) := by
  intro k
  induction k with
  | zero => intro l o x vs y e; cases e
  | succ k ih =>
    intro l o x vs
    refine Le.bind (PC.mono (fun _ _ => Le.refl _) ih x _) fun p => ?_
    exact round_mono (ih l o x) p
theorem loopF_call {c d : Call} (h : LeC c d) : ∀ k, LeL (loopF c k) (loopF d k) := by
  intro k
  induction k with
  | zero => intro l o x vs y e; cases e
  | succ k ih =>
    intro l o x vs
    refine Le.bind (PC.mono h ih x _) fun p => ?_
    exact round_mono (ih l o x) p
theorem loopF_mono (c : Call) {j k : Nat} (h : j ≤ k) : LeL (loopF c j) (loopF c k) := by
  induction h with
  | refl => intro l o x vs; exact Le.refl _
  | step _ ih => intro l o x vs; exact Le.trans (ih l o x vs) (loopF_succ c _ l o x vs)
variable (F : Nat → Option PF)
theorem runF_succ : ∀ k, LeC (runF F k) (runF F (k + 1)) := by
  intro k
  induction k with
  | zero => intro f xs y e; cases e
  | succ k ih =>
    intro f xs
    refine Le.bind (Le.refl _) fun p => Le.bind ?_ fun q => Le.refl _
    refine PC.mono ih (fun l o x vs => ?_) _ _
    exact Le.trans (loopF_call ih k l o x vs) (loopF_succ _ k l o x vs)
theorem runF_mono {j k : Nat} (h : j ≤ k) : LeC (runF F j) (runF F k) := by
  induction h with
  | refl => intro f xs; exact Le.refl _
  | step _ ih => intro f xs; exact Le.trans (ih f xs) (runF_succ F _ f xs)
theorem loopR_mono {j k : Nat} (h : j ≤ k) : LeL (loopF (runF F j) j) (loopF (runF F k) k) := fun l o x vs =>
  Le.trans (loopF_call (runF_mono F h) j l o x vs) (loopF_mono _ h l o x vs)
open Classical in
noncomputable def lim {α : Type} (g : Nat → Option α) : Option α := if h : ∃ x, ∃ k, g k = some x then some h.choose else none
theorem lim_some {α : Type} {g : Nat → Option α} (hm : ∀ j k, j ≤ k → Le (g j) (g k)) {x : α} : lim g = some x ↔ ∃ k, g k = some x := by
  unfold lim
  constructor
  · intro h
    split at h
    · rename_i h'
      cases h
      exact h'.choose_spec
    · cases h
  · rintro ⟨k, hk⟩
    have h' : ∃ x, ∃ k, g k = some x := ⟨x, k, hk⟩
    rw [dif_pos h']
    obtain ⟨j, hj⟩ := h'.choose_spec
    have h1 := hm j (max j k) (Nat.le_max_left _ _) _ hj
    have h2 := hm k (max j k) (Nat.le_max_right _ _) _ hk
    rw [h1] at h2
    exact h2
noncomputable def R : Call := fun f xs => lim fun k => runF F k f xs
noncomputable def LP : Lp := fun l o x vs => lim fun k => loopF (runF F k) k l o x vs
theorem R_some {f : Nat} {xs : List AV} {r : AV} : R F f xs = some r ↔ ∃ k, runF F k f xs = some r := lim_some fun _ _ h => runF_mono F h f xs
theorem LP_some {l o : List (Nat × Nat)} {x : PC} {vs : List AV} {r : Ex × List AV} : LP F l o x vs = some r ↔ ∃ k, loopF (runF F k) k l o x vs = some r := lim_some fun _ _ h => loopR_mono F h l o x vs
theorem R_ge (k : Nat) : LeC (runF F k) (R F) := fun _ _ _ h => (R_some F).2 ⟨k, h⟩
theorem LP_ge (k : Nat) : LeL (loopF (runF F k) k) (LP F) := fun _ _ _ _ _ h => (LP_some F).2 ⟨k, h⟩
theorem PO.cont {o : PO} {e : Nat → AV} {g : Heap} {q : AV × Heap} (h : o.ev (R F) e g = some q) : ∃ k, o.ev (runF F k) e g = some q := by
  cases o
  case call f xs =>
    simp only [PO.ev, callV, Option.map_eq_some_iff] at h
    obtain ⟨r, hr, rfl⟩ := h
    obtain ⟨k, hk⟩ := (R_some F).1 hr
    exact ⟨k, by simp only [PO.ev, callV, hk, Option.map_some]⟩
  case callo f xs id =>
    simp only [PO.ev, callO, Option.bind_eq_some_iff] at h
    obtain ⟨r, hr, h⟩ := h
    obtain ⟨k, hk⟩ := (R_some F).1 hr
    exact ⟨k, by simp only [PO.ev, callO, hk, Option.bind_some]; exact h⟩
  case callw f xs li =>
    simp only [PO.ev, callL, Option.bind_eq_some_iff] at h
    obtain ⟨ys, hy, r, hr, h⟩ := h
    obtain ⟨k, hk⟩ := (R_some F).1 hr
    exact ⟨k, by simp only [PO.ev, callL, hy, Option.bind_some, hk]; exact h⟩
  all_goals exact ⟨0, h⟩
theorem POp.cont {o : POp} {st : St} {q : St} (h : o.ev (R F) st = some q) : ∃ k, o.ev (runF F k) st = some q := by
  unfold POp.ev at h ⊢
  split at h
  · rename_i hg
    simp only [Option.map_eq_some_iff] at h
    obtain ⟨p, hp, rfl⟩ := h
    obtain ⟨k, hk⟩ := PO.cont F hp
    exact ⟨k, by simp only [hg, hk, Option.map_some]⟩
  · rename_i t b hg
    split at h
    · rename_i hz
      simp only [Option.map_eq_some_iff] at h
      obtain ⟨p, hp, rfl⟩ := h
      obtain ⟨k, hk⟩ := PO.cont F hp
      exact ⟨k, by simp only [hg, hz, hk, Option.map_some]⟩
    · rename_i hz
      exact ⟨0, h⟩
    · cases h
theorem evs_cont {os : List POp} : ∀ {st q : St}, evs (R F) os st = some q → ∃ k, evs (runF F k) os st = some q := by
  induction os with
  | nil => intro st q h; exact ⟨0, h⟩
  | cons o os ih =>
    intro st q h
    simp only [evs, Option.bind_eq_some_iff] at h
    obtain ⟨s, hs, h⟩ := h
    obtain ⟨j, hj⟩ := POp.cont F hs
    obtain ⟨k, hk⟩ := ih h
    refine ⟨max j k, ?_⟩
    simp only [evs, POp.mono (runF_mono F (Nat.le_max_left j k)) o st _ hj, Option.bind_some]
    exact evs_mono (runF_mono F (Nat.le_max_right j k)) os s _ hk
theorem PC.cont {x : PC} : ∀ {st : St} {q : Ex × St}, x.ev (R F) (LP F) st = some q → ∃ k, x.ev (runF F k) (loopF (runF F k) k) st = some q := by
  induction x with
  | skip => intro st q h; exact ⟨0, h⟩
  | exit id => intro st q h; exact ⟨0, h⟩
  | ret => intro st q h; exact ⟨0, h⟩
  | reg chk ops =>
    intro st q h
    simp only [PC.ev, Option.bind_eq_some_iff] at h
    obtain ⟨s, hs, h⟩ := h
    obtain ⟨k, hk⟩ := evs_cont F hs
    exact ⟨k, by simp only [PC.ev, hk, Option.bind_some]; exact h⟩
  | seq x y hx hy =>
    intro st q h
    simp only [PC.ev, Option.bind_eq_some_iff] at h
    obtain ⟨⟨e, s⟩, hs, h⟩ := h
    obtain ⟨j, hj⟩ := hx hs
    cases e with
    | normal =>
      obtain ⟨k, hk⟩ := hy h
      refine ⟨max j k, ?_⟩
      simp only [PC.ev, PC.mono (runF_mono F (Nat.le_max_left j k)) (loopR_mono F (Nat.le_max_left j k)) x st _ hj, Option.bind_some]
      exact PC.mono (runF_mono F (Nat.le_max_right j k)) (loopR_mono F (Nat.le_max_right j k)) y s _ hk
    | exit id => exact ⟨j, by simp only [PC.ev, hj, Option.bind_some]; exact h⟩
    | ret => exact ⟨j, by simp only [PC.ev, hj, Option.bind_some]; exact h⟩
  | cond v x y hx hy =>
    intro st q h
    simp only [PC.ev] at h ⊢
    split at h
    · rename_i b hb
      split at h
      · rename_i hq
        obtain ⟨k, hk⟩ := hx h
        exact ⟨k, by simp only [hq, if_true]; exact hk⟩
      · rename_i hq
        obtain ⟨k, hk⟩ := hy h
        exact ⟨k, by simp only [hq, if_false]; exact hk⟩
    · cases h
  | block id x hx =>
    intro st q h
    simp only [PC.ev, Option.map_eq_some_iff] at h
    obtain ⟨p, hp, rfl⟩ := h
    obtain ⟨k, hk⟩ := hx hp
    exact ⟨k, by simp only [PC.ev, hk, Option.map_some]⟩
  | loop live out x hx =>
    intro st q h
    simp only [PC.ev, Option.bind_eq_some_iff, Option.map_eq_some_iff] at h
    obtain ⟨vs, hv, p, hp, rfl⟩ := h
    obtain ⟨k, hk⟩ := (LP_some F).1 hp
    exact ⟨k, by simp only [PC.ev, hv, Option.bind_some, hk, Option.map_some]⟩
  | join out x hx =>
    intro st q h
    simp only [PC.ev, Option.bind_eq_some_iff] at h
    obtain ⟨p, hp, h⟩ := h
    obtain ⟨k, hk⟩ := hx hp
    exact ⟨k, by simp only [PC.ev, hk, Option.bind_some]; exact h⟩
noncomputable def Ev (x : PC) (st : St) : Option (Ex × St) := x.ev (R F) (LP F) st
theorem R_eq (f : Nat) (xs : List AV) : R F f xs = (F f).bind fun p => (Ev F p.body (un (parN p.lent 0 xs) xs)).bind (finE p) := by
  apply Option.ext
  intro r
  rw [R_some]
  constructor
  · rintro ⟨k, hk⟩
    cases k with
    | zero => cases hk
    | succ k =>
      refine Le.bind (Le.refl _) (fun p => Le.bind ?_ fun q => Le.refl _) r hk
      exact PC.mono (R_ge F k) (LP_ge F k) _ _
  · intro h
    simp only [Option.bind_eq_some_iff] at h
    obtain ⟨p, hp, q, hq, h⟩ := h
    obtain ⟨k, hk⟩ := PC.cont F hq
    exact ⟨k + 1, by simp only [runF, hp, Option.bind_some, hk]; exact h⟩
theorem LP_eq (l o : List (Nat × Nat)) (x : PC) (vs : List AV) : LP F l o x vs = (Ev F x (un l vs)).bind (round l o (LP F l o x)) := by
  apply Option.ext
  intro r
  rw [LP_some]
  constructor
  · rintro ⟨k, hk⟩
    cases k with
    | zero => cases hk
    | succ k =>
      refine Le.bind ?_ (fun p => ?_) r hk
      · refine PC.mono (R_ge F (k + 1)) (fun l o x vs => ?_) _ _
        exact Le.trans (loopF_succ _ k l o x vs) (LP_ge F (k + 1) l o x vs)
      · exact round_mono (fun vs => Le.trans (loopF_succ _ k l o x vs) (LP_ge F (k + 1) l o x vs)) p
  · intro h
    simp only [Option.bind_eq_some_iff] at h
    obtain ⟨p, hp, h⟩ := h
    obtain ⟨j, hj⟩ := PC.cont F hp
    have : ∃ k, round l o (loopF (runF F k) k l o x) p = some r := by
      obtain ⟨e, s⟩ := p
      cases e with
      | normal =>
        simp only [round, Option.bind_eq_some_iff] at h
        obtain ⟨vs, hv, h⟩ := h
        obtain ⟨k, hk⟩ := (LP_some F).1 h
        exact ⟨k, by simp only [round, hv, Option.bind_some]; exact hk⟩
      | exit id => exact ⟨0, h⟩
      | ret => exact ⟨0, h⟩
    obtain ⟨k, hk⟩ := this
    refine ⟨max j k + 1, ?_⟩
    have h1 := PC.mono (runF_mono F (show j ≤ max j k + 1 by omega)) (fun l o x vs => Le.trans (loopF_call (runF_mono F (show j ≤ max j k + 1 by omega)) j l o x vs) (loopF_mono (runF F (max j k + 1)) (Nat.le_max_left j k) l o x vs)) x _ _ hj
    simp only [loopF, h1, Option.bind_some]
    exact round_mono (fun vs => Le.trans (loopF_call (runF_mono F (show k ≤ max j k + 1 by omega)) k l o x vs) (loopF_mono (runF F (max j k + 1)) (Nat.le_max_right j k) l o x vs)) p r hk
end Go.Pe
set_option linter.unusedSimpArgs false
namespace Go.Pe
theorem upd_same {e : Nat → AV} {t : Nat} {v : AV} (h : e t = v) : upd e t v = e := by
  funext s
  unfold upd
  split
  · rename_i hs
    rw [hs, h]
  · rfl
section
variable (F : Nat → Option PF)
noncomputable def thn (x : Option (Ex × St)) (y : PC) : Option (Ex × St) := x.bind fun p => match p.1 with
  | .normal => Ev F y p.2
  | e => some (e, p.2)
noncomputable def evR (k : List (Nat × Nat)) (os : List POp) (st : St) : Option (Ex × St) := (evs (R F) os st).bind fun st => if apartL st.env k then some (.normal, st) else none
def chkK (b : Bool) (x : Option (Ex × St)) : Option (Ex × St) := if b then x else none
noncomputable def stp (k : List (Nat × Nat)) (x : Option (AV × Heap)) (d : Option Nat) (os : List POp) (e : Nat → AV) : Option (Ex × St) := x.bind fun p => evR F k os ⟨setD e d p.1, p.2⟩
noncomputable def grd (k : List (Nat × Nat)) (z : AV) (t : Nat) (q : Bool) (d : Option Nat) (o : PO) (os : List POp) (e : Nat → AV) (h : Heap) : Option (Ex × St) := match z with
  | .b z => if z = q then stp F k (o.ev (R F) (upd e t (.b q)) h) d os (upd e t (.b q)) else evR F k os ⟨setD (upd e t (.b (!q))) d (.tup []), h⟩
  | .tup [] => evR F k os ⟨setD e d (.tup []), h⟩
  | _ => none
noncomputable def cnd (c : AV) (x y : PC) (st : St) : Option (Ex × St) := match c with
  | .b q => if q then Ev F x st else Ev F y st
  | _ => none
def blk (id : Nat) (x : Option (Ex × St)) : Option (Ex × St) := x.map fun p => match p.1 with
  | .exit j => if j = id then (.normal, p.2) else p
  | _ => p
def ot (e : Ex) (x : Option (List AV)) : Option (Ex × List AV) := x.map fun vs => (e, vs)
def unO (o : List (Nat × Nat)) (x : Option (Ex × List AV)) : Option (Ex × St) := x.map fun p => (p.1, un o p.2)
noncomputable def lpK (x : Option (List AV)) (l o : List (Nat × Nat)) (y : PC) : Option (Ex × St) := x.bind fun vs => unO o (LP F l o y vs)
def jp (o : List (Nat × Nat)) (x : Option (Ex × St)) : Option (Ex × List AV) := x.bind fun p => ot p.1 (pack p.2.env [] p.2.h o)
noncomputable def again (x : Option (List AV)) (l o : List (Nat × Nat)) (y : PC) : Option (Ex × List AV) := x.bind fun vs => LP F l o y vs
noncomputable def rnd (x : Option (Ex × St)) (l o : List (Nat × Nat)) (y : PC) : Option (Ex × List AV) := x.bind (round l o (LP F l o y))
def finB (lent : List Nat) (x : Option (List AV)) : Option AV := x.map (retV lent)
def finA (res : List (PR × Nat)) (lent : List Nat) (h : Heap) (x : Option (List AV)) : Option AV := x.bind fun vs => finB lent (pack (envL 0 vs) [] h (resL res lent))
theorem LP_go {x y : PC} (h : x = y) (l o : List (Nat × Nat)) (vs : List AV) : LP F l o x vs = rnd F (Ev F y (un l vs)) l o x := by subst h; exact LP_eq F l o x vs
def fn3 (res : List (PR × Nat)) (lent : List Nat) (x : Option (Ex × St)) : Option AV := x.bind (finE ⟨res, lent, .skip⟩)
theorem R_go {f : Nat} {res : List (PR × Nat)} {lent : List Nat} {c c' : PC} (h : F f = some ⟨res, lent, c⟩) (hc : c = c') (xs : List AV) : R F f xs = fn3 res lent (Ev F c' (un (parN lent 0 xs) xs)) := by
  subst hc
  rw [R_eq, h]
  have : finE ⟨res, lent, c⟩ = finE ⟨res, lent, .skip⟩ := by
    funext q
    obtain ⟨e, st⟩ := q
    cases e <;> rfl
  show (Ev F c _).bind (finE ⟨res, lent, c⟩) = (Ev F c _).bind (finE ⟨res, lent, .skip⟩)
  rw [this]
theorem rules :
    (∀ st, Ev F .skip st = some (.normal, st)) ∧ (∀ st, Ev F .ret st = some (.ret, st)) ∧ (∀ i st, Ev F (.exit i) st = some (.exit i, st)) ∧
    (∀ x y st, Ev F (.seq x y) st = thn F (Ev F x st) y) ∧ (∀ k os st, Ev F (.reg k os) st = evR F k os st) ∧
    (∀ c x y e h, Ev F (.cond c x y) ⟨e, h⟩ = cnd F (c.ev e) x y ⟨e, h⟩) ∧ (∀ i x st, Ev F (.block i x) st = blk i (Ev F x st)) ∧
    (∀ l o x e h, Ev F (.loop l o x) ⟨e, h⟩ = lpK F (pack e [] h l) l o x) ∧ (∀ o x st, Ev F (.join o x) st = unO o (jp o (Ev F x st))) ∧
    (∀ st y, thn F (some (.normal, st)) y = Ev F y st) ∧ (∀ st y, thn F (some (.ret, st)) y = some (.ret, st)) ∧ (∀ i st y, thn F (some (.exit i, st)) y = some (.exit i, st)) ∧
    (∀ s l r e h, evR F ((s, l) :: r) [] ⟨e, h⟩ = chkK (apartV (e s) (e l)) (evR F r [] ⟨e, h⟩)) ∧ (∀ st, evR F [] [] st = some (.normal, st)) ∧ (∀ k d o os e h, evR F k (⟨d, o, none⟩ :: os) ⟨e, h⟩ = stp F k (o.ev (R F) e h) d os e) ∧
    (∀ k d o t q os e h, evR F k (⟨d, o, some (t, q)⟩ :: os) ⟨e, h⟩ = grd F k (e t) t q d o os e h) ∧
    (∀ k v h d os e, stp F k (some (v, h)) (some d) os e = evR F k os ⟨upd e d v, h⟩) ∧ (∀ k v h os e, stp F k (some (v, h)) none os e = evR F k os ⟨e, h⟩) ∧
    (∀ k z t d o os e h, grd F k (.b z) t true (some d) o os e h = if z = true then stp F k (o.ev (R F) (upd e t (.b true)) h) (some d) os (upd e t (.b true)) else evR F k os ⟨upd (upd e t (.b false)) d (.tup []), h⟩) ∧
    (∀ k z t d o os e h, grd F k (.b z) t false (some d) o os e h = if z = true then evR F k os ⟨upd (upd e t (.b true)) d (.tup []), h⟩ else stp F k (o.ev (R F) (upd e t (.b false)) h) (some d) os (upd e t (.b false))) ∧
    (∀ k z t o os e h, grd F k (.b z) t true none o os e h = if z = true then stp F k (o.ev (R F) (upd e t (.b true)) h) none os (upd e t (.b true)) else evR F k os ⟨upd e t (.b false), h⟩) ∧
    (∀ k z t o os e h, grd F k (.b z) t false none o os e h = if z = true then evR F k os ⟨upd e t (.b true), h⟩ else stp F k (o.ev (R F) (upd e t (.b false)) h) none os (upd e t (.b false))) ∧
    (∀ k t q d o os e h, grd F k (.tup []) t q (some d) o os e h = evR F k os ⟨upd e d (.tup []), h⟩) ∧ (∀ k t q o os e h, grd F k (.tup []) t q none o os e h = evR F k os ⟨e, h⟩) ∧
    (∀ q x y st, cnd F (.b q) x y st = if q = true then Ev F x st else Ev F y st) ∧
    (∀ i st, blk i (some (.normal, st)) = some (.normal, st)) ∧ (∀ i st, blk i (some (.ret, st)) = some (.ret, st)) ∧
    (∀ i j st, blk i (some (.exit j, st)) = if j = i then some (.normal, st) else some (.exit j, st)) ∧
    (∀ vs l o y, lpK F (some vs) l o y = unO o (LP F l o y vs)) ∧ (∀ o e vs, unO o (some (e, vs)) = some (e, un o vs)) ∧
    (∀ o e f h, jp o (some (e, ⟨f, h⟩)) = ot e (pack f [] h o)) ∧ (∀ e vs, ot e (some vs) = some (e, vs)) ∧
    (∀ vs l o y, again F (some vs) l o y = LP F l o y vs) ∧ (∀ f h l o y, rnd F (some (.normal, ⟨f, h⟩)) l o y = again F (pack f [] h l) l o y) ∧
    (∀ f h l o y, rnd F (some (.ret, ⟨f, h⟩)) l o y = ot .ret (pack f [] h o)) ∧ (∀ i f h l o y, rnd F (some (.exit i, ⟨f, h⟩)) l o y = ot (.exit i) (pack f [] h o)) ∧
    (∀ r l e h, fn3 r l (some (.ret, ⟨e, h⟩)) = finA r l h (resV ⟨e, h⟩ r)) ∧ (∀ r l e h, fn3 r l (some (.normal, ⟨e, h⟩)) = finA r l h (resV ⟨e, h⟩ r)) ∧
    (∀ r l h vs, finA r l h (some vs) = finB l (pack (envL 0 vs) [] h (resL r l))) ∧ (∀ vs, finB [] (some vs) = some (oneV vs)) ∧ (∀ i o vs, finB [i] (some (o :: vs)) = some (.back (oneV vs) [o])) ∧ (∀ i j o q vs, finB [i, j] (some (o :: q :: vs)) = some (.back (oneV vs) [o, q])) := by
  refine ⟨?_, ?_, ?_, ?_, ?_, ?_, ?_, ?_, ?_, ?_, ?_, ?_, ?_, ?_, ?_, ?_, ?_, ?_, ?_, ?_, ?_, ?_, ?_, ?_, ?_, ?_, ?_, ?_, ?_, ?_, ?_, ?_, ?_, ?_, ?_, ?_, ?_, ?_, ?_, ?_, ?_, ?_⟩
  all_goals first
    | (intros; rfl)
    | skip
  · intro o x st
    simp only [Ev, PC.ev, unO, jp, ot, Option.map_bind, Function.comp_def, Option.map_map]
  · intro s l r e h
    simp only [evR, evs, Option.bind_some, apartL, chkK, Bool.and_eq_true]
    by_cases h1 : apartV (e s) (e l) = true <;> simp [h1]
  · intro k d o os e h
    simp only [evR, evs, POp.ev, stp]
    cases o.ev (R F) e h <;> rfl
  · intro k d o t q os e h
    simp only [evR, evs, POp.ev, grd]
    generalize hz : e t = z
    cases z
    case tup cs =>
      cases cs with
      | nil => simp [AV.yes]
      | cons => rfl
    case b z =>
      simp only [AV.yes]
      by_cases hq : z = q
      · rw [if_pos hq, show (z == q) = true by rw [hq]; simp]
        simp only []
        have he : upd e t (.b q) = e := upd_same (by rw [hz, hq])
        simp only [stp, evR, he]
        cases o.ev (R F) e h <;> rfl
      · rw [if_neg hq, show (z == q) = false by simpa using hq]
        simp only []
        have hq' : z = !q := by cases z <;> cases q <;> simp_all
        have he : upd e t (.b (!q)) = e := upd_same (by rw [hz, hq'])
        rw [he]
        rfl
    all_goals rfl
  · intro k z t d o os e h
    cases z <;> rfl
  · intro k z t o os e h
    cases z <;> rfl
  · intro i j st
    simp only [blk, Option.map_some]
    split <;> rfl
theorem ites (c : Prop) [Decidable c] :
    (∀ x y z, thn F (if c then x else y) z = if c then thn F x z else thn F y z) ∧ (∀ k x y d os e, stp F k (if c then x else y) d os e = if c then stp F k x d os e else stp F k y d os e) ∧
    (∀ i x y, blk i (if c then x else y) = if c then blk i x else blk i y) ∧ (∀ o x y, unO o (if c then x else y) = if c then unO o x else unO o y) ∧
    (∀ o x y, jp o (if c then x else y) = if c then jp o x else jp o y) ∧ (∀ x y l o z, rnd F (if c then x else y) l o z = if c then rnd F x l o z else rnd F y l o z) ∧
    (∀ r l x y, fn3 r l (if c then x else y) = if c then fn3 r l x else fn3 r l y) := by
  refine ⟨?_, ?_, ?_, ?_, ?_, ?_, ?_⟩ <;> intros <;> split <;> rfl
theorem nones :
    (∀ y, thn F none y = none) ∧ (∀ k d os e, stp F k none d os e = none) ∧ (∀ x l o, lpK F none l o x = none) ∧ (∀ x l o, rnd F none l o x = none) ∧ (∀ x l o, again F none l o x = none) := ⟨fun _ => rfl, fun _ _ _ _ => rfl, fun _ _ _ => rfl, fun _ _ _ => rfl, fun _ _ _ => rfl⟩
theorem nones' : (∀ i, blk i none = none) ∧ (∀ o, unO o none = none) ∧ (∀ o, jp o none = none) ∧ (∀ e, ot e none = none) ∧ (∀ r l, fn3 r l none = none) := ⟨fun _ => rfl, fun _ => rfl, fun _ => rfl, fun _ => rfl, fun _ _ => rfl⟩
theorem merge (c : Prop) [Decidable c] :
    (∀ (d : Prop) [Decidable d] (x : Option (Ex × List AV)) (y : Ex × List AV), (if c then (if d then x else none) else some y) = if c → d then (if c then x else some y) else none) ∧
    (∀ (d : Prop) [Decidable d] (x : Option (Ex × List AV)) (y : Ex × List AV), (if c then some y else (if d then x else none)) = if ¬ c → d then (if c then some y else x) else none) ∧
    (∀ (d f : Prop) [Decidable d] [Decidable f] (x y : Option (Ex × List AV)), (if c then (if d then x else none) else (if f then y else none)) = if (c → d) ∧ (¬ c → f) then (if c then x else y) else none) ∧
    (∀ (e : Ex) (l m : List AV), (if c then some (e, l) else some (e, m)) = some (e, if c then l else m)) ∧
    (∀ (e : Ex) (l m : List AV), (if c then some (e, l) else some (e, m)) = some (e, if c then l else m)) ∧
    (∀ (x y : AV) (l m : List AV), (if c then x :: l else y :: m) = (if c then x else y) :: (if c then l else m)) ∧
    (∀ x y, (if c then AV.b x else AV.b y) = AV.b (if c then x else y)) ∧ (∀ k x y, (if c then AV.i k x else AV.i k y) = AV.i k (if c then x else y)) ∧
    (∀ z x y, (if c then AV.l z x else AV.l z y) = AV.l z (if c then x else y)) := by
  refine ⟨?_, ?_, ?_, ?_, ?_, ?_, ?_, ?_, ?_⟩
  · intro d _ x y
    by_cases hc : c <;> by_cases hd : d <;> simp [hc, hd]
  · intro d _ x y
    by_cases hc : c <;> by_cases hd : d <;> simp [hc, hd]
  · intro d f _ _ x y
    by_cases hc : c <;> by_cases hd : d <;> by_cases hf : f <;> simp [hc, hd, hf]
  all_goals (intros; split <;> rfl)
end
theorem upd_apply (e : Nat → AV) (d : Nat) (v : AV) (t : Nat) : upd e d v t = if t = d then v else e t := rfl
theorem put_apply (h : Heap) (r : Nat) (x : Row) (t : Nat) : h.put r x t = if t = r then some x else h t := rfl
theorem tells (h : Heap) :
    (∀ z es, tell h (.l z es) = .l z es) ∧ (∀ k n, tell h (.i k n) = .i k n) ∧ (∀ x, tell h (.b x) = .b x) ∧ (∀ x, tell h (.s x) = .s x) ∧ (∀ z, tell h (.ns z) = .l z []) ∧
    (∀ cs o, tell h (.tp cs o) = .tp cs o) ∧ tell h .np = .np ∧ (∀ cs, tell h (.agg cs) = .agg (cs.map (tellC h))) ∧ (∀ cs, tell h (.tup cs) = .tup (cs.map (tell1 h))) ∧
    (∀ r z o n, tell h (.sl r z o n) = tell0 h (.sl r z o n)) ∧ (∀ r z o, tell h (.p r z o) = tellC h (.p r z o)) ∧ tell h .junk = .junk := by
  refine ⟨?_, ?_, ?_, ?_, ?_, ?_, ?_, ?_, ?_, ?_, ?_, ?_⟩ <;> intros <;> rfl
theorem refs (h : Heap) :
    (∀ z es, ref h (.l z es) = []) ∧ (∀ k n, ref h (.i k n) = []) ∧ (∀ x, ref h (.b x) = []) ∧ (∀ x, ref h (.s x) = []) ∧ (∀ z, ref h (.ns z) = []) ∧
    (∀ cs o, ref h (.tp cs o) = []) ∧ ref h .np = [] ∧ (∀ cs, ref h (.agg cs) = cs.flatMap (refC h)) ∧ (∀ cs, ref h (.tup cs) = cs.flatMap (ref1 h)) ∧
    (∀ r z o n, ref h (.sl r z o n) = [r]) ∧ (∀ r z o, ref h (.p r z o) = refC h (.p r z o)) ∧ ref h .junk = [] := by
  refine ⟨?_, ?_, ?_, ?_, ?_, ?_, ?_, ?_, ?_, ?_, ?_, ?_⟩ <;> intros <;> rfl
end Go.Pe
set_option linter.unusedSimpArgs false
namespace Go.Pe
def u (x : Int) : List AV := [.i .u64 x]
def n64 (x : Int) : List AV := [.i .i64 x]
theorem encs :
    (∀ x, AV.cells (.i .u64 x) = u x) ∧ (∀ x, (u x).length = 1) ∧ (∀ h x, (u x).map (tellC h) = u x) ∧ (∀ x, ldC false 1 0 (u x) = some (.i .u64 x)) ∧ (∀ h x, (u x).flatMap (refC h) = []) ∧
    (∀ x, AV.cells (.i .i64 x) = n64 x) ∧ (∀ x, (n64 x).length = 1) ∧ (∀ h x, (n64 x).map (tellC h) = n64 x) ∧ (∀ x, ldC false 1 0 (n64 x) = some (.i .i64 x)) ∧ (∀ h x, (n64 x).flatMap (refC h) = []) ∧
    (∀ cs, AV.cells (.agg cs) = cs) ∧ (∀ x, AV.cells (.b x) = [.b x]) ∧ (∀ x, AV.cells (.s x) = [.s x]) ∧ (∀ z es, AV.cells (.l z es) = [.l z es]) ∧ (∀ r z o n, AV.cells (.sl r z o n) = [.sl r z o n]) ∧ (∀ z, AV.cells (.ns z) = [.ns z]) ∧
    (∀ h, Heap.freeze h [] = h) := by
  refine ⟨?_, ?_, ?_, ?_, ?_, ?_, ?_, ?_, ?_, ?_, ?_, ?_, ?_, ?_, ?_, ?_, ?_⟩ <;> intros <;> rfl
theorem reps :
    (∀ n x, List.replicate n [AV.i .u64 x] = (List.replicate n x).map u) ∧ (∀ n x, List.replicate n [AV.i .i64 x] = (List.replicate n x).map n64) := by
  refine ⟨?_, ?_⟩ <;> intros <;> rw [List.map_replicate] <;> rfl
theorem uns (h : Heap) (k : Nat) :
    (∀ z es, un1 h k (.l z es) = (.l z es, h)) ∧ (∀ q n, un1 h k (.i q n) = (.i q n, h)) ∧ (∀ x, un1 h k (.b x) = (.b x, h)) ∧ (∀ x, un1 h k (.s x) = (.s x, h)) ∧ (∀ z, un1 h k (.ns z) = (.ns z, h)) ∧
    (∀ cs, un1 h k (.agg cs) = (.agg cs, h)) ∧ (∀ cs, un1 h k (.tup cs) = (.tup cs, h)) ∧ (∀ cs o, un1 h k (.tp cs o) = (.tp cs o, h)) ∧ un1 h k .np = (.np, h) ∧ un1 h k .junk = (.junk, h) ∧
    (∀ ap z es, un1 h k (.own ap z es) = (.sl k z 0 es.length, h.put k (.sl ap z es))) ∧ (∀ cs, un1 h k (.ownp cs) = (.p k 0 0, h.put k (.st cs))) ∧ (∀ r z o n, un1 h k (.sl r z o n) = (.sl r z o n, h)) ∧ (∀ r e o, un1 h k (.p r e o) = (.p r e o, h)) := by
  refine ⟨?_, ?_, ?_, ?_, ?_, ?_, ?_, ?_, ?_, ?_, ?_, ?_, ?_, ?_⟩ <;> intros <;> rfl
theorem unpacks :
    (∀ l st, unpack l [] st = st) ∧ (∀ vs st, unpack [] vs st = st) ∧ (∀ t l v vs e h, unpack ((t, 0) :: l) (v :: vs) ⟨e, h⟩ = unpack l vs ⟨upd e t (un1 h (pid t) v).1, (un1 h (pid t) v).2⟩) ∧ (∀ t l v vs e h, unpack ((t, 1) :: l) (v :: vs) ⟨e, h⟩ = unpack l vs ⟨upd e t (un1 h (pid t) v).1, (un1 h (pid t) v).2⟩) ∧
    (∀ t l v vs e h, unpack ((t, 2) :: l) (v :: vs) ⟨e, h⟩ = unpack l vs ⟨e, (un1 h t v).2⟩) ∧ (∀ t l v vs e h, unpack ((t, 3) :: l) (v :: vs) ⟨e, h⟩ = unpack l vs ⟨upd e t (un1 h (lid t) v).1, (un1 h (lid t) v).2⟩) := by
  refine ⟨?_, ?_, ?_, ?_, ?_, ?_⟩
  · intro l st; cases l <;> simp [unpack]
  all_goals (intros; rfl)
theorem opts {α β : Type} : (∀ (x : α) (f : α → β), Option.map f (some x) = some (f x)) ∧ (∀ (x : α) (f : α → Option β), Option.bind (some x) f = f x) ∧ (∀ (f : α → β), Option.map f none = none) ∧ (∀ (f : α → Option β), Option.bind none f = none) := ⟨fun _ _ => rfl, fun _ _ => rfl, fun _ => rfl, fun _ => rfl⟩
theorem maps {α : Type} (f : α → List AV) :
    (∀ l : List α, (l.map f).length = l.length) ∧ (∀ (l : List α) n, (l.map f).drop n = (l.drop n).map f) ∧ (∀ (l : List α) n, (l.map f).take n = (l.take n).map f) ∧ (∀ (l m : List α), l.map f ++ m.map f = (l ++ m).map f) ∧ (∀ (l : List α) x, l.map f ++ [f x] = (l ++ [x]).map f) := by
  refine ⟨?_, ?_, ?_, ?_, ?_⟩
  · intro l; exact List.length_map ..
  · intro l n; exact List.map_drop.symm
  · intro l n; exact List.map_take.symm
  · intro l m; exact List.map_append.symm
  · intro l x; rw [List.map_append]; rfl
theorem getD_map {α : Type} (f : α → List AV) (d : α) (l : List α) (j : Nat) (h : j < l.length) : (l.map f).getD j [] = f (l.getD j d) := by
  rw [List.getD_eq_getElem?_getD, List.getD_eq_getElem?_getD, List.getElem?_map, List.getElem?_eq_getElem h]; rfl
theorem idxV_map {α : Type} (f : α → List AV) (d : α) (z : Nat) (l : List α) (j : Int) : idxV z (.l z (l.map f)) j = if 0 ≤ j ∧ j < (l.length : Int) then some (.tp (f (l.getD j.toNat d)) 0) else none := by
  simp only [idxV, List.length_map, true_and]
  split
  · rename_i h
    rw [getD_map f d l _ (by omega)]
  · rfl
theorem at_map {α : Type} (f : α → List AV) (d : α) (ap : Bool) (z e : Nat) (l : List α) : Row.at e (.sl ap z (l.map f)) = if e < l.length then some (f (l.getD e d)) else none := by
  simp only [Row.at]
  rw [List.getElem?_map, List.getD_eq_getElem?_getD]
  split
  · rename_i h
    rw [List.getElem?_eq_getElem h]; rfl
  · rename_i h
    rw [List.getElem?_eq_none (by omega)]; rfl
theorem putC_map {α : Type} (f : α → List AV) (z : Nat) (l : List α) (e : Nat) (x : α) (h : (f x).length = z) : putC z (l.map f) e 0 (f x) = (l.set e x).map f := by
  simp only [putC, if_pos (show (True ∧ (f x).length = z) from ⟨trivial, h⟩)]
  rw [List.map_set]
theorem ints :
    (∀ (l : List Int) j, idxV 1 (.l 1 (l.map u)) j = if 0 ≤ j ∧ j < (l.length : Int) then some (.tp (u (l.getD j.toNat 0)) 0) else none) ∧
    (∀ (l : List Int) j, idxV 1 (.l 1 (l.map n64)) j = if 0 ≤ j ∧ j < (l.length : Int) then some (.tp (n64 (l.getD j.toNat 0)) 0) else none) ∧
    (∀ ap e (l : List Int), Row.at e (.sl ap 1 (l.map u)) = if e < l.length then some (u (l.getD e 0)) else none) ∧ (∀ ap e (l : List Int), Row.at e (.sl ap 1 (l.map n64)) = if e < l.length then some (n64 (l.getD e 0)) else none) ∧
    (∀ (l : List Int) e x, putC 1 (l.map u) e 0 (u x) = (l.set e x).map u) ∧ (∀ (l : List Int) e x, putC 1 (l.map n64) e 0 (n64 x) = (l.set e x).map n64) := by
  refine ⟨?_, ?_, ?_, ?_, ?_, ?_⟩
  · intro l j; exact idxV_map u 0 1 l j
  · intro l j; exact idxV_map n64 0 1 l j
  · intro ap e l; exact at_map u 0 ap 1 e l
  · intro ap e l; exact at_map n64 0 ap 1 e l
  · intro l e x; exact putC_map u 1 l e x rfl
  · intro l e x; exact putC_map n64 1 l e x rfl
def stR (h : Heap) (sz r e o : Nat) (v : AV) : Option Row → Option Heap
  | some (.sl ap z es) =>
    if v.cells.length = sz ∧ e < es.length ∧ o + sz ≤ z ∧ r ∉ ref1 h v then some ((h.freeze (ref1 h v)).put r (.sl ap z (putC z es e o (v.cells.map (tellC h))))) else none
  | some (.st cs) =>
    if v.cells.length = sz ∧ e = 0 ∧ o + sz ≤ cs.length then some (h.put r (.st (if o = 0 ∧ sz = cs.length then v.cells else fillC cs o v.cells))) else none
  | _ => none
theorem stores (h : Heap) (sz r e o : Nat) (v : AV) :
    stV h sz (.p r e o) v = stR h sz r e o v (h r) ∧
    (∀ ap z es, stR h sz r e o v (some (.sl ap z es)) = if v.cells.length = sz ∧ e < es.length ∧ o + sz ≤ z ∧ r ∉ ref1 h v then some ((h.freeze (ref1 h v)).put r (.sl ap z (putC z es e o (v.cells.map (tellC h))))) else none) ∧
    (∀ cs, stR h sz r e o v (some (.st cs)) = if v.cells.length = sz ∧ e = 0 ∧ o + sz ≤ cs.length then some (h.put r (.st (if o = 0 ∧ sz = cs.length then v.cells else fillC cs o v.cells))) else none) := ⟨rfl, fun _ _ _ => rfl, fun _ => rfl⟩
theorem idxs (z r o n : Nat) (j : Int) : idxV z (.sl r z o n) j = if 0 ≤ j ∧ j < (n : Int) then some (.p r (o + j.toNat) 0) else none := by
  simp only [idxV, true_and]
theorem cuts :
    (∀ z es a b, cutV z (.l z es) a b = if 0 ≤ a ∧ a ≤ b ∧ b ≤ (es.length : Int) then some (.l z ((es.drop a.toNat).take (b.toNat - a.toNat))) else none) ∧
    (∀ r z o n a b, cutV z (.sl r z o n) a b = if 0 ≤ a ∧ a ≤ b ∧ b ≤ (n : Int) then some (.sl r z (o + a.toNat) (b.toNat - a.toNat)) else none) := by
  refine ⟨?_, ?_⟩ <;> intros <;> simp only [cutV, true_and]
theorem optites {α β : Type} (c : Prop) [Decidable c] : (∀ (x y : Option α) (f : α → β), Option.map f (if c then x else y) = if c then Option.map f x else Option.map f y) ∧ (∀ (x y : Option α) (f : α → Option β), Option.bind (if c then x else y) f = if c then Option.bind x f else Option.bind y f) := by
  refine ⟨?_, ?_⟩ <;> intros <;> split <;> rfl
def cutM (h : Heap) (sz : Nat) (x : AV) (l u : Int) (m : Option Int) : Option (AV × Heap) := m.bind fun m => if m = u then (cutV sz x l u).map fun v => (v, h) else none
def cutK (h : Heap) (sz : Nat) (x : AV) (l u : Option Int) (mx : Option At) (e : Nat → AV) : Option (AV × Heap) := l.bind fun l => u.bind fun u => (optI e (some u) mx).bind fun m => if m = u then (cutV sz x l u).map fun v => (v, h) else none
def mkV (h : Heap) (id sz bytes : Nat) (z : List AV) (l : AV) : Option (AV × Heap) := match l with
  | .i .i64 n => if 0 ≤ n ∧ n.toNat * bytes ≤ 281474976710656 ∧ (h id).isNone then some (.sl id sz 0 n.toNat, h.put id (.sl true sz (List.replicate n.toNat z))) else none
  | _ => none
def esR (o n : Nat) : Option Row → Option (List (List AV))
  | some r => r.win o n
  | none => none
def appR (h : Heap) (id sz bytes r z o n : Nat) (new : List (List AV)) : Option Row → Option (AV × Heap)
  | some (.sl true z' es) => if z = sz ∧ z' = sz ∧ o = 0 ∧ (n + new.length) * bytes ≤ 140737488355328 ∧ (h id).isNone then
          some (.sl id z 0 (n + new.length), (h.put r .dead).put id (.sl true z (es.take n ++ new))) else none
  | _ => none
def appK (h : Heap) (id sz bytes : Nat) (x : AV) (new : Option (List (List AV))) : Option (AV × Heap) := match new with
  | none => none
  | some new => match x with
    | .ns z => if z = sz ∧ new.length * bytes ≤ 140737488355328 ∧ (h id).isNone then some (.sl id z 0 new.length, h.put id (.sl true z new)) else none
    | .sl r z o n => appR h id sz bytes r z o n new (h r)
    | _ => none
def consO (v : AV) (x : Option (List AV)) : Option (List AV) := x.map fun vs => v :: vs
def resK (st : St) (x : Option AV) (l : List (PR × Nat)) : Option (List AV) := x.bind fun v => consO v (resV st l)
def packK (e : Nat → AV) (ls : List Nat) (q : Option (AV × Heap)) (l : List (Nat × Nat)) : Option (List AV) := q.bind fun q => consO q.1 (pack e ls q.2 l)
def packR (h : Heap) (r z o n : Nat) : Option Row → Option (AV × Heap)
  | some (.sl ap _ es) => some (.own (ap && decide (o = 0)) z ((es.drop o).take n), h.put r .dead)
  | some (.fsl _ es) => some (.l z ((es.drop o).take n), h)
  | _ => none
def packP (h : Heap) (r : Nat) : Option Row → Option (AV × Heap)
  | some (.st cs) => if r ∈ cs.flatMap ref0 then none else some (.ownp (cs.map (tell0 h)), (h.freeze (cs.flatMap ref0)).put r .dead)
  | some (.fst cs) => some (.tp (cs.map (tell0 h)) 0, h.freeze (cs.flatMap ref0))
  | _ => none
def packQ (h : Heap) (r : Nat) : Option Row → Option (AV × Heap)
  | some (.sl ap z es) => some (.own ap z es, h.put r .dead)
  | some (.st cs) => if r ∈ cs.flatMap ref0 then none else some (.ownp (cs.map (tell0 h)), (h.freeze (cs.flatMap ref0)).put r .dead)
  | _ => none
def slenV (x : AV) (h : Heap) : Option (AV × Heap) := match x with
  | .s s => some (.i .i64 (s.size : Int), h)
  | _ => none
def pickV (c x y : AV) (h : Heap) : Option (AV × Heap) := match c with
  | .b q => some (if q then x else y, h)
  | _ => none
def notV (x : AV) (h : Heap) : Option (AV × Heap) := match x with
  | .b q => some (.b (!q), h)
  | _ => none
def callK (h : Heap) (r : Option AV) (vs : List AV) : Option (AV × Heap) := r.map fun r => (demoteT r, if r.scalar then h else h.freeze (vs.flatMap (ref h)))
def fldV (o : Nat) (x : AV) (h : Heap) : Option (AV × Heap) := match x with
  | .p r q c => some (.p r q (c + o), h)
  | .tp cs c => some (.tp cs (c + o), h)
  | _ => none
def convV (k : IntKind) (x : AV) (h : Heap) : Option (AV × Heap) := match x with
  | .i _ n => some (.i k (k.wrap n), h)
  | _ => none
def extV (n : Nat) (x : AV) (h : Heap) : Option (AV × Heap) := match x with
  | .tup vs => (vs[n]?).map fun v => (v, h)
  | _ => none
def fptV (agg : Bool) (sz o : Nat) (x : AV) (h : Heap) : Option (AV × Heap) := match x with
  | .agg cs => (ldC agg sz o cs).map fun v => (v, h)
  | _ => none
def maxV (x y : AV) (h : Heap) : Option (AV × Heap) := match x, y with
  | .i k x, .i _ y => some (.i k (if y > x then y else x), h)
  | _, _ => none
def minV (x y : AV) (h : Heap) : Option (AV × Heap) := match x, y with
  | .i k x, .i _ y => some (.i k (if y < x then y else x), h)
  | _, _ => none
def negV (x : AV) (h : Heap) : Option (AV × Heap) := match x with
  | .i k n => some (.i k (k.wrap (0 - n)), h)
  | _ => none
def nckV (x : AV) (h : Heap) : Option (AV × Heap) := match x with
  | .p r q o => some (.p r q o, h)
  | .tp cs o => some (.tp cs o, h)
  | _ => none
def bt (s : ByteArray) (i : Int) : Int := if h : i.toNat < s.size then ((s[i.toNat]'h).toNat : Int) else 0
def sidxK (x : AV) (j : Option Int) (h : Heap) : Option (AV × Heap) := match x, j with
  | .s y, some j => if q : 0 ≤ j ∧ j.toNat < y.size then some (.i .u8 ((y[j.toNat]'q.2).toNat : Int), h) else none
  | _, _ => none
theorem sidxs : (∀ c x i e h, PO.ev c (.sidx x i) e h = sidxK (x.ev e) (intV (i.ev e)) h) ∧ (∀ y j h, sidxK (.s y) (some j) h = if 0 ≤ j ∧ j < (y.size : Int) then some (.i .u8 (bt y j), h) else none) := by
  refine ⟨fun _ _ _ _ _ => rfl, fun y j h => ?_⟩
  simp only [sidxK, bt]
  by_cases q : 0 ≤ j ∧ j.toNat < y.size
  · rw [dif_pos q, if_pos (by omega), dif_pos q.2]
  · rw [dif_neg q, if_neg (by omega)]
theorem more (c : Nat → List AV → Option AV) :
    (∀ x y e h, PO.ev c (.max x y) e h = maxV (x.ev e) (y.ev e) h) ∧ (∀ x y e h, PO.ev c (.min x y) e h = minV (x.ev e) (y.ev e) h) ∧ (∀ x e h, PO.ev c (.neg x) e h = negV (x.ev e) h) ∧ (∀ x e h, PO.ev c (.nck x) e h = nckV (x.ev e) h) := ⟨fun _ _ _ _ => rfl, fun _ _ _ _ => rfl, fun _ _ _ => rfl, fun _ _ _ => rfl⟩
theorem more' :
    (∀ k k' x y h, maxV (.i k x) (.i k' y) h = some (.i k (if y > x then y else x), h)) ∧ (∀ k k' x y h, minV (.i k x) (.i k' y) h = some (.i k (if y < x then y else x), h)) ∧ (∀ k n h, negV (.i k n) h = some (.i k (k.wrap (0 - n)), h)) ∧
    (∀ r q o h, nckV (.p r q o) h = some (.p r q o, h)) ∧ (∀ cs o h, nckV (.tp cs o) h = some (.tp cs o, h)) := by
  refine ⟨?_, ?_, ?_, ?_, ?_⟩ <;> intros <;> rfl
theorem bins (k : IntKind) (x y : Int) :
    binV .add (.i k x) (.i k y) = some (.i k (k.wrap (x + y))) ∧ binV .sub (.i k x) (.i k y) = some (.i k (k.wrap (x - y))) ∧ binV .mul (.i k x) (.i k y) = some (.i k (k.wrap (x * y))) ∧
    binV .eql (.i k x) (.i k y) = some (.b (decide (x = y))) ∧ binV .neq (.i k x) (.i k y) = some (.b (!decide (x = y))) ∧ binV .lss (.i k x) (.i k y) = some (.b (decide (x < y))) ∧
    binV .leq (.i k x) (.i k y) = some (.b (decide (x ≤ y))) ∧ binV .gtr (.i k x) (.i k y) = some (.b (decide (y < x))) ∧ binV .geq (.i k x) (.i k y) = some (.b (decide (y ≤ x))) ∧
    binV .and (.i k x) (.i k y) = some (.i k (Go.bits .and k x y)) ∧ binV .or (.i k x) (.i k y) = some (.i k (Go.bits .or k x y)) ∧ binV .xor (.i k x) (.i k y) = some (.i k (Go.bits .xor k x y)) := by
  refine ⟨?_, ?_, ?_, ?_, ?_, ?_, ?_, ?_, ?_, ?_, ?_, ?_⟩ <;> simp only [binV, binI, if_true]
theorem binb : (∀ x y, eqbV false (.b x) (.b y) = some (.b (x == y))) ∧ (∀ x y, eqbV true (.b x) (.b y) = some (.b (!(x == y)))) ∧ (∀ c n x y e h, PO.ev c (.eqb n x y) e h = (eqbV n (x.ev e) (y.ev e)).map fun v => (v, h)) ∧ (∀ c n x y e h, PO.ev c (.eqs n x y) e h = (eqsV n (x.ev e) (y.ev e)).map fun v => (v, h)) := ⟨fun _ _ => rfl, fun _ _ => rfl, fun _ _ _ _ _ _ => rfl, fun _ _ _ _ _ _ => rfl⟩
theorem quos (k : IntKind) (x y : Int) : binV .quo (.i k x) (.i k y) = (if y = 0 then none else some (.i k (k.wrap (x.tdiv y)))) ∧ binV .rem (.i k x) (.i k y) = if y = 0 then none else some (.i k (x.tmod y)) := by
  refine ⟨?_, ?_⟩ <;> simp only [binV, binI, if_true]
theorem shs (k k' : IntKind) (x y : Int) : binV .shl (.i k x) (.i k' y) = (if y < 0 then none else some (.i k (k.wrap (x * 2 ^ Nat.min y.toNat k.bits)))) ∧ binV .shr (.i k x) (.i k' y) = if y < 0 then none else some (.i k (x.fdiv (2 ^ Nat.min y.toNat k.bits))) := by
  refine ⟨?_, ?_⟩ <;> simp only [binV, shI]
theorem vals :
    (∀ k n, intV (.i k n) = some n) ∧ (∀ h cs o, ptrAt h (.tp cs o) = some (cs, o)) ∧ (∀ h r e o, ptrAt h (.p r e o) = ((h r).bind (Row.at e)).map fun cs => (cs, o)) ∧
    (∀ r z o n, lenV (.sl r z o n) = some n) ∧ (∀ z es, lenV (.l z es) = some es.length) ∧ (∀ z, lenV (.ns z) = some 0) ∧ (∀ c e h x, PO.ev c (.slen x) e h = slenV (x.ev e) h) ∧ (∀ s h, slenV (.s s) h = some (.i .i64 (s.size : Int), h)) ∧
    (∀ cs, Row.at 0 (.st cs) = some cs) ∧ (∀ cs, Row.at 0 (.fst cs) = some cs) ∧ (∀ h agg sz x, ldV h agg sz x = (ptrAt h x).bind fun q => ldC agg sz q.2 q.1) ∧
    (∀ q y z h, pickV (.b q) y z h = some (if q = true then y else z, h)) ∧ (∀ q h, notV (.b q) h = some (.b (!q), h)) ∧
    (∀ h r vs, callK h (some r) vs = some (demoteT r, if r.scalar then h else h.freeze (vs.flatMap (ref h)))) ∧
    (∀ h o r q k, fldV o (.p r q k) h = some (.p r q (k + o), h)) ∧ (∀ h o cs k, fldV o (.tp cs k) h = some (.tp cs (k + o), h)) ∧
    (∀ h k q n, convV k (.i q n) h = some (.i k (k.wrap n), h)) ∧ (∀ h n cs, extV n (.tup cs) h = (cs[n]?).map fun v => (v, h)) ∧ (∀ g s o cs h, fptV g s o (.agg cs) h = (ldC g s o cs).map fun v => (v, h)) := by
  refine ⟨?_, ?_, ?_, ?_, ?_, ?_, ?_, ?_, ?_, ?_, ?_, ?_, ?_, ?_, ?_, ?_, ?_, ?_, ?_⟩ <;> intros <;> rfl
theorem ats : (∀ e t, At.ev e (.t t) = e t) ∧ (∀ e v, At.ev e (.c v) = v) := ⟨fun _ _ => rfl, fun _ _ => rfl⟩
theorem ops (c : Nat → List AV → Option AV) (e : Nat → AV) (h : Heap) :
    (∀ x, PO.ev c (.mv x) e h = some (x.ev e, h)) ∧
    (∀ x op y, PO.ev c (.bin op x y) e h = (binV op (x.ev e) (y.ev e)).map fun v => (v, h)) ∧ (∀ agg sz x, PO.ev c (.ld agg sz x) e h = (ldV h agg sz (x.ev e)).map fun v => (v, h)) ∧
    (∀ sz x v, PO.ev c (.st sz x v) e h = (stV h sz (x.ev e) (v.ev e)).map fun g => (.junk, g)) ∧ (∀ sz x i, PO.ev c (.idx sz x i) e h = (intV (i.ev e)).bind fun j => (idxV sz (x.ev e) j).map fun v => (v, h)) ∧
    (∀ x, PO.ev c (.len x) e h = (lenV (x.ev e)).map fun (n : Nat) => (.i .i64 (n : Int), h)) ∧ (∀ x y z, PO.ev c (.pick x y z) e h = pickV (x.ev e) (y.ev e) (z.ev e) h) ∧
    (∀ x, PO.ev c (.not x) e h = notV (x.ev e) h) ∧
    (∀ o x, PO.ev c (.fld o x) e h = fldV o (x.ev e) h) ∧ 
    (∀ k x, PO.ev c (.conv k x) e h = convV k (x.ev e) h) ∧ 
    (∀ n x, PO.ev c (.ext n x) e h = extV n (x.ev e) h) ∧ (∀ g s o x, PO.ev c (.fpt g s o x) e h = fptV g s o (x.ev e) h) := by
  refine ⟨?_, ?_, ?_, ?_, ?_, ?_, ?_, ?_, ?_, ?_, ?_, ?_⟩ <;> intros <;> rfl
theorem boolites (c : Prop) [Decidable c] : (∀ x, (if c then x else false) = (decide c && x)) ∧ (∀ x, (if c then true else x) = (decide c || x)) := by
  refine ⟨?_, ?_⟩ <;> intro x <;> by_cases h : c <;> simp [h]
theorem ends :
    (∀ st, resV st [] = some []) ∧ (∀ st x k l, resV st ((x, k) :: l) = resK st (x.ev st) l) ∧ (∀ st v l, resK st (some v) l = consO v (resV st l)) ∧
    (∀ r i l, resL r (i :: l) = (lid i, 2) :: resL r l) ∧ (∀ r, resL r [] = kindL 0 r) ∧ (∀ k x q l, kindL k ((x, q) :: l) = (k, q) :: kindL (k + 1) l) ∧ (∀ k, kindL k [] = []) ∧ (∀ k v l, envL k (v :: l) = upd (envL (k + 1) l) k v) ∧
    (∀ e h t, PR.ev ⟨e, h⟩ (.tmp t) = some (e t)) ∧ (∀ e h t a sz, PR.ev ⟨e, h⟩ (.cell t a sz) = ldV h a sz (e t)) ∧ oneV [] = .tup [] ∧ (∀ x, oneV [x] = x) ∧ (∀ x y, oneV [x, y] = .tup [x, y]) ∧ (∀ x y z, oneV [x, y, z] = .tup [x, y, z]) ∧
    (∀ h z es, tell1 h (.l z es) = .l z es) ∧ (∀ h k n, tell1 h (.i k n) = .i k n) ∧ (∀ h x, tell1 h (.b x) = .b x) ∧ (∀ h x, tell1 h (.s x) = .s x) ∧ (∀ h z, tell1 h (.ns z) = .l z []) ∧
    (∀ h cs, tell1 h (.agg cs) = .agg (cs.map (tellC h))) ∧ (∀ h r z o n, tell1 h (.sl r z o n) = tell0 h (.sl r z o n)) ∧
    (∀ h z es, ref1 h (.l z es) = []) ∧ (∀ h k n, ref1 h (.i k n) = []) ∧ (∀ h x, ref1 h (.b x) = []) ∧ (∀ h x, ref1 h (.s x) = []) ∧ (∀ h z, ref1 h (.ns z) = []) ∧ (∀ h cs, ref1 h (.agg cs) = cs.flatMap (refC h)) ∧ (∀ h r z o n, ref1 h (.sl r z o n) = [r]) := by
  refine ⟨?_, ?_, ?_, ?_, ?_, ?_, ?_, ?_, ?_, ?_, ?_, ?_, ?_, ?_, ?_, ?_, ?_, ?_, ?_, ?_, ?_, ?_, ?_, ?_, ?_, ?_, ?_, ?_⟩ <;> intros <;> rfl
theorem endites (c : Prop) [Decidable c] : (∀ st x y l, resK st (if c then x else y) l = if c then resK st x l else resK st y l) ∧ (∀ v x y, consO v (if c then x else y) = if c then consO v x else consO v y) ∧ (∀ r l h x y, finA r l h (if c then x else y) = if c then finA r l h x else finA r l h y) ∧ (∀ l x y, finB l (if c then x else y) = if c then finB l x else finB l y) ∧ (∀ e ls l x y, packK e ls (if c then x else y) l = if c then packK e ls x l else packK e ls y l) := by
  refine ⟨?_, ?_, ?_, ?_, ?_⟩ <;> intros <;> split <;> rfl
theorem endnones : (∀ st l, resK st none l = none) ∧ (∀ v, consO v none = none) ∧ (∀ r l h, finA r l h none = none) ∧ (∀ l, finB l none = none) ∧ (∀ e ls l, packK e ls none l = none) := ⟨fun _ _ => rfl, fun _ => rfl, fun _ _ _ => rfl, fun _ => rfl, fun _ _ _ => rfl⟩
def rowT (z o n : Nat) : Option Row → AV
  | some (.sl _ _ es) | some (.fsl _ es) => .l z ((es.drop o).take n)
  | _ => .junk
theorem tellr : (∀ h r z o n, tell0 h (.sl r z o n) = rowT z o n (h r)) ∧ (∀ z o n ap z' es, rowT z o n (some (.sl ap z' es)) = .l z ((es.drop o).take n)) ∧ (∀ z o n z' es, rowT z o n (some (.fsl z' es)) = .l z ((es.drop o).take n)) := by
  refine ⟨?_, ?_, ?_⟩
  · intro h r z o n
    simp only [tell0, rowT]
    cases h r with
    | none => rfl
    | some x => cases x <;> rfl
  · intros; rfl
  · intros; rfl
theorem cutk :
    (∀ c e h sz x lo hi mx, PO.ev c (.cut sz x lo hi mx) e h = cutK h sz (x.ev e) (optI e (some 0) lo) (optI e ((lenV (x.ev e)).map fun (n : Nat) => (n : Int)) hi) mx e) ∧
    (∀ e h sz x l u, cutK h sz x (some l) (some u) none e = (cutV sz x l u).map fun v => (v, h)) ∧ (∀ e h sz x l u m, cutK h sz x (some l) (some u) (some m) e = cutM h sz x l u (intV (m.ev e))) ∧
    (∀ e d, optI e d none = d) ∧ (∀ e d x, optI e d (some x) = intV (x.ev e)) ∧ (∀ h sz x l u m, cutM h sz x l u (some m) = if m = u then (cutV sz x l u).map fun v => (v, h) else none) := by
  refine ⟨?_, ?_, ?_, ?_, ?_, ?_⟩
  · intros; rfl
  · intro e h sz x l u
    simp only [cutK, optI, Option.bind_some, if_true]
  all_goals (intros; rfl)
theorem makes :
    (∀ c e h id sz bytes z l, PO.ev c (.mk id sz bytes z l) e h = mkV h id sz bytes z (l.ev e)) ∧
    (∀ h id sz bytes z n, mkV h id sz bytes z (.i .i64 n) = if 0 ≤ n ∧ n.toNat * bytes ≤ 281474976710656 ∧ (h id).isNone = true then some (.sl id sz 0 n.toNat, h.put id (.sl true sz (List.replicate n.toNat z))) else none) ∧
    (∀ c e h id z, PO.ev c (.alloc id z) e h = if (h id).isNone = true then some (.p id 0 0, h.put id (.st z)) else none) ∧
    (∀ c e h id sz x, PO.ev c (.box id sz x) e h = if (x.ev e).cells.length = sz ∧ (h id).isNone = true then some (.p id 0 0, h.put id (.st (x.ev e).cells)) else none) ∧
    (∀ c e h id sz z n ps, PO.ev c (.bsl id sz z n ps) e h = if (h id).isNone = true then (bslV e h sz (List.replicate n z) ps).map fun es => (.sl id sz 0 n, (h.freeze (ps.flatMap fun p => ref1 h (p.2.ev e))).put id (.sl true sz es)) else none) ∧
    (∀ c e h z ps, PO.ev c (.build z ps) e h = (buildV e z ps).map fun cs => (.agg cs, h)) := by
  refine ⟨?_, ?_, ?_, ?_, ?_, ?_⟩ <;> intros <;> rfl
theorem boxes (e : Nat → AV) :
    (∀ z, buildV e z [] = some z) ∧ (∀ z off sz x ps, buildV e z ((off, sz, x) :: ps) = if (x.ev e).cells.length = sz ∧ off + sz ≤ z.length then buildV e (fillC z off (x.ev e).cells) ps else none) ∧
    (∀ h sz z, bslV e h sz z [] = some z) ∧ (∀ h sz z j x ps, bslV e h sz z ((j, x) :: ps) = if (x.ev e).cells.length = sz ∧ j < z.length then bslV e h sz (z.set j ((x.ev e).cells.map (tellC h))) ps else none) := by
  refine ⟨?_, ?_, ?_, ?_⟩ <;> intros <;> rfl
theorem apps :
    (∀ c id sz bytes x y e h, PO.ev c (.app id sz bytes x y) e h = appK h id sz bytes (x.ev e) (esV h sz (y.ev e))) ∧ (∀ h sz r z o n, esV h sz (.sl r z o n) = if z = sz then esR o n (h r) else none) ∧ (∀ h sz z es, esV h sz (.l z es) = if z = sz then some es else none) ∧ (∀ h sz z, esV h sz (.ns z) = if z = sz then some [] else none) ∧
    (∀ o n ap z es, esR o n (some (.sl ap z es)) = some ((es.drop o).take n)) ∧ (∀ o n z es, esR o n (some (.fsl z es)) = some ((es.drop o).take n)) ∧
    (∀ h id sz bytes z new, appK h id sz bytes (.ns z) (some new) = if z = sz ∧ new.length * bytes ≤ 140737488355328 ∧ (h id).isNone = true then some (.sl id z 0 new.length, h.put id (.sl true z new)) else none) ∧
    (∀ h id sz bytes r z o n new, appK h id sz bytes (.sl r z o n) (some new) = appR h id sz bytes r z o n new (h r)) ∧
    (∀ h id sz bytes r z o n new z' es, appR h id sz bytes r z o n new (some (.sl true z' es)) = if z = sz ∧ z' = sz ∧ o = 0 ∧ (n + new.length) * bytes ≤ 140737488355328 ∧ (h id).isNone = true then
          some (.sl id z 0 (n + new.length), (h.put r .dead).put id (.sl true z (es.take n ++ new))) else none) := by
  refine ⟨?_, ?_, ?_, ?_, ?_, ?_, ?_, ?_, ?_⟩
  · intro c id sz bytes x y e h
    simp only [PO.ev, appV, appK]
    cases esV h sz (y.ev e) <;> rfl
  · intro h sz r z o n
    simp only [esV, esR]
    split
    · cases h r <;> rfl
    · rfl
  all_goals (intros; rfl)
theorem packs :
    (∀ e ls h, pack e ls h [] = some []) ∧ (∀ e ls h t l, pack e ls h ((t, 1) :: l) = packK e ls (packV ls h (e t)) l) ∧ (∀ e ls h t l, pack e ls h ((t, 2) :: l) = packK e (t :: ls) (packL h t) l) ∧ (∀ e ls v h l, packK e ls (some (v, h)) l = consO v (pack e ls h l)) ∧
    (∀ e ls h t l, pack e ls h ((t, 0) :: l) = consO (tell h (e t)) (pack e ls (h.freeze (ref h (e t))) l)) ∧
    (∀ v vs, consO v (some vs) = some (v :: vs)) ∧ (∀ ls h z, packV ls h (.ns z) = some (.own true z [], h)) ∧ (∀ ls h r z o n, packV ls h (.sl r z o n) = if r ∈ ls then some (.sl r z o n, h) else packR h r z o n (h r)) ∧
    (∀ h r z o n ap z' es, packR h r z o n (some (.sl ap z' es)) = some (.own (ap && decide (o = 0)) z ((es.drop o).take n), h.put r .dead)) ∧ (∀ h r z o n z' es, packR h r z o n (some (.fsl z' es)) = some (.l z ((es.drop o).take n), h)) ∧
    (∀ ls h z es, packV ls h (.l z es) = some (.l z es, h)) ∧ (∀ ls h r, packV ls h (.p r 0 0) = packP h r (h r)) ∧ (∀ h r cs, packP h r (some (.st cs)) = if r ∈ cs.flatMap ref0 then none else some (.ownp (cs.map (tell0 h)), (h.freeze (cs.flatMap ref0)).put r .dead)) ∧
    (∀ h r, packL h r = packQ h r (h r)) ∧ (∀ h r ap z es, packQ h r (some (.sl ap z es)) = some (.own ap z es, h.put r .dead)) ∧ (∀ h r cs, packQ h r (some (.st cs)) = if r ∈ cs.flatMap ref0 then none else some (.ownp (cs.map (tell0 h)), (h.freeze (cs.flatMap ref0)).put r .dead)) := by
  refine ⟨?_, ?_, ?_, ?_, ?_, ?_, ?_, ?_, ?_, ?_, ?_, ?_, ?_, ?_, ?_, ?_⟩
  case refine_8 =>
    intro ls h r z o n
    simp only [packV, packR]
    all_goals
      split
      · rfl
      · cases h r with
        | none => rfl
        | some x => cases x <;> rfl
  case refine_12 =>
    intro ls h r
    simp only [packV, packP, true_and, if_true]
    all_goals
      cases h r with
      | none => rfl
      | some x => cases x <;> rfl
  case refine_14 =>
    intro h r
    simp only [packL, packQ]
    all_goals
      cases h r with
      | none => rfl
      | some x => cases x <;> rfl
  all_goals (intros; rfl)
theorem calls :
    (∀ c f xs e h, PO.ev c (.call f xs) e h = callK h (c f ((xs.map (At.ev e)).map (tell h))) (xs.map (At.ev e))) ∧ (∀ z es, demoteT (.l z es) = .l z es) ∧ (∀ k n, demoteT (.i k n) = .i k n) ∧ (∀ x, demoteT (.b x) = .b x) ∧ (∀ x, demoteT (.s x) = .s x) ∧ (∀ cs, demoteT (.agg cs) = .agg cs) ∧ (∀ z, demoteT (.ns z) = .ns z) ∧
    (∀ cs, demoteT (.tup cs) = .tup (cs.map demote)) ∧ (∀ z es, demote (.l z es) = .l z es) ∧ (∀ k n, demote (.i k n) = .i k n) ∧ (∀ x, demote (.b x) = .b x) ∧ (∀ x, demote (.s x) = .s x) ∧ (∀ cs, demote (.agg cs) = .agg cs) ∧ (∀ ap z es, demote (.own ap z es) = .l z es) ∧ (∀ ap z es, demoteT (.own ap z es) = .l z es) ∧
    (∀ k n, AV.scalar (.i k n) = true) ∧ (∀ x, AV.scalar (.b x) = true) ∧ (∀ x, AV.scalar (.s x) = true) ∧ (∀ z es, AV.scalar (.l z es) = false) ∧ (∀ cs, AV.scalar (.agg cs) = false) ∧ (∀ cs, AV.scalar (.tup cs) = cs.all AV.flat) ∧
    (∀ k n, AV.flat (.i k n) = true) ∧ (∀ x, AV.flat (.b x) = true) ∧ (∀ x, AV.flat (.s x) = true) ∧ (∀ z es, AV.flat (.l z es) = false) ∧ (∀ cs, AV.flat (.agg cs) = false) ∧ (∀ ap z es, AV.scalar (.own ap z es) = false) := by
  refine ⟨?_, ?_, ?_, ?_, ?_, ?_, ?_, ?_, ?_, ?_, ?_, ?_, ?_, ?_, ?_, ?_, ?_, ?_, ?_, ?_, ?_, ?_, ?_, ?_, ?_, ?_, ?_⟩ <;> intros <;> rfl
def lendS (h : Heap) (z o n : Nat) : Option Row → Option AV
  | some (.sl _ _ es) => some (.own false z ((es.drop o).take n))
  | _ => none
def lendP (h : Heap) : Option Row → Option AV
  | some (.st cs) => some (.ownp (cs.map (tell0 h)))
  | _ => none
def backS (h : Heap) (li q o n : Nat) (refs : List Nat) (v : AV) (z2 : Nat) (es2 : List (List AV)) : Option Row → Option (AV × Heap)
  | some (.sl ap z' es) => if q ∉ refs ∧ es2.length = n ∧ z2 = z' then some (aliasV li q o v, (h.freeze refs).put q (.sl ap z' (es.take o ++ es2 ++ es.drop (o + n)))) else none
  | _ => none
def backP (h : Heap) (q : Nat) (refs : List Nat) (v : AV) (cs2 : List AV) : Option Row → Option (AV × Heap)
  | some (.st cs) => if q ∉ refs ++ cs.flatMap ref0 ∧ cs2.length = cs.length then some (demoteT v, (h.freeze (refs ++ cs.flatMap ref0)).put q (.st (cs2.map demote))) else none
  | _ => none
def callM (call : Nat → List AV → Option AV) (h : Heap) (f : Nat) (vs : List AV) (li : Nat) (y : AV) (x : Option AV) : Option (AV × Heap) := x.bind fun x => (call f (argsL h x li vs)).bind fun r => backL h li y (refsL h li vs) r
def backM (h : Heap) (li : Nat) (y : AV) (refs : List Nat) (r : Option AV) : Option (AV × Heap) := r.bind fun r => backL h li y refs r
theorem lends :
    (∀ c f xs li e h, PO.ev c (.callw f xs li) e h = callM c h f (xs.map (At.ev e)) li ((xs.map (At.ev e)).getD li .junk) (lendL h ((xs.map (At.ev e)).getD li .junk))) ∧
    (∀ h r z o n, lendL h (.sl r z o n) = lendS h z o n (h r)) ∧ (∀ h r, lendL h (.p r 0 0) = lendP h (h r)) ∧ (∀ h z o n ap z' es, lendS h z o n (some (.sl ap z' es)) = some (.own false z ((es.drop o).take n))) ∧ (∀ h cs, lendP h (some (.st cs)) = some (.ownp (cs.map (tell0 h)))) ∧
    (∀ c h f vs li y x, callM c h f vs li y (some x) = backM h li y (refsL h li vs) (c f (argsL h x li vs))) ∧ (∀ h li y refs r, backM h li y refs (some r) = backL h li y refs r) ∧
    (∀ h x v vs, argsL h x 0 (v :: vs) = x :: vs.map (tell h)) ∧ (∀ h x v vs, argsL h x 1 (v :: vs) = tell h v :: argsL h x 0 vs) ∧ (∀ h v vs, refsL h 0 (v :: vs) = vs.flatMap (ref h)) ∧ (∀ h v vs, refsL h 1 (v :: vs) = ref h v ++ refsL h 0 vs) ∧
    (∀ h li q z o n refs v ap z2 es2, backL h li (.sl q z o n) refs (.back v [.own ap z2 es2]) = backS h li q o n refs v z2 es2 (h q)) ∧ (∀ h li q refs v cs2, backL h li (.p q 0 0) refs (.back v [.ownp cs2]) = backP h q refs v cs2 (h q)) ∧
    (∀ h li q o n refs v z2 es2 ap z' es, backS h li q o n refs v z2 es2 (some (.sl ap z' es)) = if q ∉ refs ∧ es2.length = n ∧ z2 = z' then some (aliasV li q o v, (h.freeze refs).put q (.sl ap z' (es.take o ++ es2 ++ es.drop (o + n)))) else none) ∧
    (∀ h q refs v cs2 cs, backP h q refs v cs2 (some (.st cs)) = if q ∉ refs ++ cs.flatMap ref0 ∧ cs2.length = cs.length then some (demoteT v, (h.freeze (refs ++ cs.flatMap ref0)).put q (.st (cs2.map demote))) else none) ∧
    (∀ (v : AV) l d, (v :: l).getD 0 d = v) ∧ (∀ (v w : AV) l d, (v :: w :: l).getD 1 d = w) := by
  refine ⟨?_, ?_, ?_, ?_, ?_, ?_, ?_, ?_, ?_, ?_, ?_, ?_, ?_, ?_, ?_, ?_, ?_⟩ <;> intros <;> rfl
theorem aliases (i q o : Nat) :
    (∀ r z p n, aliasV i q o (.sl r z p n) = if r = lid i ∧ 0 < n then .sl q z (o + p) n else if n = 0 then .l z [] else .junk) ∧ (∀ k n, aliasV i q o (.i k n) = .i k n) ∧ (∀ x, aliasV i q o (.b x) = .b x) ∧ (∀ x, aliasV i q o (.s x) = .s x) ∧ (∀ z es, aliasV i q o (.l z es) = .l z es) ∧ (∀ cs, aliasV i q o (.agg cs) = .agg cs) ∧ (∀ cs, aliasV i q o (.tup cs) = .tup (cs.map demote)) := by
  refine ⟨?_, ?_, ?_, ?_, ?_, ?_, ?_⟩ <;> intros <;> rfl
theorem frzs (h : Heap) : (∀ r rs q, Heap.freeze h (r :: rs) q = if q = r then (Heap.freeze h rs q).map Row.freeze else Heap.freeze h rs q) ∧ (∀ ap z es, Row.freeze (.sl ap z es) = .fsl z es) ∧ (∀ cs, Row.freeze (.st cs) = .fst cs) ∧ (∀ z es, Row.freeze (.fsl z es) = .fsl z es) ∧ (∀ cs, Row.freeze (.fst cs) = .fst cs) ∧ Row.freeze .dead = .dead := ⟨fun _ _ _ => rfl, fun _ _ _ => rfl, fun _ => rfl, fun _ _ => rfl, fun _ => rfl, rfl⟩
def calloK (h : Heap) (refs : List Nat) (id : Nat) (r : Option AV) : Option (AV × Heap) := r.bind (ownR h refs id)
def b2sK (h : Heap) (es : Option (List (List AV))) : Option (AV × Heap) := (es.bind byteNs).map fun ns => (.s (bytesS ns), h)
theorem callos :
    (∀ c f xs id e h, PO.ev c (.callo f xs id) e h = calloK h ((xs.map (At.ev e)).flatMap (ref h)) id (c f ((xs.map (At.ev e)).map (tell h)))) ∧
    (∀ h refs id ap z es, calloK h refs id (some (.own ap z es)) = if (h id).isNone = true then some (.sl id z 0 es.length, (h.freeze refs).put id (.sl ap z es)) else none) ∧ (∀ h refs id z, calloK h refs id (some (.l z [])) = some (.l z [], h.freeze refs)) ∧
    (∀ c x e h, PO.ev c (.b2s x) e h = b2sK h (esV h 1 (x.ev e))) ∧ (∀ h es, b2sK h (some es) = (byteNs es).map fun ns => (.s (bytesS ns), h)) := ⟨fun _ _ _ _ _ _ => rfl, fun _ _ _ _ _ _ => rfl, fun _ _ _ _ => rfl, fun _ _ _ _ => rfl, fun _ _ => rfl⟩
theorem listc {α β : Type} : (∀ (f : α → β) x l, List.map f (x :: l) = f x :: List.map f l) ∧ (∀ (f : α → List β) x l, List.flatMap f (x :: l) = f x ++ List.flatMap f l) := ⟨fun _ _ _ => rfl, fun _ _ _ => rfl⟩
def idxaK (h : Heap) (n sz : Nat) (j : Option Int) (x : AV) : Option (AV × Heap) := match j, x with
  | some j, .p r q c => if 0 ≤ j ∧ j < (n : Int) then some (.p r q (c + j.toNat * sz), h) else none
  | some j, .tp cs c => if 0 ≤ j ∧ j < (n : Int) then some (.tp cs (c + j.toNat * sz), h) else none
  | _, _ => none
theorem idxas :
    (∀ c n sz x i e h, PO.ev c (.idxa n sz x i) e h = idxaK h n sz (intV (i.ev e)) (x.ev e)) ∧
    (∀ h n sz j r q c, idxaK h n sz (some j) (.p r q c) = if 0 ≤ j ∧ j < (n : Int) then some (.p r q (c + j.toNat * sz), h) else none) ∧
    (∀ h n sz j cs c, idxaK h n sz (some j) (.tp cs c) = if 0 ≤ j ∧ j < (n : Int) then some (.tp cs (c + j.toNat * sz), h) else none) := ⟨fun _ _ _ _ _ _ _ => rfl, fun _ _ _ _ _ _ _ => rfl, fun _ _ _ _ _ _ => rfl⟩
theorem casts : ((1 : Nat) : Int) = 1 ∧ ((2 : Nat) : Int) = 2 ∧ ((3 : Nat) : Int) = 3 ∧ ((4 : Nat) : Int) = 4 ∧ ((5 : Nat) : Int) = 5 ∧ ((6 : Nat) : Int) = 6 ∧ ((7 : Nat) : Int) = 7 ∧ ((8 : Nat) : Int) = 8 ∧ ((64 : Nat) : Int) = 64 := ⟨rfl, rfl, rfl, rfl, rfl, rfl, rfl, rfl, rfl⟩
theorem idxl : (∀ z x es j, idxV z (.l z (x :: es)) j = if 0 ≤ j ∧ j < ((x :: es).length : Int) then some (.tp ((x :: es).getD j.toNat []) 0) else none) ∧ (∀ ap z e x es, Row.at e (.sl ap z (x :: es)) = (x :: es)[e]?) ∧ (∀ z e x es, Row.at e (.fsl z (x :: es)) = (x :: es)[e]?) ∧ (∀ z x es e v, putC z (x :: es) e 0 v = (x :: es).set e (if v.length = z then v else fillC ((x :: es).getD e []) 0 v)) := by
  refine ⟨?_, ?_, ?_, ?_⟩
  · intro z x es j; simp only [idxV, true_and]
  · intros; rfl
  · intros; rfl
  · intro z x es e v; simp only [putC, true_and]
def tpK (h : Heap) (o : Nat) : Option (List AV) → AV
  | some cs => .tp (cs.map (tell0 h)) o
  | none => .junk
def refK : Option (List AV) → List Nat
  | some cs => cs.flatMap ref0
  | none => []
theorem celltells (h : Heap) :
    (∀ x, tellC h (.b x) = .b x) ∧ (∀ x y, tellC h (.i x y) = .i x y) ∧ (∀ x, tellC h (.s x) = .s x) ∧ (∀ x y, tellC h (.l x y) = .l x y) ∧ (∀ x, tellC h (.ns x) = .l x []) ∧ (tellC h .np = .np) ∧ (∀ x y, tellC h (.tp x y) = .tp x y) ∧ (tellC h .junk = .junk) ∧ (∀ x, tell0 h (.b x) = .b x) ∧ (∀ x y, tell0 h (.i x y) = .i x y) ∧ (∀ x, tell0 h (.s x) = .s x) ∧ (∀ x y, tell0 h (.l x y) = .l x y) ∧ (∀ x, tell0 h (.ns x) = .l x []) ∧ (tell0 h .np = .np) ∧ (∀ x y, tell0 h (.tp x y) = .tp x y) ∧ (tell0 h .junk = .junk) ∧ (∀ x, refC h (.b x) = []) ∧ (∀ x y, refC h (.i x y) = []) ∧ (∀ x, refC h (.s x) = []) ∧ (∀ x y, refC h (.l x y) = []) ∧ (∀ x, refC h (.ns x) = []) ∧ (refC h .np = []) ∧ (∀ x y, refC h (.tp x y) = []) ∧ (refC h .junk = []) ∧ (∀ r z o n, tellC h (.sl r z o n) = tell0 h (.sl r z o n)) ∧ (∀ r e o, tellC h (.p r e o) = tpK h o ((h r).bind (Row.at e))) ∧ (∀ o cs, tpK h o (some cs) = .tp (cs.map (tell0 h)) o) ∧ (∀ r z o n, refC h (.sl r z o n) = [r]) ∧ (∀ r e o, refC h (.p r e o) = r :: refK ((h r).bind (Row.at e))) ∧ (∀ r e o, tell1 h (.p r e o) = tellC h (.p r e o)) ∧ (tell1 h .np = .np) ∧ (∀ x y, tell1 h (.tp x y) = .tp x y) ∧ (tell1 h .junk = .junk) ∧ (∀ r e o, ref1 h (.p r e o) = refC h (.p r e o)) ∧ (ref1 h .np = []) ∧ (∀ x y, ref1 h (.tp x y) = []) ∧ (ref1 h .junk = []) := by
  refine ⟨?_, ?_, ?_, ?_, ?_, ?_, ?_, ?_, ?_, ?_, ?_, ?_, ?_, ?_, ?_, ?_, ?_, ?_, ?_, ?_, ?_, ?_, ?_, ?_, ?_, ?_, ?_, ?_, ?_, ?_, ?_, ?_, ?_, ?_, ?_, ?_, ?_⟩ <;> intros <;> rfl
theorem cellrefs :
    (∀ x, ref0 (.b x) = []) ∧ (∀ x y, ref0 (.i x y) = []) ∧ (∀ x, ref0 (.s x) = []) ∧ (∀ x y, ref0 (.l x y) = []) ∧ (∀ x, ref0 (.ns x) = []) ∧ (ref0 .np = []) ∧ (∀ x y, ref0 (.tp x y) = []) ∧ (ref0 .junk = []) ∧ (∀ r z o n, ref0 (.sl r z o n) = [r]) ∧ (∀ cs, refK (some cs) = cs.flatMap ref0) := by
  refine ⟨?_, ?_, ?_, ?_, ?_, ?_, ?_, ?_, ?_, ?_⟩ <;> intros <;> rfl
theorem boolq : (true == true) = true ∧ (true == false) = false ∧ (false == true) = false ∧ (false == false) = true ∧ (∀ b : Bool, (b == true) = b) ∧ (∀ b : Bool, (b == false) = !b) ∧ (∀ b : Bool, (true == b) = b) ∧ (∀ b : Bool, (false == b) = !b) ∧ (∀ b : Bool, (b == b) = true) := by decide
theorem conses {α : Type} : (∀ (x : α) (l : List α) (n : Nat), (x :: l)[n]? = if n = 0 then some x else l[n - 1]?) ∧ (∀ (x : α) (l : List α) (n : Nat), (x :: l).take n = if n = 0 then [] else x :: l.take (n - 1)) ∧ (∀ (x : α) l n, (x :: l).drop n = if n = 0 then x :: l else l.drop (n - 1)) ∧ (∀ (x d : α) l n, (x :: l).getD n d = if n = 0 then x else l.getD (n - 1) d) ∧ (∀ n : Nat, ([] : List α)[n]? = none) ∧ (∀ n, ([] : List α).take n = []) ∧ (∀ n, ([] : List α).drop n = []) := by
  refine ⟨?_, ?_, ?_, ?_, ?_, ?_, ?_⟩
  · intro x l n; cases n <;> rfl
  · intro x l n; cases n <;> rfl
  · intro x l n; cases n <;> rfl
  · intro x d l n; cases n <;> rfl
  · intro n; rfl
  · intro n; exact List.take_nil
  · intro n; exact List.drop_nil
theorem ldcs : (∀ (sz o : Nat) (x : AV) (cs : List AV), ldC false sz o (x :: cs) = (x :: cs)[o]?) ∧ (∀ (sz o : Nat) (x : AV) (cs : List AV), ldC true sz o (x :: cs) = if o = 0 ∧ (x :: cs).length = sz then some (.agg (x :: cs)) else if o + sz ≤ (x :: cs).length then some (.agg (((x :: cs).drop o).take sz)) else none) ∧ (∀ (z : List AV) off cs, fillC z off cs = z.take off ++ (cs ++ z.drop (off + cs.length))) ∧ (∀ (x : AV) l m, (x :: l) ++ m = x :: (l ++ m)) := by
  refine ⟨?_, ?_, ?_, ?_⟩
  · intros; rfl
  · intros; rfl
  · intro z off cs; simp [fillC]
  · intros; rfl
theorem lits {α : Type} :
    (∀ x : α, List.replicate 1 x = [x]) ∧ (∀ x : α, List.replicate 2 x = [x, x]) ∧ (∀ x : α, List.replicate 3 x = [x, x, x]) ∧ (∀ x : α, List.replicate 4 x = [x, x, x, x]) ∧ (∀ (x y : α) l, (x :: l).set 0 y = y :: l) ∧ (∀ (x y : α) l, (x :: l).set 1 y = x :: l.set 0 y) ∧ (∀ (x y : α) l, (x :: l).set 2 y = x :: l.set 1 y) ∧ (∀ (x y : α) l, (x :: l).set 3 y = x :: l.set 2 y) ∧
    (∀ (x : α) l, (x :: l).take 1 = [x]) ∧ (∀ (x y : α) l, (x :: y :: l).take 2 = [x, y]) ∧ (∀ (x y z : α) l, (x :: y :: z :: l).take 3 = [x, y, z]) ∧ (∀ (x y z v : α) l, (x :: y :: z :: v :: l).take 4 = [x, y, z, v]) ∧ (∀ (x : α) l, (x :: l).length = l.length + 1) ∧ ([] : List α).length = 0 := by
  refine ⟨?_, ?_, ?_, ?_, ?_, ?_, ?_, ?_, ?_, ?_, ?_, ?_, ?_, ?_⟩ <;> intros <;> rfl
theorem boolnots (c : Prop) [Decidable c] : ((!decide c) = true) = ¬ c := by by_cases h : c <;> simp [h]
end Go.Pe
set_option linter.unusedVariables false
namespace Go.Pe
def len8 : ByteArray := ⟨#[0, 1, 2, 2, 3, 3, 3, 3, 4, 4, 4, 4, 4, 4, 4, 4, 5, 5, 5, 5, 5, 5, 5, 5, 5, 5, 5, 5, 5, 5, 5, 5, 6, 6, 6, 6, 6, 6, 6, 6, 6, 6, 6, 6, 6, 6, 6, 6, 6, 6, 6, 6, 6, 6, 6, 6, 6, 6, 6, 6, 6, 6, 6, 6, 7, 7, 7, 7, 7, 7, 7, 7, 7, 7, 7, 7, 7, 7, 7, 7, 7, 7, 7, 7, 7, 7, 7, 7, 7, 7, 7, 7, 7, 7, 7, 7, 7, 7, 7, 7, 7, 7, 7, 7, 7, 7, 7, 7, 7, 7, 7, 7, 7, 7, 7, 7, 7, 7, 7, 7, 7, 7, 7, 7, 7, 7, 7, 7, 8, 8, 8, 8, 8, 8, 8, 8, 8, 8, 8, 8, 8, 8, 8, 8, 8, 8, 8, 8, 8, 8, 8, 8, 8, 8, 8, 8, 8, 8, 8, 8, 8, 8, 8, 8, 8, 8, 8, 8, 8, 8, 8, 8, 8, 8, 8, 8, 8, 8, 8, 8, 8, 8, 8, 8, 8, 8, 8, 8, 8, 8, 8, 8, 8, 8, 8, 8, 8, 8, 8, 8, 8, 8, 8, 8, 8, 8, 8, 8, 8, 8, 8, 8, 8, 8, 8, 8, 8, 8, 8, 8, 8, 8, 8, 8, 8, 8, 8, 8, 8, 8, 8, 8, 8, 8, 8, 8, 8, 8, 8, 8, 8, 8, 8, 8, 8, 8, 8, 8, 8, 8, 8, 8, 8, 8, 8, 8]⟩
def tab0 : List AV := [.i .u8 0, .i .u8 1, .i .u8 56, .i .u8 2, .i .u8 57, .i .u8 49, .i .u8 28, .i .u8 3, .i .u8 61, .i .u8 58, .i .u8 42, .i .u8 50, .i .u8 38, .i .u8 29, .i .u8 17, .i .u8 4, .i .u8 62, .i .u8 47, .i .u8 59, .i .u8 36, .i .u8 45, .i .u8 43, .i .u8 51, .i .u8 22, .i .u8 53, .i .u8 39, .i .u8 33, .i .u8 30, .i .u8 24, .i .u8 18, .i .u8 12, .i .u8 5, .i .u8 63, .i .u8 55, .i .u8 48, .i .u8 27, .i .u8 60, .i .u8 41, .i .u8 37, .i .u8 16, .i .u8 46, .i .u8 35, .i .u8 44, .i .u8 21, .i .u8 52, .i .u8 32, .i .u8 23, .i .u8 11, .i .u8 54, .i .u8 26, .i .u8 40, .i .u8 15, .i .u8 34, .i .u8 20, .i .u8 31, .i .u8 10, .i .u8 25, .i .u8 14, .i .u8 19, .i .u8 9, .i .u8 13, .i .u8 8, .i .u8 7, .i .u8 6]
def c1 : PC := (.seq (.reg [] [⟨some 3, .box 3 3 (.t 0), none⟩, ⟨some 4, .box 4 3 (.t 1), none⟩, ⟨some 5, .box 5 4 (.t 2), none⟩, ⟨some 6, .mv (.c (.b false)), none⟩]) (.seq (.reg [] [⟨some 8, .ld true 3 (.t 3), none⟩, ⟨some 9, .call 12 [(.t 8)], none⟩, ⟨none, .st 3 (.t 3) (.t 9), none⟩]) (.seq (.reg [] [⟨some 10, .ld true 3 (.t 4), none⟩, ⟨some 11, .call 12 [(.t 10)], none⟩, ⟨none, .st 3 (.t 4) (.t 11), none⟩]) (.seq (.reg [] [⟨some 12, .ld true 4 (.t 5), none⟩, ⟨some 13, .call 13 [(.t 12)], none⟩, ⟨none, .st 4 (.t 5) (.t 13), none⟩]) (.seq (.join [(3, 0), (4, 0), (5, 0), (7, 0)] (.reg [] [⟨some 14, .fld 0 (.t 5), none⟩, ⟨some 15, .ld false 1 (.t 14), none⟩, ⟨some 16, .not (.t 15), none⟩, ⟨some 17, .mv (.t 16), none⟩, ⟨some 18, .fld 1 (.t 5), some (17, true)⟩, ⟨some 19, .ld true 3 (.t 18), some (17, true)⟩, ⟨some 20, .ld true 3 (.t 3), some (17, true)⟩, ⟨some 21, .call 14 [(.t 19), (.t 20)], some (17, true)⟩, ⟨some 22, .bin .geq (.t 21) (.c (.i .i64 0)), some (17, true)⟩, ⟨some 23, .pick (.t 17) (.t 22) (.c (.b false)), none⟩, ⟨some 24, .mv (.t 23), none⟩, ⟨some 25, .fld 1 (.t 5), some (24, true)⟩, ⟨some 26, .ld true 3 (.t 25), some (24, true)⟩, ⟨some 27, .ld true 3 (.t 4), some (24, true)⟩, ⟨some 28, .call 14 [(.t 26), (.t 27)], some (24, true)⟩, ⟨some 29, .bin .lss (.t 28) (.c (.i .i64 0)), some (24, true)⟩, ⟨some 30, .pick (.t 24) (.t 29) (.c (.b false)), none⟩, ⟨some 7, .mv (.t 30), none⟩])) (.seq (.join [(6, 0)] (.reg [] [⟨some 31, .ld true 3 (.t 3), none⟩, ⟨some 32, .ld true 3 (.t 4), none⟩, ⟨some 33, .call 16 [(.t 31), (.t 32)], none⟩, ⟨some 34, .ld true 4 (.t 5), none⟩, ⟨some 35, .call 15 [(.t 33), (.t 34)], none⟩, ⟨some 36, .mv (.t 7), none⟩, ⟨some 37, .eqb false (.t 35) (.t 36), none⟩, ⟨some 38, .mv (.t 37), none⟩, ⟨some 39, .call 17 [], some (38, true)⟩, ⟨some 40, .pick (.t 38) (.t 39) (.c (.b false)), none⟩, ⟨some 6, .mv (.t 40), none⟩])) .ret))))))
def p1 : PF := ⟨[(.tmp 6, 0)], [], c1⟩
def c2 : PC := (.seq (.reg [] [⟨some 4, .box 4 9 (.t 0), none⟩, ⟨some 5, .box 5 3 (.t 1), none⟩, ⟨some 7, .box 7 4 (.t 3), none⟩, ⟨some 8, .mv (.c (.b false)), none⟩]) (.seq (.reg [] [⟨some 13, .ld true 9 (.t 4), none⟩, ⟨some 14, .call 18 [(.t 13)], none⟩, ⟨none, .st 9 (.t 4) (.t 14), none⟩]) (.seq (.reg [] [⟨some 15, .ld true 3 (.t 5), none⟩, ⟨some 16, .call 12 [(.t 15)], none⟩, ⟨none, .st 3 (.t 5) (.t 16), none⟩]) (.seq (.reg [] [⟨some 17, .ld true 4 (.t 7), none⟩, ⟨some 18, .call 13 [(.t 17)], none⟩, ⟨none, .st 4 (.t 7) (.t 18), none⟩]) (.seq (.reg [] [⟨some 19, .ld true 9 (.t 4), none⟩, ⟨some 20, .ld true 3 (.t 5), none⟩, ⟨some 21, .mv (.t 2), none⟩, ⟨some 22, .call 19 [(.t 19), (.t 20), (.t 21)], none⟩, ⟨some 9, .alloc 9 [.b false, .b false, .b false, .ns 1, .ns 1, .b false, .ns 1, .ns 1, .b false], none⟩, ⟨none, .st 9 (.t 9) (.t 22), none⟩]) (.seq (.reg [] [⟨some 23, .ld true 9 (.t 4), none⟩, ⟨some 24, .ld true 3 (.t 5), none⟩, ⟨some 25, .mv (.t 2), none⟩, ⟨some 26, .call 20 [(.t 23), (.t 24), (.t 25)], none⟩, ⟨some 10, .alloc 10 [.b false, .b false, .b false, .ns 1, .ns 1, .b false, .ns 1, .ns 1, .b false], none⟩, ⟨none, .st 9 (.t 10) (.t 26), none⟩]) (.seq (.join [(2, 0), (4, 0), (7, 0), (9, 0), (10, 0), (11, 0)] (.reg [] [⟨some 27, .fld 0 (.t 7), none⟩, ⟨some 28, .ld false 1 (.t 27), none⟩, ⟨some 29, .not (.t 28), none⟩, ⟨some 30, .mv (.t 29), none⟩, ⟨some 31, .fld 1 (.t 7), some (30, true)⟩, ⟨some 32, .ld true 3 (.t 31), some (30, true)⟩, ⟨some 33, .ld true 3 (.t 5), some (30, true)⟩, ⟨some 34, .call 14 [(.t 32), (.t 33)], some (30, true)⟩, ⟨some 35, .bin .lss (.t 34) (.c (.i .i64 0)), some (30, true)⟩, ⟨some 36, .pick (.t 30) (.t 35) (.c (.b false)), none⟩, ⟨some 11, .mv (.t 36), none⟩])) (.seq (.join [(4, 0), (7, 0), (9, 0), (10, 0), (11, 0), (12, 0)] (.reg [] [⟨some 37, .fld 0 (.t 7), none⟩, ⟨some 38, .ld false 1 (.t 37), none⟩, ⟨some 39, .mv (.t 38), none⟩, ⟨some 40, .mv (.t 2), some (39, true)⟩, ⟨some 41, .pick (.t 39) (.t 40) (.c (.b false)), none⟩, ⟨some 12, .mv (.t 41), none⟩])) (.seq (.join [(8, 0)] (.reg [] [⟨some 42, .ld true 9 (.t 9), none⟩, ⟨some 43, .ld true 4 (.t 7), none⟩, ⟨some 44, .call 15 [(.t 42), (.t 43)], none⟩, ⟨some 45, .ld true 9 (.t 4), none⟩, ⟨some 46, .ld true 4 (.t 7), none⟩, ⟨some 47, .call 15 [(.t 45), (.t 46)], none⟩, ⟨some 48, .mv (.t 47), none⟩, ⟨some 49, .mv (.t 11), some (48, true)⟩, ⟨some 50, .mv (.t 49), some (48, true)⟩, ⟨some 51, .mv (.t 12), some (50, false)⟩, ⟨some 52, .pick (.t 50) (.c (.b true)) (.t 51), some (48, true)⟩, ⟨some 53, .pick (.t 48) (.t 52) (.c (.b false)), none⟩, ⟨some 54, .eqb false (.t 44) (.t 53), none⟩, ⟨some 55, .mv (.t 54), none⟩, ⟨some 56, .ld true 9 (.t 10), some (55, true)⟩, ⟨some 57, .ld true 4 (.t 7), some (55, true)⟩, ⟨some 58, .call 15 [(.t 56), (.t 57)], some (55, true)⟩, ⟨some 59, .ld true 9 (.t 4), some (55, true)⟩, ⟨some 60, .ld true 4 (.t 7), some (55, true)⟩, ⟨some 61, .call 15 [(.t 59), (.t 60)], some (55, true)⟩, ⟨some 62, .mv (.t 61), some (55, true)⟩, ⟨some 63, .fld 0 (.t 7), some (62, true)⟩, ⟨some 64, .ld false 1 (.t 63), some (62, true)⟩, ⟨some 65, .not (.t 64), some (62, true)⟩, ⟨some 66, .mv (.t 65), some (62, true)⟩, ⟨some 67, .mv (.t 11), some (66, true)⟩, ⟨some 68, .not (.t 67), some (66, true)⟩, ⟨some 69, .pick (.t 66) (.t 68) (.c (.b false)), some (62, true)⟩, ⟨some 70, .mv (.t 69), some (62, true)⟩, ⟨some 71, .mv (.t 12), some (70, false)⟩, ⟨some 72, .pick (.t 70) (.c (.b true)) (.t 71), some (62, true)⟩, ⟨some 73, .pick (.t 62) (.t 72) (.c (.b false)), some (55, true)⟩, ⟨some 74, .eqb false (.t 58) (.t 73), some (55, true)⟩, ⟨some 75, .pick (.t 55) (.t 74) (.c (.b false)), none⟩, ⟨some 76, .mv (.t 75), none⟩, ⟨some 77, .call 17 [], some (76, true)⟩, ⟨some 78, .pick (.t 76) (.t 77) (.c (.b false)), none⟩, ⟨some 8, .mv (.t 78), none⟩])) .ret)))))))))
def p2 : PF := ⟨[(.tmp 8, 0)], [], c2⟩
def c3 : PC := (.seq (.reg [] [⟨some 2, .box 2 9 (.t 0), none⟩, ⟨some 3, .box 3 4 (.t 1), none⟩, ⟨some 4, .mv (.c (.b false)), none⟩]) (.seq (.reg [] [⟨some 6, .ld true 9 (.t 2), none⟩, ⟨some 7, .call 18 [(.t 6)], none⟩, ⟨none, .st 9 (.t 2) (.t 7), none⟩]) (.seq (.reg [] [⟨some 8, .ld true 4 (.t 3), none⟩, ⟨some 9, .call 13 [(.t 8)], none⟩, ⟨none, .st 4 (.t 3) (.t 9), none⟩]) (.seq (.reg [] [⟨some 10, .ld true 9 (.t 2), none⟩, ⟨some 11, .call 21 [(.t 10)], none⟩, ⟨some 5, .alloc 5 [.b false, .b false, .b false, .ns 1, .ns 1, .b false, .ns 1, .ns 1, .b false], none⟩, ⟨none, .st 9 (.t 5) (.t 11), none⟩]) (.seq (.seq (.join [(3, 0), (5, 0), (36, 0)] (.reg [] [⟨some 12, .ld true 9 (.t 2), none⟩, ⟨some 13, .ld true 4 (.t 3), none⟩, ⟨some 14, .call 22 [(.t 12), (.t 13)], none⟩, ⟨some 15, .ld true 9 (.t 2), none⟩, ⟨some 16, .ld true 4 (.t 3), none⟩, ⟨some 17, .call 15 [(.t 15), (.t 16)], none⟩, ⟨some 18, .eqb true (.t 14) (.t 17), none⟩, ⟨some 19, .mv (.t 18), none⟩, ⟨some 20, .ld true 9 (.t 5), some (19, false)⟩, ⟨some 21, .ld true 4 (.t 3), some (19, false)⟩, ⟨some 22, .call 15 [(.t 20), (.t 21)], some (19, false)⟩, ⟨some 23, .ld true 9 (.t 2), some (19, false)⟩, ⟨some 24, .ld true 4 (.t 3), some (19, false)⟩, ⟨some 25, .call 15 [(.t 23), (.t 24)], some (19, false)⟩, ⟨some 26, .eqb true (.t 22) (.t 25), some (19, false)⟩, ⟨some 27, .pick (.t 19) (.c (.b true)) (.t 26), none⟩, ⟨some 28, .mv (.t 27), none⟩, ⟨some 29, .ld true 9 (.t 2), some (28, false)⟩, ⟨some 30, .ld true 4 (.t 3), some (28, false)⟩, ⟨some 31, .call 15 [(.t 29), (.t 30)], some (28, false)⟩, ⟨some 32, .mv (.t 31), some (28, false)⟩, ⟨some 33, .ld true 9 (.t 2), some (32, true)⟩, ⟨some 34, .call 23 [(.t 33)], some (32, true)⟩, ⟨some 35, .pick (.t 32) (.t 34) (.c (.b false)), some (28, false)⟩, ⟨some 36, .pick (.t 28) (.c (.b true)) (.t 35), none⟩])) (.cond (.t 36) (.seq (.reg [] [⟨some 4, .mv (.c (.b false)), none⟩]) .ret) .skip)) (.seq (.seq (.join [(3, 0), (78, 0)] (.reg [] [⟨some 37, .fld 0 (.t 5), none⟩, ⟨some 38, .ld false 1 (.t 37), none⟩, ⟨some 39, .mv (.t 38), none⟩, ⟨some 40, .fld 2 (.t 5), some (39, true)⟩, ⟨some 41, .ld true 3 (.t 40), some (39, true)⟩, ⟨some 42, .call 24 [(.t 41)], some (39, true)⟩, ⟨some 43, .not (.t 42), some (39, true)⟩, ⟨some 44, .pick (.t 39) (.t 43) (.c (.b false)), none⟩, ⟨some 45, .mv (.t 44), none⟩, ⟨some 46, .fld 0 (.t 5), some (45, false)⟩, ⟨some 47, .ld false 1 (.t 46), some (45, false)⟩, ⟨some 48, .not (.t 47), some (45, false)⟩, ⟨some 49, .mv (.t 48), some (45, false)⟩, ⟨some 50, .fld 2 (.t 5), some (49, true)⟩, ⟨some 51, .fld 2 (.t 50), some (49, true)⟩, ⟨some 52, .ld false 1 (.t 51), some (49, true)⟩, ⟨some 53, .len (.t 52), some (49, true)⟩, ⟨some 54, .bin .neq (.t 53) (.c (.i .i64 0)), some (49, true)⟩, ⟨some 55, .pick (.t 49) (.t 54) (.c (.b false)), some (45, false)⟩, ⟨some 56, .pick (.t 45) (.c (.b true)) (.t 55), none⟩, ⟨some 57, .mv (.t 56), none⟩, ⟨some 58, .fld 1 (.t 5), some (57, false)⟩, ⟨some 59, .ld false 1 (.t 58), some (57, false)⟩, ⟨some 60, .mv (.t 59), some (57, false)⟩, ⟨some 61, .fld 5 (.t 5), some (60, true)⟩, ⟨some 62, .ld true 3 (.t 61), some (60, true)⟩, ⟨some 63, .call 24 [(.t 62)], some (60, true)⟩, ⟨some 64, .not (.t 63), some (60, true)⟩, ⟨some 65, .pick (.t 60) (.t 64) (.c (.b false)), some (57, false)⟩, ⟨some 66, .pick (.t 57) (.c (.b true)) (.t 65), none⟩, ⟨some 67, .mv (.t 66), none⟩, ⟨some 68, .fld 1 (.t 5), some (67, false)⟩, ⟨some 69, .ld false 1 (.t 68), some (67, false)⟩, ⟨some 70, .not (.t 69), some (67, false)⟩, ⟨some 71, .mv (.t 70), some (67, false)⟩, ⟨some 72, .fld 5 (.t 5), some (71, true)⟩, ⟨some 73, .fld 2 (.t 72), some (71, true)⟩, ⟨some 74, .ld false 1 (.t 73), some (71, true)⟩, ⟨some 75, .len (.t 74), some (71, true)⟩, ⟨some 76, .bin .neq (.t 75) (.c (.i .i64 0)), some (71, true)⟩, ⟨some 77, .pick (.t 71) (.t 76) (.c (.b false)), some (67, false)⟩, ⟨some 78, .pick (.t 67) (.c (.b true)) (.t 77), none⟩])) (.cond (.t 78) (.seq (.reg [] [⟨some 4, .mv (.c (.b false)), none⟩]) .ret) .skip)) (.seq (.join [(4, 0)] (.reg [] [⟨some 79, .call 25 [], none⟩, ⟨some 80, .ld true 4 (.t 3), none⟩, ⟨some 81, .call 15 [(.t 79), (.t 80)], none⟩, ⟨some 82, .mv (.t 81), none⟩, ⟨some 83, .call 26 [], some (82, true)⟩, ⟨some 84, .ld true 4 (.t 3), some (82, true)⟩, ⟨some 85, .call 15 [(.t 83), (.t 84)], some (82, true)⟩, ⟨some 86, .fld 0 (.t 3), some (82, true)⟩, ⟨some 87, .ld false 1 (.t 86), some (82, true)⟩, ⟨some 88, .not (.t 87), some (82, true)⟩, ⟨some 89, .eqb false (.t 85) (.t 88), some (82, true)⟩, ⟨some 90, .pick (.t 82) (.t 89) (.c (.b false)), none⟩, ⟨some 91, .mv (.t 90), none⟩, ⟨some 92, .call 17 [], some (91, true)⟩, ⟨some 93, .pick (.t 91) (.t 92) (.c (.b false)), none⟩, ⟨some 4, .mv (.t 93), none⟩])) .ret)))))))
def p3 : PF := ⟨[(.tmp 4, 0)], [], c3⟩
def c4 : PC := (.seq (.reg [] [⟨some 3, .box 3 9 (.t 0), none⟩, ⟨some 4, .box 4 9 (.t 1), none⟩, ⟨some 5, .box 5 4 (.t 2), none⟩, ⟨some 6, .mv (.c (.b false)), none⟩]) (.seq (.reg [] [⟨some 8, .ld true 9 (.t 3), none⟩, ⟨some 9, .call 18 [(.t 8)], none⟩, ⟨none, .st 9 (.t 3) (.t 9), none⟩]) (.seq (.reg [] [⟨some 10, .ld true 9 (.t 4), none⟩, ⟨some 11, .call 18 [(.t 10)], none⟩, ⟨none, .st 9 (.t 4) (.t 11), none⟩]) (.seq (.reg [] [⟨some 12, .ld true 4 (.t 5), none⟩, ⟨some 13, .call 13 [(.t 12)], none⟩, ⟨none, .st 4 (.t 5) (.t 13), none⟩]) (.seq (.reg [] [⟨some 14, .ld true 9 (.t 3), none⟩, ⟨some 15, .ld true 9 (.t 4), none⟩, ⟨some 16, .call 27 [(.t 14), (.t 15)], none⟩, ⟨some 7, .alloc 7 [.b false, .b false, .b false, .ns 1, .ns 1, .b false, .ns 1, .ns 1, .b false], none⟩, ⟨none, .st 9 (.t 7) (.t 16), none⟩]) (.seq (.seq (.join [(3, 0), (4, 0), (5, 0), (7, 0), (28, 0)] (.reg [] [⟨some 17, .ld true 9 (.t 7), none⟩, ⟨some 18, .ld true 4 (.t 5), none⟩, ⟨some 19, .call 15 [(.t 17), (.t 18)], none⟩, ⟨some 20, .ld true 9 (.t 3), none⟩, ⟨some 21, .ld true 4 (.t 5), none⟩, ⟨some 22, .call 15 [(.t 20), (.t 21)], none⟩, ⟨some 23, .mv (.t 22), none⟩, ⟨some 24, .ld true 9 (.t 4), some (23, true)⟩, ⟨some 25, .ld true 4 (.t 5), some (23, true)⟩, ⟨some 26, .call 15 [(.t 24), (.t 25)], some (23, true)⟩, ⟨some 27, .pick (.t 23) (.t 26) (.c (.b false)), none⟩, ⟨some 28, .eqb true (.t 19) (.t 27), none⟩])) (.cond (.t 28) (.seq (.reg [] [⟨some 6, .mv (.c (.b false)), none⟩]) .ret) .skip)) (.seq (.join [(6, 0)] (.reg [] [⟨some 29, .ld true 9 (.t 3), none⟩, ⟨some 30, .ld true 9 (.t 4), none⟩, ⟨some 31, .call 28 [(.t 29), (.t 30)], none⟩, ⟨some 32, .not (.t 31), none⟩, ⟨some 33, .mv (.t 32), none⟩, ⟨some 34, .ld true 9 (.t 3), some (33, false)⟩, ⟨some 35, .ld true 4 (.t 5), some (33, false)⟩, ⟨some 36, .call 15 [(.t 34), (.t 35)], some (33, false)⟩, ⟨some 37, .not (.t 36), some (33, false)⟩, ⟨some 38, .pick (.t 33) (.c (.b true)) (.t 37), none⟩, ⟨some 39, .mv (.t 38), none⟩, ⟨some 40, .ld true 9 (.t 4), some (39, false)⟩, ⟨some 41, .ld true 4 (.t 5), some (39, false)⟩, ⟨some 42, .call 15 [(.t 40), (.t 41)], some (39, false)⟩, ⟨some 43, .pick (.t 39) (.c (.b true)) (.t 42), none⟩, ⟨some 44, .mv (.t 43), none⟩, ⟨some 45, .ld true 9 (.t 7), some (44, true)⟩, ⟨some 46, .ld true 9 (.t 3), some (44, true)⟩, ⟨some 47, .call 28 [(.t 45), (.t 46)], some (44, true)⟩, ⟨some 48, .pick (.t 44) (.t 47) (.c (.b false)), none⟩, ⟨some 49, .mv (.t 48), none⟩, ⟨some 50, .ld true 9 (.t 7), some (49, true)⟩, ⟨some 51, .ld true 9 (.t 4), some (49, true)⟩, ⟨some 52, .call 28 [(.t 50), (.t 51)], some (49, true)⟩, ⟨some 53, .pick (.t 49) (.t 52) (.c (.b false)), none⟩, ⟨some 54, .mv (.t 53), none⟩, ⟨some 55, .call 17 [], some (54, true)⟩, ⟨some 56, .pick (.t 54) (.t 55) (.c (.b false)), none⟩, ⟨some 6, .mv (.t 56), none⟩])) .ret)))))))
def p4 : PF := ⟨[(.tmp 6, 0)], [], c4⟩
def b5_0 : PC := (.seq (.seq (.join [(0, 0), (1, 0), (3, 0), (6, 0), (9, 0), (10, 0), (11, 0), (35, 0)] (.reg [] [⟨some 29, .mv (.t 11), none⟩, ⟨some 30, .mv (.t 0), none⟩, ⟨some 31, .len (.t 30), none⟩, ⟨some 32, .bin .lss (.t 29) (.t 31), none⟩, ⟨some 33, .mv (.t 32), none⟩, ⟨some 34, .mv (.t 10), some (33, true)⟩, ⟨some 35, .pick (.t 33) (.t 34) (.c (.b false)), none⟩])) (.cond (.t 35) .skip (.exit 0))) (.seq (.block 1 (.seq (.reg [(12, 44)] [⟨some 38, .mv (.t 0), none⟩, ⟨some 39, .mv (.t 11), none⟩, ⟨some 40, .idx 4 (.t 38) (.t 39), none⟩, ⟨some 41, .ld true 4 (.t 40), none⟩, ⟨some 42, .mv (.t 1), none⟩, ⟨some 43, .mv (.t 11), none⟩, ⟨some 44, .idx 4 (.t 42) (.t 43), none⟩, ⟨some 45, .ld true 4 (.t 44), none⟩, ⟨some 12, .alloc 12 [.b false, .b false, .ns 1, .ns 1], none⟩, ⟨some 13, .alloc 13 [.b false, .b false, .ns 1, .ns 1], none⟩, ⟨none, .st 4 (.t 12) (.t 41), none⟩, ⟨none, .st 4 (.t 13) (.t 45), none⟩]) (.seq (.join [(0, 0), (1, 0), (3, 0), (6, 0), (9, 0), (11, 0), (12, 0), (13, 0), (51, 0)] (.reg [] [⟨some 46, .fld 0 (.t 12), none⟩, ⟨some 47, .ld false 1 (.t 46), none⟩, ⟨some 48, .mv (.t 47), none⟩, ⟨some 49, .fld 0 (.t 13), some (48, false)⟩, ⟨some 50, .ld false 1 (.t 49), some (48, false)⟩, ⟨some 51, .pick (.t 48) (.c (.b true)) (.t 50), none⟩])) (.join [(0, 0), (1, 0), (3, 0), (6, 0), (9, 0), (10, 0), (11, 0)] (.cond (.t 51) (.join [(0, 0), (1, 0), (3, 0), (6, 0), (9, 0), (10, 0), (11, 0)] (.reg [] [⟨some 52, .fld 0 (.t 12), none⟩, ⟨some 53, .ld false 1 (.t 52), none⟩, ⟨some 54, .mv (.t 53), none⟩, ⟨some 55, .fld 0 (.t 13), some (54, true)⟩, ⟨some 56, .ld false 1 (.t 55), some (54, true)⟩, ⟨some 57, .pick (.t 54) (.t 56) (.c (.b false)), none⟩, ⟨some 10, .mv (.t 57), none⟩])) (.join [(0, 0), (1, 0), (3, 0), (6, 0), (9, 0), (10, 0), (11, 0)] (.reg [] [⟨some 58, .fld 1 (.t 13), none⟩, ⟨some 59, .ld true 3 (.t 58), none⟩, ⟨some 60, .fld 1 (.t 12), none⟩, ⟨some 61, .ld true 3 (.t 60), none⟩, ⟨some 62, .call 14 [(.t 59), (.t 61)], none⟩, ⟨some 63, .bin .geq (.t 62) (.c (.i .i64 0)), none⟩, ⟨some 64, .mv (.t 63), none⟩, ⟨some 65, .fld 1 (.t 13), some (64, true)⟩, ⟨some 66, .ld true 3 (.t 65), some (64, true)⟩, ⟨some 67, .fld 1 (.t 12), some (64, true)⟩, ⟨some 68, .ld true 3 (.t 67), some (64, true)⟩, ⟨some 69, .ld true 3 (.t 6), some (64, true)⟩, ⟨some 70, .call 31 [(.t 68), (.t 69)], some (64, true)⟩, ⟨some 71, .call 14 [(.t 66), (.t 70)], some (64, true)⟩, ⟨some 72, .bin .lss (.t 71) (.c (.i .i64 0)), some (64, true)⟩, ⟨some 73, .pick (.t 64) (.t 72) (.c (.b false)), none⟩, ⟨some 10, .mv (.t 73), none⟩]))))))) (.reg [] [⟨some 36, .mv (.t 11), none⟩, ⟨some 37, .bin .add (.t 36) (.c (.i .i64 1)), none⟩, ⟨some 11, .mv (.t 37), none⟩])))
def c5 : PC := (.seq (.reg [] [⟨some 6, .box 6 3 (.t 2), none⟩, ⟨some 8, .mv (.c (.b false)), none⟩]) (.seq (.reg [] [⟨some 15, .mv (.t 0), none⟩, ⟨some 16, .call 29 [(.t 15), (.c (.i .i64 5))], none⟩, ⟨some 0, .mv (.t 16), none⟩]) (.seq (.reg [] [⟨some 17, .mv (.t 1), none⟩, ⟨some 18, .call 29 [(.t 17), (.c (.i .i64 5))], none⟩, ⟨some 1, .mv (.t 18), none⟩]) (.seq (.reg [] [⟨some 19, .ld true 3 (.t 6), none⟩, ⟨some 20, .call 12 [(.t 19)], none⟩, ⟨none, .st 3 (.t 6) (.t 20), none⟩]) (.seq (.reg [] [⟨some 21, .mv (.t 0), none⟩, ⟨some 22, .ld true 3 (.t 6), none⟩, ⟨some 23, .call 30 [(.t 21), (.t 22)], none⟩, ⟨some 9, .mv (.t 23), none⟩]) (.seq (.reg [] [⟨some 24, .mv (.t 1), none⟩, ⟨some 25, .len (.t 24), none⟩, ⟨some 26, .mv (.t 0), none⟩, ⟨some 27, .len (.t 26), none⟩, ⟨some 28, .bin .eql (.t 25) (.t 27), none⟩, ⟨some 10, .mv (.t 28), none⟩]) (.seq (.seq (.reg [] [⟨some 11, .mv (.c (.i .i64 0)), none⟩]) (.block 0 (.loop [(0, 0), (1, 0), (3, 0), (6, 0), (9, 0), (10, 0), (11, 0)] [(0, 0), (1, 0), (3, 0), (9, 0), (10, 0)] b5_0))) (.seq (.seq (.join [(1, 0), (3, 0), (85, 0)] (.reg [] [⟨some 74, .mv (.t 9), none⟩, ⟨some 75, .len (.t 74), none⟩, ⟨some 76, .mv (.t 0), none⟩, ⟨some 77, .len (.t 76), none⟩, ⟨some 78, .bin .neq (.t 75) (.t 77), none⟩, ⟨some 79, .mv (.t 78), none⟩, ⟨some 80, .mv (.t 9), some (79, false)⟩, ⟨some 81, .mv (.t 1), some (79, false)⟩, ⟨some 82, .call 32 [(.t 80), (.t 81)], some (79, false)⟩, ⟨some 83, .mv (.t 10), some (79, false)⟩, ⟨some 84, .eqb true (.t 82) (.t 83), some (79, false)⟩, ⟨some 85, .pick (.t 79) (.c (.b true)) (.t 84), none⟩])) (.cond (.t 85) (.seq (.reg [] [⟨some 8, .mv (.c (.b false)), none⟩]) .ret) .skip)) (.seq (.seq (.reg [] [⟨some 86, .mv (.t 3), none⟩, ⟨some 87, .bin .gtr (.t 86) (.c (.i .i64 5)), none⟩]) (.cond (.t 87) (.seq (.reg [] [⟨some 88, .call 17 [], none⟩, ⟨some 8, .mv (.t 88), none⟩]) .ret) .skip)) (.seq (.reg [] [⟨some 89, .mv (.t 3), none⟩, ⟨some 90, .call 33 [(.t 89)], none⟩, ⟨some 14, .mv (.t 90), none⟩]) (.seq (.seq (.reg [] [⟨some 91, .mv (.t 3), none⟩, ⟨some 92, .bin .lss (.t 91) (.c (.i .i64 0)), none⟩]) (.cond (.t 92) (.seq (.join [(8, 0)] (.reg [] [⟨some 93, .mv (.t 14), none⟩, ⟨some 94, .len (.t 93), none⟩, ⟨some 95, .bin .eql (.t 94) (.c (.i .i64 0)), none⟩, ⟨some 96, .mv (.t 95), none⟩, ⟨some 97, .call 17 [], some (96, true)⟩, ⟨some 98, .pick (.t 96) (.t 97) (.c (.b false)), none⟩, ⟨some 8, .mv (.t 98), none⟩])) .ret) .skip)) (.seq (.join [(8, 0)] (.reg [] [⟨some 99, .mv (.t 14), none⟩, ⟨some 100, .len (.t 99), none⟩, ⟨some 101, .mv (.t 3), none⟩, ⟨some 102, .bin .eql (.t 100) (.t 101), none⟩, ⟨some 103, .mv (.t 102), none⟩, ⟨some 104, .mv (.t 14), some (103, true)⟩, ⟨some 105, .mv (.t 1), some (103, true)⟩, ⟨some 106, .call 32 [(.t 104), (.t 105)], some (103, true)⟩, ⟨some 107, .mv (.t 1), some (103, true)⟩, ⟨some 108, .len (.t 107), some (103, true)⟩, ⟨some 109, .mv (.t 3), some (103, true)⟩, ⟨some 110, .bin .eql (.t 108) (.t 109), some (103, true)⟩, ⟨some 111, .eqb false (.t 106) (.t 110), some (103, true)⟩, ⟨some 112, .pick (.t 103) (.t 111) (.c (.b false)), none⟩, ⟨some 113, .mv (.t 112), none⟩, ⟨some 114, .call 17 [], some (113, true)⟩, ⟨some 115, .pick (.t 113) (.t 114) (.c (.b false)), none⟩, ⟨some 8, .mv (.t 115), none⟩])) .ret))))))))))))
def p5 : PF := ⟨[(.tmp 8, 0)], [], c5⟩
def c6 : PC := (.seq (.reg [] [⟨some 9, .box 9 9 (.t 4), none⟩, ⟨some 10, .mv (.c (.b false)), none⟩]) (.seq (.reg [] [⟨some 16, .mv (.t 0), none⟩, ⟨some 17, .call 34 [(.t 16)], none⟩, ⟨some 0, .mv (.t 17), none⟩]) (.seq (.reg [] [⟨some 18, .mv (.t 1), none⟩, ⟨some 19, .call 34 [(.t 18)], none⟩, ⟨some 1, .mv (.t 19), none⟩]) (.seq (.reg [] [⟨some 20, .ld true 9 (.t 9), none⟩, ⟨some 21, .call 18 [(.t 20)], none⟩, ⟨none, .st 9 (.t 9) (.t 21), none⟩]) (.seq (.reg [] [⟨some 22, .mv (.t 2), none⟩, ⟨some 23, .call 29 [(.t 22), (.c (.i .i64 6))], none⟩, ⟨some 2, .mv (.t 23), none⟩]) (.seq (.reg [] [⟨some 25, .mv (.t 0), none⟩, ⟨some 26, .mv (.t 1), none⟩, ⟨some 27, .call 35 [(.t 25), (.t 26)], none⟩, ⟨some 24, .mv (.t 27), none⟩, ⟨some 28, .ext 0 (.t 24), none⟩, ⟨some 29, .ext 1 (.t 24), none⟩, ⟨some 11, .mv (.t 28), none⟩, ⟨some 12, .mv (.t 29), none⟩]) (.seq (.reg [] [⟨some 31, .mv (.t 0), none⟩, ⟨some 32, .mv (.t 3), none⟩, ⟨some 33, .ld true 9 (.t 9), none⟩, ⟨some 34, .call 36 [(.t 31), (.t 32), (.t 33)], none⟩, ⟨some 30, .mv (.t 34), none⟩, ⟨some 35, .ext 0 (.t 30), none⟩, ⟨some 36, .ext 1 (.t 30), none⟩, ⟨some 13, .mv (.t 35), none⟩, ⟨some 14, .mv (.t 36), none⟩]) (.seq (.seq (.reg [] [⟨some 37, .mv (.t 0), none⟩, ⟨some 38, .len (.t 37), none⟩, ⟨some 39, .mv (.t 1), none⟩, ⟨some 40, .len (.t 39), none⟩, ⟨some 41, .bin .neq (.t 38) (.t 40), none⟩]) (.join [(0, 0), (2, 0), (3, 0), (9, 0), (10, 0), (13, 0), (14, 0)] (.cond (.t 41) (.seq (.join [(0, 0), (2, 0), (3, 0), (9, 0), (13, 0), (14, 0), (48, 0)] (.reg [] [⟨some 42, .mv (.t 11), none⟩, ⟨some 43, .len (.t 42), none⟩, ⟨some 44, .bin .neq (.t 43) (.c (.i .i64 0)), none⟩, ⟨some 45, .mv (.t 44), none⟩, ⟨some 46, .mv (.t 12), some (45, false)⟩, ⟨some 47, .bin .neq (.t 46) (.c (.i .i64 14)), some (45, false)⟩, ⟨some 48, .pick (.t 45) (.c (.b true)) (.t 47), none⟩])) (.cond (.t 48) (.seq (.reg [] [⟨some 10, .mv (.c (.b false)), none⟩]) .ret) .skip)) (.seq (.join [(0, 0), (2, 0), (3, 0), (9, 0), (13, 0), (14, 0), (71, 0)] (.reg [] [⟨some 49, .mv (.t 12), none⟩, ⟨some 50, .bin .neq (.t 49) (.c (.i .i64 0)), none⟩, ⟨some 51, .mv (.t 50), none⟩, ⟨some 52, .mv (.t 11), some (51, false)⟩, ⟨some 53, .len (.t 52), some (51, false)⟩, ⟨some 54, .mv (.t 0), some (51, false)⟩, ⟨some 55, .len (.t 54), some (51, false)⟩, ⟨some 56, .bin .neq (.t 53) (.t 55), some (51, false)⟩, ⟨some 57, .pick (.t 51) (.c (.b true)) (.t 56), none⟩, ⟨some 58, .mv (.t 57), none⟩, ⟨some 59, .mv (.t 11), some (58, false)⟩, ⟨some 60, .mv (.t 2), some (58, false)⟩, ⟨some 61, .call 32 [(.t 59), (.t 60)], some (58, false)⟩, ⟨some 62, .mv (.t 0), some (58, false)⟩, ⟨some 63, .mv (.t 2), some (58, false)⟩, ⟨some 64, .call 32 [(.t 62), (.t 63)], some (58, false)⟩, ⟨some 65, .mv (.t 64), some (58, false)⟩, ⟨some 66, .mv (.t 1), some (65, true)⟩, ⟨some 67, .mv (.t 2), some (65, true)⟩, ⟨some 68, .call 32 [(.t 66), (.t 67)], some (65, true)⟩, ⟨some 69, .pick (.t 65) (.t 68) (.c (.b false)), some (58, false)⟩, ⟨some 70, .eqb true (.t 61) (.t 69), some (58, false)⟩, ⟨some 71, .pick (.t 58) (.c (.b true)) (.t 70), none⟩])) (.cond (.t 71) (.seq (.reg [] [⟨some 10, .mv (.c (.b false)), none⟩]) .ret) .skip))))) (.seq (.seq (.join [(0, 0), (2, 0), (3, 0), (9, 0), (13, 0), (14, 0), (79, 0)] (.reg [] [⟨some 72, .mv (.t 3), none⟩, ⟨some 73, .bin .lss (.t 72) (.c (.i .i64 0)), none⟩, ⟨some 74, .mv (.t 73), none⟩, ⟨some 75, .mv (.t 3), some (74, false)⟩, ⟨some 76, .mv (.t 0), some (74, false)⟩, ⟨some 77, .len (.t 76), some (74, false)⟩, ⟨some 78, .bin .geq (.t 75) (.t 77), some (74, false)⟩, ⟨some 79, .pick (.t 74) (.c (.b true)) (.t 78), none⟩])) (.cond (.t 79) (.seq (.join [(10, 0)] (.reg [] [⟨some 80, .mv (.t 13), none⟩, ⟨some 81, .len (.t 80), none⟩, ⟨some 82, .bin .eql (.t 81) (.c (.i .i64 0)), none⟩, ⟨some 83, .mv (.t 82), none⟩, ⟨some 84, .mv (.t 14), some (83, true)⟩, ⟨some 85, .bin .eql (.t 84) (.c (.i .i64 8)), some (83, true)⟩, ⟨some 86, .pick (.t 83) (.t 85) (.c (.b false)), none⟩, ⟨some 87, .mv (.t 86), none⟩, ⟨some 88, .call 17 [], some (87, true)⟩, ⟨some 89, .pick (.t 87) (.t 88) (.c (.b false)), none⟩, ⟨some 10, .mv (.t 89), none⟩])) .ret) .skip)) (.seq (.reg [] [⟨some 90, .bsl 90 9 [.b false, .b false, .b false, .ns 1, .ns 1, .b false, .ns 1, .ns 1, .b false] 0 [], none⟩, ⟨some 91, .mv (.t 0), none⟩, ⟨some 92, .app 92 9 128 (.t 90) (.t 91), none⟩, ⟨some 15, .mv (.t 92), none⟩]) (.seq (.reg [] [⟨some 93, .mv (.t 15), none⟩, ⟨some 94, .mv (.t 3), none⟩, ⟨some 95, .ld true 9 (.t 9), none⟩, ⟨some 96, .idx 9 (.t 93) (.t 94), none⟩, ⟨none, .st 9 (.t 96) (.t 95), none⟩]) (.seq (.join [(10, 0)] (.reg [] [⟨some 97, .mv (.t 14), none⟩, ⟨some 98, .bin .eql (.t 97) (.c (.i .i64 0)), none⟩, ⟨some 99, .mv (.t 98), none⟩, ⟨some 100, .mv (.t 13), some (99, true)⟩, ⟨some 101, .len (.t 100), some (99, true)⟩, ⟨some 102, .mv (.t 0), some (99, true)⟩, ⟨some 103, .len (.t 102), some (99, true)⟩, ⟨some 104, .bin .eql (.t 101) (.t 103), some (99, true)⟩, ⟨some 105, .pick (.t 99) (.t 104) (.c (.b false)), none⟩, ⟨some 106, .mv (.t 105), none⟩, ⟨some 107, .mv (.t 13), some (106, true)⟩, ⟨some 108, .mv (.t 2), some (106, true)⟩, ⟨some 109, .call 32 [(.t 107), (.t 108)], some (106, true)⟩, ⟨some 110, .mv (.t 15), some (106, true)⟩, ⟨some 111, .mv (.t 2), some (106, true)⟩, ⟨some 112, .call 32 [(.t 110), (.t 111)], some (106, true)⟩, ⟨some 113, .eqb false (.t 109) (.t 112), some (106, true)⟩, ⟨some 114, .pick (.t 106) (.t 113) (.c (.b false)), none⟩, ⟨some 115, .mv (.t 114), none⟩, ⟨some 116, .call 17 [], some (115, true)⟩, ⟨some 117, .pick (.t 115) (.t 116) (.c (.b false)), none⟩, ⟨some 10, .mv (.t 117), none⟩])) .ret))))))))))))
def c14 : PC := (.seq (.reg [] [⟨some 2, .box 2 3 (.t 0), none⟩, ⟨some 3, .box 3 3 (.t 1), none⟩, ⟨some 4, .mv (.c (.i .i64 0)), none⟩]) (.seq (.reg [] [⟨some 5, .ld true 3 (.t 2), none⟩, ⟨some 6, .call 63 [(.t 5)], none⟩, ⟨some 7, .ld true 3 (.t 3), none⟩, ⟨some 8, .call 63 [(.t 7)], none⟩, ⟨none, .st 3 (.t 2) (.t 6), none⟩, ⟨none, .st 3 (.t 3) (.t 8), none⟩]) (.seq (.reg [] [⟨some 9, .fld 0 (.t 2), none⟩, ⟨some 10, .ld true 2 (.t 9), none⟩, ⟨some 11, .ld true 3 (.t 3), none⟩, ⟨some 12, .call 66 [(.t 11)], none⟩, ⟨some 13, .call 65 [(.t 10), (.t 12)], none⟩, ⟨some 14, .fld 0 (.t 3), none⟩, ⟨some 15, .ld true 2 (.t 14), none⟩, ⟨some 16, .ld true 3 (.t 2), none⟩, ⟨some 17, .call 66 [(.t 16)], none⟩, ⟨some 18, .call 65 [(.t 15), (.t 17)], none⟩, ⟨some 19, .call 64 [(.t 13), (.t 18)], none⟩, ⟨some 4, .mv (.t 19), none⟩]) .ret)))
def p14 : PF := ⟨[(.tmp 4, 0)], [], c14⟩
def c24 : PC := (.seq (.reg [] [⟨some 1, .box 1 3 (.t 0), none⟩, ⟨some 2, .mv (.c (.b false)), none⟩]) (.seq (.seq (.join [(1, 0), (19, 0)] (.reg [] [⟨some 4, .fld 0 (.t 1), none⟩, ⟨some 5, .ld true 2 (.t 4), none⟩, ⟨some 6, .call 46 [(.t 5)], none⟩, ⟨some 7, .not (.t 6), none⟩, ⟨some 8, .mv (.t 7), none⟩, ⟨some 9, .fld 2 (.t 1), some (8, false)⟩, ⟨some 10, .ld false 1 (.t 9), some (8, false)⟩, ⟨some 11, .call 70 [(.t 10)], some (8, false)⟩, ⟨some 12, .not (.t 11), some (8, false)⟩, ⟨some 13, .pick (.t 8) (.c (.b true)) (.t 12), none⟩, ⟨some 14, .mv (.t 13), none⟩, ⟨some 15, .fld 2 (.t 1), some (14, false)⟩, ⟨some 16, .ld false 1 (.t 15), some (14, false)⟩, ⟨some 17, .len (.t 16), some (14, false)⟩, ⟨some 18, .bin .eql (.t 17) (.c (.i .i64 0)), some (14, false)⟩, ⟨some 19, .pick (.t 14) (.c (.b true)) (.t 18), none⟩])) (.cond (.t 19) (.seq (.reg [] [⟨some 2, .mv (.c (.b false)), none⟩]) .ret) .skip)) (.seq (.reg [] [⟨some 20, .fld 0 (.t 1), none⟩, ⟨some 21, .fld 1 (.t 20), none⟩, ⟨some 22, .ld false 1 (.t 21), none⟩, ⟨some 23, .fld 2 (.t 1), none⟩, ⟨some 24, .ld false 1 (.t 23), none⟩, ⟨some 25, .call 71 [(.t 22), (.t 24)], none⟩, ⟨some 3, .mv (.t 25), none⟩]) (.seq (.reg [] [⟨some 26, .mv (.t 3), none⟩, ⟨some 27, .call 73 [(.c (.i .u64 1))], none⟩, ⟨some 28, .call 72 [(.t 26), (.t 27)], none⟩, ⟨some 29, .bin .eql (.t 28) (.c (.i .i64 0)), none⟩, ⟨some 2, .mv (.t 29), none⟩]) .ret))))
def p24 : PF := ⟨[(.tmp 2, 0)], [], c24⟩
def c31 : PC := (.seq (.reg [] [⟨some 2, .box 2 3 (.t 0), none⟩, ⟨some 3, .box 3 3 (.t 1), none⟩, ⟨some 4, .alloc 4 [.b false, .ns 1, .ns 1], none⟩]) (.seq (.reg [] [⟨some 5, .ld true 3 (.t 2), none⟩, ⟨some 6, .call 63 [(.t 5)], none⟩, ⟨some 7, .ld true 3 (.t 3), none⟩, ⟨some 8, .call 63 [(.t 7)], none⟩, ⟨none, .st 3 (.t 2) (.t 6), none⟩, ⟨none, .st 3 (.t 3) (.t 8), none⟩]) (.seq (.reg [] [⟨some 9, .fld 0 (.t 2), none⟩, ⟨some 10, .ld true 2 (.t 9), none⟩, ⟨some 11, .ld true 3 (.t 3), none⟩, ⟨some 12, .call 66 [(.t 11)], none⟩, ⟨some 13, .call 65 [(.t 10), (.t 12)], none⟩, ⟨some 14, .fld 0 (.t 3), none⟩, ⟨some 15, .ld true 2 (.t 14), none⟩, ⟨some 16, .ld true 3 (.t 2), none⟩, ⟨some 17, .call 66 [(.t 16)], none⟩, ⟨some 18, .call 65 [(.t 15), (.t 17)], none⟩, ⟨some 19, .call 76 [(.t 13), (.t 18)], none⟩, ⟨some 20, .fld 2 (.t 2), none⟩, ⟨some 21, .ld false 1 (.t 20), none⟩, ⟨some 22, .fld 2 (.t 3), none⟩, ⟨some 23, .ld false 1 (.t 22), none⟩, ⟨some 24, .call 77 [(.t 21), (.t 23)], none⟩, ⟨some 25, .call 75 [(.t 19), (.t 24)], none⟩, ⟨none, .st 3 (.t 4) (.t 25), none⟩]) .ret)))
def p31 : PF := ⟨[(.cell 4 true 3, 0)], [], c31⟩
def c46 : PC := (.seq (.reg [] [⟨some 1, .box 1 2 (.t 0), none⟩, ⟨some 2, .mv (.c (.b false)), none⟩]) (.seq (.join [(2, 0)] (.reg [] [⟨some 3, .fld 1 (.t 1), none⟩, ⟨some 4, .ld false 1 (.t 3), none⟩, ⟨some 5, .call 70 [(.t 4)], none⟩, ⟨some 6, .mv (.t 5), none⟩, ⟨some 7, .fld 1 (.t 1), some (6, true)⟩, ⟨some 8, .ld false 1 (.t 7), some (6, true)⟩, ⟨some 9, .len (.t 8), some (6, true)⟩, ⟨some 10, .bin .gtr (.t 9) (.c (.i .i64 0)), some (6, true)⟩, ⟨some 11, .mv (.t 10), some (6, true)⟩, ⟨some 12, .fld 0 (.t 1), some (11, false)⟩, ⟨some 13, .ld false 1 (.t 12), some (11, false)⟩, ⟨some 14, .not (.t 13), some (11, false)⟩, ⟨some 15, .pick (.t 11) (.c (.b true)) (.t 14), some (6, true)⟩, ⟨some 16, .pick (.t 6) (.t 15) (.c (.b false)), none⟩, ⟨some 2, .mv (.t 16), none⟩])) .ret))
def p46 : PF := ⟨[(.tmp 2, 0)], [], c46⟩
def c54 : PC := (.seq (.reg [] [⟨some 0, .alloc 0 [.b false, .ns 1, .ns 1], none⟩]) (.seq (.reg [] [⟨some 1, .call 73 [(.c (.i .u64 1))], none⟩, ⟨some 2, .build [.b false, .ns 1, .ns 1] [(2, 1, (.t 1))], none⟩, ⟨none, .st 3 (.t 0) (.t 2), none⟩]) .ret))
def p54 : PF := ⟨[(.cell 0 true 3, 0)], [], c54⟩
def c55 : PC := (.seq (.reg [] [⟨some 2, .box 2 3 (.t 0), none⟩, ⟨some 3, .box 3 3 (.t 1), none⟩, ⟨some 4, .alloc 4 [.b false, .ns 1, .ns 1], none⟩]) (.seq (.reg [] [⟨some 5, .ld true 3 (.t 2), none⟩, ⟨some 6, .ld true 3 (.t 3), none⟩, ⟨some 7, .call 96 [(.t 6)], none⟩, ⟨some 8, .call 31 [(.t 5), (.t 7)], none⟩, ⟨none, .st 3 (.t 4) (.t 8), none⟩]) .ret))
def p55 : PF := ⟨[(.cell 4 true 3, 0)], [], c55⟩
def c56 : PC := (.seq (.reg [] [⟨some 0, .alloc 0 [.b false, .ns 1, .ns 1], none⟩]) (.seq (.reg [] [⟨some 1, .call 68 [(.c (.i .i64 1))], none⟩, ⟨none, .st 3 (.t 0) (.t 1), none⟩]) .ret))
def p56 : PF := ⟨[(.cell 0 true 3, 0)], [], c56⟩
def c57 : PC := (.seq (.reg [] [⟨some 2, .box 2 3 (.t 0), none⟩, ⟨some 3, .box 3 3 (.t 1), none⟩, ⟨some 4, .mv (.c (.b false)), none⟩]) (.seq (.reg [] [⟨some 5, .ld true 3 (.t 2), none⟩, ⟨some 6, .ld true 3 (.t 3), none⟩, ⟨some 7, .call 14 [(.t 5), (.t 6)], none⟩, ⟨some 8, .bin .eql (.t 7) (.c (.i .i64 0)), none⟩, ⟨some 4, .mv (.t 8), none⟩]) .ret))
def p57 : PF := ⟨[(.tmp 4, 0)], [], c57⟩
def c63 : PC := (.seq (.reg [] [⟨some 1, .box 1 3 (.t 0), none⟩, ⟨some 2, .alloc 2 [.b false, .ns 1, .ns 1], none⟩]) (.seq (.reg [] [⟨some 4, .fld 2 (.t 1), none⟩, ⟨some 5, .ld false 1 (.t 4), none⟩, ⟨some 6, .call 106 [(.t 5)], none⟩, ⟨some 3, .mv (.t 6), none⟩]) (.seq (.seq (.reg [] [⟨some 7, .mv (.t 3), none⟩, ⟨some 8, .len (.t 7), none⟩, ⟨some 9, .bin .eql (.t 8) (.c (.i .i64 0)), none⟩]) (.cond (.t 9) (.seq (.reg [] [⟨some 10, .call 54 [], none⟩, ⟨none, .st 3 (.t 2) (.t 10), none⟩]) .ret) .skip)) (.seq (.reg [] [⟨some 11, .fld 0 (.t 1), none⟩, ⟨some 12, .ld true 2 (.t 11), none⟩, ⟨some 13, .call 81 [(.t 12)], none⟩, ⟨some 14, .mv (.t 3), none⟩, ⟨some 15, .call 75 [(.t 13), (.t 14)], none⟩, ⟨none, .st 3 (.t 2) (.t 15), none⟩]) .ret))))
def p63 : PF := ⟨[(.cell 2 true 3, 0)], [], c63⟩
def c64 : PC := (.seq (.reg [] [⟨some 2, .box 2 2 (.t 0), none⟩, ⟨some 3, .box 3 2 (.t 1), none⟩, ⟨some 4, .mv (.c (.i .i64 0)), none⟩]) (.seq (.reg [] [⟨some 5, .ld true 2 (.t 2), none⟩, ⟨some 6, .call 81 [(.t 5)], none⟩, ⟨some 7, .ld true 2 (.t 3), none⟩, ⟨some 8, .call 81 [(.t 7)], none⟩, ⟨none, .st 2 (.t 2) (.t 6), none⟩, ⟨none, .st 2 (.t 3) (.t 8), none⟩]) (.seq (.block 0 (.seq (.join [(2, 0), (3, 0), (9, 0)] (.reg [] [⟨some 10, .fld 0 (.t 2), none⟩, ⟨some 11, .ld false 1 (.t 10), none⟩, ⟨some 12, .fld 0 (.t 3), none⟩, ⟨some 13, .ld false 1 (.t 12), none⟩, ⟨some 14, .eqb true (.t 11) (.t 13), none⟩, ⟨some 15, .mv (.t 14), none⟩, ⟨some 16, .fld 0 (.t 2), some (15, true)⟩, ⟨some 17, .ld false 1 (.t 16), some (15, true)⟩, ⟨some 18, .pick (.t 15) (.t 17) (.c (.b false)), none⟩, ⟨some 9, .mv (.t 18), none⟩])) (.cond (.t 9) (.seq (.reg [] [⟨some 4, .mv (.c (.i .i64 (-1))), none⟩]) .ret) (.seq (.reg [] [⟨some 20, .fld 0 (.t 2), none⟩, ⟨some 21, .ld false 1 (.t 20), none⟩, ⟨some 22, .fld 0 (.t 3), none⟩, ⟨some 23, .ld false 1 (.t 22), none⟩, ⟨some 24, .eqb true (.t 21) (.t 23), none⟩, ⟨some 19, .mv (.t 24), none⟩]) (.cond (.t 19) (.seq (.reg [] [⟨some 4, .mv (.c (.i .i64 1)), none⟩]) .ret) (.seq (.reg [] [⟨some 26, .fld 0 (.t 2), none⟩, ⟨some 27, .ld false 1 (.t 26), none⟩, ⟨some 25, .mv (.t 27), none⟩]) (.cond (.t 25) (.seq (.reg [] [⟨some 28, .fld 1 (.t 3), none⟩, ⟨some 29, .ld false 1 (.t 28), none⟩, ⟨some 30, .fld 1 (.t 2), none⟩, ⟨some 31, .ld false 1 (.t 30), none⟩, ⟨some 32, .call 72 [(.t 29), (.t 31)], none⟩, ⟨some 4, .mv (.t 32), none⟩]) .ret) .skip))))))) (.seq (.reg [] [⟨some 33, .fld 1 (.t 2), none⟩, ⟨some 34, .ld false 1 (.t 33), none⟩, ⟨some 35, .fld 1 (.t 3), none⟩, ⟨some 36, .ld false 1 (.t 35), none⟩, ⟨some 37, .call 72 [(.t 34), (.t 36)], none⟩, ⟨some 4, .mv (.t 37), none⟩]) .ret))))
def p64 : PF := ⟨[(.tmp 4, 0)], [], c64⟩
def c65 : PC := (.seq (.reg [] [⟨some 2, .box 2 2 (.t 0), none⟩, ⟨some 3, .box 3 2 (.t 1), none⟩, ⟨some 4, .alloc 4 [.b false, .ns 1], none⟩]) (.seq (.reg [] [⟨some 5, .ld true 2 (.t 2), none⟩, ⟨some 6, .call 81 [(.t 5)], none⟩, ⟨some 7, .ld true 2 (.t 3), none⟩, ⟨some 8, .call 81 [(.t 7)], none⟩, ⟨none, .st 2 (.t 2) (.t 6), none⟩, ⟨none, .st 2 (.t 3) (.t 8), none⟩]) (.seq (.reg [] [⟨some 9, .fld 0 (.t 2), none⟩, ⟨some 10, .ld false 1 (.t 9), none⟩, ⟨some 11, .fld 0 (.t 3), none⟩, ⟨some 12, .ld false 1 (.t 11), none⟩, ⟨some 13, .eqb true (.t 10) (.t 12), none⟩, ⟨some 14, .fld 1 (.t 2), none⟩, ⟨some 15, .ld false 1 (.t 14), none⟩, ⟨some 16, .fld 1 (.t 3), none⟩, ⟨some 17, .ld false 1 (.t 16), none⟩, ⟨some 18, .call 77 [(.t 15), (.t 17)], none⟩, ⟨some 19, .call 92 [(.t 13), (.t 18)], none⟩, ⟨none, .st 2 (.t 4) (.t 19), none⟩]) .ret)))
def p65 : PF := ⟨[(.cell 4 true 2, 0)], [], c65⟩
def c66 : PC := (.seq (.reg [] [⟨some 1, .box 1 3 (.t 0), none⟩, ⟨some 2, .alloc 2 [.b false, .ns 1], none⟩]) (.seq (.reg [] [⟨some 3, .fld 2 (.t 1), none⟩, ⟨some 4, .ld false 1 (.t 3), none⟩, ⟨some 5, .build [.b false, .ns 1] [(1, 1, (.t 4))], none⟩, ⟨none, .st 2 (.t 2) (.t 5), none⟩]) .ret))
def p66 : PF := ⟨[(.cell 2 true 2, 0)], [], c66⟩
def c68 : PC := (.seq (.reg [] [⟨some 2, .alloc 2 [.b false, .ns 1, .ns 1], none⟩]) (.seq (.reg [] [⟨some 3, .mv (.t 0), none⟩, ⟨some 4, .call 82 [(.t 3)], none⟩, ⟨some 5, .call 73 [(.c (.i .u64 1))], none⟩, ⟨some 6, .build [.b false, .ns 1, .ns 1] [(0, 2, (.t 4)), (2, 1, (.t 5))], none⟩, ⟨none, .st 3 (.t 2) (.t 6), none⟩]) .ret))
def p68 : PF := ⟨[(.cell 2 true 3, 0)], [], c68⟩
def b70_0 : PC := (.seq (.reg [] [⟨some 8, .bin .lss (.t 7) (.t 6), none⟩]) (.seq (.cond (.t 8) .skip (.exit 0)) (.seq (.block 1 (.seq (.reg [] [⟨some 9, .idx 1 (.t 5) (.t 7), none⟩, ⟨some 10, .ld false 1 (.t 9), none⟩, ⟨some 4, .mv (.t 10), none⟩]) (.seq (.reg [] [⟨some 11, .mv (.t 4), none⟩, ⟨some 12, .bin .gtr (.t 11) (.c (.i .u64 4294967295)), none⟩]) (.cond (.t 12) (.seq (.reg [] [⟨some 2, .mv (.c (.b false)), none⟩]) .ret) .skip)))) (.reg [] [⟨some 13, .bin .add (.t 7) (.c (.i .i64 1)), none⟩, ⟨some 7, .mv (.t 13), none⟩]))))
def c70 : PC := (.seq (.reg [] [⟨some 2, .mv (.c (.b false)), none⟩]) (.seq (.seq (.reg [] [⟨some 5, .mv (.t 0), none⟩, ⟨some 6, .len (.t 5), none⟩, ⟨some 7, .mv (.c (.i .i64 0)), none⟩]) (.block 0 (.loop [(0, 0), (5, 0), (6, 0), (7, 0)] [(0, 0), (2, 0)] b70_0))) (.seq (.join [(2, 0)] (.reg [] [⟨some 14, .mv (.t 0), none⟩, ⟨some 15, .len (.t 14), none⟩, ⟨some 16, .bin .eql (.t 15) (.c (.i .i64 0)), none⟩, ⟨some 17, .mv (.t 16), none⟩, ⟨some 18, .mv (.t 0), some (17, false)⟩, ⟨some 19, .mv (.t 0), some (17, false)⟩, ⟨some 20, .len (.t 19), some (17, false)⟩, ⟨some 21, .bin .sub (.t 20) (.c (.i .i64 1)), some (17, false)⟩, ⟨some 22, .idx 1 (.t 18) (.t 21), some (17, false)⟩, ⟨some 23, .ld false 1 (.t 22), some (17, false)⟩, ⟨some 24, .bin .neq (.t 23) (.c (.i .u64 0)), some (17, false)⟩, ⟨some 25, .pick (.t 17) (.c (.b true)) (.t 24), none⟩, ⟨some 2, .mv (.t 25), none⟩])) .ret)))
def p70 : PF := ⟨[(.tmp 2, 0)], [], c70⟩
def b71_0 : PC := (.block 2 (.seq (.seq (.reg [] [⟨some 43, .mv (.t 0), none⟩, ⟨some 44, .mv (.t 1), none⟩, ⟨some 45, .call 110 [(.t 43), (.t 44)], none⟩, ⟨some 7, .mv (.t 45), none⟩]) (.block 3 (.seq (.reg [] [⟨some 47, .mv (.t 7), none⟩, ⟨some 48, .bin .eql (.t 47) (.c (.i .i64 0)), none⟩, ⟨some 46, .mv (.t 48), none⟩]) (.cond (.t 46) (.seq (.reg [] [⟨some 49, .mv (.t 0), none⟩, ⟨some 50, .mv (.t 5), none⟩, ⟨some 51, .mv (.t 6), none⟩, ⟨some 52, .min (.t 50) (.t 51), none⟩, ⟨some 53, .callo 111 [(.t 49), (.t 52)] 53, none⟩, ⟨some 4, .mv (.t 53), none⟩]) .ret) (.seq (.reg [] [⟨some 55, .mv (.t 7), none⟩, ⟨some 56, .bin .lss (.t 55) (.c (.i .i64 0)), none⟩, ⟨some 54, .mv (.t 56), none⟩]) (.join [(0, 0), (1, 0), (5, 0), (6, 0)] (.cond (.t 54) (.reg [] [⟨some 57, .mv (.t 1), none⟩, ⟨some 58, .mv (.t 0), none⟩, ⟨some 0, .mv (.t 57), none⟩, ⟨some 1, .mv (.t 58), none⟩]) .skip))))))) (.seq (.seq (.reg [] [⟨some 59, .mv (.t 0), none⟩, ⟨some 60, .len (.t 59), none⟩, ⟨some 61, .mv (.t 1), none⟩, ⟨some 62, .len (.t 61), none⟩, ⟨some 63, .bin .add (.t 62) (.c (.i .i64 1)), none⟩, ⟨some 64, .bin .gtr (.t 60) (.t 63), none⟩]) (.join [(0, 0), (1, 0), (4, 0), (5, 0), (6, 0)] (.cond (.t 64) (.seq (.reg [] [⟨some 66, .mv (.t 0), none⟩, ⟨some 67, .mv (.t 1), none⟩, ⟨some 68, .call 112 [(.t 66), (.t 67)], none⟩, ⟨some 65, .mv (.t 68), none⟩, ⟨some 69, .ext 0 (.t 65), none⟩, ⟨some 70, .ext 1 (.t 65), none⟩, ⟨some 0, .mv (.t 70), none⟩]) (.seq (.reg [] [⟨some 71, .mv (.t 0), none⟩, ⟨some 72, .len (.t 71), none⟩, ⟨some 73, .bin .eql (.t 72) (.c (.i .i64 0)), none⟩]) (.cond (.t 73) (.seq (.reg [] [⟨some 74, .mv (.t 1), none⟩, ⟨some 75, .mv (.t 5), none⟩, ⟨some 76, .mv (.t 6), none⟩, ⟨some 77, .min (.t 75) (.t 76), none⟩, ⟨some 78, .callo 111 [(.t 74), (.t 77)] 78, none⟩, ⟨some 4, .mv (.t 78), none⟩]) .ret) .skip))) (.reg [] [⟨some 79, .mv (.t 0), none⟩, ⟨some 80, .mv (.t 1), none⟩, ⟨some 81, .call 113 [(.t 79), (.t 80)], none⟩, ⟨some 0, .mv (.t 81), none⟩])))) (.reg [] [⟨some 82, .mv (.t 0), none⟩, ⟨some 83, .mv (.t 0), none⟩, ⟨some 84, .call 108 [(.t 83)], none⟩, ⟨some 85, .call 109 [(.t 82), (.t 84)], none⟩, ⟨some 0, .mv (.t 85), none⟩]))))
def c71 : PC := (.seq (.reg [] [⟨some 4, .mv (.c (.ns 1)), none⟩]) (.seq (.reg [] [⟨some 8, .mv (.t 0), none⟩, ⟨some 9, .call 106 [(.t 8)], none⟩, ⟨some 10, .mv (.t 1), none⟩, ⟨some 11, .call 106 [(.t 10)], none⟩, ⟨some 0, .mv (.t 9), none⟩, ⟨some 1, .mv (.t 11), none⟩]) (.seq (.block 0 (.seq (.reg [] [⟨some 13, .mv (.t 0), none⟩, ⟨some 14, .len (.t 13), none⟩, ⟨some 15, .bin .eql (.t 14) (.c (.i .i64 0)), none⟩, ⟨some 12, .mv (.t 15), none⟩]) (.cond (.t 12) (.seq (.reg [] [⟨some 16, .mv (.t 1), none⟩, ⟨some 4, .mv (.t 16), none⟩]) .ret) (.seq (.reg [] [⟨some 18, .mv (.t 1), none⟩, ⟨some 19, .len (.t 18), none⟩, ⟨some 20, .bin .eql (.t 19) (.c (.i .i64 0)), none⟩, ⟨some 17, .mv (.t 20), none⟩]) (.cond (.t 17) (.seq (.reg [] [⟨some 21, .mv (.t 0), none⟩, ⟨some 4, .mv (.t 21), none⟩]) .ret) .skip))))) (.seq (.seq (.join [(0, 0), (1, 0), (29, 0)] (.reg [] [⟨some 22, .mv (.t 0), none⟩, ⟨some 23, .len (.t 22), none⟩, ⟨some 24, .bin .leq (.t 23) (.c (.i .i64 2)), none⟩, ⟨some 25, .mv (.t 24), none⟩, ⟨some 26, .mv (.t 1), some (25, true)⟩, ⟨some 27, .len (.t 26), some (25, true)⟩, ⟨some 28, .bin .leq (.t 27) (.c (.i .i64 2)), some (25, true)⟩, ⟨some 29, .pick (.t 25) (.t 28) (.c (.b false)), none⟩])) (.cond (.t 29) (.seq (.reg [] [⟨some 30, .mv (.t 0), none⟩, ⟨some 31, .mv (.t 1), none⟩, ⟨some 32, .call 107 [(.t 30), (.t 31)], none⟩, ⟨some 4, .mv (.t 32), none⟩]) .ret) .skip)) (.seq (.reg [] [⟨some 33, .mv (.t 0), none⟩, ⟨some 34, .call 108 [(.t 33)], none⟩, ⟨some 35, .mv (.t 1), none⟩, ⟨some 36, .call 108 [(.t 35)], none⟩, ⟨some 5, .mv (.t 34), none⟩, ⟨some 6, .mv (.t 36), none⟩]) (.seq (.reg [] [⟨some 37, .mv (.t 0), none⟩, ⟨some 38, .mv (.t 5), none⟩, ⟨some 39, .call 109 [(.t 37), (.t 38)], none⟩, ⟨some 40, .mv (.t 1), none⟩, ⟨some 41, .mv (.t 6), none⟩, ⟨some 42, .call 109 [(.t 40), (.t 41)], none⟩, ⟨some 0, .mv (.t 39), none⟩, ⟨some 1, .mv (.t 42), none⟩]) (.block 1 (.loop [(0, 0), (1, 0), (5, 0), (6, 0)] [(4, 0)] b71_0))))))))
def p71 : PF := ⟨[(.tmp 4, 0)], [], c71⟩
def c72 : PC := (.seq (.reg [] [⟨some 4, .mv (.c (.i .i64 0)), none⟩]) (.seq (.reg [] [⟨some 5, .mv (.t 0), none⟩, ⟨some 6, .call 106 [(.t 5)], none⟩, ⟨some 7, .mv (.t 1), none⟩, ⟨some 8, .call 106 [(.t 7)], none⟩, ⟨some 9, .call 110 [(.t 6), (.t 8)], none⟩, ⟨some 4, .mv (.t 9), none⟩]) .ret))
def p72 : PF := ⟨[(.tmp 4, 0)], [], c72⟩
def c73 : PC := (.seq (.reg [] [⟨some 2, .mv (.c (.ns 1)), none⟩]) (.seq (.reg [] [⟨some 3, .mv (.t 0), none⟩, ⟨some 4, .bin .and (.t 3) (.c (.i .u64 4294967295)), none⟩, ⟨some 5, .mv (.t 0), none⟩, ⟨some 6, .bin .shr (.t 5) (.c (.i .u64 32)), none⟩, ⟨some 7, .bsl 7 1 [.i .u64 0] 2 [(0, (.t 4)), (1, (.t 6))], none⟩, ⟨some 8, .call 114 [(.t 7)], none⟩, ⟨some 2, .mv (.t 8), none⟩]) .ret))
def p73 : PF := ⟨[(.tmp 2, 0)], [], c73⟩
def c75 : PC := (.seq (.reg [] [⟨some 2, .box 2 2 (.t 0), none⟩, ⟨some 4, .alloc 4 [.b false, .ns 1, .ns 1], none⟩]) (.seq (.seq (.reg [] [⟨some 12, .fld 1 (.t 2), none⟩, ⟨some 13, .ld false 1 (.t 12), none⟩, ⟨some 14, .len (.t 13), none⟩, ⟨some 15, .bin .eql (.t 14) (.c (.i .i64 0)), none⟩]) (.cond (.t 15) (.seq (.reg [] [⟨some 16, .call 73 [(.c (.i .u64 1))], none⟩, ⟨some 17, .build [.b false, .ns 1, .ns 1] [(2, 1, (.t 16))], none⟩, ⟨none, .st 3 (.t 4) (.t 17), none⟩]) .ret) .skip)) (.seq (.reg [] [⟨some 18, .fld 1 (.t 2), none⟩, ⟨some 19, .ld false 1 (.t 18), none⟩, ⟨some 20, .mv (.t 1), none⟩, ⟨some 21, .call 71 [(.t 19), (.t 20)], none⟩, ⟨some 5, .mv (.t 21), none⟩]) (.seq (.seq (.join [(4, 1), (1, 0), (2, 0), (5, 0), (30, 0)] (.reg [] [⟨some 22, .mv (.t 5), none⟩, ⟨some 23, .len (.t 22), none⟩, ⟨some 24, .bin .eql (.t 23) (.c (.i .i64 1)), none⟩, ⟨some 25, .mv (.t 24), none⟩, ⟨some 26, .mv (.t 5), some (25, true)⟩, ⟨some 27, .idx 1 (.t 26) (.c (.i .i64 0)), some (25, true)⟩, ⟨some 28, .ld false 1 (.t 27), some (25, true)⟩, ⟨some 29, .bin .eql (.t 28) (.c (.i .u64 1)), some (25, true)⟩, ⟨some 30, .pick (.t 25) (.t 29) (.c (.b false)), none⟩])) (.cond (.t 30) (.seq (.reg [] [⟨some 31, .ld true 2 (.t 2), none⟩, ⟨some 32, .mv (.t 1), none⟩, ⟨some 33, .build [.b false, .ns 1, .ns 1] [(0, 2, (.t 31)), (2, 1, (.t 32))], none⟩, ⟨none, .st 3 (.t 4) (.t 33), none⟩]) .ret) .skip)) (.seq (.reg [] [⟨some 35, .fld 1 (.t 2), none⟩, ⟨some 36, .ld false 1 (.t 35), none⟩, ⟨some 37, .mv (.t 5), none⟩, ⟨some 38, .call 115 [(.t 36), (.t 37)], none⟩, ⟨some 34, .mv (.t 38), none⟩, ⟨some 39, .ext 0 (.t 34), none⟩, ⟨some 40, .ext 1 (.t 34), none⟩, ⟨some 41, .ext 2 (.t 34), none⟩, ⟨some 6, .mv (.t 39), none⟩, ⟨some 7, .mv (.t 40), none⟩, ⟨some 8, .mv (.t 41), none⟩]) (.seq (.reg [] [⟨some 43, .mv (.t 1), none⟩, ⟨some 44, .mv (.t 5), none⟩, ⟨some 45, .call 115 [(.t 43), (.t 44)], none⟩, ⟨some 42, .mv (.t 45), none⟩, ⟨some 46, .ext 0 (.t 42), none⟩, ⟨some 47, .ext 1 (.t 42), none⟩, ⟨some 48, .ext 2 (.t 42), none⟩, ⟨some 9, .mv (.t 46), none⟩, ⟨some 10, .mv (.t 47), none⟩, ⟨some 11, .mv (.t 48), none⟩]) (.seq (.reg [] [⟨some 49, .fld 0 (.t 2), none⟩, ⟨some 50, .ld false 1 (.t 49), none⟩, ⟨some 51, .mv (.t 6), none⟩, ⟨some 52, .build [.b false, .ns 1] [(0, 1, (.t 50)), (1, 1, (.t 51))], none⟩, ⟨some 53, .mv (.t 9), none⟩, ⟨some 54, .build [.b false, .ns 1, .ns 1] [(0, 2, (.t 52)), (2, 1, (.t 53))], none⟩, ⟨none, .st 3 (.t 4) (.t 54), none⟩]) .ret)))))))
def p75 : PF := ⟨[(.cell 4 true 3, 0)], [], c75⟩
def c76 : PC := (.seq (.reg [] [⟨some 2, .box 2 2 (.t 0), none⟩, ⟨some 3, .box 3 2 (.t 1), none⟩, ⟨some 4, .alloc 4 [.b false, .ns 1], none⟩]) (.seq (.reg [] [⟨some 7, .ld true 2 (.t 2), none⟩, ⟨some 8, .call 81 [(.t 7)], none⟩, ⟨some 9, .ld true 2 (.t 3), none⟩, ⟨some 10, .call 81 [(.t 9)], none⟩, ⟨none, .st 2 (.t 2) (.t 8), none⟩, ⟨none, .st 2 (.t 3) (.t 10), none⟩]) (.seq (.seq (.reg [] [⟨some 11, .fld 0 (.t 2), none⟩, ⟨some 12, .ld false 1 (.t 11), none⟩, ⟨some 13, .fld 0 (.t 3), none⟩, ⟨some 14, .ld false 1 (.t 13), none⟩, ⟨some 15, .eqb false (.t 12) (.t 14), none⟩]) (.cond (.t 15) (.seq (.reg [] [⟨some 16, .fld 0 (.t 2), none⟩, ⟨some 17, .ld false 1 (.t 16), none⟩, ⟨some 18, .fld 1 (.t 2), none⟩, ⟨some 19, .ld false 1 (.t 18), none⟩, ⟨some 20, .fld 1 (.t 3), none⟩, ⟨some 21, .ld false 1 (.t 20), none⟩, ⟨some 22, .call 116 [(.t 19), (.t 21)], none⟩, ⟨some 23, .call 92 [(.t 17), (.t 22)], none⟩, ⟨none, .st 2 (.t 4) (.t 23), none⟩]) .ret) .skip)) (.seq (.seq (.reg [] [⟨some 24, .fld 1 (.t 2), none⟩, ⟨some 25, .ld false 1 (.t 24), none⟩, ⟨some 26, .fld 1 (.t 3), none⟩, ⟨some 27, .ld false 1 (.t 26), none⟩, ⟨some 28, .call 72 [(.t 25), (.t 27)], none⟩, ⟨some 29, .bin .lss (.t 28) (.c (.i .i64 0)), none⟩]) (.join [(4, 1), (2, 0), (3, 0)] (.cond (.t 29) (.reg [] [⟨some 30, .ld true 2 (.t 3), none⟩, ⟨some 31, .ld true 2 (.t 2), none⟩, ⟨none, .st 2 (.t 2) (.t 30), none⟩, ⟨none, .st 2 (.t 3) (.t 31), none⟩]) .skip))) (.seq (.reg [] [⟨some 33, .fld 1 (.t 2), none⟩, ⟨some 34, .ld false 1 (.t 33), none⟩, ⟨some 35, .fld 1 (.t 3), none⟩, ⟨some 36, .ld false 1 (.t 35), none⟩, ⟨some 37, .call 117 [(.t 34), (.t 36)], none⟩, ⟨some 32, .mv (.t 37), none⟩, ⟨some 38, .ext 0 (.t 32), none⟩, ⟨some 39, .ext 1 (.t 32), none⟩, ⟨some 5, .mv (.t 38), none⟩, ⟨some 6, .mv (.t 39), none⟩]) (.seq (.reg [] [⟨some 40, .fld 0 (.t 2), none⟩, ⟨some 41, .ld false 1 (.t 40), none⟩, ⟨some 42, .mv (.t 5), none⟩, ⟨some 43, .call 92 [(.t 41), (.t 42)], none⟩, ⟨none, .st 2 (.t 4) (.t 43), none⟩]) .ret))))))
def p76 : PF := ⟨[(.cell 4 true 2, 0)], [], c76⟩
def b77_1 : PC := (.seq (.reg [] [⟨some 31, .bin .lss (.t 30) (.t 29), none⟩]) (.seq (.cond (.t 31) .skip (.exit 2)) (.seq (.block 3 (.seq (.reg [] [⟨some 32, .mv (.t 30), none⟩, ⟨some 33, .idx 1 (.t 28) (.t 30), none⟩, ⟨some 34, .ld false 1 (.t 33), none⟩, ⟨some 9, .mv (.t 32), none⟩, ⟨some 10, .mv (.t 34), none⟩]) (.seq (.reg [] [⟨some 35, .mv (.t 8), none⟩, ⟨some 36, .mv (.t 5), none⟩, ⟨some 37, .mv (.t 6), none⟩, ⟨some 38, .mv (.t 9), none⟩, ⟨some 39, .bin .add (.t 37) (.t 38), none⟩, ⟨some 40, .idx 1 (.t 36) (.t 39), none⟩, ⟨some 41, .ld false 1 (.t 40), none⟩, ⟨some 42, .mv (.t 7), none⟩, ⟨some 43, .mv (.t 10), none⟩, ⟨some 44, .bin .mul (.t 42) (.t 43), none⟩, ⟨some 45, .bin .add (.t 41) (.t 44), none⟩, ⟨some 46, .bin .add (.t 35) (.t 45), none⟩, ⟨some 8, .mv (.t 46), none⟩]) (.seq (.reg [] [⟨some 47, .mv (.t 5), none⟩, ⟨some 48, .mv (.t 6), none⟩, ⟨some 49, .mv (.t 9), none⟩, ⟨some 50, .bin .add (.t 48) (.t 49), none⟩, ⟨some 51, .mv (.t 8), none⟩, ⟨some 52, .bin .and (.t 51) (.c (.i .u64 4294967295)), none⟩, ⟨some 53, .idx 1 (.t 47) (.t 50), none⟩, ⟨none, .st 1 (.t 53) (.t 52), none⟩]) (.reg [] [⟨some 54, .mv (.t 8), none⟩, ⟨some 55, .bin .shr (.t 54) (.c (.i .u64 32)), none⟩, ⟨some 8, .mv (.t 55), none⟩]))))) (.reg [] [⟨some 56, .bin .add (.t 30) (.c (.i .i64 1)), none⟩, ⟨some 30, .mv (.t 56), none⟩]))))
def b77_0 : PC := (.seq (.reg [] [⟨some 24, .bin .lss (.t 23) (.t 22), none⟩]) (.seq (.cond (.t 24) .skip (.exit 0)) (.seq (.block 1 (.seq (.reg [] [⟨some 25, .mv (.t 23), none⟩, ⟨some 26, .idx 1 (.t 21) (.t 23), none⟩, ⟨some 27, .ld false 1 (.t 26), none⟩, ⟨some 6, .mv (.t 25), none⟩, ⟨some 7, .mv (.t 27), none⟩]) (.seq (.reg [] [⟨some 8, .mv (.c (.i .u64 0)), none⟩]) (.seq (.seq (.reg [] [⟨some 28, .mv (.t 1), none⟩, ⟨some 29, .len (.t 28), none⟩, ⟨some 30, .mv (.c (.i .i64 0)), none⟩]) (.block 2 (.loop [(5, 1), (1, 0), (6, 0), (7, 0), (8, 0), (21, 0), (22, 0), (23, 0), (28, 0), (29, 0), (30, 0)] [(5, 1), (1, 0), (6, 0), (8, 0), (21, 0), (22, 0), (23, 0)] b77_1))) (.reg [] [⟨some 57, .mv (.t 5), none⟩, ⟨some 58, .mv (.t 6), none⟩, ⟨some 59, .mv (.t 1), none⟩, ⟨some 60, .len (.t 59), none⟩, ⟨some 61, .bin .add (.t 58) (.t 60), none⟩, ⟨some 62, .mv (.t 8), none⟩, ⟨some 63, .idx 1 (.t 57) (.t 61), none⟩, ⟨none, .st 1 (.t 63) (.t 62), none⟩]))))) (.reg [] [⟨some 64, .bin .add (.t 23) (.c (.i .i64 1)), none⟩, ⟨some 23, .mv (.t 64), none⟩]))))
def c77 : PC := (.seq (.reg [] [⟨some 4, .mv (.c (.ns 1)), none⟩]) (.seq (.reg [] [⟨some 11, .mv (.t 0), none⟩, ⟨some 12, .call 106 [(.t 11)], none⟩, ⟨some 13, .mv (.t 1), none⟩, ⟨some 14, .call 106 [(.t 13)], none⟩, ⟨some 0, .mv (.t 12), none⟩, ⟨some 1, .mv (.t 14), none⟩]) (.seq (.reg [] [⟨some 15, .mv (.t 0), none⟩, ⟨some 16, .len (.t 15), none⟩, ⟨some 17, .mv (.t 1), none⟩, ⟨some 18, .len (.t 17), none⟩, ⟨some 19, .bin .add (.t 16) (.t 18), none⟩, ⟨some 20, .mk 20 1 8 [.i .u64 0] (.t 19), none⟩, ⟨some 5, .mv (.t 20), none⟩]) (.seq (.seq (.reg [] [⟨some 21, .mv (.t 0), none⟩, ⟨some 22, .len (.t 21), none⟩, ⟨some 23, .mv (.c (.i .i64 0)), none⟩]) (.block 0 (.loop [(5, 1), (1, 0), (21, 0), (22, 0), (23, 0)] [(5, 0)] b77_0))) (.seq (.reg [] [⟨some 65, .mv (.t 5), none⟩, ⟨some 66, .call 114 [(.t 65)], none⟩, ⟨some 4, .mv (.t 66), none⟩]) .ret)))))
def p77 : PF := ⟨[(.tmp 4, 0)], [], c77⟩
def c81 : PC := (.seq (.reg [] [⟨some 1, .box 1 2 (.t 0), none⟩, ⟨some 2, .alloc 2 [.b false, .ns 1], none⟩]) (.seq (.reg [] [⟨some 3, .fld 0 (.t 1), none⟩, ⟨some 4, .ld false 1 (.t 3), none⟩, ⟨some 5, .fld 1 (.t 1), none⟩, ⟨some 6, .ld false 1 (.t 5), none⟩, ⟨some 7, .call 106 [(.t 6)], none⟩, ⟨some 8, .call 92 [(.t 4), (.t 7)], none⟩, ⟨none, .st 2 (.t 2) (.t 8), none⟩]) .ret))
def p81 : PF := ⟨[(.cell 2 true 2, 0)], [], c81⟩
def c82 : PC := (.seq (.reg [] [⟨some 2, .alloc 2 [.b false, .ns 1], none⟩]) (.seq (.seq (.reg [] [⟨some 3, .mv (.t 0), none⟩, ⟨some 4, .bin .lss (.t 3) (.c (.i .i64 0)), none⟩]) (.cond (.t 4) (.seq (.reg [] [⟨some 5, .mv (.t 0), none⟩, ⟨some 6, .conv .u64 (.t 5), none⟩, ⟨some 7, .neg (.t 6), none⟩, ⟨some 8, .call 73 [(.t 7)], none⟩, ⟨some 9, .call 92 [(.c (.b true)), (.t 8)], none⟩, ⟨none, .st 2 (.t 2) (.t 9), none⟩]) .ret) .skip)) (.seq (.reg [] [⟨some 10, .mv (.t 0), none⟩, ⟨some 11, .conv .u64 (.t 10), none⟩, ⟨some 12, .call 73 [(.t 11)], none⟩, ⟨some 13, .call 92 [(.c (.b false)), (.t 12)], none⟩, ⟨none, .st 2 (.t 2) (.t 13), none⟩]) .ret)))
def p82 : PF := ⟨[(.cell 2 true 2, 0)], [], c82⟩
def c83 : PC := (.seq (.reg [] [⟨some 1, .box 1 2 (.t 0), none⟩, ⟨some 2, .mv (.c (.i .i64 0)), none⟩]) (.seq (.reg [] [⟨some 3, .ld true 2 (.t 1), none⟩, ⟨some 4, .call 81 [(.t 3)], none⟩, ⟨none, .st 2 (.t 1) (.t 4), none⟩]) (.seq (.block 0 (.seq (.reg [] [⟨some 6, .fld 0 (.t 1), none⟩, ⟨some 7, .ld false 1 (.t 6), none⟩, ⟨some 5, .mv (.t 7), none⟩]) (.cond (.t 5) (.seq (.reg [] [⟨some 2, .mv (.c (.i .i64 (-1))), none⟩]) .ret) (.seq (.reg [] [⟨some 9, .fld 1 (.t 1), none⟩, ⟨some 10, .ld false 1 (.t 9), none⟩, ⟨some 11, .len (.t 10), none⟩, ⟨some 12, .bin .eql (.t 11) (.c (.i .i64 0)), none⟩, ⟨some 8, .mv (.t 12), none⟩]) (.cond (.t 8) (.seq (.reg [] [⟨some 2, .mv (.c (.i .i64 0)), none⟩]) .ret) .skip))))) (.seq (.reg [] [⟨some 2, .mv (.c (.i .i64 1)), none⟩]) .ret))))
def p83 : PF := ⟨[(.tmp 2, 0)], [], c83⟩
def c86 : PC := (.seq (.reg [] [⟨some 1, .box 1 2 (.t 0), none⟩, ⟨some 2, .alloc 2 [.b false, .ns 1], none⟩]) (.seq (.reg [] [⟨some 3, .ld true 2 (.t 1), none⟩, ⟨some 4, .call 81 [(.t 3)], none⟩, ⟨none, .st 2 (.t 1) (.t 4), none⟩]) (.seq (.reg [] [⟨some 5, .fld 0 (.t 1), none⟩, ⟨some 6, .ld false 1 (.t 5), none⟩, ⟨some 7, .not (.t 6), none⟩, ⟨some 8, .fld 1 (.t 1), none⟩, ⟨some 9, .ld false 1 (.t 8), none⟩, ⟨some 10, .call 92 [(.t 7), (.t 9)], none⟩, ⟨none, .st 2 (.t 2) (.t 10), none⟩]) .ret)))
def p86 : PF := ⟨[(.cell 2 true 2, 0)], [], c86⟩
def c92 : PC := (.seq (.reg [] [⟨some 4, .alloc 4 [.b false, .ns 1], none⟩]) (.seq (.join [(4, 0)] (.reg [] [⟨some 5, .mv (.t 0), none⟩, ⟨some 6, .mv (.t 5), none⟩, ⟨some 7, .mv (.t 1), some (6, true)⟩, ⟨some 8, .len (.t 7), some (6, true)⟩, ⟨some 9, .bin .gtr (.t 8) (.c (.i .i64 0)), some (6, true)⟩, ⟨some 10, .pick (.t 6) (.t 9) (.c (.b false)), none⟩, ⟨some 11, .mv (.t 1), none⟩, ⟨some 12, .build [.b false, .ns 1] [(0, 1, (.t 10)), (1, 1, (.t 11))], none⟩, ⟨none, .st 2 (.t 4) (.t 12), none⟩])) .ret))
def p92 : PF := ⟨[(.cell 4 true 2, 0)], [], c92⟩
def c94 : PC := (.seq (.reg [] [⟨some 2, .box 2 3 (.t 0), none⟩, ⟨some 3, .box 3 3 (.t 1), none⟩, ⟨some 4, .alloc 4 [.b false, .ns 1, .ns 1], none⟩]) (.seq (.reg [] [⟨some 5, .ld true 3 (.t 2), none⟩, ⟨some 6, .call 63 [(.t 5)], none⟩, ⟨some 7, .ld true 3 (.t 3), none⟩, ⟨some 8, .call 63 [(.t 7)], none⟩, ⟨none, .st 3 (.t 2) (.t 6), none⟩, ⟨none, .st 3 (.t 3) (.t 8), none⟩]) (.seq (.reg [] [⟨some 9, .fld 0 (.t 2), none⟩, ⟨some 10, .ld true 2 (.t 9), none⟩, ⟨some 11, .fld 0 (.t 3), none⟩, ⟨some 12, .ld true 2 (.t 11), none⟩, ⟨some 13, .call 65 [(.t 10), (.t 12)], none⟩, ⟨some 14, .fld 2 (.t 2), none⟩, ⟨some 15, .ld false 1 (.t 14), none⟩, ⟨some 16, .fld 2 (.t 3), none⟩, ⟨some 17, .ld false 1 (.t 16), none⟩, ⟨some 18, .call 77 [(.t 15), (.t 17)], none⟩, ⟨some 19, .call 75 [(.t 13), (.t 18)], none⟩, ⟨none, .st 3 (.t 4) (.t 19), none⟩]) .ret)))
def p94 : PF := ⟨[(.cell 4 true 3, 0)], [], c94⟩
def c96 : PC := (.seq (.reg [] [⟨some 1, .box 1 3 (.t 0), none⟩, ⟨some 2, .alloc 2 [.b false, .ns 1, .ns 1], none⟩]) (.seq (.reg [] [⟨some 3, .ld true 3 (.t 1), none⟩, ⟨some 4, .call 63 [(.t 3)], none⟩, ⟨none, .st 3 (.t 1) (.t 4), none⟩]) (.seq (.reg [] [⟨some 5, .fld 0 (.t 1), none⟩, ⟨some 6, .ld true 2 (.t 5), none⟩, ⟨some 7, .call 86 [(.t 6)], none⟩, ⟨some 8, .fld 0 (.t 1), none⟩, ⟨none, .st 2 (.t 8) (.t 7), none⟩]) (.seq (.reg [] [⟨some 9, .ld true 3 (.t 1), none⟩, ⟨none, .st 3 (.t 2) (.t 9), none⟩]) .ret))))
def p96 : PF := ⟨[(.cell 2 true 3, 0)], [], c96⟩
def b106_0 : PC := (.seq (.reg [] [⟨some 12, .bin .lss (.t 11) (.t 10), none⟩]) (.seq (.cond (.t 12) .skip (.exit 0)) (.seq (.block 1 (.seq (.reg [] [⟨some 13, .mv (.t 11), none⟩, ⟨some 14, .idx 1 (.t 9) (.t 11), none⟩, ⟨some 15, .ld false 1 (.t 14), none⟩, ⟨some 4, .mv (.t 13), none⟩, ⟨some 5, .mv (.t 15), none⟩]) (.reg [] [⟨some 16, .mv (.t 3), none⟩, ⟨some 17, .mv (.t 4), none⟩, ⟨some 18, .mv (.t 5), none⟩, ⟨some 19, .bin .and (.t 18) (.c (.i .u64 4294967295)), none⟩, ⟨some 20, .idx 1 (.t 16) (.t 17), none⟩, ⟨none, .st 1 (.t 20) (.t 19), none⟩]))) (.reg [] [⟨some 21, .bin .add (.t 11) (.c (.i .i64 1)), none⟩, ⟨some 11, .mv (.t 21), none⟩]))))
def c106 : PC := (.seq (.reg [] [⟨some 2, .mv (.c (.ns 1)), none⟩]) (.seq (.reg [] [⟨some 6, .mv (.t 0), none⟩, ⟨some 7, .len (.t 6), none⟩, ⟨some 8, .mk 8 1 8 [.i .u64 0] (.t 7), none⟩, ⟨some 3, .mv (.t 8), none⟩]) (.seq (.seq (.reg [] [⟨some 9, .mv (.t 0), none⟩, ⟨some 10, .len (.t 9), none⟩, ⟨some 11, .mv (.c (.i .i64 0)), none⟩]) (.block 0 (.loop [(3, 1), (9, 0), (10, 0), (11, 0)] [(3, 0)] b106_0))) (.seq (.reg [] [⟨some 22, .mv (.t 3), none⟩, ⟨some 23, .call 114 [(.t 22)], none⟩, ⟨some 2, .mv (.t 23), none⟩]) .ret))))
def p106 : PF := ⟨[(.tmp 2, 0)], [], c106⟩
def b107_0 : PC := (.seq (.seq (.reg [] [⟨some 19, .mv (.t 7), none⟩, ⟨some 20, .bin .neq (.t 19) (.c (.i .u64 0)), none⟩]) (.cond (.t 20) .skip (.exit 0))) (.block 1 (.reg [] [⟨some 21, .mv (.t 7), none⟩, ⟨some 22, .mv (.t 5), none⟩, ⟨some 23, .mv (.t 7), none⟩, ⟨some 24, .bin .rem (.t 22) (.t 23), none⟩, ⟨some 5, .mv (.t 21), none⟩, ⟨some 7, .mv (.t 24), none⟩])))
def c107 : PC := (.seq (.reg [] [⟨some 4, .mv (.c (.ns 1)), none⟩]) (.seq (.reg [] [⟨some 10, .mv (.t 0), none⟩, ⟨some 11, .call 127 [(.t 10)], none⟩, ⟨some 9, .mv (.t 11), none⟩, ⟨some 12, .ext 0 (.t 9), none⟩, ⟨some 13, .ext 1 (.t 9), none⟩, ⟨some 5, .mv (.t 12), none⟩, ⟨some 6, .mv (.t 13), none⟩]) (.seq (.reg [] [⟨some 15, .mv (.t 1), none⟩, ⟨some 16, .call 127 [(.t 15)], none⟩, ⟨some 14, .mv (.t 16), none⟩, ⟨some 17, .ext 0 (.t 14), none⟩, ⟨some 18, .ext 1 (.t 14), none⟩, ⟨some 7, .mv (.t 17), none⟩, ⟨some 8, .mv (.t 18), none⟩]) (.seq (.block 0 (.loop [(5, 0), (7, 0)] [(5, 0)] b107_0)) (.seq (.reg [] [⟨some 25, .mv (.t 5), none⟩, ⟨some 26, .call 73 [(.t 25)], none⟩, ⟨some 4, .mv (.t 26), none⟩]) .ret)))))
def p107 : PF := ⟨[(.tmp 4, 0)], [], c107⟩
def b108_0 : PC := (.seq (.reg [] [⟨some 9, .bin .lss (.t 8) (.t 7), none⟩]) (.seq (.cond (.t 9) .skip (.exit 0)) (.seq (.block 1 (.seq (.reg [] [⟨some 10, .mv (.t 8), none⟩, ⟨some 11, .idx 1 (.t 6) (.t 8), none⟩, ⟨some 12, .ld false 1 (.t 11), none⟩, ⟨some 4, .mv (.t 10), none⟩, ⟨some 5, .mv (.t 12), none⟩]) (.seq (.seq (.reg [] [⟨some 13, .mv (.t 5), none⟩, ⟨some 14, .bin .neq (.t 13) (.c (.i .u64 0)), none⟩]) (.cond (.t 14) (.seq (.reg [] [⟨some 15, .mv (.t 4), none⟩, ⟨some 16, .bin .mul (.c (.i .i64 32)) (.t 15), none⟩, ⟨some 17, .mv (.t 5), none⟩, ⟨some 18, .call 128 [(.t 17)], none⟩, ⟨some 19, .bin .add (.t 16) (.t 18), none⟩, ⟨some 2, .mv (.t 19), none⟩]) .ret) .skip)) (.reg [] [⟨some 20, .mv (.t 3), none⟩, ⟨some 21, .bin .add (.t 20) (.c (.i .i64 32)), none⟩, ⟨some 3, .mv (.t 21), none⟩])))) (.reg [] [⟨some 22, .bin .add (.t 8) (.c (.i .i64 1)), none⟩, ⟨some 8, .mv (.t 22), none⟩]))))
def c108 : PC := (.seq (.reg [] [⟨some 2, .mv (.c (.i .i64 0)), none⟩]) (.seq (.reg [] [⟨some 3, .mv (.c (.i .i64 0)), none⟩]) (.seq (.seq (.reg [] [⟨some 6, .mv (.t 0), none⟩, ⟨some 7, .len (.t 6), none⟩, ⟨some 8, .mv (.c (.i .i64 0)), none⟩]) (.block 0 (.loop [(3, 0), (6, 0), (7, 0), (8, 0)] [(2, 0), (3, 0)] b108_0))) (.seq (.reg [] [⟨some 23, .mv (.t 3), none⟩, ⟨some 2, .mv (.t 23), none⟩]) .ret))))
def p108 : PF := ⟨[(.tmp 2, 0)], [], c108⟩
def b109_0 : PC := (.seq (.reg [] [⟨some 25, .bin .lss (.t 24) (.t 23), none⟩]) (.seq (.cond (.t 25) .skip (.exit 0)) (.seq (.block 1 (.seq (.reg [] [⟨some 26, .mv (.t 24), none⟩, ⟨some 8, .mv (.t 26), none⟩]) (.reg [] [⟨some 27, .mv (.t 7), none⟩, ⟨some 28, .mv (.t 8), none⟩, ⟨some 29, .mv (.t 0), none⟩, ⟨some 30, .mv (.t 8), none⟩, ⟨some 31, .mv (.t 5), none⟩, ⟨some 32, .bin .add (.t 30) (.t 31), none⟩, ⟨some 33, .bin .add (.t 32) (.c (.i .i64 1)), none⟩, ⟨some 34, .call 129 [(.t 29), (.t 33)], none⟩, ⟨some 35, .bin .shl (.t 34) (.c (.i .u64 32)), none⟩, ⟨some 36, .mv (.t 0), none⟩, ⟨some 37, .mv (.t 8), none⟩, ⟨some 38, .mv (.t 5), none⟩, ⟨some 39, .bin .add (.t 37) (.t 38), none⟩, ⟨some 40, .idx 1 (.t 36) (.t 39), none⟩, ⟨some 41, .ld false 1 (.t 40), none⟩, ⟨some 42, .bin .or (.t 35) (.t 41), none⟩, ⟨some 43, .mv (.t 6), none⟩, ⟨some 44, .bin .shr (.t 42) (.t 43), none⟩, ⟨some 45, .bin .and (.t 44) (.c (.i .u64 4294967295)), none⟩, ⟨some 46, .idx 1 (.t 27) (.t 28), none⟩, ⟨none, .st 1 (.t 46) (.t 45), none⟩]))) (.reg [] [⟨some 47, .bin .add (.t 24) (.c (.i .i64 1)), none⟩, ⟨some 24, .mv (.t 47), none⟩]))))
def c109 : PC := (.seq (.reg [] [⟨some 4, .mv (.c (.ns 1)), none⟩]) (.seq (.reg [] [⟨some 9, .mv (.t 1), none⟩, ⟨some 10, .bin .quo (.t 9) (.c (.i .i64 32)), none⟩, ⟨some 11, .mv (.t 1), none⟩, ⟨some 12, .bin .rem (.t 11) (.c (.i .i64 32)), none⟩, ⟨some 5, .mv (.t 10), none⟩, ⟨some 6, .mv (.t 12), none⟩]) (.seq (.seq (.reg [] [⟨some 13, .mv (.t 5), none⟩, ⟨some 14, .mv (.t 0), none⟩, ⟨some 15, .len (.t 14), none⟩, ⟨some 16, .bin .geq (.t 13) (.t 15), none⟩]) (.cond (.t 16) (.seq (.reg [] [⟨some 4, .mv (.c (.ns 1)), none⟩]) .ret) .skip)) (.seq (.reg [] [⟨some 17, .mv (.t 0), none⟩, ⟨some 18, .len (.t 17), none⟩, ⟨some 19, .mv (.t 5), none⟩, ⟨some 20, .bin .sub (.t 18) (.t 19), none⟩, ⟨some 21, .mk 21 1 8 [.i .u64 0] (.t 20), none⟩, ⟨some 7, .mv (.t 21), none⟩]) (.seq (.seq (.reg [] [⟨some 22, .mv (.t 7), none⟩, ⟨some 23, .len (.t 22), none⟩, ⟨some 24, .mv (.c (.i .i64 0)), none⟩]) (.block 0 (.loop [(7, 1), (0, 0), (5, 0), (6, 0), (23, 0), (24, 0)] [(7, 0)] b109_0))) (.seq (.reg [] [⟨some 48, .mv (.t 7), none⟩, ⟨some 49, .call 114 [(.t 48)], none⟩, ⟨some 4, .mv (.t 49), none⟩]) .ret))))))
def p109 : PF := ⟨[(.tmp 4, 0)], [], c109⟩
def b110_0 : PC := (.seq (.seq (.reg [] [⟨some 21, .mv (.t 5), none⟩, ⟨some 22, .bin .geq (.t 21) (.c (.i .i64 0)), none⟩]) (.cond (.t 22) .skip (.exit 1))) (.seq (.block 2 (.block 3 (.seq (.reg [] [⟨some 26, .mv (.t 0), none⟩, ⟨some 27, .mv (.t 5), none⟩, ⟨some 28, .idx 1 (.t 26) (.t 27), none⟩, ⟨some 29, .ld false 1 (.t 28), none⟩, ⟨some 30, .mv (.t 1), none⟩, ⟨some 31, .mv (.t 5), none⟩, ⟨some 32, .idx 1 (.t 30) (.t 31), none⟩, ⟨some 33, .ld false 1 (.t 32), none⟩, ⟨some 34, .bin .lss (.t 29) (.t 33), none⟩, ⟨some 25, .mv (.t 34), none⟩]) (.cond (.t 25) (.seq (.reg [] [⟨some 4, .mv (.c (.i .i64 (-1))), none⟩]) .ret) (.seq (.reg [] [⟨some 36, .mv (.t 0), none⟩, ⟨some 37, .mv (.t 5), none⟩, ⟨some 38, .idx 1 (.t 36) (.t 37), none⟩, ⟨some 39, .ld false 1 (.t 38), none⟩, ⟨some 40, .mv (.t 1), none⟩, ⟨some 41, .mv (.t 5), none⟩, ⟨some 42, .idx 1 (.t 40) (.t 41), none⟩, ⟨some 43, .ld false 1 (.t 42), none⟩, ⟨some 44, .bin .gtr (.t 39) (.t 43), none⟩, ⟨some 35, .mv (.t 44), none⟩]) (.cond (.t 35) (.seq (.reg [] [⟨some 4, .mv (.c (.i .i64 1)), none⟩]) .ret) .skip)))))) (.reg [] [⟨some 23, .mv (.t 5), none⟩, ⟨some 24, .bin .sub (.t 23) (.c (.i .i64 1)), none⟩, ⟨some 5, .mv (.t 24), none⟩])))
def c110 : PC := (.seq (.reg [] [⟨some 4, .mv (.c (.i .i64 0)), none⟩]) (.seq (.block 0 (.seq (.reg [] [⟨some 7, .mv (.t 0), none⟩, ⟨some 8, .len (.t 7), none⟩, ⟨some 9, .mv (.t 1), none⟩, ⟨some 10, .len (.t 9), none⟩, ⟨some 11, .bin .lss (.t 8) (.t 10), none⟩, ⟨some 6, .mv (.t 11), none⟩]) (.cond (.t 6) (.seq (.reg [] [⟨some 4, .mv (.c (.i .i64 (-1))), none⟩]) .ret) (.seq (.reg [] [⟨some 13, .mv (.t 0), none⟩, ⟨some 14, .len (.t 13), none⟩, ⟨some 15, .mv (.t 1), none⟩, ⟨some 16, .len (.t 15), none⟩, ⟨some 17, .bin .gtr (.t 14) (.t 16), none⟩, ⟨some 12, .mv (.t 17), none⟩]) (.cond (.t 12) (.seq (.reg [] [⟨some 4, .mv (.c (.i .i64 1)), none⟩]) .ret) .skip))))) (.seq (.seq (.reg [] [⟨some 18, .mv (.t 0), none⟩, ⟨some 19, .len (.t 18), none⟩, ⟨some 20, .bin .sub (.t 19) (.c (.i .i64 1)), none⟩, ⟨some 5, .mv (.t 20), none⟩]) (.block 1 (.loop [(0, 0), (1, 0), (5, 0)] [(4, 0)] b110_0))) (.seq (.reg [] [⟨some 4, .mv (.c (.i .i64 0)), none⟩]) .ret))))
def p110 : PF := ⟨[(.tmp 4, 0)], [], c110⟩
def b111_0 : PC := (.seq (.reg [] [⟨some 23, .bin .lss (.t 22) (.t 21), none⟩]) (.seq (.cond (.t 23) .skip (.exit 0)) (.seq (.block 1 (.seq (.reg [] [⟨some 24, .mv (.t 22), none⟩, ⟨some 25, .idx 1 (.t 20) (.t 22), none⟩, ⟨some 26, .ld false 1 (.t 25), none⟩, ⟨some 8, .mv (.t 24), none⟩, ⟨some 9, .mv (.t 26), none⟩]) (.seq (.reg [] [⟨some 27, .mv (.t 9), none⟩, ⟨some 28, .mv (.t 6), none⟩, ⟨some 29, .bin .shl (.t 27) (.t 28), none⟩, ⟨some 9, .mv (.t 29), none⟩]) (.seq (.reg [] [⟨some 30, .mv (.t 7), none⟩, ⟨some 31, .mv (.t 8), none⟩, ⟨some 32, .mv (.t 5), none⟩, ⟨some 33, .bin .add (.t 31) (.t 32), none⟩, ⟨some 34, .idx 1 (.t 30) (.t 33), none⟩, ⟨some 35, .ld false 1 (.t 34), none⟩, ⟨some 36, .mv (.t 9), none⟩, ⟨some 37, .bin .and (.t 36) (.c (.i .u64 4294967295)), none⟩, ⟨some 38, .bin .or (.t 35) (.t 37), none⟩, ⟨some 39, .idx 1 (.t 30) (.t 33), none⟩, ⟨none, .st 1 (.t 39) (.t 38), none⟩]) (.reg [] [⟨some 40, .mv (.t 7), none⟩, ⟨some 41, .mv (.t 8), none⟩, ⟨some 42, .mv (.t 5), none⟩, ⟨some 43, .bin .add (.t 41) (.t 42), none⟩, ⟨some 44, .bin .add (.t 43) (.c (.i .i64 1)), none⟩, ⟨some 45, .mv (.t 9), none⟩, ⟨some 46, .bin .shr (.t 45) (.c (.i .u64 32)), none⟩, ⟨some 47, .idx 1 (.t 40) (.t 44), none⟩, ⟨none, .st 1 (.t 47) (.t 46), none⟩]))))) (.reg [] [⟨some 48, .bin .add (.t 22) (.c (.i .i64 1)), none⟩, ⟨some 22, .mv (.t 48), none⟩]))))
def c111 : PC := (.seq (.reg [] [⟨some 4, .mv (.c (.ns 1)), none⟩]) (.seq (.reg [] [⟨some 10, .mv (.t 1), none⟩, ⟨some 11, .bin .quo (.t 10) (.c (.i .i64 32)), none⟩, ⟨some 12, .mv (.t 1), none⟩, ⟨some 13, .bin .rem (.t 12) (.c (.i .i64 32)), none⟩, ⟨some 5, .mv (.t 11), none⟩, ⟨some 6, .mv (.t 13), none⟩]) (.seq (.reg [] [⟨some 14, .mv (.t 0), none⟩, ⟨some 15, .len (.t 14), none⟩, ⟨some 16, .mv (.t 5), none⟩, ⟨some 17, .bin .add (.t 15) (.t 16), none⟩, ⟨some 18, .bin .add (.t 17) (.c (.i .i64 1)), none⟩, ⟨some 19, .mk 19 1 8 [.i .u64 0] (.t 18), none⟩, ⟨some 7, .mv (.t 19), none⟩]) (.seq (.seq (.reg [] [⟨some 20, .mv (.t 0), none⟩, ⟨some 21, .len (.t 20), none⟩, ⟨some 22, .mv (.c (.i .i64 0)), none⟩]) (.block 0 (.loop [(7, 1), (5, 0), (6, 0), (20, 0), (21, 0), (22, 0)] [(7, 1)] b111_0))) (.seq (.reg [] [⟨some 49, .mv (.t 7), none⟩, ⟨some 50, .callw 285 [(.t 49)] 0, none⟩, ⟨some 4, .mv (.t 50), none⟩]) .ret)))))
def p111 : PF := ⟨[(.tmp 4, 1)], [], c111⟩
def c112 : PC := (.seq (.reg [] [⟨some 4, .mv (.c (.ns 1)), none⟩, ⟨some 5, .mv (.c (.ns 1)), none⟩]) (.seq (.reg [] [⟨some 10, .mv (.t 0), none⟩, ⟨some 11, .mv (.t 1), none⟩, ⟨some 12, .call 115 [(.t 10), (.t 11)], none⟩, ⟨some 9, .mv (.t 12), none⟩, ⟨some 13, .ext 0 (.t 9), none⟩, ⟨some 14, .ext 1 (.t 9), none⟩, ⟨some 15, .ext 2 (.t 9), none⟩, ⟨some 6, .mv (.t 13), none⟩, ⟨some 7, .mv (.t 14), none⟩, ⟨some 8, .mv (.t 15), none⟩]) (.seq (.reg [] [⟨some 16, .mv (.t 6), none⟩, ⟨some 17, .mv (.t 7), none⟩, ⟨some 4, .mv (.t 16), none⟩, ⟨some 5, .mv (.t 17), none⟩]) .ret)))
def p112 : PF := ⟨[(.tmp 4, 0), (.tmp 5, 0)], [], c112⟩
def b113_0 : PC := (.seq (.reg [] [⟨some 15, .bin .lss (.t 14) (.t 13), none⟩]) (.seq (.cond (.t 15) .skip (.exit 0)) (.seq (.block 1 (.seq (.reg [] [⟨some 16, .mv (.t 14), none⟩, ⟨some 7, .mv (.t 16), none⟩]) (.seq (.reg [] [⟨some 17, .mv (.t 0), none⟩, ⟨some 18, .mv (.t 7), none⟩, ⟨some 19, .idx 1 (.t 17) (.t 18), none⟩, ⟨some 20, .ld false 1 (.t 19), none⟩, ⟨some 21, .bin .add (.c (.i .u64 4294967296)) (.t 20), none⟩, ⟨some 22, .mv (.t 1), none⟩, ⟨some 23, .mv (.t 7), none⟩, ⟨some 24, .call 129 [(.t 22), (.t 23)], none⟩, ⟨some 25, .bin .sub (.t 21) (.t 24), none⟩, ⟨some 26, .mv (.t 6), none⟩, ⟨some 27, .bin .sub (.t 25) (.t 26), none⟩, ⟨some 8, .mv (.t 27), none⟩]) (.seq (.reg [] [⟨some 28, .mv (.t 5), none⟩, ⟨some 29, .mv (.t 7), none⟩, ⟨some 30, .mv (.t 8), none⟩, ⟨some 31, .bin .and (.t 30) (.c (.i .u64 4294967295)), none⟩, ⟨some 32, .idx 1 (.t 28) (.t 29), none⟩, ⟨none, .st 1 (.t 32) (.t 31), none⟩]) (.reg [] [⟨some 33, .mv (.t 8), none⟩, ⟨some 34, .bin .shr (.t 33) (.c (.i .u64 32)), none⟩, ⟨some 35, .bin .sub (.c (.i .u64 1)) (.t 34), none⟩, ⟨some 6, .mv (.t 35), none⟩]))))) (.reg [] [⟨some 36, .bin .add (.t 14) (.c (.i .i64 1)), none⟩, ⟨some 14, .mv (.t 36), none⟩]))))
def c113 : PC := (.seq (.reg [] [⟨some 4, .mv (.c (.ns 1)), none⟩]) (.seq (.reg [] [⟨some 9, .mv (.t 0), none⟩, ⟨some 10, .len (.t 9), none⟩, ⟨some 11, .mk 11 1 8 [.i .u64 0] (.t 10), none⟩, ⟨some 5, .mv (.t 11), none⟩]) (.seq (.reg [] [⟨some 6, .mv (.c (.i .u64 0)), none⟩]) (.seq (.seq (.reg [] [⟨some 12, .mv (.t 5), none⟩, ⟨some 13, .len (.t 12), none⟩, ⟨some 14, .mv (.c (.i .i64 0)), none⟩]) (.block 0 (.loop [(5, 1), (0, 0), (1, 0), (6, 0), (13, 0), (14, 0)] [(5, 0)] b113_0))) (.seq (.reg [] [⟨some 37, .mv (.t 5), none⟩, ⟨some 38, .call 114 [(.t 37)], none⟩, ⟨some 4, .mv (.t 38), none⟩]) .ret)))))
def p113 : PF := ⟨[(.tmp 4, 0)], [], c113⟩
def b114_0 : PC := (.seq (.seq (.join [(0, 0), (3, 0), (15, 0)] (.reg [] [⟨some 6, .mv (.t 3), none⟩, ⟨some 7, .bin .gtr (.t 6) (.c (.i .i64 0)), none⟩, ⟨some 8, .mv (.t 7), none⟩, ⟨some 9, .mv (.t 0), some (8, true)⟩, ⟨some 10, .mv (.t 3), some (8, true)⟩, ⟨some 11, .bin .sub (.t 10) (.c (.i .i64 1)), some (8, true)⟩, ⟨some 12, .idx 1 (.t 9) (.t 11), some (8, true)⟩, ⟨some 13, .ld false 1 (.t 12), some (8, true)⟩, ⟨some 14, .bin .eql (.t 13) (.c (.i .u64 0)), some (8, true)⟩, ⟨some 15, .pick (.t 8) (.t 14) (.c (.b false)), none⟩])) (.cond (.t 15) .skip (.exit 0))) (.block 1 (.reg [] [⟨some 16, .mv (.t 3), none⟩, ⟨some 17, .bin .sub (.t 16) (.c (.i .i64 1)), none⟩, ⟨some 3, .mv (.t 17), none⟩])))
def c114 : PC := (.seq (.reg [] [⟨some 2, .mv (.c (.ns 1)), none⟩]) (.seq (.reg [] [⟨some 4, .mv (.t 0), none⟩, ⟨some 5, .len (.t 4), none⟩, ⟨some 3, .mv (.t 5), none⟩]) (.seq (.block 0 (.loop [(0, 0), (3, 0)] [(0, 0), (3, 0)] b114_0)) (.seq (.seq (.reg [] [⟨some 18, .mv (.t 3), none⟩, ⟨some 19, .bin .eql (.t 18) (.c (.i .i64 0)), none⟩]) (.cond (.t 19) (.seq (.reg [] [⟨some 2, .mv (.c (.ns 1)), none⟩]) .ret) .skip)) (.seq (.reg [] [⟨some 20, .mv (.t 0), none⟩, ⟨some 21, .mv (.t 3), none⟩, ⟨some 22, .cut 1 (.t 20) none (some (.t 21)) none, none⟩, ⟨some 2, .mv (.t 22), none⟩]) .ret)))))
def p114 : PF := ⟨[(.tmp 2, 0)], [], c114⟩
def c115 : PC := (.seq (.reg [] [⟨some 4, .mv (.c (.ns 1)), none⟩, ⟨some 5, .mv (.c (.ns 1)), none⟩, ⟨some 6, .mv (.c (.i .i64 0)), none⟩]) (.seq (.reg [] [⟨some 11, .mv (.t 0), none⟩, ⟨some 12, .call 106 [(.t 11)], none⟩, ⟨some 13, .mv (.t 1), none⟩, ⟨some 14, .call 106 [(.t 13)], none⟩, ⟨some 0, .mv (.t 12), none⟩, ⟨some 1, .mv (.t 14), none⟩]) (.seq (.block 0 (.seq (.reg [] [⟨some 16, .mv (.t 1), none⟩, ⟨some 17, .len (.t 16), none⟩, ⟨some 18, .bin .eql (.t 17) (.c (.i .i64 0)), none⟩, ⟨some 15, .mv (.t 18), none⟩]) (.cond (.t 15) (.seq (.reg [] [⟨some 4, .mv (.c (.ns 1)), none⟩, ⟨some 5, .mv (.c (.ns 1)), none⟩, ⟨some 6, .mv (.c (.i .i64 2)), none⟩]) .ret) (.seq (.reg [] [⟨some 20, .mv (.t 0), none⟩, ⟨some 21, .mv (.t 1), none⟩, ⟨some 22, .call 110 [(.t 20), (.t 21)], none⟩, ⟨some 23, .bin .lss (.t 22) (.c (.i .i64 0)), none⟩, ⟨some 19, .mv (.t 23), none⟩]) (.cond (.t 19) (.seq (.reg [] [⟨some 24, .mv (.t 0), none⟩, ⟨some 4, .mv (.c (.ns 1)), none⟩, ⟨some 5, .mv (.t 24), none⟩, ⟨some 6, .mv (.c (.i .i64 0)), none⟩]) .ret) (.seq (.reg [] [⟨some 26, .mv (.t 1), none⟩, ⟨some 27, .len (.t 26), none⟩, ⟨some 28, .bin .eql (.t 27) (.c (.i .i64 1)), none⟩, ⟨some 25, .mv (.t 28), none⟩]) (.cond (.t 25) (.seq (.reg [] [⟨some 30, .mv (.t 0), none⟩, ⟨some 31, .mv (.t 1), none⟩, ⟨some 32, .idx 1 (.t 31) (.c (.i .i64 0)), none⟩, ⟨some 33, .ld false 1 (.t 32), none⟩, ⟨some 34, .call 130 [(.t 30), (.t 33)], none⟩, ⟨some 29, .mv (.t 34), none⟩, ⟨some 35, .ext 0 (.t 29), none⟩, ⟨some 36, .ext 1 (.t 29), none⟩, ⟨some 7, .mv (.t 35), none⟩, ⟨some 8, .mv (.t 36), none⟩]) (.seq (.reg [] [⟨some 37, .mv (.t 7), none⟩, ⟨some 38, .mv (.t 8), none⟩, ⟨some 39, .call 73 [(.t 38)], none⟩, ⟨some 4, .mv (.t 37), none⟩, ⟨some 5, .mv (.t 39), none⟩, ⟨some 6, .mv (.c (.i .i64 0)), none⟩]) .ret)) .skip))))))) (.seq (.reg [] [⟨some 41, .mv (.t 0), none⟩, ⟨some 42, .mv (.t 1), none⟩, ⟨some 43, .call 131 [(.t 41), (.t 42)], none⟩, ⟨some 40, .mv (.t 43), none⟩, ⟨some 44, .ext 0 (.t 40), none⟩, ⟨some 45, .ext 1 (.t 40), none⟩, ⟨some 9, .mv (.t 44), none⟩, ⟨some 10, .mv (.t 45), none⟩]) (.seq (.reg [] [⟨some 46, .mv (.t 9), none⟩, ⟨some 47, .mv (.t 10), none⟩, ⟨some 4, .mv (.t 46), none⟩, ⟨some 5, .mv (.t 47), none⟩, ⟨some 6, .mv (.c (.i .i64 0)), none⟩]) .ret)))))
def p115 : PF := ⟨[(.tmp 4, 0), (.tmp 5, 0), (.tmp 6, 0)], [], c115⟩
end Go.Pe
set_option linter.unusedVariables false
namespace Go.Pe
def b116_0 : PC := (.seq (.reg [] [⟨some 22, .bin .lss (.t 21) (.t 20), none⟩]) (.seq (.cond (.t 22) .skip (.exit 0)) (.seq (.block 1 (.seq (.reg [] [⟨some 23, .mv (.t 21), none⟩, ⟨some 7, .mv (.t 23), none⟩]) (.seq (.reg [] [⟨some 24, .mv (.t 6), none⟩, ⟨some 25, .mv (.t 0), none⟩, ⟨some 26, .mv (.t 7), none⟩, ⟨some 27, .call 129 [(.t 25), (.t 26)], none⟩, ⟨some 28, .mv (.t 1), none⟩, ⟨some 29, .mv (.t 7), none⟩, ⟨some 30, .call 129 [(.t 28), (.t 29)], none⟩, ⟨some 31, .bin .add (.t 27) (.t 30), none⟩, ⟨some 32, .bin .add (.t 24) (.t 31), none⟩, ⟨some 6, .mv (.t 32), none⟩]) (.seq (.reg [] [⟨some 33, .mv (.t 5), none⟩, ⟨some 34, .mv (.t 7), none⟩, ⟨some 35, .mv (.t 6), none⟩, ⟨some 36, .bin .and (.t 35) (.c (.i .u64 4294967295)), none⟩, ⟨some 37, .idx 1 (.t 33) (.t 34), none⟩, ⟨none, .st 1 (.t 37) (.t 36), none⟩]) (.reg [] [⟨some 38, .mv (.t 6), none⟩, ⟨some 39, .bin .shr (.t 38) (.c (.i .u64 32)), none⟩, ⟨some 6, .mv (.t 39), none⟩]))))) (.reg [] [⟨some 40, .bin .add (.t 21) (.c (.i .i64 1)), none⟩, ⟨some 21, .mv (.t 40), none⟩]))))
def c116 : PC := (.seq (.reg [] [⟨some 4, .mv (.c (.ns 1)), none⟩]) (.seq (.reg [] [⟨some 8, .mv (.t 0), none⟩, ⟨some 9, .call 106 [(.t 8)], none⟩, ⟨some 10, .mv (.t 1), none⟩, ⟨some 11, .call 106 [(.t 10)], none⟩, ⟨some 0, .mv (.t 9), none⟩, ⟨some 1, .mv (.t 11), none⟩]) (.seq (.reg [] [⟨some 12, .mv (.t 0), none⟩, ⟨some 13, .len (.t 12), none⟩, ⟨some 14, .mv (.t 1), none⟩, ⟨some 15, .len (.t 14), none⟩, ⟨some 16, .max (.t 13) (.t 15), none⟩, ⟨some 17, .bin .add (.t 16) (.c (.i .i64 1)), none⟩, ⟨some 18, .mk 18 1 8 [.i .u64 0] (.t 17), none⟩, ⟨some 5, .mv (.t 18), none⟩]) (.seq (.reg [] [⟨some 6, .mv (.c (.i .u64 0)), none⟩]) (.seq (.seq (.reg [] [⟨some 19, .mv (.t 5), none⟩, ⟨some 20, .len (.t 19), none⟩, ⟨some 21, .mv (.c (.i .i64 0)), none⟩]) (.block 0 (.loop [(5, 1), (0, 0), (1, 0), (6, 0), (20, 0), (21, 0)] [(5, 0)] b116_0))) (.seq (.reg [] [⟨some 41, .mv (.t 5), none⟩, ⟨some 42, .call 114 [(.t 41)], none⟩, ⟨some 4, .mv (.t 42), none⟩]) .ret))))))
def p116 : PF := ⟨[(.tmp 4, 0)], [], c116⟩
def c117 : PC := (.seq (.reg [] [⟨some 4, .mv (.c (.ns 1)), none⟩, ⟨some 5, .mv (.c (.i .i64 0)), none⟩]) (.seq (.reg [] [⟨some 6, .mv (.t 0), none⟩, ⟨some 7, .call 106 [(.t 6)], none⟩, ⟨some 8, .mv (.t 1), none⟩, ⟨some 9, .call 106 [(.t 8)], none⟩, ⟨some 0, .mv (.t 7), none⟩, ⟨some 1, .mv (.t 9), none⟩]) (.seq (.seq (.reg [] [⟨some 10, .mv (.t 0), none⟩, ⟨some 11, .mv (.t 1), none⟩, ⟨some 12, .call 110 [(.t 10), (.t 11)], none⟩, ⟨some 13, .bin .lss (.t 12) (.c (.i .i64 0)), none⟩]) (.cond (.t 13) (.seq (.reg [] [⟨some 4, .mv (.c (.ns 1)), none⟩, ⟨some 5, .mv (.c (.i .i64 3)), none⟩]) .ret) .skip)) (.seq (.reg [] [⟨some 14, .mv (.t 0), none⟩, ⟨some 15, .mv (.t 1), none⟩, ⟨some 16, .call 113 [(.t 14), (.t 15)], none⟩, ⟨some 4, .mv (.t 16), none⟩, ⟨some 5, .mv (.c (.i .i64 0)), none⟩]) .ret))))
def p117 : PF := ⟨[(.tmp 4, 0), (.tmp 5, 0)], [], c117⟩
def c122 : PC := (.seq (.reg [] [⟨some 2, .box 2 2 (.t 0), none⟩, ⟨some 3, .box 3 2 (.t 1), none⟩, ⟨some 4, .alloc 4 [.b false, .ns 1, .ns 1], none⟩, ⟨some 5, .mv (.c (.i .i64 0)), none⟩]) (.seq (.reg [] [⟨some 6, .ld true 2 (.t 2), none⟩, ⟨some 7, .call 81 [(.t 6)], none⟩, ⟨some 8, .ld true 2 (.t 3), none⟩, ⟨some 9, .call 81 [(.t 8)], none⟩, ⟨none, .st 2 (.t 2) (.t 7), none⟩, ⟨none, .st 2 (.t 3) (.t 9), none⟩]) (.seq (.seq (.reg [] [⟨some 10, .ld true 2 (.t 3), none⟩, ⟨some 11, .call 83 [(.t 10)], none⟩, ⟨some 12, .bin .eql (.t 11) (.c (.i .i64 0)), none⟩]) (.cond (.t 12) (.seq (.reg [] [⟨some 13, .build [.b false, .ns 1, .ns 1] [], none⟩, ⟨none, .st 3 (.t 4) (.t 13), none⟩, ⟨some 5, .mv (.c (.i .i64 2)), none⟩]) .ret) .skip)) (.seq (.seq (.reg [] [⟨some 14, .fld 0 (.t 3), none⟩, ⟨some 15, .ld false 1 (.t 14), none⟩]) (.join [(4, 1), (2, 0), (3, 0)] (.cond (.t 15) (.reg [] [⟨some 16, .ld true 2 (.t 2), none⟩, ⟨some 17, .call 86 [(.t 16)], none⟩, ⟨none, .st 2 (.t 2) (.t 17), none⟩]) .skip))) (.seq (.reg [] [⟨some 18, .ld true 2 (.t 2), none⟩, ⟨some 19, .fld 1 (.t 3), none⟩, ⟨some 20, .ld false 1 (.t 19), none⟩, ⟨some 21, .call 75 [(.t 18), (.t 20)], none⟩, ⟨none, .st 3 (.t 4) (.t 21), none⟩, ⟨some 5, .mv (.c (.i .i64 0)), none⟩]) .ret)))))
def p122 : PF := ⟨[(.cell 4 true 3, 0), (.tmp 5, 0)], [], c122⟩
def c127 : PC := (.seq (.reg [] [⟨some 2, .mv (.c (.i .u64 0)), none⟩, ⟨some 3, .mv (.c (.b false)), none⟩]) (.seq (.reg [] [⟨some 4, .mv (.t 0), none⟩, ⟨some 5, .call 106 [(.t 4)], none⟩, ⟨some 0, .mv (.t 5), none⟩]) (.seq (.seq (.reg [] [⟨some 6, .mv (.t 0), none⟩, ⟨some 7, .len (.t 6), none⟩]) (.block 0 (.seq (.reg [] [⟨some 9, .bin .eql (.t 7) (.c (.i .i64 0)), none⟩, ⟨some 8, .mv (.t 9), none⟩]) (.cond (.t 8) (.seq (.reg [] [⟨some 2, .mv (.c (.i .u64 0)), none⟩, ⟨some 3, .mv (.c (.b true)), none⟩]) .ret) (.seq (.reg [] [⟨some 11, .bin .eql (.t 7) (.c (.i .i64 1)), none⟩, ⟨some 10, .mv (.t 11), none⟩]) (.cond (.t 10) (.seq (.reg [] [⟨some 12, .mv (.t 0), none⟩, ⟨some 13, .idx 1 (.t 12) (.c (.i .i64 0)), none⟩, ⟨some 14, .ld false 1 (.t 13), none⟩, ⟨some 2, .mv (.t 14), none⟩, ⟨some 3, .mv (.c (.b true)), none⟩]) .ret) (.seq (.reg [] [⟨some 16, .bin .eql (.t 7) (.c (.i .i64 2)), none⟩, ⟨some 15, .mv (.t 16), none⟩]) (.cond (.t 15) (.seq (.reg [] [⟨some 17, .mv (.t 0), none⟩, ⟨some 18, .idx 1 (.t 17) (.c (.i .i64 1)), none⟩, ⟨some 19, .ld false 1 (.t 18), none⟩, ⟨some 20, .bin .shl (.t 19) (.c (.i .u64 32)), none⟩, ⟨some 21, .mv (.t 0), none⟩, ⟨some 22, .idx 1 (.t 21) (.c (.i .i64 0)), none⟩, ⟨some 23, .ld false 1 (.t 22), none⟩, ⟨some 24, .bin .or (.t 20) (.t 23), none⟩, ⟨some 2, .mv (.t 24), none⟩, ⟨some 3, .mv (.c (.b true)), none⟩]) .ret) .skip)))))))) (.seq (.reg [] [⟨some 2, .mv (.c (.i .u64 0)), none⟩, ⟨some 3, .mv (.c (.b false)), none⟩]) .ret))))
def p127 : PF := ⟨[(.tmp 2, 0), (.tmp 3, 0)], [], c127⟩
def c128 : PC := (.seq (.reg [] [⟨some 2, .mv (.c (.i .i64 0)), none⟩]) (.seq (.seq (.reg [] [⟨some 3, .mv (.t 0), none⟩, ⟨some 4, .bin .eql (.t 3) (.c (.i .u64 0)), none⟩]) (.cond (.t 4) (.seq (.reg [] [⟨some 2, .mv (.c (.i .i64 64)), none⟩]) .ret) .skip)) (.seq (.reg [] [⟨some 5, .mv (.t 0), none⟩, ⟨some 6, .mv (.t 0), none⟩, ⟨some 7, .neg (.t 6), none⟩, ⟨some 8, .bin .and (.t 5) (.t 7), none⟩, ⟨some 9, .bin .mul (.t 8) (.c (.i .u64 285870213051353865)), none⟩, ⟨some 10, .bin .shr (.t 9) (.c (.i .u64 58)), none⟩, ⟨some 11, .idxa 64 1 (.c (.tp tab0 0)) (.t 10), none⟩, ⟨some 12, .ld false 1 (.t 11), none⟩, ⟨some 13, .conv .i64 (.t 12), none⟩, ⟨some 2, .mv (.t 13), none⟩]) .ret)))
def p128 : PF := ⟨[(.tmp 2, 0)], [], c128⟩
def c129 : PC := (.seq (.reg [] [⟨some 4, .mv (.c (.i .u64 0)), none⟩]) (.seq (.seq (.reg [] [⟨some 5, .mv (.t 1), none⟩, ⟨some 6, .mv (.t 0), none⟩, ⟨some 7, .len (.t 6), none⟩, ⟨some 8, .bin .lss (.t 5) (.t 7), none⟩]) (.cond (.t 8) (.seq (.reg [] [⟨some 9, .mv (.t 0), none⟩, ⟨some 10, .mv (.t 1), none⟩, ⟨some 11, .idx 1 (.t 9) (.t 10), none⟩, ⟨some 12, .ld false 1 (.t 11), none⟩, ⟨some 4, .mv (.t 12), none⟩]) .ret) .skip)) (.seq (.reg [] [⟨some 4, .mv (.c (.i .u64 0)), none⟩]) .ret)))
def p129 : PF := ⟨[(.tmp 4, 0)], [], c129⟩
def b130_0 : PC := (.seq (.seq (.reg [] [⟨some 15, .mv (.t 8), none⟩, ⟨some 16, .bin .geq (.t 15) (.c (.i .i64 0)), none⟩]) (.cond (.t 16) .skip (.exit 0))) (.seq (.block 1 (.seq (.reg [] [⟨some 19, .mv (.t 7), none⟩, ⟨some 20, .bin .shl (.t 19) (.c (.i .u64 32)), none⟩, ⟨some 21, .mv (.t 0), none⟩, ⟨some 22, .mv (.t 8), none⟩, ⟨some 23, .idx 1 (.t 21) (.t 22), none⟩, ⟨some 24, .ld false 1 (.t 23), none⟩, ⟨some 25, .bin .or (.t 20) (.t 24), none⟩, ⟨some 7, .mv (.t 25), none⟩]) (.seq (.reg [] [⟨some 26, .mv (.t 6), none⟩, ⟨some 27, .mv (.t 8), none⟩, ⟨some 28, .mv (.t 7), none⟩, ⟨some 29, .mv (.t 1), none⟩, ⟨some 30, .bin .quo (.t 28) (.t 29), none⟩, ⟨some 31, .idx 1 (.t 26) (.t 27), none⟩, ⟨none, .st 1 (.t 31) (.t 30), none⟩]) (.reg [] [⟨some 32, .mv (.t 7), none⟩, ⟨some 33, .mv (.t 1), none⟩, ⟨some 34, .bin .rem (.t 32) (.t 33), none⟩, ⟨some 7, .mv (.t 34), none⟩])))) (.reg [] [⟨some 17, .mv (.t 8), none⟩, ⟨some 18, .bin .sub (.t 17) (.c (.i .i64 1)), none⟩, ⟨some 8, .mv (.t 18), none⟩])))
def c130 : PC := (.seq (.reg [] [⟨some 4, .mv (.c (.ns 1)), none⟩, ⟨some 5, .mv (.c (.i .u64 0)), none⟩]) (.seq (.reg [] [⟨some 9, .mv (.t 0), none⟩, ⟨some 10, .len (.t 9), none⟩, ⟨some 11, .mk 11 1 8 [.i .u64 0] (.t 10), none⟩, ⟨some 6, .mv (.t 11), none⟩]) (.seq (.reg [] [⟨some 7, .mv (.c (.i .u64 0)), none⟩]) (.seq (.seq (.reg [] [⟨some 12, .mv (.t 0), none⟩, ⟨some 13, .len (.t 12), none⟩, ⟨some 14, .bin .sub (.t 13) (.c (.i .i64 1)), none⟩, ⟨some 8, .mv (.t 14), none⟩]) (.block 0 (.loop [(6, 1), (0, 0), (1, 0), (7, 0), (8, 0)] [(6, 0), (7, 0)] b130_0))) (.seq (.reg [] [⟨some 35, .mv (.t 6), none⟩, ⟨some 36, .call 114 [(.t 35)], none⟩, ⟨some 37, .mv (.t 7), none⟩, ⟨some 4, .mv (.t 36), none⟩, ⟨some 5, .mv (.t 37), none⟩]) .ret)))))
def p130 : PF := ⟨[(.tmp 4, 0), (.tmp 5, 0)], [], c130⟩
def b131_0 : PC := (.seq (.seq (.reg [] [⟨some 42, .mv (.t 11), none⟩, ⟨some 43, .bin .geq (.t 42) (.c (.i .i64 0)), none⟩]) (.cond (.t 43) .skip (.exit 0))) (.seq (.block 1 (.reg [] [⟨some 46, .mv (.t 10), none⟩, ⟨some 47, .mv (.t 11), none⟩, ⟨some 48, .mv (.t 8), none⟩, ⟨some 49, .mv (.t 11), none⟩, ⟨some 50, .mv (.t 11), none⟩, ⟨some 51, .mv (.t 9), none⟩, ⟨some 52, .bin .add (.t 50) (.t 51), none⟩, ⟨some 53, .bin .add (.t 52) (.c (.i .i64 1)), none⟩, ⟨some 54, .cut 1 (.t 48) (some (.t 49)) (some (.t 53)) none, none⟩, ⟨some 55, .mv (.t 7), none⟩, ⟨some 56, .callw 138 [(.t 54), (.t 55)] 0, none⟩, ⟨some 57, .idx 1 (.t 46) (.t 47), none⟩, ⟨none, .st 1 (.t 57) (.t 56), none⟩])) (.reg [] [⟨some 44, .mv (.t 11), none⟩, ⟨some 45, .bin .sub (.t 44) (.c (.i .i64 1)), none⟩, ⟨some 11, .mv (.t 45), none⟩])))
def c131 : PC := (.seq (.reg [] [⟨some 4, .mv (.c (.ns 1)), none⟩, ⟨some 5, .mv (.c (.ns 1)), none⟩]) (.seq (.reg [] [⟨some 12, .mv (.t 1), none⟩, ⟨some 13, .mv (.t 1), none⟩, ⟨some 14, .len (.t 13), none⟩, ⟨some 15, .bin .sub (.t 14) (.c (.i .i64 1)), none⟩, ⟨some 16, .idx 1 (.t 12) (.t 15), none⟩, ⟨some 17, .ld false 1 (.t 16), none⟩, ⟨some 18, .conv .u32 (.t 17), none⟩, ⟨some 19, .call 137 [(.t 18)], none⟩, ⟨some 6, .mv (.t 19), none⟩]) (.seq (.reg [] [⟨some 20, .mv (.t 1), none⟩, ⟨some 21, .mv (.t 6), none⟩, ⟨some 22, .callo 111 [(.t 20), (.t 21)] 22, none⟩, ⟨some 7, .mv (.t 22), none⟩]) (.seq (.reg [] [⟨some 23, .mv (.t 0), none⟩, ⟨some 24, .mv (.t 6), none⟩, ⟨some 25, .callo 111 [(.t 23), (.t 24)] 25, none⟩, ⟨some 26, .bsl 26 1 [.i .u64 0] 2 [(0, (.c (.i .u64 0))), (1, (.c (.i .u64 0)))], none⟩, ⟨some 27, .app 27 1 8 (.t 25) (.t 26), none⟩, ⟨some 28, .mv (.t 0), none⟩, ⟨some 29, .len (.t 28), none⟩, ⟨some 30, .bin .add (.t 29) (.c (.i .i64 1)), none⟩, ⟨some 31, .cut 1 (.t 27) none (some (.t 30)) none, none⟩, ⟨some 8, .mv (.t 31), none⟩]) (.seq (.reg [] [⟨some 32, .mv (.t 7), none⟩, ⟨some 33, .len (.t 32), none⟩, ⟨some 9, .mv (.t 33), none⟩]) (.seq (.reg [] [⟨some 34, .mv (.t 8), none⟩, ⟨some 35, .len (.t 34), none⟩, ⟨some 36, .mv (.t 9), none⟩, ⟨some 37, .bin .sub (.t 35) (.t 36), none⟩, ⟨some 38, .mk 38 1 8 [.i .u64 0] (.t 37), none⟩, ⟨some 10, .mv (.t 38), none⟩]) (.seq (.seq (.reg [] [⟨some 39, .mv (.t 10), none⟩, ⟨some 40, .len (.t 39), none⟩, ⟨some 41, .bin .sub (.t 40) (.c (.i .i64 1)), none⟩, ⟨some 11, .mv (.t 41), none⟩]) (.block 0 (.loop [(8, 1), (10, 1), (6, 0), (7, 0), (9, 0), (11, 0)] [(6, 0), (8, 0), (10, 0)] b131_0))) (.seq (.reg [] [⟨some 58, .mv (.t 10), none⟩, ⟨some 59, .call 114 [(.t 58)], none⟩, ⟨some 60, .mv (.t 8), none⟩, ⟨some 61, .call 114 [(.t 60)], none⟩, ⟨some 62, .mv (.t 6), none⟩, ⟨some 63, .call 109 [(.t 61), (.t 62)], none⟩, ⟨some 4, .mv (.t 59), none⟩, ⟨some 5, .mv (.t 63), none⟩]) .ret))))))))
def p131 : PF := ⟨[(.tmp 4, 0), (.tmp 5, 0)], [], c131⟩
def c137 : PC := (.seq (.reg [] [⟨some 2, .mv (.c (.i .i64 0)), none⟩]) (.seq (.reg [] [⟨some 3, .mv (.t 0), none⟩, ⟨some 4, .call 139 [(.t 3)], none⟩, ⟨some 5, .bin .sub (.c (.i .i64 32)) (.t 4), none⟩, ⟨some 2, .mv (.t 5), none⟩]) .ret))
def p137 : PF := ⟨[(.tmp 2, 0)], [], c137⟩
def b138_0 : PC := (.seq (.seq (.join [(200000, 2), (0, 1), (1, 0), (5, 0), (7, 0), (8, 0), (55, 0)] (.reg [] [⟨some 36, .mv (.t 7), none⟩, ⟨some 37, .bin .geq (.t 36) (.c (.i .u64 4294967296)), none⟩, ⟨some 38, .mv (.t 37), none⟩, ⟨some 39, .mv (.t 7), some (38, false)⟩, ⟨some 40, .mv (.t 1), some (38, false)⟩, ⟨some 41, .mv (.t 5), some (38, false)⟩, ⟨some 42, .bin .sub (.t 41) (.c (.i .i64 2)), some (38, false)⟩, ⟨some 43, .idx 1 (.t 40) (.t 42), some (38, false)⟩, ⟨some 44, .ld false 1 (.t 43), some (38, false)⟩, ⟨some 45, .bin .mul (.t 39) (.t 44), some (38, false)⟩, ⟨some 46, .mv (.t 8), some (38, false)⟩, ⟨some 47, .bin .shl (.t 46) (.c (.i .u64 32)), some (38, false)⟩, ⟨some 48, .mv (.t 0), some (38, false)⟩, ⟨some 49, .mv (.t 5), some (38, false)⟩, ⟨some 50, .bin .sub (.t 49) (.c (.i .i64 2)), some (38, false)⟩, ⟨some 51, .idx 1 (.t 48) (.t 50), some (38, false)⟩, ⟨some 52, .ld false 1 (.t 51), some (38, false)⟩, ⟨some 53, .bin .or (.t 47) (.t 52), some (38, false)⟩, ⟨some 54, .bin .gtr (.t 45) (.t 53), some (38, false)⟩, ⟨some 55, .pick (.t 38) (.c (.b true)) (.t 54), none⟩])) (.cond (.t 55) .skip (.exit 0))) (.block 1 (.seq (.reg [] [⟨some 56, .mv (.t 7), none⟩, ⟨some 57, .bin .sub (.t 56) (.c (.i .u64 1)), none⟩, ⟨some 7, .mv (.t 57), none⟩]) (.seq (.reg [] [⟨some 58, .mv (.t 8), none⟩, ⟨some 59, .mv (.t 1), none⟩, ⟨some 60, .mv (.t 5), none⟩, ⟨some 61, .bin .sub (.t 60) (.c (.i .i64 1)), none⟩, ⟨some 62, .idx 1 (.t 59) (.t 61), none⟩, ⟨some 63, .ld false 1 (.t 62), none⟩, ⟨some 64, .bin .add (.t 58) (.t 63), none⟩, ⟨some 8, .mv (.t 64), none⟩]) (.seq (.reg [] [⟨some 65, .mv (.t 8), none⟩, ⟨some 66, .bin .geq (.t 65) (.c (.i .u64 4294967296)), none⟩]) (.cond (.t 66) (.exit 0) .skip))))))
def c138 : PC := (.seq (.reg [] [⟨some 4, .mv (.c (.i .u64 0)), none⟩]) (.seq (.reg [] [⟨some 9, .mv (.t 1), none⟩, ⟨some 10, .len (.t 9), none⟩, ⟨some 5, .mv (.t 10), none⟩]) (.seq (.reg [] [⟨some 11, .mv (.t 0), none⟩, ⟨some 12, .mv (.t 5), none⟩, ⟨some 13, .idx 1 (.t 11) (.t 12), none⟩, ⟨some 14, .ld false 1 (.t 13), none⟩, ⟨some 15, .bin .shl (.t 14) (.c (.i .u64 32)), none⟩, ⟨some 16, .mv (.t 0), none⟩, ⟨some 17, .mv (.t 5), none⟩, ⟨some 18, .bin .sub (.t 17) (.c (.i .i64 1)), none⟩, ⟨some 19, .idx 1 (.t 16) (.t 18), none⟩, ⟨some 20, .ld false 1 (.t 19), none⟩, ⟨some 21, .bin .or (.t 15) (.t 20), none⟩, ⟨some 6, .mv (.t 21), none⟩]) (.seq (.reg [] [⟨some 22, .mv (.t 6), none⟩, ⟨some 23, .mv (.t 1), none⟩, ⟨some 24, .mv (.t 5), none⟩, ⟨some 25, .bin .sub (.t 24) (.c (.i .i64 1)), none⟩, ⟨some 26, .idx 1 (.t 23) (.t 25), none⟩, ⟨some 27, .ld false 1 (.t 26), none⟩, ⟨some 28, .bin .quo (.t 22) (.t 27), none⟩, ⟨some 29, .mv (.t 6), none⟩, ⟨some 30, .mv (.t 1), none⟩, ⟨some 31, .mv (.t 5), none⟩, ⟨some 32, .bin .sub (.t 31) (.c (.i .i64 1)), none⟩, ⟨some 33, .idx 1 (.t 30) (.t 32), none⟩, ⟨some 34, .ld false 1 (.t 33), none⟩, ⟨some 35, .bin .rem (.t 29) (.t 34), none⟩, ⟨some 7, .mv (.t 28), none⟩, ⟨some 8, .mv (.t 35), none⟩]) (.seq (.block 0 (.loop [(200000, 2), (0, 1), (1, 0), (5, 0), (7, 0), (8, 0)] [(200000, 2), (0, 1), (1, 0), (7, 0)] b138_0)) (.seq (.seq (.reg [] [⟨some 67, .mv (.t 0), none⟩, ⟨some 68, .mv (.t 1), none⟩, ⟨some 69, .mv (.t 7), none⟩, ⟨some 70, .callw 140 [(.t 67), (.t 68), (.t 69)] 0, none⟩]) (.join [(200000, 2), (0, 1), (7, 0)] (.cond (.t 70) (.seq (.reg [] [⟨some 71, .mv (.t 7), none⟩, ⟨some 72, .bin .sub (.t 71) (.c (.i .u64 1)), none⟩, ⟨some 7, .mv (.t 72), none⟩]) (.reg [] [⟨some 73, .mv (.t 0), none⟩, ⟨some 74, .mv (.t 1), none⟩, ⟨some 75, .callw 141 [(.t 73), (.t 74)] 0, none⟩])) .skip))) (.seq (.reg [] [⟨some 76, .mv (.t 7), none⟩, ⟨some 4, .mv (.t 76), none⟩]) .ret)))))))
def p138 : PF := ⟨[(.tmp 4, 0)], [0], c138⟩
def c139 : PC := (.seq (.reg [] [⟨some 2, .mv (.c (.i .i64 0)), none⟩]) (.seq (.seq (.reg [] [⟨some 3, .mv (.t 0), none⟩, ⟨some 4, .bin .geq (.t 3) (.c (.i .u32 65536)), none⟩]) (.join [(0, 0), (2, 0)] (.cond (.t 4) (.seq (.reg [] [⟨some 5, .mv (.t 0), none⟩, ⟨some 6, .bin .shr (.t 5) (.c (.i .u64 16)), none⟩, ⟨some 0, .mv (.t 6), none⟩]) (.reg [] [⟨some 2, .mv (.c (.i .i64 16)), none⟩])) .skip))) (.seq (.seq (.reg [] [⟨some 7, .mv (.t 0), none⟩, ⟨some 8, .bin .geq (.t 7) (.c (.i .u32 256)), none⟩]) (.join [(0, 0), (2, 0)] (.cond (.t 8) (.seq (.reg [] [⟨some 9, .mv (.t 0), none⟩, ⟨some 10, .bin .shr (.t 9) (.c (.i .u64 8)), none⟩, ⟨some 0, .mv (.t 10), none⟩]) (.reg [] [⟨some 11, .mv (.t 2), none⟩, ⟨some 12, .bin .add (.t 11) (.c (.i .i64 8)), none⟩, ⟨some 2, .mv (.t 12), none⟩])) .skip))) (.seq (.reg [] [⟨some 13, .mv (.t 2), none⟩, ⟨some 14, .mv (.t 0), none⟩, ⟨some 15, .conv .u8 (.t 14), none⟩, ⟨some 16, .sidx (.c (.s len8)) (.t 15), none⟩, ⟨some 17, .conv .i64 (.t 16), none⟩, ⟨some 18, .bin .add (.t 13) (.t 17), none⟩, ⟨some 2, .mv (.t 18), none⟩]) .ret))))
def p139 : PF := ⟨[(.tmp 2, 0)], [], c139⟩
def b140_0 : PC := (.seq (.reg [] [⟨some 14, .bin .lss (.t 13) (.t 12), none⟩]) (.seq (.cond (.t 14) .skip (.exit 0)) (.seq (.block 1 (.seq (.reg [] [⟨some 15, .mv (.t 13), none⟩, ⟨some 9, .mv (.t 15), none⟩]) (.seq (.reg [] [⟨some 16, .mv (.t 7), none⟩, ⟨some 17, .mv (.t 2), none⟩, ⟨some 18, .mv (.t 1), none⟩, ⟨some 19, .mv (.t 9), none⟩, ⟨some 20, .call 129 [(.t 18), (.t 19)], none⟩, ⟨some 21, .bin .mul (.t 17) (.t 20), none⟩, ⟨some 22, .bin .add (.t 16) (.t 21), none⟩, ⟨some 7, .mv (.t 22), none⟩]) (.seq (.reg [] [⟨some 23, .mv (.t 0), none⟩, ⟨some 24, .mv (.t 9), none⟩, ⟨some 25, .idx 1 (.t 23) (.t 24), none⟩, ⟨some 26, .ld false 1 (.t 25), none⟩, ⟨some 27, .bin .add (.c (.i .u64 4294967296)) (.t 26), none⟩, ⟨some 28, .mv (.t 7), none⟩, ⟨some 29, .bin .and (.t 28) (.c (.i .u64 4294967295)), none⟩, ⟨some 30, .bin .sub (.t 27) (.t 29), none⟩, ⟨some 31, .mv (.t 8), none⟩, ⟨some 32, .bin .sub (.t 30) (.t 31), none⟩, ⟨some 10, .mv (.t 32), none⟩]) (.seq (.reg [] [⟨some 33, .mv (.t 0), none⟩, ⟨some 34, .mv (.t 9), none⟩, ⟨some 35, .mv (.t 10), none⟩, ⟨some 36, .bin .and (.t 35) (.c (.i .u64 4294967295)), none⟩, ⟨some 37, .idx 1 (.t 33) (.t 34), none⟩, ⟨none, .st 1 (.t 37) (.t 36), none⟩]) (.seq (.reg [] [⟨some 38, .mv (.t 10), none⟩, ⟨some 39, .bin .shr (.t 38) (.c (.i .u64 32)), none⟩, ⟨some 40, .bin .sub (.c (.i .u64 1)) (.t 39), none⟩, ⟨some 8, .mv (.t 40), none⟩]) (.reg [] [⟨some 41, .mv (.t 7), none⟩, ⟨some 42, .bin .shr (.t 41) (.c (.i .u64 32)), none⟩, ⟨some 7, .mv (.t 42), none⟩]))))))) (.reg [] [⟨some 43, .bin .add (.t 13) (.c (.i .i64 1)), none⟩, ⟨some 13, .mv (.t 43), none⟩]))))
def c140 : PC := (.seq (.reg [] [⟨some 6, .mv (.c (.b false)), none⟩]) (.seq (.reg [] [⟨some 7, .mv (.c (.i .u64 0)), none⟩, ⟨some 8, .mv (.c (.i .u64 0)), none⟩]) (.seq (.seq (.reg [] [⟨some 11, .mv (.t 0), none⟩, ⟨some 12, .len (.t 11), none⟩, ⟨some 13, .mv (.c (.i .i64 0)), none⟩]) (.block 0 (.loop [(200000, 2), (0, 1), (1, 0), (2, 0), (7, 0), (8, 0), (12, 0), (13, 0)] [(200000, 2), (0, 1), (8, 0)] b140_0))) (.seq (.reg [] [⟨some 44, .mv (.t 8), none⟩, ⟨some 45, .bin .eql (.t 44) (.c (.i .u64 1)), none⟩, ⟨some 6, .mv (.t 45), none⟩]) .ret))))
def p140 : PF := ⟨[(.tmp 6, 0)], [0], c140⟩
def b141_0 : PC := (.seq (.reg [] [⟨some 9, .bin .lss (.t 8) (.t 7), none⟩]) (.seq (.cond (.t 9) .skip (.exit 0)) (.seq (.block 1 (.seq (.reg [] [⟨some 10, .mv (.t 8), none⟩, ⟨some 5, .mv (.t 10), none⟩]) (.seq (.reg [] [⟨some 11, .mv (.t 4), none⟩, ⟨some 12, .mv (.t 0), none⟩, ⟨some 13, .mv (.t 5), none⟩, ⟨some 14, .idx 1 (.t 12) (.t 13), none⟩, ⟨some 15, .ld false 1 (.t 14), none⟩, ⟨some 16, .mv (.t 1), none⟩, ⟨some 17, .mv (.t 5), none⟩, ⟨some 18, .call 129 [(.t 16), (.t 17)], none⟩, ⟨some 19, .bin .add (.t 15) (.t 18), none⟩, ⟨some 20, .bin .add (.t 11) (.t 19), none⟩, ⟨some 4, .mv (.t 20), none⟩]) (.seq (.reg [] [⟨some 21, .mv (.t 0), none⟩, ⟨some 22, .mv (.t 5), none⟩, ⟨some 23, .mv (.t 4), none⟩, ⟨some 24, .bin .and (.t 23) (.c (.i .u64 4294967295)), none⟩, ⟨some 25, .idx 1 (.t 21) (.t 22), none⟩, ⟨none, .st 1 (.t 25) (.t 24), none⟩]) (.reg [] [⟨some 26, .mv (.t 4), none⟩, ⟨some 27, .bin .shr (.t 26) (.c (.i .u64 32)), none⟩, ⟨some 4, .mv (.t 27), none⟩]))))) (.reg [] [⟨some 28, .bin .add (.t 8) (.c (.i .i64 1)), none⟩, ⟨some 8, .mv (.t 28), none⟩]))))
def c141 : PC := (.seq (.reg [] [⟨some 4, .mv (.c (.i .u64 0)), none⟩]) (.seq (.reg [] [⟨some 6, .mv (.t 0), none⟩, ⟨some 7, .len (.t 6), none⟩, ⟨some 8, .mv (.c (.i .i64 0)), none⟩]) (.block 0 (.loop [(200000, 2), (0, 1), (1, 0), (4, 0), (7, 0), (8, 0)] [(200000, 2), (0, 1)] b141_0))))
def p141 : PF := ⟨[], [0], c141⟩
def c146 : PC := (.seq (.reg [] [⟨some 6, .mv (.c (.b false)), none⟩]) (.seq (.reg [] [⟨some 17, .mv (.t 2), none⟩, ⟨some 18, .call 160 [(.t 17), (.c (.i .i64 4))], none⟩, ⟨some 2, .mv (.t 18), none⟩]) (.seq (.reg [] [⟨some 19, .mv (.t 0), none⟩, ⟨some 20, .call 160 [(.t 19), (.c (.i .i64 4))], none⟩, ⟨some 21, .mv (.t 2), none⟩, ⟨some 22, .call 164 [(.t 20), (.t 21)], none⟩, ⟨some 0, .mv (.t 22), none⟩]) (.seq (.reg [] [⟨some 23, .mv (.t 1), none⟩, ⟨some 24, .call 160 [(.t 23), (.c (.i .i64 4))], none⟩, ⟨some 25, .mv (.t 2), none⟩, ⟨some 26, .call 164 [(.t 24), (.t 25)], none⟩, ⟨some 1, .mv (.t 26), none⟩]) (.seq (.reg [] [⟨some 27, .mv (.t 0), none⟩, ⟨some 28, .mv (.t 1), none⟩, ⟨some 29, .call 175 [(.t 27), (.t 28)], none⟩, ⟨some 7, .mv (.t 29), none⟩]) (.seq (.seq (.reg [] [⟨some 30, .mv (.t 0), none⟩, ⟨some 31, .len (.t 30), none⟩, ⟨some 32, .mv (.t 1), none⟩, ⟨some 33, .len (.t 32), none⟩, ⟨some 34, .bin .add (.t 31) (.t 33), none⟩, ⟨some 35, .bin .eql (.t 34) (.c (.i .i64 0)), none⟩]) (.cond (.t 35) (.seq (.join [(6, 0)] (.reg [] [⟨some 36, .mv (.t 7), none⟩, ⟨some 37, .len (.t 36), none⟩, ⟨some 38, .bin .eql (.t 37) (.c (.i .i64 0)), none⟩, ⟨some 39, .mv (.t 38), none⟩, ⟨some 40, .call 166 [], some (39, true)⟩, ⟨some 41, .pick (.t 39) (.t 40) (.c (.b false)), none⟩, ⟨some 6, .mv (.t 41), none⟩])) .ret) .skip)) (.seq (.seq (.join [(0, 0), (1, 0), (2, 0), (7, 0), (67, 0)] (.reg [] [⟨some 42, .mv (.t 7), none⟩, ⟨some 43, .len (.t 42), none⟩, ⟨some 44, .bin .eql (.t 43) (.c (.i .i64 0)), none⟩, ⟨some 45, .mv (.t 44), none⟩, ⟨some 46, .mv (.t 7), some (45, false)⟩, ⟨some 47, .call 181 [(.t 46)], some (45, false)⟩, ⟨some 48, .not (.t 47), some (45, false)⟩, ⟨some 49, .pick (.t 45) (.c (.b true)) (.t 48), none⟩, ⟨some 50, .mv (.t 49), none⟩, ⟨some 51, .mv (.t 7), some (50, false)⟩, ⟨some 52, .mv (.t 7), some (50, false)⟩, ⟨some 53, .len (.t 52), some (50, false)⟩, ⟨some 54, .bin .sub (.t 53) (.c (.i .i64 1)), some (50, false)⟩, ⟨some 55, .idx 3 (.t 51) (.t 54), some (50, false)⟩, ⟨some 56, .ld true 3 (.t 55), some (50, false)⟩, ⟨some 57, .call 56 [], some (50, false)⟩, ⟨some 58, .call 57 [(.t 56), (.t 57)], some (50, false)⟩, ⟨some 59, .not (.t 58), some (50, false)⟩, ⟨some 60, .pick (.t 50) (.c (.b true)) (.t 59), none⟩, ⟨some 61, .mv (.t 60), none⟩, ⟨some 62, .mv (.t 7), some (61, false)⟩, ⟨some 63, .call 180 [(.t 62)], some (61, false)⟩, ⟨some 64, .mv (.t 7), some (61, false)⟩, ⟨some 65, .call 182 [(.t 63), (.t 64)], some (61, false)⟩, ⟨some 66, .not (.t 65), some (61, false)⟩, ⟨some 67, .pick (.t 61) (.c (.b true)) (.t 66), none⟩])) (.cond (.t 67) (.seq (.reg [] [⟨some 6, .mv (.c (.b false)), none⟩]) .ret) .skip)) (.seq (.reg [] [⟨some 69, .mv (.t 0), none⟩, ⟨some 70, .mv (.t 7), none⟩, ⟨some 71, .call 176 [(.t 69), (.t 70)], none⟩, ⟨some 68, .mv (.t 71), none⟩, ⟨some 72, .ext 0 (.t 68), none⟩, ⟨some 73, .ext 1 (.t 68), none⟩, ⟨some 74, .ext 2 (.t 68), none⟩, ⟨some 8, .mv (.t 72), none⟩, ⟨some 9, .mv (.t 73), none⟩, ⟨some 10, .mv (.t 74), none⟩]) (.seq (.reg [] [⟨some 76, .mv (.t 1), none⟩, ⟨some 77, .mv (.t 7), none⟩, ⟨some 78, .call 176 [(.t 76), (.t 77)], none⟩, ⟨some 75, .mv (.t 78), none⟩, ⟨some 79, .ext 0 (.t 75), none⟩, ⟨some 80, .ext 1 (.t 75), none⟩, ⟨some 81, .ext 2 (.t 75), none⟩, ⟨some 11, .mv (.t 79), none⟩, ⟨some 12, .mv (.t 80), none⟩, ⟨some 13, .mv (.t 81), none⟩]) (.seq (.reg [] [⟨some 83, .mv (.t 7), none⟩, ⟨some 84, .mv (.t 2), none⟩, ⟨some 85, .call 176 [(.t 83), (.t 84)], none⟩, ⟨some 82, .mv (.t 85), none⟩, ⟨some 86, .ext 0 (.t 82), none⟩, ⟨some 87, .ext 1 (.t 82), none⟩, ⟨some 88, .ext 2 (.t 82), none⟩, ⟨some 14, .mv (.t 86), none⟩, ⟨some 15, .mv (.t 87), none⟩, ⟨some 16, .mv (.t 88), none⟩]) (.seq (.join [(6, 0)] (.reg [] [⟨some 89, .mv (.t 10), none⟩, ⟨some 90, .bin .eql (.t 89) (.c (.i .i64 0)), none⟩, ⟨some 91, .mv (.t 90), none⟩, ⟨some 92, .mv (.t 13), some (91, true)⟩, ⟨some 93, .bin .eql (.t 92) (.c (.i .i64 0)), some (91, true)⟩, ⟨some 94, .pick (.t 91) (.t 93) (.c (.b false)), none⟩, ⟨some 95, .mv (.t 94), none⟩, ⟨some 96, .mv (.t 16), some (95, true)⟩, ⟨some 97, .bin .eql (.t 96) (.c (.i .i64 0)), some (95, true)⟩, ⟨some 98, .pick (.t 95) (.t 97) (.c (.b false)), none⟩, ⟨some 99, .mv (.t 98), none⟩, ⟨some 100, .mv (.t 9), some (99, true)⟩, ⟨some 101, .len (.t 100), some (99, true)⟩, ⟨some 102, .mv (.t 12), some (99, true)⟩, ⟨some 103, .len (.t 102), some (99, true)⟩, ⟨some 104, .bin .add (.t 101) (.t 103), some (99, true)⟩, ⟨some 105, .mv (.t 15), some (99, true)⟩, ⟨some 106, .len (.t 105), some (99, true)⟩, ⟨some 107, .bin .add (.t 104) (.t 106), some (99, true)⟩, ⟨some 108, .bin .eql (.t 107) (.c (.i .i64 0)), some (99, true)⟩, ⟨some 109, .pick (.t 99) (.t 108) (.c (.b false)), none⟩, ⟨some 110, .mv (.t 109), none⟩, ⟨some 111, .call 166 [], some (110, true)⟩, ⟨some 112, .pick (.t 110) (.t 111) (.c (.b false)), none⟩, ⟨some 6, .mv (.t 112), none⟩])) .ret)))))))))))
def p146 : PF := ⟨[(.tmp 6, 0)], [], c146⟩
def b160_0 : PC := (.seq (.seq (.join [(5, 1), (0, 0), (1, 0), (6, 0), (15, 0)] (.reg [] [⟨some 7, .mv (.t 6), none⟩, ⟨some 8, .mv (.t 0), none⟩, ⟨some 9, .len (.t 8), none⟩, ⟨some 10, .bin .lss (.t 7) (.t 9), none⟩, ⟨some 11, .mv (.t 10), none⟩, ⟨some 12, .mv (.t 6), some (11, true)⟩, ⟨some 13, .mv (.t 1), some (11, true)⟩, ⟨some 14, .bin .lss (.t 12) (.t 13), some (11, true)⟩, ⟨some 15, .pick (.t 11) (.t 14) (.c (.b false)), none⟩])) (.cond (.t 15) .skip (.exit 0))) (.seq (.block 1 (.reg [] [⟨some 18, .mv (.t 5), none⟩, ⟨some 19, .mv (.t 0), none⟩, ⟨some 20, .mv (.t 6), none⟩, ⟨some 21, .idx 3 (.t 19) (.t 20), none⟩, ⟨some 22, .ld true 3 (.t 21), none⟩, ⟨some 23, .call 161 [(.t 22)], none⟩, ⟨some 24, .bsl 24 3 [.b false, .ns 1, .ns 1] 1 [(0, (.t 23))], none⟩, ⟨some 25, .app 25 3 56 (.t 18) (.t 24), none⟩, ⟨some 5, .mv (.t 25), none⟩])) (.reg [] [⟨some 16, .mv (.t 6), none⟩, ⟨some 17, .bin .add (.t 16) (.c (.i .i64 1)), none⟩, ⟨some 6, .mv (.t 17), none⟩])))
def c160 : PC := (.seq (.reg [] [⟨some 4, .mv (.c (.ns 3)), none⟩]) (.seq (.reg [] [⟨some 5, .mv (.c (.ns 3)), none⟩]) (.seq (.seq (.reg [] [⟨some 6, .mv (.c (.i .i64 0)), none⟩]) (.block 0 (.loop [(5, 1), (0, 0), (1, 0), (6, 0)] [(5, 0)] b160_0))) (.seq (.reg [] [⟨some 26, .mv (.t 5), none⟩, ⟨some 4, .mv (.t 26), none⟩]) .ret))))
def p160 : PF := ⟨[(.tmp 4, 0)], [], c160⟩
def c161 : PC := (.seq (.reg [] [⟨some 1, .box 1 3 (.t 0), none⟩, ⟨some 2, .alloc 2 [.b false, .ns 1, .ns 1], none⟩]) (.seq (.seq (.reg [] [⟨some 3, .fld 0 (.t 1), none⟩, ⟨some 4, .fld 1 (.t 3), none⟩, ⟨some 5, .ld false 1 (.t 4), none⟩, ⟨some 6, .len (.t 5), none⟩, ⟨some 7, .bin .gtr (.t 6) (.c (.i .i64 2)), none⟩]) (.join [(1, 1), (2, 1)] (.cond (.t 7) (.reg [] [⟨some 8, .fld 0 (.t 1), none⟩, ⟨some 9, .fld 1 (.t 8), none⟩, ⟨some 10, .ld false 1 (.t 9), none⟩, ⟨some 11, .cut 1 (.t 10) none (some (.c (.i .i64 2))) none, none⟩, ⟨some 12, .fld 0 (.t 1), none⟩, ⟨some 13, .fld 1 (.t 12), none⟩, ⟨none, .st 1 (.t 13) (.t 11), none⟩]) .skip))) (.seq (.seq (.reg [] [⟨some 14, .fld 2 (.t 1), none⟩, ⟨some 15, .ld false 1 (.t 14), none⟩, ⟨some 16, .len (.t 15), none⟩, ⟨some 17, .bin .gtr (.t 16) (.c (.i .i64 2)), none⟩]) (.join [(2, 1), (1, 0)] (.cond (.t 17) (.reg [] [⟨some 18, .fld 2 (.t 1), none⟩, ⟨some 19, .ld false 1 (.t 18), none⟩, ⟨some 20, .cut 1 (.t 19) none (some (.c (.i .i64 2))) none, none⟩, ⟨some 21, .fld 2 (.t 1), none⟩, ⟨none, .st 1 (.t 21) (.t 20), none⟩]) .skip))) (.seq (.reg [] [⟨some 22, .ld true 3 (.t 1), none⟩, ⟨none, .st 3 (.t 2) (.t 22), none⟩]) .ret))))
def p161 : PF := ⟨[(.cell 2 true 3, 0)], [], c161⟩
def c162 : PC := (.seq (.reg [] [⟨some 1, .box 1 3 (.t 0), none⟩, ⟨some 2, .mv (.c (.i .i64 0)), none⟩]) (.seq (.reg [] [⟨some 3, .ld true 3 (.t 1), none⟩, ⟨some 4, .call 63 [(.t 3)], none⟩, ⟨some 5, .fpt true 2 0 (.t 4), none⟩, ⟨some 6, .call 83 [(.t 5)], none⟩, ⟨some 2, .mv (.t 6), none⟩]) .ret))
def p162 : PF := ⟨[(.tmp 2, 0)], [], c162⟩
def b163_0 : PC := (.seq (.reg [] [⟨some 11, .bin .lss (.t 10) (.t 9), none⟩]) (.seq (.cond (.t 11) .skip (.exit 0)) (.seq (.block 1 (.seq (.reg [] [⟨some 12, .idx 3 (.t 8) (.t 10), none⟩, ⟨some 13, .ld true 3 (.t 12), none⟩, ⟨some 7, .alloc 7 [.b false, .ns 1, .ns 1], none⟩, ⟨none, .st 3 (.t 7) (.t 13), none⟩]) (.reg [] [⟨some 14, .mv (.t 5), none⟩, ⟨some 15, .ld true 3 (.t 7), none⟩, ⟨some 16, .ld true 3 (.t 3), none⟩, ⟨some 17, .call 94 [(.t 15), (.t 16)], none⟩, ⟨some 18, .bsl 18 3 [.b false, .ns 1, .ns 1] 1 [(0, (.t 17))], none⟩, ⟨some 19, .app 19 3 56 (.t 14) (.t 18), none⟩, ⟨some 5, .mv (.t 19), none⟩]))) (.reg [] [⟨some 20, .bin .add (.t 10) (.c (.i .i64 1)), none⟩, ⟨some 10, .mv (.t 20), none⟩]))))
def c163 : PC := (.seq (.reg [] [⟨some 3, .box 3 3 (.t 1), none⟩, ⟨some 4, .mv (.c (.ns 3)), none⟩]) (.seq (.reg [] [⟨some 5, .mv (.c (.ns 3)), none⟩]) (.seq (.seq (.reg [] [⟨some 8, .mv (.t 0), none⟩, ⟨some 9, .len (.t 8), none⟩, ⟨some 10, .mv (.c (.i .i64 0)), none⟩]) (.block 0 (.loop [(5, 1), (3, 0), (8, 0), (9, 0), (10, 0)] [(5, 0)] b163_0))) (.seq (.reg [] [⟨some 21, .mv (.t 5), none⟩, ⟨some 22, .call 212 [(.t 21)], none⟩, ⟨some 4, .mv (.t 22), none⟩]) .ret))))
def p163 : PF := ⟨[(.tmp 4, 0)], [], c163⟩
def b164_2 : PC := (.seq (.reg [] [⟨some 33, .bin .lss (.t 32) (.t 31), none⟩]) (.seq (.cond (.t 33) .skip (.exit 0)) (.seq (.block 1 (.seq (.reg [] [⟨some 34, .mv (.t 32), none⟩, ⟨some 6, .mv (.t 34), none⟩]) (.reg [] [⟨some 35, .mv (.t 5), none⟩, ⟨some 36, .mv (.t 6), none⟩, ⟨some 37, .call 54 [], none⟩, ⟨some 38, .idx 3 (.t 35) (.t 36), none⟩, ⟨none, .st 3 (.t 38) (.t 37), none⟩]))) (.reg [] [⟨some 39, .bin .add (.t 32) (.c (.i .i64 1)), none⟩, ⟨some 32, .mv (.t 39), none⟩]))))
def b164_1 : PC := (.seq (.reg [] [⟨some 50, .bin .lss (.t 49) (.t 48), none⟩]) (.seq (.cond (.t 50) .skip (.exit 4)) (.seq (.block 5 (.seq (.reg [] [⟨some 51, .mv (.t 49), none⟩, ⟨some 52, .idx 3 (.t 47) (.t 49), none⟩, ⟨some 53, .ld true 3 (.t 52), none⟩, ⟨some 10, .alloc 10 [.b false, .ns 1, .ns 1], none⟩, ⟨some 9, .mv (.t 51), none⟩, ⟨none, .st 3 (.t 10) (.t 53), none⟩]) (.reg [] [⟨some 54, .mv (.t 5), none⟩, ⟨some 55, .mv (.t 7), none⟩, ⟨some 56, .mv (.t 9), none⟩, ⟨some 57, .bin .add (.t 55) (.t 56), none⟩, ⟨some 58, .mv (.t 5), none⟩, ⟨some 59, .mv (.t 7), none⟩, ⟨some 60, .mv (.t 9), none⟩, ⟨some 61, .bin .add (.t 59) (.t 60), none⟩, ⟨some 62, .idx 3 (.t 58) (.t 61), none⟩, ⟨some 63, .ld true 3 (.t 62), none⟩, ⟨some 64, .ld true 3 (.t 8), none⟩, ⟨some 65, .ld true 3 (.t 10), none⟩, ⟨some 66, .call 94 [(.t 64), (.t 65)], none⟩, ⟨some 67, .call 31 [(.t 63), (.t 66)], none⟩, ⟨some 68, .idx 3 (.t 54) (.t 57), none⟩, ⟨none, .st 3 (.t 68) (.t 67), none⟩]))) (.reg [] [⟨some 69, .bin .add (.t 49) (.c (.i .i64 1)), none⟩, ⟨some 49, .mv (.t 69), none⟩]))))
def b164_0 : PC := (.seq (.reg [] [⟨some 43, .bin .lss (.t 42) (.t 41), none⟩]) (.seq (.cond (.t 43) .skip (.exit 2)) (.seq (.block 3 (.seq (.reg [] [⟨some 44, .mv (.t 42), none⟩, ⟨some 45, .idx 3 (.t 40) (.t 42), none⟩, ⟨some 46, .ld true 3 (.t 45), none⟩, ⟨some 8, .alloc 8 [.b false, .ns 1, .ns 1], none⟩, ⟨some 7, .mv (.t 44), none⟩, ⟨none, .st 3 (.t 8) (.t 46), none⟩]) (.seq (.reg [] [⟨some 47, .mv (.t 1), none⟩, ⟨some 48, .len (.t 47), none⟩, ⟨some 49, .mv (.c (.i .i64 0)), none⟩]) (.block 4 (.loop [(5, 1), (1, 0), (7, 0), (8, 0), (40, 0), (41, 0), (42, 0), (47, 0), (48, 0), (49, 0)] [(5, 1), (1, 0), (40, 0), (41, 0), (42, 0)] b164_1))))) (.reg [] [⟨some 70, .bin .add (.t 42) (.c (.i .i64 1)), none⟩, ⟨some 42, .mv (.t 70), none⟩]))))
def c164 : PC := (.seq (.reg [] [⟨some 4, .mv (.c (.ns 3)), none⟩]) (.seq (.reg [] [⟨some 11, .mv (.t 0), none⟩, ⟨some 12, .call 174 [(.t 11)], none⟩, ⟨some 13, .mv (.t 1), none⟩, ⟨some 14, .call 174 [(.t 13)], none⟩, ⟨some 0, .mv (.t 12), none⟩, ⟨some 1, .mv (.t 14), none⟩]) (.seq (.seq (.join [(0, 0), (1, 0), (22, 0)] (.reg [] [⟨some 15, .mv (.t 0), none⟩, ⟨some 16, .len (.t 15), none⟩, ⟨some 17, .bin .eql (.t 16) (.c (.i .i64 0)), none⟩, ⟨some 18, .mv (.t 17), none⟩, ⟨some 19, .mv (.t 1), some (18, false)⟩, ⟨some 20, .len (.t 19), some (18, false)⟩, ⟨some 21, .bin .eql (.t 20) (.c (.i .i64 0)), some (18, false)⟩, ⟨some 22, .pick (.t 18) (.c (.b true)) (.t 21), none⟩])) (.cond (.t 22) (.seq (.reg [] [⟨some 4, .mv (.c (.ns 3)), none⟩]) .ret) .skip)) (.seq (.reg [] [⟨some 23, .mv (.t 0), none⟩, ⟨some 24, .len (.t 23), none⟩, ⟨some 25, .mv (.t 1), none⟩, ⟨some 26, .len (.t 25), none⟩, ⟨some 27, .bin .add (.t 24) (.t 26), none⟩, ⟨some 28, .bin .sub (.t 27) (.c (.i .i64 1)), none⟩, ⟨some 29, .mk 29 3 56 [.b false, .ns 1, .ns 1] (.t 28), none⟩, ⟨some 5, .mv (.t 29), none⟩]) (.seq (.seq (.reg [] [⟨some 30, .mv (.t 5), none⟩, ⟨some 31, .len (.t 30), none⟩, ⟨some 32, .mv (.c (.i .i64 0)), none⟩]) (.block 0 (.loop [(5, 1), (0, 0), (1, 0), (31, 0), (32, 0)] [(5, 1), (0, 0), (1, 0)] b164_2))) (.seq (.seq (.reg [] [⟨some 40, .mv (.t 0), none⟩, ⟨some 41, .len (.t 40), none⟩, ⟨some 42, .mv (.c (.i .i64 0)), none⟩]) (.block 2 (.loop [(5, 1), (1, 0), (40, 0), (41, 0), (42, 0)] [(5, 0)] b164_0))) (.seq (.reg [] [⟨some 71, .mv (.t 5), none⟩, ⟨some 72, .call 212 [(.t 71)], none⟩, ⟨some 4, .mv (.t 72), none⟩]) .ret)))))))
def p164 : PF := ⟨[(.tmp 4, 0)], [], c164⟩
def c165 : PC := (.seq (.reg [] [⟨some 4, .box 4 3 (.t 1), none⟩, ⟨some 5, .box 5 3 (.t 2), none⟩, ⟨some 6, .mv (.c (.i .i64 0)), none⟩, ⟨some 7, .mv (.c (.i .i64 0)), none⟩]) (.seq (.seq (.reg [] [⟨some 12, .mv (.t 0), none⟩, ⟨some 13, .call 174 [(.t 12)], none⟩, ⟨some 14, .len (.t 13), none⟩, ⟨some 15, .bin .eql (.t 14) (.c (.i .i64 0)), none⟩]) (.cond (.t 15) (.seq (.reg [] [⟨some 6, .mv (.c (.i .i64 0)), none⟩, ⟨some 7, .mv (.c (.i .i64 2)), none⟩]) .ret) .skip)) (.seq (.seq (.reg [] [⟨some 16, .ld true 3 (.t 4), none⟩, ⟨some 17, .ld true 3 (.t 5), none⟩, ⟨some 18, .call 14 [(.t 16), (.t 17)], none⟩, ⟨some 19, .bin .gtr (.t 18) (.c (.i .i64 0)), none⟩]) (.cond (.t 19) (.seq (.reg [] [⟨some 6, .mv (.c (.i .i64 0)), none⟩, ⟨some 7, .mv (.c (.i .i64 8)), none⟩]) .ret) .skip)) (.seq (.reg [] [⟨some 21, .mv (.t 0), none⟩, ⟨some 22, .mv (.t 0), none⟩, ⟨some 23, .mv (.t 0), none⟩, ⟨some 24, .call 185 [(.t 23)], none⟩, ⟨some 25, .call 175 [(.t 22), (.t 24)], none⟩, ⟨some 26, .call 176 [(.t 21), (.t 25)], none⟩, ⟨some 20, .mv (.t 26), none⟩, ⟨some 27, .ext 0 (.t 20), none⟩, ⟨some 28, .ext 1 (.t 20), none⟩, ⟨some 29, .ext 2 (.t 20), none⟩, ⟨some 8, .mv (.t 27), none⟩, ⟨some 9, .mv (.t 28), none⟩, ⟨some 10, .mv (.t 29), none⟩]) (.seq (.reg [] [⟨some 30, .mv (.t 8), none⟩, ⟨some 31, .call 191 [(.t 30)], none⟩, ⟨some 11, .mv (.t 31), none⟩]) (.seq (.reg [] [⟨some 32, .mv (.t 11), none⟩, ⟨some 33, .ld true 3 (.t 4), none⟩, ⟨some 34, .call 213 [(.t 32), (.t 33)], none⟩, ⟨some 35, .mv (.t 11), none⟩, ⟨some 36, .ld true 3 (.t 5), none⟩, ⟨some 37, .call 213 [(.t 35), (.t 36)], none⟩, ⟨some 38, .bin .sub (.t 34) (.t 37), none⟩, ⟨some 6, .mv (.t 38), none⟩, ⟨some 7, .mv (.c (.i .i64 0)), none⟩]) .ret))))))
def p165 : PF := ⟨[(.tmp 6, 0), (.tmp 7, 0)], [], c165⟩
def c166 : PC := (.seq (.reg [] [⟨some 0, .mv (.c (.b false)), none⟩]) (.seq (.reg [] [⟨some 4, .call 56 [], none⟩, ⟨some 5, .call 56 [], none⟩, ⟨some 6, .bsl 6 3 [.b false, .ns 1, .ns 1] 2 [(0, (.t 4)), (1, (.t 5))], none⟩, ⟨some 7, .call 56 [], none⟩, ⟨some 8, .call 68 [(.c (.i .i64 (-1)))], none⟩, ⟨some 9, .bsl 9 3 [.b false, .ns 1, .ns 1] 2 [(0, (.t 7)), (1, (.t 8))], none⟩, ⟨some 10, .call 164 [(.t 6), (.t 9)], none⟩, ⟨some 1, .mv (.t 10), none⟩]) (.seq (.reg [] [⟨some 12, .call 68 [(.c (.i .i64 (-2)))], none⟩, ⟨some 13, .call 54 [], none⟩, ⟨some 14, .call 56 [], none⟩, ⟨some 15, .bsl 15 3 [.b false, .ns 1, .ns 1] 3 [(0, (.t 12)), (1, (.t 13)), (2, (.t 14))], none⟩, ⟨some 16, .call 54 [], none⟩, ⟨some 17, .call 68 [(.c (.i .i64 2))], none⟩, ⟨some 18, .call 165 [(.t 15), (.t 16), (.t 17)], none⟩, ⟨some 11, .mv (.t 18), none⟩, ⟨some 19, .ext 0 (.t 11), none⟩, ⟨some 20, .ext 1 (.t 11), none⟩, ⟨some 2, .mv (.t 19), none⟩, ⟨some 3, .mv (.t 20), none⟩]) (.seq (.join [(0, 0)] (.reg [] [⟨some 21, .mv (.t 1), none⟩, ⟨some 22, .len (.t 21), none⟩, ⟨some 23, .bin .eql (.t 22) (.c (.i .i64 3)), none⟩, ⟨some 24, .mv (.t 23), none⟩, ⟨some 25, .mv (.t 1), some (24, true)⟩, ⟨some 26, .idx 3 (.t 25) (.c (.i .i64 2)), some (24, true)⟩, ⟨some 27, .ld true 3 (.t 26), some (24, true)⟩, ⟨some 28, .call 68 [(.c (.i .i64 (-1)))], some (24, true)⟩, ⟨some 29, .call 57 [(.t 27), (.t 28)], some (24, true)⟩, ⟨some 30, .pick (.t 24) (.t 29) (.c (.b false)), none⟩, ⟨some 31, .mv (.t 30), none⟩, ⟨some 32, .mv (.t 2), some (31, true)⟩, ⟨some 33, .bin .eql (.t 32) (.c (.i .i64 1)), some (31, true)⟩, ⟨some 34, .pick (.t 31) (.t 33) (.c (.b false)), none⟩, ⟨some 35, .mv (.t 34), none⟩, ⟨some 36, .mv (.t 3), some (35, true)⟩, ⟨some 37, .bin .eql (.t 36) (.c (.i .i64 0)), some (35, true)⟩, ⟨some 38, .pick (.t 35) (.t 37) (.c (.b false)), none⟩, ⟨some 0, .mv (.t 38), none⟩])) .ret))))
def p166 : PF := ⟨[(.tmp 0, 0)], [], c166⟩
def b174_0 : PC := (.seq (.reg [] [⟨some 12, .bin .lss (.t 11) (.t 10), none⟩]) (.seq (.cond (.t 12) .skip (.exit 0)) (.seq (.block 1 (.seq (.reg [] [⟨some 13, .mv (.t 11), none⟩, ⟨some 14, .idx 3 (.t 9) (.t 11), none⟩, ⟨some 15, .ld true 3 (.t 14), none⟩, ⟨some 5, .alloc 5 [.b false, .ns 1, .ns 1], none⟩, ⟨some 4, .mv (.t 13), none⟩, ⟨none, .st 3 (.t 5) (.t 15), none⟩]) (.reg [] [⟨some 16, .mv (.t 3), none⟩, ⟨some 17, .mv (.t 4), none⟩, ⟨some 18, .ld true 3 (.t 5), none⟩, ⟨some 19, .call 63 [(.t 18)], none⟩, ⟨some 20, .idx 3 (.t 16) (.t 17), none⟩, ⟨none, .st 3 (.t 20) (.t 19), none⟩]))) (.reg [] [⟨some 21, .bin .add (.t 11) (.c (.i .i64 1)), none⟩, ⟨some 11, .mv (.t 21), none⟩]))))
def c174 : PC := (.seq (.reg [] [⟨some 2, .mv (.c (.ns 3)), none⟩]) (.seq (.reg [] [⟨some 6, .mv (.t 0), none⟩, ⟨some 7, .len (.t 6), none⟩, ⟨some 8, .mk 8 3 56 [.b false, .ns 1, .ns 1] (.t 7), none⟩, ⟨some 3, .mv (.t 8), none⟩]) (.seq (.seq (.reg [] [⟨some 9, .mv (.t 0), none⟩, ⟨some 10, .len (.t 9), none⟩, ⟨some 11, .mv (.c (.i .i64 0)), none⟩]) (.block 0 (.loop [(3, 1), (9, 0), (10, 0), (11, 0)] [(3, 0)] b174_0))) (.seq (.reg [] [⟨some 22, .mv (.t 3), none⟩, ⟨some 23, .call 212 [(.t 22)], none⟩, ⟨some 2, .mv (.t 23), none⟩]) .ret))))
def p174 : PF := ⟨[(.tmp 2, 0)], [], c174⟩
def b175_0 : PC := (.seq (.seq (.reg [] [⟨some 12, .mv (.t 1), none⟩, ⟨some 13, .len (.t 12), none⟩, ⟨some 14, .bin .gtr (.t 13) (.c (.i .i64 0)), none⟩]) (.cond (.t 14) .skip (.exit 0))) (.block 1 (.seq (.reg [] [⟨some 16, .mv (.t 0), none⟩, ⟨some 17, .mv (.t 1), none⟩, ⟨some 18, .call 176 [(.t 16), (.t 17)], none⟩, ⟨some 15, .mv (.t 18), none⟩, ⟨some 19, .ext 0 (.t 15), none⟩, ⟨some 20, .ext 1 (.t 15), none⟩, ⟨some 21, .ext 2 (.t 15), none⟩, ⟨some 5, .mv (.t 19), none⟩, ⟨some 6, .mv (.t 20), none⟩, ⟨some 7, .mv (.t 21), none⟩]) (.reg [] [⟨some 22, .mv (.t 1), none⟩, ⟨some 23, .mv (.t 6), none⟩, ⟨some 0, .mv (.t 22), none⟩, ⟨some 1, .mv (.t 23), none⟩]))))
def c175 : PC := (.seq (.reg [] [⟨some 4, .mv (.c (.ns 3)), none⟩]) (.seq (.reg [] [⟨some 8, .mv (.t 0), none⟩, ⟨some 9, .call 174 [(.t 8)], none⟩, ⟨some 10, .mv (.t 1), none⟩, ⟨some 11, .call 174 [(.t 10)], none⟩, ⟨some 0, .mv (.t 9), none⟩, ⟨some 1, .mv (.t 11), none⟩]) (.seq (.block 0 (.loop [(0, 0), (1, 0)] [(0, 0)] b175_0)) (.seq (.reg [] [⟨some 24, .mv (.t 0), none⟩, ⟨some 25, .call 180 [(.t 24)], none⟩, ⟨some 4, .mv (.t 25), none⟩]) .ret))))
def p175 : PF := ⟨[(.tmp 4, 0)], [], c175⟩
def b176_1 : PC := (.seq (.reg [] [⟨some 66, .bin .lss (.t 65) (.t 64), none⟩]) (.seq (.cond (.t 66) .skip (.exit 2)) (.seq (.block 3 (.seq (.reg [] [⟨some 67, .mv (.t 65), none⟩, ⟨some 68, .idx 3 (.t 63) (.t 65), none⟩, ⟨some 69, .ld true 3 (.t 68), none⟩, ⟨some 12, .alloc 12 [.b false, .ns 1, .ns 1], none⟩, ⟨some 11, .mv (.t 67), none⟩, ⟨none, .st 3 (.t 12) (.t 69), none⟩]) (.reg [] [⟨some 70, .mv (.t 0), none⟩, ⟨some 71, .mv (.t 10), none⟩, ⟨some 72, .mv (.t 11), none⟩, ⟨some 73, .bin .add (.t 71) (.t 72), none⟩, ⟨some 74, .mv (.t 0), none⟩, ⟨some 75, .mv (.t 10), none⟩, ⟨some 76, .mv (.t 11), none⟩, ⟨some 77, .bin .add (.t 75) (.t 76), none⟩, ⟨some 78, .idx 3 (.t 74) (.t 77), none⟩, ⟨some 79, .ld true 3 (.t 78), none⟩, ⟨some 80, .mv (.t 9), none⟩, ⟨some 81, .mv (.t 10), none⟩, ⟨some 82, .idx 3 (.t 80) (.t 81), none⟩, ⟨some 83, .ld true 3 (.t 82), none⟩, ⟨some 84, .ld true 3 (.t 12), none⟩, ⟨some 85, .call 94 [(.t 83), (.t 84)], none⟩, ⟨some 86, .call 55 [(.t 79), (.t 85)], none⟩, ⟨some 87, .idx 3 (.t 70) (.t 73), none⟩, ⟨none, .st 3 (.t 87) (.t 86), none⟩]))) (.reg [] [⟨some 88, .bin .add (.t 65) (.c (.i .i64 1)), none⟩, ⟨some 65, .mv (.t 88), none⟩]))))
def b176_0 : PC := (.seq (.seq (.reg [] [⟨some 46, .mv (.t 10), none⟩, ⟨some 47, .bin .geq (.t 46) (.c (.i .i64 0)), none⟩]) (.cond (.t 47) .skip (.exit 0))) (.seq (.block 1 (.seq (.reg [] [⟨some 50, .mv (.t 9), none⟩, ⟨some 51, .mv (.t 10), none⟩, ⟨some 52, .mv (.t 0), none⟩, ⟨some 53, .mv (.t 10), none⟩, ⟨some 54, .mv (.t 1), none⟩, ⟨some 55, .len (.t 54), none⟩, ⟨some 56, .bin .add (.t 53) (.t 55), none⟩, ⟨some 57, .bin .sub (.t 56) (.c (.i .i64 1)), none⟩, ⟨some 58, .idx 3 (.t 52) (.t 57), none⟩, ⟨some 59, .ld true 3 (.t 58), none⟩, ⟨some 60, .ld true 3 (.t 7), none⟩, ⟨some 61, .call 94 [(.t 59), (.t 60)], none⟩, ⟨some 62, .idx 3 (.t 50) (.t 51), none⟩, ⟨none, .st 3 (.t 62) (.t 61), none⟩]) (.seq (.reg [] [⟨some 63, .mv (.t 1), none⟩, ⟨some 64, .len (.t 63), none⟩, ⟨some 65, .mv (.c (.i .i64 0)), none⟩]) (.block 2 (.loop [(0, 1), (9, 1), (1, 0), (7, 0), (10, 0), (63, 0), (64, 0), (65, 0)] [(0, 1), (9, 1), (1, 0), (7, 0), (10, 0)] b176_1))))) (.reg [] [⟨some 48, .mv (.t 10), none⟩, ⟨some 49, .bin .sub (.t 48) (.c (.i .i64 1)), none⟩, ⟨some 10, .mv (.t 49), none⟩])))
def c176 : PC := (.seq (.reg [] [⟨some 4, .mv (.c (.ns 3)), none⟩, ⟨some 5, .mv (.c (.ns 3)), none⟩, ⟨some 6, .mv (.c (.i .i64 0)), none⟩]) (.seq (.reg [] [⟨some 13, .mv (.t 0), none⟩, ⟨some 14, .callo 313 [(.t 13)] 14, none⟩, ⟨some 15, .mv (.t 1), none⟩, ⟨some 16, .callo 313 [(.t 15)] 16, none⟩, ⟨some 0, .mv (.t 14), none⟩, ⟨some 1, .mv (.t 16), none⟩]) (.seq (.seq (.reg [] [⟨some 17, .mv (.t 1), none⟩, ⟨some 18, .len (.t 17), none⟩, ⟨some 19, .bin .eql (.t 18) (.c (.i .i64 0)), none⟩]) (.cond (.t 19) (.seq (.reg [] [⟨some 4, .mv (.c (.ns 3)), none⟩, ⟨some 5, .mv (.c (.ns 3)), none⟩, ⟨some 6, .mv (.c (.i .i64 2)), none⟩]) .ret) .skip)) (.seq (.seq (.reg [] [⟨some 20, .mv (.t 0), none⟩, ⟨some 21, .len (.t 20), none⟩, ⟨some 22, .mv (.t 1), none⟩, ⟨some 23, .len (.t 22), none⟩, ⟨some 24, .bin .lss (.t 21) (.t 23), none⟩]) (.cond (.t 24) (.seq (.reg [] [⟨some 25, .mv (.t 0), none⟩, ⟨some 4, .mv (.c (.ns 3)), none⟩, ⟨some 5, .mv (.t 25), none⟩, ⟨some 6, .mv (.c (.i .i64 0)), none⟩]) .ret) .skip)) (.seq (.reg [] [⟨some 27, .mv (.t 1), none⟩, ⟨some 28, .mv (.t 1), none⟩, ⟨some 29, .len (.t 28), none⟩, ⟨some 30, .bin .sub (.t 29) (.c (.i .i64 1)), none⟩, ⟨some 31, .idx 3 (.t 27) (.t 30), none⟩, ⟨some 32, .ld true 3 (.t 31), none⟩, ⟨some 33, .call 220 [(.t 32)], none⟩, ⟨some 26, .mv (.t 33), none⟩, ⟨some 34, .ext 0 (.t 26), none⟩, ⟨some 35, .ext 1 (.t 26), none⟩, ⟨some 7, .alloc 7 [.b false, .ns 1, .ns 1], none⟩, ⟨none, .st 3 (.t 7) (.t 34), none⟩, ⟨some 8, .mv (.t 35), none⟩]) (.seq (.reg [] [⟨some 36, .mv (.t 0), none⟩, ⟨some 37, .len (.t 36), none⟩, ⟨some 38, .mv (.t 1), none⟩, ⟨some 39, .len (.t 38), none⟩, ⟨some 40, .bin .sub (.t 37) (.t 39), none⟩, ⟨some 41, .bin .add (.t 40) (.c (.i .i64 1)), none⟩, ⟨some 42, .mk 42 3 56 [.b false, .ns 1, .ns 1] (.t 41), none⟩, ⟨some 9, .mv (.t 42), none⟩]) (.seq (.seq (.reg [] [⟨some 43, .mv (.t 9), none⟩, ⟨some 44, .len (.t 43), none⟩, ⟨some 45, .bin .sub (.t 44) (.c (.i .i64 1)), none⟩, ⟨some 10, .mv (.t 45), none⟩]) (.block 0 (.loop [(0, 1), (9, 1), (1, 0), (7, 0), (10, 0)] [(0, 0), (9, 0)] b176_0))) (.seq (.reg [] [⟨some 89, .mv (.t 9), none⟩, ⟨some 90, .call 212 [(.t 89)], none⟩, ⟨some 91, .mv (.t 0), none⟩, ⟨some 92, .call 212 [(.t 91)], none⟩, ⟨some 4, .mv (.t 90), none⟩, ⟨some 5, .mv (.t 92), none⟩, ⟨some 6, .mv (.c (.i .i64 0)), none⟩]) .ret))))))))
def p176 : PF := ⟨[(.tmp 4, 0), (.tmp 5, 0), (.tmp 6, 0)], [], c176⟩
def c180 : PC := (.seq (.reg [] [⟨some 2, .mv (.c (.ns 3)), none⟩]) (.seq (.reg [] [⟨some 5, .mv (.t 0), none⟩, ⟨some 6, .call 174 [(.t 5)], none⟩, ⟨some 0, .mv (.t 6), none⟩]) (.seq (.seq (.reg [] [⟨some 7, .mv (.t 0), none⟩, ⟨some 8, .len (.t 7), none⟩, ⟨some 9, .bin .eql (.t 8) (.c (.i .i64 0)), none⟩]) (.cond (.t 9) (.seq (.reg [] [⟨some 2, .mv (.c (.ns 3)), none⟩]) .ret) .skip)) (.seq (.reg [] [⟨some 11, .mv (.t 0), none⟩, ⟨some 12, .mv (.t 0), none⟩, ⟨some 13, .len (.t 12), none⟩, ⟨some 14, .bin .sub (.t 13) (.c (.i .i64 1)), none⟩, ⟨some 15, .idx 3 (.t 11) (.t 14), none⟩, ⟨some 16, .ld true 3 (.t 15), none⟩, ⟨some 17, .call 220 [(.t 16)], none⟩, ⟨some 10, .mv (.t 17), none⟩, ⟨some 18, .ext 0 (.t 10), none⟩, ⟨some 19, .ext 1 (.t 10), none⟩, ⟨some 3, .alloc 3 [.b false, .ns 1, .ns 1], none⟩, ⟨none, .st 3 (.t 3) (.t 18), none⟩, ⟨some 4, .mv (.t 19), none⟩]) (.seq (.reg [] [⟨some 20, .mv (.t 0), none⟩, ⟨some 21, .ld true 3 (.t 3), none⟩, ⟨some 22, .call 163 [(.t 20), (.t 21)], none⟩, ⟨some 2, .mv (.t 22), none⟩]) .ret)))))
def p180 : PF := ⟨[(.tmp 2, 0)], [], c180⟩
def b181_0 : PC := (.seq (.seq (.reg [] [⟨some 4, .mv (.t 3), none⟩, ⟨some 5, .mv (.t 0), none⟩, ⟨some 6, .len (.t 5), none⟩, ⟨some 7, .bin .lss (.t 4) (.t 6), none⟩]) (.cond (.t 7) .skip (.exit 0))) (.seq (.block 1 (.seq (.reg [] [⟨some 10, .mv (.t 0), none⟩, ⟨some 11, .mv (.t 3), none⟩, ⟨some 12, .idx 3 (.t 10) (.t 11), none⟩, ⟨some 13, .ld true 3 (.t 12), none⟩, ⟨some 14, .call 24 [(.t 13)], none⟩, ⟨some 15, .not (.t 14), none⟩]) (.cond (.t 15) (.seq (.reg [] [⟨some 2, .mv (.c (.b false)), none⟩]) .ret) .skip))) (.reg [] [⟨some 8, .mv (.t 3), none⟩, ⟨some 9, .bin .add (.t 8) (.c (.i .i64 1)), none⟩, ⟨some 3, .mv (.t 9), none⟩])))
def c181 : PC := (.seq (.reg [] [⟨some 2, .mv (.c (.b false)), none⟩]) (.seq (.seq (.reg [] [⟨some 3, .mv (.c (.i .i64 0)), none⟩]) (.block 0 (.loop [(0, 0), (3, 0)] [(0, 0), (2, 0)] b181_0))) (.seq (.join [(2, 0)] (.reg [] [⟨some 16, .mv (.t 0), none⟩, ⟨some 17, .len (.t 16), none⟩, ⟨some 18, .bin .eql (.t 17) (.c (.i .i64 0)), none⟩, ⟨some 19, .mv (.t 18), none⟩, ⟨some 20, .mv (.t 0), some (19, false)⟩, ⟨some 21, .mv (.t 0), some (19, false)⟩, ⟨some 22, .len (.t 21), some (19, false)⟩, ⟨some 23, .bin .sub (.t 22) (.c (.i .i64 1)), some (19, false)⟩, ⟨some 24, .idx 3 (.t 20) (.t 23), some (19, false)⟩, ⟨some 25, .ld true 3 (.t 24), some (19, false)⟩, ⟨some 26, .call 162 [(.t 25)], some (19, false)⟩, ⟨some 27, .bin .neq (.t 26) (.c (.i .i64 0)), some (19, false)⟩, ⟨some 28, .pick (.t 19) (.c (.b true)) (.t 27), none⟩, ⟨some 2, .mv (.t 28), none⟩])) .ret)))
def p181 : PF := ⟨[(.tmp 2, 0)], [], c181⟩
def b182_0 : PC := (.seq (.seq (.join [(0, 0), (1, 0), (5, 0), (15, 0)] (.reg [] [⟨some 6, .mv (.t 5), none⟩, ⟨some 7, .mv (.t 0), none⟩, ⟨some 8, .len (.t 7), none⟩, ⟨some 9, .bin .lss (.t 6) (.t 8), none⟩, ⟨some 10, .mv (.t 9), none⟩, ⟨some 11, .mv (.t 5), some (10, false)⟩, ⟨some 12, .mv (.t 1), some (10, false)⟩, ⟨some 13, .len (.t 12), some (10, false)⟩, ⟨some 14, .bin .lss (.t 11) (.t 13), some (10, false)⟩, ⟨some 15, .pick (.t 10) (.c (.b true)) (.t 14), none⟩])) (.cond (.t 15) .skip (.exit 0))) (.seq (.block 1 (.seq (.reg [] [⟨some 18, .mv (.t 0), none⟩, ⟨some 19, .mv (.t 5), none⟩, ⟨some 20, .call 189 [(.t 18), (.t 19)], none⟩, ⟨some 21, .mv (.t 1), none⟩, ⟨some 22, .mv (.t 5), none⟩, ⟨some 23, .call 189 [(.t 21), (.t 22)], none⟩, ⟨some 24, .call 57 [(.t 20), (.t 23)], none⟩, ⟨some 25, .not (.t 24), none⟩]) (.cond (.t 25) (.seq (.reg [] [⟨some 4, .mv (.c (.b false)), none⟩]) .ret) .skip))) (.reg [] [⟨some 16, .mv (.t 5), none⟩, ⟨some 17, .bin .add (.t 16) (.c (.i .i64 1)), none⟩, ⟨some 5, .mv (.t 17), none⟩])))
def c182 : PC := (.seq (.reg [] [⟨some 4, .mv (.c (.b false)), none⟩]) (.seq (.seq (.reg [] [⟨some 5, .mv (.c (.i .i64 0)), none⟩]) (.block 0 (.loop [(0, 0), (1, 0), (5, 0)] [(0, 0), (4, 0)] b182_0))) (.seq (.reg [] [⟨some 26, .mv (.t 0), none⟩, ⟨some 27, .call 181 [(.t 26)], none⟩, ⟨some 4, .mv (.t 27), none⟩]) .ret)))
def p182 : PF := ⟨[(.tmp 4, 0)], [], c182⟩
def b185_0 : PC := (.seq (.seq (.reg [] [⟨some 5, .mv (.t 4), none⟩, ⟨some 6, .mv (.t 0), none⟩, ⟨some 7, .len (.t 6), none⟩, ⟨some 8, .bin .lss (.t 5) (.t 7), none⟩]) (.cond (.t 8) .skip (.exit 0))) (.seq (.block 1 (.reg [] [⟨some 11, .mv (.t 3), none⟩, ⟨some 12, .mv (.t 0), none⟩, ⟨some 13, .mv (.t 4), none⟩, ⟨some 14, .idx 3 (.t 12) (.t 13), none⟩, ⟨some 15, .ld true 3 (.t 14), none⟩, ⟨some 16, .mv (.t 4), none⟩, ⟨some 17, .call 68 [(.t 16)], none⟩, ⟨some 18, .call 94 [(.t 15), (.t 17)], none⟩, ⟨some 19, .bsl 19 3 [.b false, .ns 1, .ns 1] 1 [(0, (.t 18))], none⟩, ⟨some 20, .app 20 3 56 (.t 11) (.t 19), none⟩, ⟨some 3, .mv (.t 20), none⟩])) (.reg [] [⟨some 9, .mv (.t 4), none⟩, ⟨some 10, .bin .add (.t 9) (.c (.i .i64 1)), none⟩, ⟨some 4, .mv (.t 10), none⟩])))
def c185 : PC := (.seq (.reg [] [⟨some 2, .mv (.c (.ns 3)), none⟩]) (.seq (.reg [] [⟨some 3, .mv (.c (.ns 3)), none⟩]) (.seq (.seq (.reg [] [⟨some 4, .mv (.c (.i .i64 1)), none⟩]) (.block 0 (.loop [(3, 1), (0, 0), (4, 0)] [(3, 0)] b185_0))) (.seq (.reg [] [⟨some 21, .mv (.t 3), none⟩, ⟨some 22, .call 212 [(.t 21)], none⟩, ⟨some 2, .mv (.t 22), none⟩]) .ret))))
def p185 : PF := ⟨[(.tmp 2, 0)], [], c185⟩
def c189 : PC := (.seq (.reg [] [⟨some 4, .alloc 4 [.b false, .ns 1, .ns 1], none⟩]) (.seq (.seq (.join [(4, 1), (0, 0), (1, 0), (12, 0)] (.reg [] [⟨some 5, .mv (.t 1), none⟩, ⟨some 6, .bin .geq (.t 5) (.c (.i .i64 0)), none⟩, ⟨some 7, .mv (.t 6), none⟩, ⟨some 8, .mv (.t 1), some (7, true)⟩, ⟨some 9, .mv (.t 0), some (7, true)⟩, ⟨some 10, .len (.t 9), some (7, true)⟩, ⟨some 11, .bin .lss (.t 8) (.t 10), some (7, true)⟩, ⟨some 12, .pick (.t 7) (.t 11) (.c (.b false)), none⟩])) (.cond (.t 12) (.seq (.reg [] [⟨some 13, .mv (.t 0), none⟩, ⟨some 14, .mv (.t 1), none⟩, ⟨some 15, .idx 3 (.t 13) (.t 14), none⟩, ⟨some 16, .ld true 3 (.t 15), none⟩, ⟨none, .st 3 (.t 4) (.t 16), none⟩]) .ret) .skip)) (.seq (.reg [] [⟨some 17, .call 54 [], none⟩, ⟨none, .st 3 (.t 4) (.t 17), none⟩]) .ret)))
def p189 : PF := ⟨[(.cell 4 true 3, 0)], [], c189⟩
def b191_0 : PC := (.seq (.seq (.reg [] [⟨some 17, .mv (.t 4), none⟩, ⟨some 18, .len (.t 17), none⟩, ⟨some 19, .bin .gtr (.t 18) (.c (.i .i64 0)), none⟩]) (.cond (.t 19) .skip (.exit 0))) (.block 1 (.seq (.reg [] [⟨some 20, .mv (.t 3), none⟩, ⟨some 21, .mv (.t 4), none⟩, ⟨some 22, .bsl 22 1 [.ns 3] 1 [(0, (.t 21))], none⟩, ⟨some 23, .app 23 1 24 (.t 20) (.t 22), none⟩, ⟨some 3, .mv (.t 23), none⟩]) (.seq (.reg [] [⟨some 25, .mv (.t 3), none⟩, ⟨some 26, .mv (.t 3), none⟩, ⟨some 27, .len (.t 26), none⟩, ⟨some 28, .bin .sub (.t 27) (.c (.i .i64 2)), none⟩, ⟨some 29, .idx 1 (.t 25) (.t 28), none⟩, ⟨some 30, .ld false 1 (.t 29), none⟩, ⟨some 31, .mv (.t 4), none⟩, ⟨some 32, .call 176 [(.t 30), (.t 31)], none⟩, ⟨some 24, .mv (.t 32), none⟩, ⟨some 33, .ext 0 (.t 24), none⟩, ⟨some 34, .ext 1 (.t 24), none⟩, ⟨some 35, .ext 2 (.t 24), none⟩, ⟨some 5, .mv (.t 33), none⟩, ⟨some 6, .mv (.t 34), none⟩, ⟨some 7, .mv (.t 35), none⟩]) (.reg [] [⟨some 36, .mv (.t 6), none⟩, ⟨some 37, .call 68 [(.c (.i .i64 (-1)))], none⟩, ⟨some 38, .call 163 [(.t 36), (.t 37)], none⟩, ⟨some 4, .mv (.t 38), none⟩])))))
def c191 : PC := (.seq (.reg [] [⟨some 2, .mv (.c (.ns 1)), none⟩]) (.seq (.reg [] [⟨some 8, .mv (.t 0), none⟩, ⟨some 9, .call 174 [(.t 8)], none⟩, ⟨some 0, .mv (.t 9), none⟩]) (.seq (.seq (.reg [] [⟨some 10, .mv (.t 0), none⟩, ⟨some 11, .len (.t 10), none⟩, ⟨some 12, .bin .eql (.t 11) (.c (.i .i64 0)), none⟩]) (.cond (.t 12) (.seq (.reg [] [⟨some 2, .mv (.c (.ns 1)), none⟩]) .ret) .skip)) (.seq (.reg [] [⟨some 13, .mv (.t 0), none⟩, ⟨some 14, .bsl 14 1 [.ns 3] 1 [(0, (.t 13))], none⟩, ⟨some 3, .mv (.t 14), none⟩]) (.seq (.seq (.reg [] [⟨some 15, .mv (.t 0), none⟩, ⟨some 16, .call 185 [(.t 15)], none⟩, ⟨some 4, .mv (.t 16), none⟩]) (.block 0 (.loop [(3, 1), (4, 0)] [(3, 0)] b191_0))) (.seq (.reg [] [⟨some 39, .mv (.t 3), none⟩, ⟨some 2, .mv (.t 39), none⟩]) .ret))))))
def p191 : PF := ⟨[(.tmp 2, 0)], [], c191⟩
def b193_0 : PC := (.seq (.seq (.reg [] [⟨some 11, .mv (.t 6), none⟩, ⟨some 12, .bin .geq (.t 11) (.c (.i .i64 0)), none⟩]) (.cond (.t 12) .skip (.exit 0))) (.seq (.block 1 (.reg [] [⟨some 15, .ld true 3 (.t 5), none⟩, ⟨some 16, .ld true 3 (.t 3), none⟩, ⟨some 17, .call 94 [(.t 15), (.t 16)], none⟩, ⟨some 18, .mv (.t 0), none⟩, ⟨some 19, .mv (.t 6), none⟩, ⟨some 20, .idx 3 (.t 18) (.t 19), none⟩, ⟨some 21, .ld true 3 (.t 20), none⟩, ⟨some 22, .call 31 [(.t 17), (.t 21)], none⟩, ⟨none, .st 3 (.t 5) (.t 22), none⟩])) (.reg [] [⟨some 13, .mv (.t 6), none⟩, ⟨some 14, .bin .sub (.t 13) (.c (.i .i64 1)), none⟩, ⟨some 6, .mv (.t 14), none⟩])))
def c193 : PC := (.seq (.reg [] [⟨some 3, .box 3 3 (.t 1), none⟩, ⟨some 4, .alloc 4 [.b false, .ns 1, .ns 1], none⟩]) (.seq (.reg [] [⟨some 7, .call 54 [], none⟩, ⟨some 5, .alloc 5 [.b false, .ns 1, .ns 1], none⟩, ⟨none, .st 3 (.t 5) (.t 7), none⟩]) (.seq (.seq (.reg [] [⟨some 8, .mv (.t 0), none⟩, ⟨some 9, .len (.t 8), none⟩, ⟨some 10, .bin .sub (.t 9) (.c (.i .i64 1)), none⟩, ⟨some 6, .mv (.t 10), none⟩]) (.block 0 (.loop [(4, 1), (5, 1), (0, 0), (3, 0), (6, 0)] [(4, 1), (5, 0)] b193_0))) (.seq (.reg [] [⟨some 23, .ld true 3 (.t 5), none⟩, ⟨none, .st 3 (.t 4) (.t 23), none⟩]) .ret))))
def p193 : PF := ⟨[(.cell 4 true 3, 0)], [], c193⟩
end Go.Pe
set_option linter.unusedVariables false
namespace Go.Pe
def b212_0 : PC := (.seq (.seq (.join [(0, 0), (3, 0), (16, 0)] (.reg [] [⟨some 6, .mv (.t 3), none⟩, ⟨some 7, .bin .gtr (.t 6) (.c (.i .i64 0)), none⟩, ⟨some 8, .mv (.t 7), none⟩, ⟨some 9, .mv (.t 0), some (8, true)⟩, ⟨some 10, .mv (.t 3), some (8, true)⟩, ⟨some 11, .bin .sub (.t 10) (.c (.i .i64 1)), some (8, true)⟩, ⟨some 12, .idx 3 (.t 9) (.t 11), some (8, true)⟩, ⟨some 13, .ld true 3 (.t 12), some (8, true)⟩, ⟨some 14, .call 162 [(.t 13)], some (8, true)⟩, ⟨some 15, .bin .eql (.t 14) (.c (.i .i64 0)), some (8, true)⟩, ⟨some 16, .pick (.t 8) (.t 15) (.c (.b false)), none⟩])) (.cond (.t 16) .skip (.exit 0))) (.block 1 (.reg [] [⟨some 17, .mv (.t 3), none⟩, ⟨some 18, .bin .sub (.t 17) (.c (.i .i64 1)), none⟩, ⟨some 3, .mv (.t 18), none⟩])))
def c212 : PC := (.seq (.reg [] [⟨some 2, .mv (.c (.ns 3)), none⟩]) (.seq (.reg [] [⟨some 4, .mv (.t 0), none⟩, ⟨some 5, .len (.t 4), none⟩, ⟨some 3, .mv (.t 5), none⟩]) (.seq (.block 0 (.loop [(0, 0), (3, 0)] [(0, 0), (3, 0)] b212_0)) (.seq (.reg [] [⟨some 19, .mv (.t 0), none⟩, ⟨some 20, .mv (.t 3), none⟩, ⟨some 21, .mv (.t 3), none⟩, ⟨some 22, .cut 3 (.t 19) none (some (.t 20)) (some (.t 21)), none⟩, ⟨some 2, .mv (.t 22), none⟩]) .ret))))
def p212 : PF := ⟨[(.tmp 2, 0)], [], c212⟩
def b213_0 : PC := (.seq (.reg [] [⟨some 13, .bin .lss (.t 12) (.t 11), none⟩]) (.seq (.cond (.t 13) .skip (.exit 0)) (.seq (.block 1 (.seq (.reg [] [⟨some 14, .idx 1 (.t 10) (.t 12), none⟩, ⟨some 15, .ld false 1 (.t 14), none⟩, ⟨some 8, .mv (.t 15), none⟩]) (.seq (.reg [] [⟨some 16, .mv (.t 8), none⟩, ⟨some 17, .ld true 3 (.t 3), none⟩, ⟨some 18, .call 193 [(.t 16), (.t 17)], none⟩, ⟨some 19, .call 162 [(.t 18)], none⟩, ⟨some 9, .mv (.t 19), none⟩]) (.seq (.seq (.reg [] [⟨some 20, .mv (.t 9), none⟩, ⟨some 21, .bin .eql (.t 20) (.c (.i .i64 0)), none⟩]) (.cond (.t 21) (.exit 1) .skip)) (.seq (.seq (.join [(3, 0), (5, 0), (9, 0), (10, 0), (11, 0), (12, 0), (28, 0)] (.reg [] [⟨some 22, .mv (.t 6), none⟩, ⟨some 23, .bin .neq (.t 22) (.c (.i .i64 0)), none⟩, ⟨some 24, .mv (.t 23), none⟩, ⟨some 25, .mv (.t 9), some (24, true)⟩, ⟨some 26, .mv (.t 6), some (24, true)⟩, ⟨some 27, .bin .neq (.t 25) (.t 26), some (24, true)⟩, ⟨some 28, .pick (.t 24) (.t 27) (.c (.b false)), none⟩])) (.join [(3, 0), (5, 0), (9, 0), (10, 0), (11, 0), (12, 0)] (.cond (.t 28) (.reg [] [⟨some 29, .mv (.t 5), none⟩, ⟨some 30, .bin .add (.t 29) (.c (.i .i64 1)), none⟩, ⟨some 5, .mv (.t 30), none⟩]) .skip))) (.reg [] [⟨some 31, .mv (.t 9), none⟩, ⟨some 6, .mv (.t 31), none⟩])))))) (.reg [] [⟨some 32, .bin .add (.t 12) (.c (.i .i64 1)), none⟩, ⟨some 12, .mv (.t 32), none⟩]))))
def c213 : PC := (.seq (.reg [] [⟨some 3, .box 3 3 (.t 1), none⟩, ⟨some 4, .mv (.c (.i .i64 0)), none⟩]) (.seq (.reg [] [⟨some 5, .mv (.c (.i .i64 0)), none⟩, ⟨some 6, .mv (.c (.i .i64 0)), none⟩]) (.seq (.seq (.reg [] [⟨some 10, .mv (.t 0), none⟩, ⟨some 11, .len (.t 10), none⟩, ⟨some 12, .mv (.c (.i .i64 0)), none⟩]) (.block 0 (.loop [(3, 0), (5, 0), (6, 0), (10, 0), (11, 0), (12, 0)] [(5, 0)] b213_0))) (.seq (.reg [] [⟨some 33, .mv (.t 5), none⟩, ⟨some 4, .mv (.t 33), none⟩]) .ret))))
def p213 : PF := ⟨[(.tmp 4, 0)], [], c213⟩
def c220 : PC := (.seq (.reg [] [⟨some 1, .box 1 3 (.t 0), none⟩, ⟨some 2, .alloc 2 [.b false, .ns 1, .ns 1], none⟩, ⟨some 3, .mv (.c (.i .i64 0)), none⟩]) (.seq (.reg [] [⟨some 4, .ld true 3 (.t 1), none⟩, ⟨some 5, .call 63 [(.t 4)], none⟩, ⟨none, .st 3 (.t 1) (.t 5), none⟩]) (.seq (.reg [] [⟨some 6, .ld true 3 (.t 1), none⟩, ⟨some 7, .call 66 [(.t 6)], none⟩, ⟨some 8, .fld 0 (.t 1), none⟩, ⟨some 9, .ld true 2 (.t 8), none⟩, ⟨some 10, .call 122 [(.t 7), (.t 9)], none⟩, ⟨some 11, .ext 0 (.t 10), none⟩, ⟨some 12, .ext 1 (.t 10), none⟩, ⟨none, .st 3 (.t 2) (.t 11), none⟩, ⟨some 3, .mv (.t 12), none⟩]) .ret)))
def p220 : PF := ⟨[(.cell 2 true 3, 0), (.tmp 3, 0)], [], c220⟩
def b285_0 : PC := (.seq (.seq (.join [(200000, 2), (0, 1), (3, 0), (15, 0)] (.reg [] [⟨some 6, .mv (.t 3), none⟩, ⟨some 7, .bin .gtr (.t 6) (.c (.i .i64 0)), none⟩, ⟨some 8, .mv (.t 7), none⟩, ⟨some 9, .mv (.t 0), some (8, true)⟩, ⟨some 10, .mv (.t 3), some (8, true)⟩, ⟨some 11, .bin .sub (.t 10) (.c (.i .i64 1)), some (8, true)⟩, ⟨some 12, .idx 1 (.t 9) (.t 11), some (8, true)⟩, ⟨some 13, .ld false 1 (.t 12), some (8, true)⟩, ⟨some 14, .bin .eql (.t 13) (.c (.i .u64 0)), some (8, true)⟩, ⟨some 15, .pick (.t 8) (.t 14) (.c (.b false)), none⟩])) (.cond (.t 15) .skip (.exit 0))) (.block 1 (.reg [] [⟨some 16, .mv (.t 3), none⟩, ⟨some 17, .bin .sub (.t 16) (.c (.i .i64 1)), none⟩, ⟨some 3, .mv (.t 17), none⟩])))
def c285 : PC := (.seq (.reg [] [⟨some 2, .mv (.c (.ns 1)), none⟩]) (.seq (.reg [] [⟨some 4, .mv (.t 0), none⟩, ⟨some 5, .len (.t 4), none⟩, ⟨some 3, .mv (.t 5), none⟩]) (.seq (.block 0 (.loop [(200000, 2), (0, 1), (3, 0)] [(200000, 2), (0, 1), (3, 0)] b285_0)) (.seq (.seq (.reg [] [⟨some 18, .mv (.t 3), none⟩, ⟨some 19, .bin .eql (.t 18) (.c (.i .i64 0)), none⟩]) (.cond (.t 19) (.seq (.reg [] [⟨some 2, .mv (.c (.ns 1)), none⟩]) .ret) .skip)) (.seq (.reg [] [⟨some 20, .mv (.t 0), none⟩, ⟨some 21, .mv (.t 3), none⟩, ⟨some 22, .cut 1 (.t 20) none (some (.t 21)) none, none⟩, ⟨some 2, .mv (.t 22), none⟩]) .ret)))))
def p285 : PF := ⟨[(.tmp 2, 1)], [0], c285⟩
end Go.Pe
set_option linter.unusedVariables false
namespace Go.Pe
def b313_0 : PC := (.seq (.reg [] [⟨some 12, .bin .lss (.t 11) (.t 10), none⟩]) (.seq (.cond (.t 12) .skip (.exit 0)) (.seq (.block 1 (.seq (.reg [] [⟨some 13, .mv (.t 11), none⟩, ⟨some 14, .idx 3 (.t 9) (.t 11), none⟩, ⟨some 15, .ld true 3 (.t 14), none⟩, ⟨some 5, .alloc 5 [.b false, .ns 1, .ns 1], none⟩, ⟨some 4, .mv (.t 13), none⟩, ⟨none, .st 3 (.t 5) (.t 15), none⟩]) (.reg [] [⟨some 16, .mv (.t 3), none⟩, ⟨some 17, .mv (.t 4), none⟩, ⟨some 18, .ld true 3 (.t 5), none⟩, ⟨some 19, .call 63 [(.t 18)], none⟩, ⟨some 20, .idx 3 (.t 16) (.t 17), none⟩, ⟨none, .st 3 (.t 20) (.t 19), none⟩]))) (.reg [] [⟨some 21, .bin .add (.t 11) (.c (.i .i64 1)), none⟩, ⟨some 11, .mv (.t 21), none⟩]))))
def c313 : PC := (.seq (.reg [] [⟨some 2, .mv (.c (.ns 3)), none⟩]) (.seq (.reg [] [⟨some 6, .mv (.t 0), none⟩, ⟨some 7, .len (.t 6), none⟩, ⟨some 8, .mk 8 3 56 [.b false, .ns 1, .ns 1] (.t 7), none⟩, ⟨some 3, .mv (.t 8), none⟩]) (.seq (.seq (.reg [] [⟨some 9, .mv (.t 0), none⟩, ⟨some 10, .len (.t 9), none⟩, ⟨some 11, .mv (.c (.i .i64 0)), none⟩]) (.block 0 (.loop [(3, 1), (9, 0), (10, 0), (11, 0)] [(3, 1)] b313_0))) (.seq (.reg [] [⟨some 22, .mv (.t 3), none⟩, ⟨some 23, .callw 314 [(.t 22)] 0, none⟩, ⟨some 2, .mv (.t 23), none⟩]) .ret))))
def p313 : PF := ⟨[(.tmp 2, 1)], [], c313⟩
def b314_0 : PC := (.seq (.seq (.join [(200000, 2), (0, 1), (3, 0), (16, 0)] (.reg [] [⟨some 6, .mv (.t 3), none⟩, ⟨some 7, .bin .gtr (.t 6) (.c (.i .i64 0)), none⟩, ⟨some 8, .mv (.t 7), none⟩, ⟨some 9, .mv (.t 0), some (8, true)⟩, ⟨some 10, .mv (.t 3), some (8, true)⟩, ⟨some 11, .bin .sub (.t 10) (.c (.i .i64 1)), some (8, true)⟩, ⟨some 12, .idx 3 (.t 9) (.t 11), some (8, true)⟩, ⟨some 13, .ld true 3 (.t 12), some (8, true)⟩, ⟨some 14, .call 162 [(.t 13)], some (8, true)⟩, ⟨some 15, .bin .eql (.t 14) (.c (.i .i64 0)), some (8, true)⟩, ⟨some 16, .pick (.t 8) (.t 15) (.c (.b false)), none⟩])) (.cond (.t 16) .skip (.exit 0))) (.block 1 (.reg [] [⟨some 17, .mv (.t 3), none⟩, ⟨some 18, .bin .sub (.t 17) (.c (.i .i64 1)), none⟩, ⟨some 3, .mv (.t 18), none⟩])))
def c314 : PC := (.seq (.reg [] [⟨some 2, .mv (.c (.ns 3)), none⟩]) (.seq (.reg [] [⟨some 4, .mv (.t 0), none⟩, ⟨some 5, .len (.t 4), none⟩, ⟨some 3, .mv (.t 5), none⟩]) (.seq (.block 0 (.loop [(200000, 2), (0, 1), (3, 0)] [(200000, 2), (0, 1), (3, 0)] b314_0)) (.seq (.reg [] [⟨some 19, .mv (.t 0), none⟩, ⟨some 20, .mv (.t 3), none⟩, ⟨some 21, .mv (.t 3), none⟩, ⟨some 22, .cut 3 (.t 19) none (some (.t 20)) (some (.t 21)), none⟩, ⟨some 2, .mv (.t 22), none⟩]) .ret))))
def p314 : PF := ⟨[(.tmp 2, 1)], [0], c314⟩
end Go.Pe
namespace Go.Pe
def FF : Nat → Option PF
  | 14 => some p14
  | 24 => some p24
  | 31 => some p31
  | 46 => some p46
  | 54 => some p54
  | 55 => some p55
  | 56 => some p56
  | 57 => some p57
  | 63 => some p63
  | 64 => some p64
  | 65 => some p65
  | 66 => some p66
  | 68 => some p68
  | 70 => some p70
  | 71 => some p71
  | 72 => some p72
  | 73 => some p73
  | 75 => some p75
  | 76 => some p76
  | 77 => some p77
  | 81 => some p81
  | 82 => some p82
  | 83 => some p83
  | 86 => some p86
  | 92 => some p92
  | 94 => some p94
  | 96 => some p96
  | 106 => some p106
  | 107 => some p107
  | 108 => some p108
  | 109 => some p109
  | 110 => some p110
  | 111 => some p111
  | 112 => some p112
  | 113 => some p113
  | 114 => some p114
  | 115 => some p115
  | 116 => some p116
  | 117 => some p117
  | 122 => some p122
  | 127 => some p127
  | 128 => some p128
  | 129 => some p129
  | 130 => some p130
  | 131 => some p131
  | 137 => some p137
  | 138 => some p138
  | 139 => some p139
  | 140 => some p140
  | 141 => some p141
  | 146 => some p146
  | 160 => some p160
  | 161 => some p161
  | 162 => some p162
  | 163 => some p163
  | 164 => some p164
  | 165 => some p165
  | 166 => some p166
  | 174 => some p174
  | 175 => some p175
  | 176 => some p176
  | 180 => some p180
  | 181 => some p181
  | 182 => some p182
  | 185 => some p185
  | 189 => some p189
  | 191 => some p191
  | 193 => some p193
  | 212 => some p212
  | 213 => some p213
  | 220 => some p220
  | 285 => some p285
  | 313 => some p313
  | 314 => some p314
  | _ => none
theorem F14 : FF 14 = some ⟨[(.tmp 4, 0)], [], c14⟩ := rfl
theorem F24 : FF 24 = some ⟨[(.tmp 2, 0)], [], c24⟩ := rfl
theorem F31 : FF 31 = some ⟨[(.cell 4 true 3, 0)], [], c31⟩ := rfl
theorem F46 : FF 46 = some ⟨[(.tmp 2, 0)], [], c46⟩ := rfl
theorem F54 : FF 54 = some ⟨[(.cell 0 true 3, 0)], [], c54⟩ := rfl
theorem F55 : FF 55 = some ⟨[(.cell 4 true 3, 0)], [], c55⟩ := rfl
theorem F56 : FF 56 = some ⟨[(.cell 0 true 3, 0)], [], c56⟩ := rfl
theorem F57 : FF 57 = some ⟨[(.tmp 4, 0)], [], c57⟩ := rfl
theorem F63 : FF 63 = some ⟨[(.cell 2 true 3, 0)], [], c63⟩ := rfl
theorem F64 : FF 64 = some ⟨[(.tmp 4, 0)], [], c64⟩ := rfl
theorem F65 : FF 65 = some ⟨[(.cell 4 true 2, 0)], [], c65⟩ := rfl
theorem F66 : FF 66 = some ⟨[(.cell 2 true 2, 0)], [], c66⟩ := rfl
theorem F68 : FF 68 = some ⟨[(.cell 2 true 3, 0)], [], c68⟩ := rfl
theorem F70 : FF 70 = some ⟨[(.tmp 2, 0)], [], c70⟩ := rfl
theorem F71 : FF 71 = some ⟨[(.tmp 4, 0)], [], c71⟩ := rfl
theorem F72 : FF 72 = some ⟨[(.tmp 4, 0)], [], c72⟩ := rfl
theorem F73 : FF 73 = some ⟨[(.tmp 2, 0)], [], c73⟩ := rfl
theorem F75 : FF 75 = some ⟨[(.cell 4 true 3, 0)], [], c75⟩ := rfl
theorem F76 : FF 76 = some ⟨[(.cell 4 true 2, 0)], [], c76⟩ := rfl
theorem F77 : FF 77 = some ⟨[(.tmp 4, 0)], [], c77⟩ := rfl
theorem F81 : FF 81 = some ⟨[(.cell 2 true 2, 0)], [], c81⟩ := rfl
theorem F82 : FF 82 = some ⟨[(.cell 2 true 2, 0)], [], c82⟩ := rfl
theorem F83 : FF 83 = some ⟨[(.tmp 2, 0)], [], c83⟩ := rfl
theorem F86 : FF 86 = some ⟨[(.cell 2 true 2, 0)], [], c86⟩ := rfl
theorem F92 : FF 92 = some ⟨[(.cell 4 true 2, 0)], [], c92⟩ := rfl
theorem F94 : FF 94 = some ⟨[(.cell 4 true 3, 0)], [], c94⟩ := rfl
theorem F96 : FF 96 = some ⟨[(.cell 2 true 3, 0)], [], c96⟩ := rfl
theorem F106 : FF 106 = some ⟨[(.tmp 2, 0)], [], c106⟩ := rfl
theorem F107 : FF 107 = some ⟨[(.tmp 4, 0)], [], c107⟩ := rfl
theorem F108 : FF 108 = some ⟨[(.tmp 2, 0)], [], c108⟩ := rfl
theorem F109 : FF 109 = some ⟨[(.tmp 4, 0)], [], c109⟩ := rfl
theorem F110 : FF 110 = some ⟨[(.tmp 4, 0)], [], c110⟩ := rfl
theorem F111 : FF 111 = some ⟨[(.tmp 4, 1)], [], c111⟩ := rfl
theorem F112 : FF 112 = some ⟨[(.tmp 4, 0), (.tmp 5, 0)], [], c112⟩ := rfl
theorem F113 : FF 113 = some ⟨[(.tmp 4, 0)], [], c113⟩ := rfl
theorem F114 : FF 114 = some ⟨[(.tmp 2, 0)], [], c114⟩ := rfl
theorem F115 : FF 115 = some ⟨[(.tmp 4, 0), (.tmp 5, 0), (.tmp 6, 0)], [], c115⟩ := rfl
theorem F116 : FF 116 = some ⟨[(.tmp 4, 0)], [], c116⟩ := rfl
theorem F117 : FF 117 = some ⟨[(.tmp 4, 0), (.tmp 5, 0)], [], c117⟩ := rfl
theorem F122 : FF 122 = some ⟨[(.cell 4 true 3, 0), (.tmp 5, 0)], [], c122⟩ := rfl
theorem F127 : FF 127 = some ⟨[(.tmp 2, 0), (.tmp 3, 0)], [], c127⟩ := rfl
theorem F128 : FF 128 = some ⟨[(.tmp 2, 0)], [], c128⟩ := rfl
theorem F129 : FF 129 = some ⟨[(.tmp 4, 0)], [], c129⟩ := rfl
theorem F130 : FF 130 = some ⟨[(.tmp 4, 0), (.tmp 5, 0)], [], c130⟩ := rfl
theorem F131 : FF 131 = some ⟨[(.tmp 4, 0), (.tmp 5, 0)], [], c131⟩ := rfl
theorem F137 : FF 137 = some ⟨[(.tmp 2, 0)], [], c137⟩ := rfl
theorem F138 : FF 138 = some ⟨[(.tmp 4, 0)], [0], c138⟩ := rfl
theorem F139 : FF 139 = some ⟨[(.tmp 2, 0)], [], c139⟩ := rfl
theorem F140 : FF 140 = some ⟨[(.tmp 6, 0)], [0], c140⟩ := rfl
theorem F141 : FF 141 = some ⟨[], [0], c141⟩ := rfl
theorem F146 : FF 146 = some ⟨[(.tmp 6, 0)], [], c146⟩ := rfl
theorem F160 : FF 160 = some ⟨[(.tmp 4, 0)], [], c160⟩ := rfl
theorem F161 : FF 161 = some ⟨[(.cell 2 true 3, 0)], [], c161⟩ := rfl
theorem F162 : FF 162 = some ⟨[(.tmp 2, 0)], [], c162⟩ := rfl
theorem F163 : FF 163 = some ⟨[(.tmp 4, 0)], [], c163⟩ := rfl
theorem F164 : FF 164 = some ⟨[(.tmp 4, 0)], [], c164⟩ := rfl
theorem F165 : FF 165 = some ⟨[(.tmp 6, 0), (.tmp 7, 0)], [], c165⟩ := rfl
theorem F166 : FF 166 = some ⟨[(.tmp 0, 0)], [], c166⟩ := rfl
theorem F174 : FF 174 = some ⟨[(.tmp 2, 0)], [], c174⟩ := rfl
theorem F175 : FF 175 = some ⟨[(.tmp 4, 0)], [], c175⟩ := rfl
theorem F176 : FF 176 = some ⟨[(.tmp 4, 0), (.tmp 5, 0), (.tmp 6, 0)], [], c176⟩ := rfl
theorem F180 : FF 180 = some ⟨[(.tmp 2, 0)], [], c180⟩ := rfl
theorem F181 : FF 181 = some ⟨[(.tmp 2, 0)], [], c181⟩ := rfl
theorem F182 : FF 182 = some ⟨[(.tmp 4, 0)], [], c182⟩ := rfl
theorem F185 : FF 185 = some ⟨[(.tmp 2, 0)], [], c185⟩ := rfl
theorem F189 : FF 189 = some ⟨[(.cell 4 true 3, 0)], [], c189⟩ := rfl
theorem F191 : FF 191 = some ⟨[(.tmp 2, 0)], [], c191⟩ := rfl
theorem F193 : FF 193 = some ⟨[(.cell 4 true 3, 0)], [], c193⟩ := rfl
theorem F212 : FF 212 = some ⟨[(.tmp 2, 0)], [], c212⟩ := rfl
theorem F213 : FF 213 = some ⟨[(.tmp 4, 0)], [], c213⟩ := rfl
theorem F220 : FF 220 = some ⟨[(.cell 2 true 3, 0), (.tmp 3, 0)], [], c220⟩ := rfl
theorem F285 : FF 285 = some ⟨[(.tmp 2, 1)], [0], c285⟩ := rfl
theorem F313 : FF 313 = some ⟨[(.tmp 2, 1)], [], c313⟩ := rfl
theorem F314 : FF 314 = some ⟨[(.tmp 2, 1)], [0], c314⟩ := rfl
end Go.Pe
set_option linter.unusedVariables false
namespace Go.Pe
theorem RB : type_of% (And.intro (rules FF) (And.intro (ites FF) (And.intro (nones FF) (And.intro @nones' (And.intro @merge (And.intro @upd_apply (And.intro @put_apply (And.intro @tells (And.intro @refs (And.intro @unpacks (And.intro @uns (And.intro @encs (And.intro @ats (And.intro @ops (And.intro @bins (And.intro @binb (And.intro @shs (And.intro @quos (And.intro @vals (And.intro @opts (And.intro @optites (And.intro @ints (And.intro @idxs (And.intro @stores (And.intro @cuts (And.intro @cutk (And.intro @makes (And.intro @boxes (And.intro @apps (And.intro @packs (And.intro @calls (And.intro @maps (And.intro @reps (And.intro @boolites (And.intro @boolnots (And.intro @lits (And.intro @celltells (And.intro @cellrefs (And.intro @boolq (And.intro @casts (And.intro @idxl (And.intro @idxas (And.intro @conses (And.intro @ldcs (And.intro @aliases (And.intro @frzs (And.intro @callos (And.intro @more (And.intro @more' (And.intro @sidxs (And.intro @lends (And.intro @ends (And.intro @endites (And.intro @endnones (And.intro @tellr (And.intro @listc (And.intro @true_and (And.intro @and_true (And.intro @false_and (And.intro @and_false (And.intro @decide_eq_true_eq (And.intro @Bool.false_eq_true (And.intro @Bool.not_true (And.intro @Bool.not_false (And.intro @Bool.true_eq_false (And.intro @Bool.and_eq_true (And.intro @Bool.or_eq_true (And.intro @Bool.or_true (And.intro @Bool.or_false (And.intro @Bool.and_true (And.intro @Bool.and_false (And.intro @Bool.true_and (And.intro @Bool.false_and (And.intro @Bool.true_or (And.intro @Bool.false_or (And.intro @decide_true (And.intro @decide_false (And.intro @Bool.not_eq_true (And.intro @Bool.not_eq_false (And.intro @not_false_eq_true (And.intro @or_false (And.intro @false_or (And.intro @or_true (And.intro @true_or (And.intro @Nat.sub_zero (And.intro @Nat.zero_add (And.intro @Nat.add_zero (And.intro @Int.toNat_natCast (And.intro @Int.toNat_zero (@Int.ofNat_zero)))))))))))))))))))))))))))))))))))))))))))))))))))))))))))))))))))))))))))))))))))))))))) := And.intro (rules FF) (And.intro (ites FF) (And.intro (nones FF) (And.intro @nones' (And.intro @merge (And.intro @upd_apply (And.intro @put_apply (And.intro @tells (And.intro @refs (And.intro @unpacks (And.intro @uns (And.intro @encs (And.intro @ats (And.intro @ops (And.intro @bins (And.intro @binb (And.intro @shs (And.intro @quos (And.intro @vals (And.intro @opts (And.intro @optites (And.intro @ints (And.intro @idxs (And.intro @stores (And.intro @cuts (And.intro @cutk (And.intro @makes (And.intro @boxes (And.intro @apps (And.intro @packs (And.intro @calls (And.intro @maps (And.intro @reps (And.intro @boolites (And.intro @boolnots (And.intro @lits (And.intro @celltells (And.intro @cellrefs (And.intro @boolq (And.intro @casts (And.intro @idxl (And.intro @idxas (And.intro @conses (And.intro @ldcs (And.intro @aliases (And.intro @frzs (And.intro @callos (And.intro @more (And.intro @more' (And.intro @sidxs (And.intro @lends (And.intro @ends (And.intro @endites (And.intro @endnones (And.intro @tellr (And.intro @listc (And.intro @true_and (And.intro @and_true (And.intro @false_and (And.intro @and_false (And.intro @decide_eq_true_eq (And.intro @Bool.false_eq_true (And.intro @Bool.not_true (And.intro @Bool.not_false (And.intro @Bool.true_eq_false (And.intro @Bool.and_eq_true (And.intro @Bool.or_eq_true (And.intro @Bool.or_true (And.intro @Bool.or_false (And.intro @Bool.and_true (And.intro @Bool.and_false (And.intro @Bool.true_and (And.intro @Bool.false_and (And.intro @Bool.true_or (And.intro @Bool.false_or (And.intro @decide_true (And.intro @decide_false (And.intro @Bool.not_eq_true (And.intro @Bool.not_eq_false (And.intro @not_false_eq_true (And.intro @or_false (And.intro @false_or (And.intro @or_true (And.intro @true_or (And.intro @Nat.sub_zero (And.intro @Nat.zero_add (And.intro @Nat.add_zero (And.intro @Int.toNat_natCast (And.intro @Int.toNat_zero (@Int.ofNat_zero)))))))))))))))))))))))))))))))))))))))))))))))))))))))))))))))))))))))))))))))))))))))))
end Go.Pe
namespace Dg
def vl (B : Int) : List Int → Int
  | [] => 0
  | x :: r => x + B * vl B r
def Dig (B : Int) (l : List Int) : Prop := ∀ x, x ∈ l → 0 ≤ x ∧ x < B
def dg (B : Nat) (n : Nat) : List Int :=
  if h : n = 0 ∨ B < 2 then [] else ((n % B : Nat) : Int) :: dg B (n / B)
termination_by n
decreasing_by exact Nat.div_lt_self (by omega) (by omega)
theorem dg_zero (B : Nat) : dg B 0 = [] := by unfold dg; simp
theorem dg_succ {B n : Nat} (hB : 2 ≤ B) (hn : n ≠ 0) : dg B n = ((n % B : Nat) : Int) :: dg B (n / B) := by
  conv => lhs; unfold dg
  rw [dif_neg (by omega)]
theorem vl_nil (B : Int) : vl B [] = 0 := rfl
theorem vl_append (B : Int) (l m : List Int) : vl B (l ++ m) = vl B l + B ^ l.length * vl B m := by
  induction l with
  | nil => simp [vl]
  | cons x r ih => simp only [List.cons_append, vl, ih, List.length_cons, Int.pow_succ]; grind
theorem vl_take_succ (B : Int) (l : List Int) (n : Nat) : vl B (l.take (n + 1)) = vl B (l.take n) + l.getD n 0 * B ^ n := by
  induction l generalizing n with
  | nil => simp [vl]
  | cons x r ih =>
    cases n with
    | zero => simp [vl]
    | succ n => simp only [List.take_succ_cons, vl, ih, List.getD_cons_succ, Int.pow_succ]; grind
theorem vl_drop_succ (B : Int) (l : List Int) (n : Nat) : vl B (l.drop n) = l.getD n 0 + B * vl B (l.drop (n + 1)) := by
  induction l generalizing n with
  | nil => simp [vl]
  | cons x r ih =>
    cases n with
    | zero => simp [vl]
    | succ n => simpa using ih n
theorem vl_take_drop (B : Int) (l : List Int) (n : Nat) : vl B l = vl B (l.take n) + B ^ n * vl B (l.drop n) := by
  induction n with
  | zero => simp [vl]
  | succ n ih => rw [vl_take_succ, ih, vl_drop_succ B l n, Int.pow_succ]; grind
theorem vl_take_set (B : Int) (l : List Int) (i n : Nat) (v : Int) (h : n ≤ i) : vl B ((l.set i v).take n) = vl B (l.take n) := by
  rw [List.take_set_of_le h]
theorem getD_set (l : List Int) (i j : Nat) (v : Int) (h : i < l.length) : (l.set i v).getD j 0 = if i = j then v else l.getD j 0 := by
  simp only [List.getD_eq_getElem?_getD, List.getElem?_set]
  split
  · rename_i h1; subst h1; simp
  · rfl
theorem vl_drop_set (B : Int) (l : List Int) (i n : Nat) (v : Int) (h : i < n) : vl B ((l.set i v).drop n) = vl B (l.drop n) := by
  rw [List.drop_set_of_lt h]
theorem vl_set (B : Int) (l : List Int) (i : Nat) (v : Int) (h : i < l.length) : vl B (l.set i v) = vl B l + (v - l.getD i 0) * B ^ i := by
  rw [vl_take_drop B (l.set i v) i, vl_take_drop B l i, vl_take_set _ _ _ _ _ (Nat.le_refl _), vl_drop_succ, vl_drop_succ B l i, vl_drop_set _ _ _ _ _ (Nat.lt_succ_self _), getD_set _ _ _ _ h]
  grind
theorem Dig.getD {B : Int} {l : List Int} (h : Dig B l) (hB : 0 < B) (n : Nat) : 0 ≤ l.getD n 0 ∧ l.getD n 0 < B := by
  rw [List.getD_eq_getElem?_getD]
  rcases Nat.lt_or_ge n l.length with hn | hn
  · rw [List.getElem?_eq_getElem hn]; exact h _ (List.getElem_mem hn)
  · rw [List.getElem?_eq_none hn]; simp; exact hB
theorem Dig.take {B : Int} {l : List Int} (h : Dig B l) (n : Nat) : Dig B (l.take n) := fun x hx => h x (List.mem_of_mem_take hx)
theorem Dig.drop {B : Int} {l : List Int} (h : Dig B l) (n : Nat) : Dig B (l.drop n) := fun x hx => h x (List.mem_of_mem_drop hx)
theorem Dig.set {B : Int} {l : List Int} (h : Dig B l) (n : Nat) {v : Int} (h0 : 0 ≤ v) (h1 : v < B) : Dig B (l.set n v) := by
  intro x hx
  rcases List.mem_or_eq_of_mem_set hx with hx | rfl
  · exact h x hx
  · exact ⟨h0, h1⟩
theorem Dig.nil {B : Int} : Dig B [] := fun x hx => by simp at hx
theorem Dig.cons {B x : Int} {r : List Int} (h0 : 0 ≤ x) (h1 : x < B) (h : Dig B r) : Dig B (x :: r) := by
  intro y hy
  rcases List.mem_cons.1 hy with rfl | hy
  · exact ⟨h0, h1⟩
  · exact h y hy
theorem Dig.append {B : Int} {l m : List Int} (h : Dig B l) (k : Dig B m) : Dig B (l ++ m) := by
  intro y hy
  rcases List.mem_append.1 hy with hy | hy
  · exact h y hy
  · exact k y hy
theorem Dig.replicate {B : Int} (hB : 0 < B) (n : Nat) : Dig B (List.replicate n 0) := by
  intro y hy
  rw [List.mem_replicate] at hy
  omega
theorem vl_nonneg {B : Int} {l : List Int} (h : Dig B l) (hB : 0 < B) : 0 ≤ vl B l := by
  induction l with
  | nil => simp [vl]
  | cons x r ih =>
    have h1 := h x (by simp)
    have h2 := ih (fun y hy => h y (by simp [hy]))
    have := Int.mul_nonneg (Int.le_of_lt hB) h2
    simp only [vl]; omega
theorem vl_lt {B : Int} {l : List Int} (h : Dig B l) (hB : 0 < B) : vl B l < B ^ l.length := by
  induction l with
  | nil => simp [vl]
  | cons x r ih =>
    have h1 := h x (by simp)
    have h2 := ih (fun y hy => h y (by simp [hy]))
    have h3 : B * (vl B r + 1) ≤ B * B ^ r.length := Int.mul_le_mul_of_nonneg_left (by omega) (by omega)
    rw [List.length_cons, Int.pow_succ, Int.mul_comm _ B]
    simp only [vl]
    have h4 : B * (vl B r + 1) = B * vl B r + B := by grind
    omega
theorem vl_replicate_zero (B : Int) (n : Nat) : vl B (List.replicate n 0) = 0 := by
  induction n with
  | zero => rfl
  | succ n ih => rw [List.replicate_succ, vl, ih]; simp
theorem dg_dig {B : Nat} (hB : 2 ≤ B) (n : Nat) : Dig B (dg B n) := by
  induction n using Nat.strongRecOn with
  | _ n ih =>
    by_cases hn : n = 0
    · subst hn; rw [dg_zero]; exact Dig.nil
    · rw [dg_succ hB hn]
      have := Nat.mod_lt n (show 0 < B by omega)
      exact Dig.cons (by omega) (by omega) (ih _ (Nat.div_lt_self (by omega) (by omega)))
theorem vl_dg {B : Nat} (hB : 2 ≤ B) (n : Nat) : vl B (dg B n) = n := by
  induction n using Nat.strongRecOn with
  | _ n ih =>
    by_cases hn : n = 0
    · subst hn; rw [dg_zero]; rfl
    · rw [dg_succ hB hn, vl, ih _ (Nat.div_lt_self (by omega) (by omega))]
      have := Nat.mod_add_div n B
      exact_mod_cast this
def Top (l : List Int) : Prop := l ≠ [] → l.getD (l.length - 1) 0 ≠ 0
theorem Top.nil : Top [] := fun h => absurd rfl h
theorem Top.tail {x y : Int} {r : List Int} (h : Top (x :: y :: r)) : Top (y :: r) := by
  intro _
  have := h (by simp)
  simpa using this
theorem dg_eq_nil {B n : Nat} (hB : 2 ≤ B) : dg B n = [] ↔ n = 0 := by
  constructor
  · intro h
    by_cases hn : n = 0
    · exact hn
    · rw [dg_succ hB hn] at h; cases h
  · rintro rfl; exact dg_zero B
theorem dg_vl {B : Nat} (hB : 2 ≤ B) {l : List Int} (hd : Dig B l) (ht : Top l) : dg B (vl B l).toNat = l := by
  induction l with
  | nil => simp [vl, dg_zero]
  | cons x r ih =>
    have h1 := hd x (by simp)
    have hr : Dig B r := fun y hy => hd y (by simp [hy])
    have hn := vl_nonneg hr (by omega)
    obtain ⟨v, hv⟩ := Int.eq_ofNat_of_zero_le hn
    obtain ⟨y, rfl⟩ := Int.eq_ofNat_of_zero_le h1.1
    have hyB : y < B := by omega
    have htr : Top r := by
      cases r with
      | nil => exact Top.nil
      | cons z r => exact ht.tail
    have ih := ih hr htr
    rw [hv] at ih
    have hval : (vl B ((y : Int) :: r)).toNat = y + B * v := by
      rw [vl, hv]; norm_cast
    rw [hval]
    have hne : y + B * v ≠ 0 := by
      cases r with
      | nil =>
        have := ht (by simp)
        simp at this
        omega
      | cons z r =>
        intro h0
        have hv0 : v = 0 := by
          have : B * v = 0 := by omega
          rcases Nat.mul_eq_zero.1 this with h | h <;> omega
        subst hv0
        simp [dg_zero] at ih
    have hm : (y + B * v) % B = y := by rw [Nat.add_mul_mod_self_left, Nat.mod_eq_of_lt hyB]
    have hq : (y + B * v) / B = v := by rw [Nat.add_mul_div_left _ _ (by omega), Nat.div_eq_of_lt hyB, Nat.zero_add]
    rw [dg_succ hB hne, hm, hq]
    have : (v : Int).toNat = v := by simp
    rw [this] at ih
    rw [ih]
theorem dg_top {B : Nat} (hB : 2 ≤ B) (n : Nat) : Top (dg B n) := by
  induction n using Nat.strongRecOn with
  | _ n ih =>
    by_cases hn : n = 0
    · subst hn; rw [dg_zero]; exact Top.nil
    · rw [dg_succ hB hn]
      intro _
      have hlt := Nat.div_lt_self (n := n) (k := B) (by omega) (by omega)
      by_cases h0 : n / B = 0
      · rw [h0, dg_zero]
        simp
        have := Nat.mod_add_div n B
        rw [h0] at this
        omega
      · have h2 := ih _ hlt
        rw [dg_succ hB h0] at h2 ⊢
        have := h2 (by simp)
        simpa using this
theorem top_unique {B : Nat} (hB : 2 ≤ B) {l m : List Int} (hl : Dig B l) (hm : Dig B m) (tl : Top l) (tm : Top m) (h : vl B l = vl B m) : l = m := by
  rw [← dg_vl hB hl tl, ← dg_vl hB hm tm, h]
end Dg
set_option linter.unusedVariables false
set_option linter.unusedSimpArgs false
namespace Go.Pe
theorem w64 {x : Int} (h0 : -9223372036854775808 ≤ x) (h1 : x ≤ 9223372036854775807) : IntKind.i64.wrap x = x := by rw [IntKind.wrap_i64]; omega
theorem w64add {i m : Nat} (h : i + m ≤ 9223372036854775807) : IntKind.i64.wrap ((i : Int) + (m : Int)) = ((i + m : Nat) : Int) := by rw [w64 (by omega) (by omega)]; omega
theorem w64succ {i : Nat} (h : i + 1 ≤ 9223372036854775807) : IntKind.i64.wrap ((i : Int) + 1) = ((i + 1 : Nat) : Int) := by rw [w64 (by omega) (by omega)]; omega
theorem u64w {x : Int} (h0 : 0 ≤ x) (h1 : x ≤ 18446744073709551615) : IntKind.u64.wrap x = x := by
  have : IntKind.u64.wrap x = x % 18446744073709551616 := by simp [IntKind.wrap, IntKind.bits, IntKind.signed]
  rw [this]; omega
theorem u64m (x : Int) : IntKind.u64.wrap x = x % 18446744073709551616 := by simp [IntKind.wrap, IntKind.bits, IntKind.signed]
theorem u64_id (n : Int) (h₀ : 0 ≤ n) (h₁ : n < 2 ^ 64) : IntKind.u64.wrap n = n := by rw [u64m]; omega
theorem and32 {x : Int} (h0 : 0 ≤ x) (h1 : x ≤ 18446744073709551615) : Go.bits .and .u64 x 4294967295 = x % 4294967296 :=
  bits_mask .u64 64 (by decide) u64_id 32 (by decide) x h0 (by omega)
theorem or32 {x y : Int} (hx : 0 ≤ x) (h1 : x ≤ 4294967295) (h2 : 0 ≤ y) (h3 : y ≤ 4294967295) : Go.bits .or .u64 (x * 4294967296) y = x * 4294967296 + y :=
  bits_join .u64 64 (by decide) u64_id 32 (x * 4294967296) y (by omega) (by omega) (by omega) h2 (by omega) (by omega)
theorem wf_u64 {x : Int} (h : (Lit.int .u64 x).wf = true) : 0 ≤ x ∧ x ≤ 18446744073709551615 := by
  simp [Lit.wf, IntKind.min, IntKind.max, IntKind.signed, IntKind.bits] at h
  omega
def D (n : Nat) : List Int := Dg.dg 4294967296 n
def W (l : List Int) : Nat := (Dg.vl 4294967296 (l.map (· % 4294967296))).toNat
def U (l : List Int) : Prop := ∀ x, x ∈ l → 0 ≤ x ∧ x ≤ 18446744073709551615
theorem D_dig (n : Nat) : Dg.Dig 4294967296 (D n) := Dg.dg_dig (by decide) n
theorem D_top (n : Nat) : Dg.Top (D n) := Dg.dg_top (by decide) n
theorem D_vl (n : Nat) : Dg.vl 4294967296 (D n) = n := Dg.vl_dg (by decide) n
theorem D_U (n : Nat) : U (D n) := fun x hx => by have := D_dig n x hx; omega
theorem D_get (n i : Nat) : 0 ≤ (D n).getD i 0 ∧ (D n).getD i 0 < 4294967296 := (D_dig n).getD (by decide) i
theorem D_zero : D 0 = [] := Dg.dg_zero _
theorem D_nil {n : Nat} : D n = [] ↔ n = 0 := Dg.dg_eq_nil (by decide)
theorem map_mod_dig {l : List Int} (h : Dg.Dig 4294967296 l) : l.map (· % 4294967296) = l := by
  conv => rhs; rw [← List.map_id l]
  apply List.map_congr_left
  intro x hx
  have := h x hx
  simp only [id]
  omega
theorem W_dig {l : List Int} (h : Dg.Dig 4294967296 l) : (W l : Int) = Dg.vl 4294967296 l := by
  unfold W
  rw [map_mod_dig h]
  have := Dg.vl_nonneg h (by decide)
  omega
theorem W_D (n : Nat) : W (D n) = n := by
  have := W_dig (D_dig n)
  rw [D_vl] at this
  omega
theorem map_dig (l : List Int) : Dg.Dig 4294967296 (l.map (· % 4294967296)) := by
  intro x hx
  obtain ⟨y, _, rfl⟩ := List.mem_map.1 hx
  omega
theorem W_map (l : List Int) : (W l : Int) = Dg.vl 4294967296 (l.map (· % 4294967296)) := by
  unfold W
  have := Dg.vl_nonneg (map_dig l) (by decide)
  omega
theorem D_of {l : List Int} (hd : Dg.Dig 4294967296 l) (ht : Dg.Top l) {n : Nat} (hv : Dg.vl 4294967296 l = n) : l = D n :=
  Dg.top_unique (B := 4294967296) (by decide) hd (D_dig n) ht (D_top n) (hv.trans (D_vl n).symm)
theorem len_lt (B : Nat) (hB : 2 ≤ B) (n : Nat) : n < B ^ (Dg.dg B n).length := by
  have h := Dg.vl_lt (Dg.dg_dig hB n) (by omega)
  rw [Dg.vl_dg hB] at h
  exact_mod_cast h
theorem len_le_of_lt (B : Nat) (hB : 2 ≤ B) {n k : Nat} (h : n < B ^ k) : (Dg.dg B n).length ≤ k := by
  induction k generalizing n with
  | zero =>
    have : n = 0 := by simpa using h
    subst this
    rw [Dg.dg_zero]
    simp
  | succ k ih =>
    by_cases hn : n = 0
    · subst hn
      rw [Dg.dg_zero]
      simp
    · rw [Dg.dg_succ hB hn, List.length_cons]
      have : n / B < B ^ k := by
        rw [Nat.div_lt_iff_lt_mul (by omega)]
        rw [Nat.pow_succ] at h
        exact h
      have := ih this
      omega
theorem len_mono (B : Nat) (hB : 2 ≤ B) {m n : Nat} (h : m ≤ n) : (Dg.dg B m).length ≤ (Dg.dg B n).length :=
  len_le_of_lt B hB (Nat.lt_of_le_of_lt h (len_lt B hB n))
theorem len_lt_imp (B : Nat) (hB : 2 ≤ B) {m n : Nat} (h : (Dg.dg B m).length < (Dg.dg B n).length) : m < n := by
  apply Classical.byContradiction
  intro hc
  have := len_mono B hB (Nat.le_of_not_lt hc)
  omega
def L (n : Nat) : Nat := (D n).length
theorem L_lt (n : Nat) : n < 4294967296 ^ L n := len_lt _ (by decide) n
theorem L_le {n k : Nat} (h : n < 4294967296 ^ k) : L n ≤ k := len_le_of_lt _ (by decide) h
theorem L_mono {m n : Nat} (h : m ≤ n) : L m ≤ L n := len_mono _ (by decide) h
theorem add_lt_pow (B : Nat) (hB : 2 ≤ B) {a b i j : Nat} (ha : a < B ^ i) (hb : b < B ^ j) : a + b < B ^ (max i j + 1) := by
  have h1 : B ^ i ≤ B ^ max i j := Nat.pow_le_pow_right (by omega) (Nat.le_max_left _ _)
  have h2 : B ^ j ≤ B ^ max i j := Nat.pow_le_pow_right (by omega) (Nat.le_max_right _ _)
  rw [Nat.pow_succ]
  have h3 : B ^ max i j * 2 ≤ B ^ max i j * B := Nat.mul_le_mul_left _ hB
  omega
theorem mul_lt_pow (B : Nat) (hB : 2 ≤ B) {a b i j : Nat} (ha : a < B ^ i) (hb : b < B ^ j) : a * b < B ^ (i + j) := by
  rw [Nat.pow_add]
  rcases Nat.eq_zero_or_pos b with h | h
  · subst h
    rw [Nat.mul_zero]
    exact Nat.mul_pos (Nat.pow_pos (by omega)) (Nat.pow_pos (by omega))
  · exact Nat.lt_of_lt_of_le ((Nat.mul_lt_mul_right h).2 ha) (Nat.mul_le_mul_left _ (Nat.le_of_lt hb))
theorem L_add (a b : Nat) : L (a + b) ≤ max (L a) (L b) + 1 := L_le (add_lt_pow _ (by decide) (L_lt a) (L_lt b))
theorem L_mul (a b : Nat) : L (a * b) ≤ L a + L b := L_le (mul_lt_pow _ (by decide) (L_lt a) (L_lt b))
theorem L_W (l : List Int) : L (W l) ≤ l.length := by
  apply L_le
  have := Dg.vl_lt (map_dig l) (by decide)
  rw [← W_map, List.length_map, show (4294967296 : Int) = ((4294967296 : Nat) : Int) from rfl, ← Int.natCast_pow] at this
  exact Int.ofNat_lt.1 this
def cmp (a b : Int) : Int := if a < b then -1 else if b < a then 1 else 0
theorem cmp_lt {a b : Int} (h : a < b) : cmp a b = -1 := by unfold cmp; rw [if_pos h]
theorem cmp_gt {a b : Int} (h : b < a) : cmp a b = 1 := by unfold cmp; rw [if_neg (by omega), if_pos h]
theorem cmp_eq {a b : Int} (h : a = b) : cmp a b = 0 := by unfold cmp; rw [if_neg (by omega), if_neg (by omega)]
theorem cmp_lt_iff {a b : Int} : cmp a b < 0 ↔ a < b := by unfold cmp; split <;> (try split) <;> omega
theorem cmp_le_iff {a b : Int} : cmp a b ≤ 0 ↔ a ≤ b := by unfold cmp; split <;> (try split) <;> omega
theorem cmp_eq_iff {a b : Int} : cmp a b = 0 ↔ a = b := by unfold cmp; split <;> (try split) <;> omega
theorem cmp_top {B : Nat} {a b x y P : Int} (ha0 : 0 ≤ a) (ha : a < P) (hb0 : 0 ≤ b) (hb : b < P) (h : x < y) : a + x * P < b + y * P := by
  have : (x + 1) * P ≤ y * P := Int.mul_le_mul_of_nonneg_right (by omega) (by omega)
  rw [Int.add_mul] at this
  omega
end Go.Pe
set_option linter.unusedSimpArgs false
set_option linter.unusedVariables false
open Go
namespace Go.Pe
theorem take_set_len (l : List Int) (i : Nat) (v : Int) : (l.set i v).take l.length = l.set i v := by rw [List.take_of_length_le]; rw [List.length_set]; exact Nat.le_refl _
theorem take_app_len {α : Type} (l m : List α) : (l ++ m).take (l.length + m.length) = l ++ m := by rw [← List.length_append, List.take_length]
theorem take_snoc_len {α : Type} (l : List α) (x : α) : (l ++ [x]).take (l.length + 1) = l ++ [x] := take_app_len l [x]
theorem take_rep_len {α : Type} (n : Nat) (v : α) : (List.replicate n v).take n = List.replicate n v := by rw [List.take_of_length_le]; rw [List.length_replicate]; exact Nat.le_refl _
theorem take_set2_len (l : List Int) (i j : Nat) (v x : Int) : ((l.set i v).set j x).take l.length = (l.set i v).set j x := by rw [List.take_of_length_le]; rw [List.length_set, List.length_set]; exact Nat.le_refl _
theorem top_take {l : List Int} {n : Nat} (hn : n < l.length) (h : l.getD n 0 ≠ 0) : Dg.Top (l.take (n + 1)) := by
  intro _
  have hl : (l.take (n + 1)).length = n + 1 := by rw [List.length_take]; omega
  rw [hl, Nat.add_sub_cancel]
  rw [List.getD_eq_getElem?_getD, List.getElem?_take_of_lt (by omega), ← List.getD_eq_getElem?_getD]
  exact h
theorem trim_l0 {l : List Int} (hd : Dg.Dig 4294967296 l) (hl : l.length ≤ 35184372088832) : ∀ n : Nat, n ≤ l.length →
    ∃ m, m ≤ n ∧ l.take m = D (Dg.vl 4294967296 (l.take n)).toNat ∧ LP FF [(0, 0), (3, 0)] [(0, 0), (3, 0)] b114_0 [(AV.l 1 (List.map u l)), (AV.i .i64 ((n : Int)))] = some (.exit 0, [(AV.l 1 (List.map u l)), (AV.i .i64 ((m : Int)))]) := by
  intro n
  induction n with
  | zero =>
    intro _
    refine ⟨0, Nat.le_refl _, by simp only [List.take_zero, Dg.vl, Int.toNat_zero, D_zero], ?_⟩
    rw [LP_go FF b114_0.eq_1]
    simp only [RB, un, St.none, Nat.reduceEqDiff, Nat.reduceAdd, Nat.reduceMul, Nat.reduceLeDiff, Nat.reduceLT, Int.reduceLT, Int.reduceLE, Int.reduceEq, Int.reduceToNat, Int.reduceSub, Int.reduceNeg, Int.reduceAdd, ↓reduceIte, reduceCtorEq, ite_self, eq_self, if_true, if_false, pack, pid, parN, List.not_mem_nil, List.mem_cons, lid, chkK, apartV, List.map_nil, List.flatMap_nil, List.append_nil, List.nil_append, List.drop_zero, List.length_set, List.length_replicate, List.length_append, List.take_length, List.take_zero, List.drop_length, Option.isNone_none, Heap.none]
  | succ n ih =>
    intro hn
    have e : IntKind.i64.wrap (((n + 1 : Nat) : Int) - 1) = (n : Int) := by rw [w64 (by omega) (by omega)]; omega
    rw [LP_go FF b114_0.eq_1]
    simp only [RB, un, St.none, Nat.reduceEqDiff, Nat.reduceAdd, Nat.reduceMul, Nat.reduceLeDiff, Nat.reduceLT, Int.reduceLT, Int.reduceLE, Int.reduceEq, Int.reduceToNat, Int.reduceSub, Int.reduceNeg, Int.reduceAdd, ↓reduceIte, reduceCtorEq, ite_self, eq_self, if_true, if_false, pack, pid, parN, List.not_mem_nil, List.mem_cons, lid, chkK, apartV, List.map_nil, List.flatMap_nil, List.append_nil, List.nil_append, List.drop_zero, List.length_set, List.length_replicate, List.length_append, List.take_length, List.take_zero, List.drop_length, Option.isNone_none, Heap.none, e]
    rw [if_pos (by omega)]
    by_cases h : l.getD n 0 = 0
    · obtain ⟨m, hm, h1, h2⟩ := ih (by omega)
      refine ⟨m, by omega, ?_, ?_⟩
      · rw [h1, Dg.vl_take_succ, h]; simp
      · rw [if_pos (by omega)]; exact h2
    · refine ⟨n + 1, Nat.le_refl _, ?_, ?_⟩
      · have hdd := hd.take (n + 1)
        refine D_of hdd (top_take (by omega) h) ?_
        have := Dg.vl_nonneg hdd (by decide)
        omega
      · rw [if_neg (by omega)]
theorem trim_c {l : List Int} (hd : Dg.Dig 4294967296 l) (hl : l.length ≤ 35184372088832) {n : Nat} (hv : Dg.vl 4294967296 l = n) : R FF 114 [(AV.l 1 (List.map u l))] = some (AV.l 1 (List.map u (D n))) := by
  obtain ⟨m, hm, h1, h2⟩ := trim_l0 hd hl l.length (Nat.le_refl _)
  rw [List.take_length, hv, Int.toNat_natCast] at h1
  rw [R_go FF F114 c114.eq_1]
  simp only [RB, un, St.none, Nat.reduceEqDiff, Nat.reduceAdd, Nat.reduceMul, Nat.reduceLeDiff, Nat.reduceLT, Int.reduceLT, Int.reduceLE, Int.reduceEq, Int.reduceToNat, Int.reduceSub, Int.reduceNeg, Int.reduceAdd, ↓reduceIte, reduceCtorEq, ite_self, eq_self, if_true, if_false, pack, pid, parN, List.not_mem_nil, List.mem_cons, lid, chkK, apartV, List.map_nil, List.flatMap_nil, List.append_nil, List.nil_append, List.drop_zero, List.length_set, List.length_replicate, List.length_append, List.take_length, List.take_zero, List.drop_length, Option.isNone_none, Heap.none, h2]
  by_cases h0 : (m : Int) = 0
  · rw [if_pos h0, ← h1, show m = 0 by omega]; rfl
  · rw [if_neg h0, if_pos (by omega), h1]
theorem set_take {l : List Int} {n : Nat} (v : Int) (h : n < l.length) : (l.set n v).take (n + 1) = l.take n ++ [v] := by
  rw [List.take_add_one, List.take_set_of_le (Nat.le_refl _), List.getElem?_set_self h, Option.toList_some]
theorem map_take_succ {l : List Int} {n : Nat} (f : Int → Int) (h : n < l.length) : (l.map f).take (n + 1) = (l.map f).take n ++ [f (l.getD n 0)] := by
  rw [List.take_add_one, List.getElem?_map, List.getElem?_eq_getElem h, List.getD_eq_getElem?_getD, List.getElem?_eq_getElem h]; rfl
theorem U_get {l : List Int} (h : U l) (n : Nat) : 0 ≤ l.getD n 0 ∧ l.getD n 0 ≤ 18446744073709551615 := by
  rw [List.getD_eq_getElem?_getD]
  rcases Nat.lt_or_ge n l.length with hn | hn
  · rw [List.getElem?_eq_getElem hn]; exact h _ (List.getElem_mem hn)
  · rw [List.getElem?_eq_none hn]; simp
theorem clean_l0 {l : List Int} (hu : U l) (hl : l.length ≤ 35184372088832) : ∀ (d i : Nat) (out : List Int), i + d = l.length → out.length = l.length → out.take i = (l.map (· % 4294967296)).take i →
    LP FF [(3, 1), (9, 0), (10, 0), (11, 0)] [(3, 0)] b106_0 [.own true 1 (out.map u), (AV.l 1 (List.map u l)), (AV.i .i64 ((l.length : Int))), (AV.i .i64 ((i : Int)))] = some (.exit 0, [(AV.l 1 (List.map u (l.map (· % 4294967296))))]) := by
  intro d
  induction d with
  | zero =>
    intro i out hi ho ht
    have e : out = l.map (· % 4294967296) := by
      rw [List.take_of_length_le (by omega), List.take_of_length_le (by rw [List.length_map]; omega)] at ht
      exact ht
    rw [LP_go FF b106_0.eq_1]
    simp only [RB, un, St.none, Nat.reduceEqDiff, Nat.reduceAdd, Nat.reduceMul, Nat.reduceLeDiff, Nat.reduceLT, Int.reduceLT, Int.reduceLE, Int.reduceEq, Int.reduceToNat, Int.reduceSub, Int.reduceNeg, Int.reduceAdd, ↓reduceIte, reduceCtorEq, ite_self, eq_self, if_true, if_false, pack, pid, parN, List.not_mem_nil, List.mem_cons, lid, chkK, apartV, List.map_nil, List.flatMap_nil, List.append_nil, List.nil_append, List.drop_zero, List.length_set, List.length_replicate, List.length_append, List.take_length, List.take_zero, List.drop_length, Option.isNone_none, Heap.none]
    simp (disch := omega) only [if_pos, if_neg, List.take_length, take_set_len, take_set2_len, take_rep_len, take_snoc_len, take_app_len]
    rw [e]
  | succ d ih =>
    intro i out hi ho ht
    have hg := U_get hu i
    have e : IntKind.i64.wrap ((i : Int) + 1) = ((i + 1 : Nat) : Int) := by rw [w64 (by omega) (by omega)]; omega
    rw [LP_go FF b106_0.eq_1]
    simp only [RB, un, St.none, Nat.reduceEqDiff, Nat.reduceAdd, Nat.reduceMul, Nat.reduceLeDiff, Nat.reduceLT, Int.reduceLT, Int.reduceLE, Int.reduceEq, Int.reduceToNat, Int.reduceSub, Int.reduceNeg, Int.reduceAdd, ↓reduceIte, reduceCtorEq, ite_self, eq_self, if_true, if_false, pack, pid, parN, List.not_mem_nil, List.mem_cons, lid, chkK, apartV, List.map_nil, List.flatMap_nil, List.append_nil, List.nil_append, List.drop_zero, List.length_set, List.length_replicate, List.length_append, List.take_length, List.take_zero, List.drop_length, Option.isNone_none, Heap.none, e, and32 hg.1 hg.2]
    simp (disch := omega) only [if_pos, if_neg, List.take_length, take_set_len, take_set2_len, take_rep_len, take_snoc_len, take_app_len]
    refine ih (i + 1) _ (by omega) (by rw [List.length_set]; exact ho) ?_
    rw [set_take _ (by omega), map_take_succ _ (by omega), ht]
theorem clean_c {l : List Int} (hu : U l) (hl : l.length ≤ 35184372088832) : R FF 106 [(AV.l 1 (List.map u l))] = some (AV.l 1 (List.map u (D (W l)))) := by
  have h0 := clean_l0 hu hl l.length 0 (List.replicate l.length 0) (by omega) (by rw [List.length_replicate]) (by simp)
  have h1 := trim_c (map_dig l) (by rw [List.length_map]; exact hl) (W_map l).symm
  rw [R_go FF F106 c106.eq_1]
  simp only [RB, un, St.none, Nat.reduceEqDiff, Nat.reduceAdd, Nat.reduceMul, Nat.reduceLeDiff, Nat.reduceLT, Int.reduceLT, Int.reduceLE, Int.reduceEq, Int.reduceToNat, Int.reduceSub, Int.reduceNeg, Int.reduceAdd, ↓reduceIte, reduceCtorEq, ite_self, eq_self, if_true, if_false, pack, pid, parN, List.not_mem_nil, List.mem_cons, lid, chkK, apartV, List.map_nil, List.flatMap_nil, List.append_nil, List.nil_append, List.drop_zero, List.length_set, List.length_replicate, List.length_append, List.take_length, List.take_zero, List.drop_length, Option.isNone_none, Heap.none, h1]
  rw [Int.ofNat_zero] at h0
  simp (disch := omega) only [if_pos, if_neg, List.take_length, take_set_len, take_set2_len, take_rep_len, take_snoc_len, take_app_len, h0]
  simp only [RB, un, St.none, Nat.reduceEqDiff, Nat.reduceAdd, Nat.reduceMul, Nat.reduceLeDiff, Nat.reduceLT, Int.reduceLT, Int.reduceLE, Int.reduceEq, Int.reduceToNat, Int.reduceSub, Int.reduceNeg, Int.reduceAdd, ↓reduceIte, reduceCtorEq, ite_self, eq_self, if_true, if_false, pack, pid, parN, List.not_mem_nil, List.mem_cons, lid, chkK, apartV, List.map_nil, List.flatMap_nil, List.append_nil, List.nil_append, List.drop_zero, List.length_set, List.length_replicate, List.length_append, List.take_length, List.take_zero, List.drop_length, Option.isNone_none, Heap.none, h1]
theorem order_l0 {a b : List Int} (ha : Dg.Dig 4294967296 a) (hb : Dg.Dig 4294967296 b) (hl : a.length = b.length) (hs : a.length ≤ 35184372088832) : ∀ n : Nat, n ≤ a.length →
    ∃ ex x, LP FF [(0, 0), (1, 0), (5, 0)] [(4, 0)] b110_0 [(AV.l 1 (List.map u a)), (AV.l 1 (List.map u b)), (AV.i .i64 ((n : Int) - 1))] = some (ex, [x]) ∧ (ex = .ret ∧ x = (AV.i .i64 (cmp (Dg.vl 4294967296 (a.take n)) (Dg.vl 4294967296 (b.take n)))) ∨ ex = .exit 1 ∧ cmp (Dg.vl 4294967296 (a.take n)) (Dg.vl 4294967296 (b.take n)) = 0) := by
  intro n
  induction n with
  | zero =>
    intro _
    rw [LP_go FF b110_0.eq_1]
    simp only [RB, un, St.none, Nat.reduceEqDiff, Nat.reduceAdd, Nat.reduceMul, Nat.reduceLeDiff, Nat.reduceLT, Int.reduceLT, Int.reduceLE, Int.reduceEq, Int.reduceToNat, Int.reduceSub, Int.reduceNeg, Int.reduceAdd, ↓reduceIte, reduceCtorEq, ite_self, eq_self, if_true, if_false, pack, pid, parN, List.not_mem_nil, List.mem_cons, lid, chkK, apartV, List.map_nil, List.flatMap_nil, List.append_nil, List.nil_append, List.drop_zero, List.length_set, List.length_replicate, List.length_append, List.take_length, List.take_zero, List.drop_length, Option.isNone_none, Heap.none]
    exact ⟨_, _, rfl, .inr ⟨rfl, rfl⟩⟩
  | succ n ih =>
    intro hn
    have e0 : ((n + 1 : Nat) : Int) - 1 = (n : Int) := by omega
    have e : IntKind.i64.wrap ((n : Int) - 1) = (n : Int) - 1 := w64 (by omega) (by omega)
    have ga := ha.getD (by decide) n
    have gb := hb.getD (by decide) n
    have a0 := Dg.vl_nonneg (ha.take n) (by decide)
    have b0 := Dg.vl_nonneg (hb.take n) (by decide)
    have a1 := Dg.vl_lt (ha.take n) (by decide)
    have b1 := Dg.vl_lt (hb.take n) (by decide)
    have hla : (a.take n).length = n := by rw [List.length_take]; omega
    have hlb : (b.take n).length = n := by rw [List.length_take]; omega
    rw [hla] at a1
    rw [hlb] at b1
    rw [LP_go FF b110_0.eq_1]
    simp only [RB, un, St.none, Nat.reduceEqDiff, Nat.reduceAdd, Nat.reduceMul, Nat.reduceLeDiff, Nat.reduceLT, Int.reduceLT, Int.reduceLE, Int.reduceEq, Int.reduceToNat, Int.reduceSub, Int.reduceNeg, Int.reduceAdd, ↓reduceIte, reduceCtorEq, ite_self, eq_self, if_true, if_false, pack, pid, parN, List.not_mem_nil, List.mem_cons, lid, chkK, apartV, List.map_nil, List.flatMap_nil, List.append_nil, List.nil_append, List.drop_zero, List.length_set, List.length_replicate, List.length_append, List.take_length, List.take_zero, List.drop_length, Option.isNone_none, Heap.none, e0, e]
    simp (disch := omega) only [if_pos, if_neg, List.take_length, take_set_len, take_set2_len, take_rep_len, take_snoc_len, take_app_len]
    rw [Dg.vl_take_succ, Dg.vl_take_succ]
    by_cases h1 : a.getD n 0 < b.getD n 0
    · rw [if_pos h1]
      exact ⟨_, _, rfl, .inl ⟨rfl, by rw [cmp_lt (cmp_top (B := 0) a0 a1 b0 b1 h1)]⟩⟩
    · rw [if_neg h1]
      by_cases h2 : b.getD n 0 < a.getD n 0
      · rw [if_pos h2]
        exact ⟨_, _, rfl, .inl ⟨rfl, by rw [cmp_gt (cmp_top (B := 0) b0 b1 a0 a1 h2)]⟩⟩
      · rw [if_neg h2]
        have h3 : a.getD n 0 = b.getD n 0 := by omega
        have h4 : cmp (Dg.vl 4294967296 (a.take n) + a.getD n 0 * 4294967296 ^ n) (Dg.vl 4294967296 (b.take n) + b.getD n 0 * 4294967296 ^ n) = cmp (Dg.vl 4294967296 (a.take n)) (Dg.vl 4294967296 (b.take n)) := by
          rw [h3]
          unfold cmp
          split <;> split <;> (try split) <;> (try split) <;> first | rfl | omega
        rw [h4]
        exact ih (by omega)
theorem order_c {m n : Nat} (hm : L m ≤ 35184372088832) (hn : L n ≤ 35184372088832) : R FF 110 [(AV.l 1 (List.map u (D m))), (AV.l 1 (List.map u (D n)))] = some (AV.i .i64 (cmp m n)) := by
  have hm' : (D m).length ≤ 35184372088832 := hm
  have hn' : (D n).length ≤ 35184372088832 := hn
  have e : IntKind.i64.wrap (((D m).length : Int) - 1) = ((D m).length : Int) - 1 := w64 (by omega) (by omega)
  rw [R_go FF F110 c110.eq_1]
  simp only [RB, un, St.none, Nat.reduceEqDiff, Nat.reduceAdd, Nat.reduceMul, Nat.reduceLeDiff, Nat.reduceLT, Int.reduceLT, Int.reduceLE, Int.reduceEq, Int.reduceToNat, Int.reduceSub, Int.reduceNeg, Int.reduceAdd, ↓reduceIte, reduceCtorEq, ite_self, eq_self, if_true, if_false, pack, pid, parN, List.not_mem_nil, List.mem_cons, lid, chkK, apartV, List.map_nil, List.flatMap_nil, List.append_nil, List.nil_append, List.drop_zero, List.length_set, List.length_replicate, List.length_append, List.take_length, List.take_zero, List.drop_length, Option.isNone_none, Heap.none, e]
  by_cases h1 : ((D m).length : Int) < ((D n).length : Int)
  · rw [if_pos h1, cmp_lt (by have := len_lt_imp _ (by decide) (show (D m).length < (D n).length by omega); omega)]
  · rw [if_neg h1]
    by_cases h2 : ((D n).length : Int) < ((D m).length : Int)
    · rw [if_pos h2, cmp_gt (by have := len_lt_imp _ (by decide) (show (D n).length < (D m).length by omega); omega)]
    · rw [if_neg h2]
      obtain ⟨ex, x, h3, h4⟩ := order_l0 (D_dig m) (D_dig n) (by omega) hm' (D m).length (Nat.le_refl _)
      rw [List.take_length, show (D m).length = (D n).length by omega, List.take_length, D_vl, D_vl] at h4
      rcases h4 with ⟨rfl, rfl⟩ | ⟨rfl, h4⟩
      · simp only [RB, un, St.none, Nat.reduceEqDiff, Nat.reduceAdd, Nat.reduceMul, Nat.reduceLeDiff, Nat.reduceLT, Int.reduceLT, Int.reduceLE, Int.reduceEq, Int.reduceToNat, Int.reduceSub, Int.reduceNeg, Int.reduceAdd, ↓reduceIte, reduceCtorEq, ite_self, eq_self, if_true, if_false, pack, pid, parN, List.not_mem_nil, List.mem_cons, lid, chkK, apartV, List.map_nil, List.flatMap_nil, List.append_nil, List.nil_append, List.drop_zero, List.length_set, List.length_replicate, List.length_append, List.take_length, List.take_zero, List.drop_length, Option.isNone_none, Heap.none, h3]
      · simp only [RB, un, St.none, Nat.reduceEqDiff, Nat.reduceAdd, Nat.reduceMul, Nat.reduceLeDiff, Nat.reduceLT, Int.reduceLT, Int.reduceLE, Int.reduceEq, Int.reduceToNat, Int.reduceSub, Int.reduceNeg, Int.reduceAdd, ↓reduceIte, reduceCtorEq, ite_self, eq_self, if_true, if_false, pack, pid, parN, List.not_mem_nil, List.mem_cons, lid, chkK, apartV, List.map_nil, List.flatMap_nil, List.append_nil, List.nil_append, List.drop_zero, List.length_set, List.length_replicate, List.length_append, List.take_length, List.take_zero, List.drop_length, Option.isNone_none, Heap.none, h3]
        rw [h4]
theorem limb_c (l : List Int) (i : Nat) : R FF 129 [(AV.l 1 (List.map u l)), (AV.i .i64 ((i : Int)))] = some (AV.i .u64 (l.getD i 0)) := by
  rw [R_go FF F129 c129.eq_1]
  simp only [RB, un, St.none, Nat.reduceEqDiff, Nat.reduceAdd, Nat.reduceMul, Nat.reduceLeDiff, Nat.reduceLT, Int.reduceLT, Int.reduceLE, Int.reduceEq, Int.reduceToNat, Int.reduceSub, Int.reduceNeg, Int.reduceAdd, ↓reduceIte, reduceCtorEq, ite_self, eq_self, if_true, if_false, pack, pid, parN, List.not_mem_nil, List.mem_cons, lid, chkK, apartV, List.map_nil, List.flatMap_nil, List.append_nil, List.nil_append, List.drop_zero, List.length_set, List.length_replicate, List.length_append, List.take_length, List.take_zero, List.drop_length, Option.isNone_none, Heap.none]
  by_cases h : (i : Int) < (l.length : Int)
  · simp (disch := omega) only [if_pos, if_neg, List.take_length, take_set_len, take_set2_len, take_rep_len, take_snoc_len, take_app_len]
  · rw [List.getD_eq_getElem?_getD, List.getElem?_eq_none (by omega)]
    simp (disch := omega) only [if_pos, if_neg, List.take_length, take_set_len, take_set2_len, take_rep_len, take_snoc_len, take_app_len]
    rfl
theorem cmp_c {a b : List Int} (ha : U a) (hb : U b) (hla : a.length ≤ 35184372088832) (hlb : b.length ≤ 35184372088832) : R FF 72 [(AV.l 1 (List.map u a)), (AV.l 1 (List.map u b))] = some (AV.i .i64 (cmp (W a) (W b))) := by
  rw [R_go FF F72 c72.eq_1]
  simp only [RB, un, St.none, Nat.reduceEqDiff, Nat.reduceAdd, Nat.reduceMul, Nat.reduceLeDiff, Nat.reduceLT, Int.reduceLT, Int.reduceLE, Int.reduceEq, Int.reduceToNat, Int.reduceSub, Int.reduceNeg, Int.reduceAdd, ↓reduceIte, reduceCtorEq, ite_self, eq_self, if_true, if_false, pack, pid, parN, List.not_mem_nil, List.mem_cons, lid, chkK, apartV, List.map_nil, List.flatMap_nil, List.append_nil, List.nil_append, List.drop_zero, List.length_set, List.length_replicate, List.length_append, List.take_length, List.take_zero, List.drop_length, Option.isNone_none, Heap.none, clean_c ha hla, clean_c hb hlb, order_c (Nat.le_trans (L_W a) hla) (Nat.le_trans (L_W b) hlb)]
theorem shr32 {x : Int} (h0 : 0 ≤ x) : x.fdiv (2 ^ Nat.min 32 IntKind.u64.bits) = x / 4294967296 := by
  rw [show Nat.min 32 IntKind.u64.bits = 32 by decide, Int.fdiv_eq_ediv_of_nonneg _ (by decide)]; rfl
theorem of_c {x : Int} (h0 : 0 ≤ x) (h1 : x ≤ 18446744073709551615) {n : Nat} (hn : (n : Int) = x) : R FF 73 [(AV.i .u64 x)] = some (AV.l 1 (List.map u (D n))) := by
  have h2 := trim_c (l := [x % 4294967296, x / 4294967296]) (n := n) (Dg.Dig.cons (by omega) (by omega) (Dg.Dig.cons (by omega) (by omega) Dg.Dig.nil)) (by simp) (by simp only [Dg.vl]; omega)
  simp only [List.map_cons, List.map_nil] at h2
  rw [R_go FF F73 c73.eq_1]
  simp only [RB, un, St.none, Nat.reduceEqDiff, Nat.reduceAdd, Nat.reduceMul, Nat.reduceLeDiff, Nat.reduceLT, Int.reduceLT, Int.reduceLE, Int.reduceEq, Int.reduceToNat, Int.reduceSub, Int.reduceNeg, Int.reduceAdd, ↓reduceIte, reduceCtorEq, ite_self, eq_self, if_true, if_false, pack, pid, parN, List.not_mem_nil, List.mem_cons, lid, chkK, apartV, List.map_nil, List.flatMap_nil, List.append_nil, List.nil_append, List.drop_zero, List.length_set, List.length_replicate, List.length_append, List.take_length, List.take_zero, List.drop_length, Option.isNone_none, Heap.none, and32 h0 h1, shr32 h0, h2]
theorem D_small {n : Nat} (h0 : n ≠ 0) (h : n < 4294967296) : D n = [(n : Int)] := by
  unfold D
  rw [Dg.dg_succ (by decide) h0, Nat.mod_eq_of_lt h, Nat.div_eq_of_lt h, Dg.dg_zero]
theorem D_two {n : Nat} (h0 : 4294967296 ≤ n) (h : n < 18446744073709551616) : D n = [((n % 4294967296 : Nat) : Int), ((n / 4294967296 : Nat) : Int)] := by
  unfold D
  rw [Dg.dg_succ (by decide) (by omega)]
  have : Dg.dg 4294967296 (n / 4294967296) = D (n / 4294967296) := rfl
  rw [this, D_small (by omega) (by omega)]
theorem D_more {n : Nat} (h : 18446744073709551616 ≤ n) : 3 ≤ (D n).length := by
  unfold D
  rw [Dg.dg_succ (by decide) (by omega), Dg.dg_succ (by decide) (by omega), Dg.dg_succ (by decide) (by omega)]
  simp
end Go.Pe
set_option linter.unusedSimpArgs false
set_option linter.unusedVariables false
open Go
namespace Go.Pe
theorem mul_bound {x y M : Int} (hx0 : 0 ≤ x) (hx : x ≤ M) (hy0 : 0 ≤ y) (hy : y ≤ M) : 0 ≤ x * y ∧ x * y ≤ M * M :=
  ⟨Int.mul_nonneg hx0 hy0, Int.le_trans (Int.mul_le_mul_of_nonneg_right hx hy0) (Int.mul_le_mul_of_nonneg_left hy (by omega))⟩
theorem tdiv_pos {x y : Int} (h : 0 ≤ x) : Int.tdiv x y = x / y := Int.tdiv_eq_ediv_of_nonneg h
theorem tmod_pos {x y : Int} (h : 0 ≤ x) : Int.tmod x y = x % y := Int.tmod_eq_emod_of_nonneg h
theorem mul_step {B : Int} {out : List Int} {p : Nat} {c x S t : Int} (hlt : p < out.length) (hv : Dg.vl B out + c * B ^ p = S) (ht : t = c + out.getD p 0 + x) :
    Dg.vl B (out.set p (t % B)) + (t / B) * B ^ (p + 1) = S + x * B ^ p := by
  rw [Dg.vl_set _ _ _ _ hlt, Int.pow_succ]
  have h := Int.mul_ediv_add_emod t B
  have e : (t % B - out.getD p 0) * B ^ p + t / B * (B ^ p * B) = (t - out.getD p 0) * B ^ p := by
    have : t % B = t - B * (t / B) := by omega
    rw [this]
    grind
  rw [Int.add_assoc, e, ht, ← hv]
  grind
theorem zero_set {out : List Int} {p q : Nat} (v : Int) (h : p < q) (hz : ∀ j, q ≤ j → out.getD j 0 = 0) : ∀ j, q ≤ j → (out.set p v).getD j 0 = 0 := by
  intro j hj
  rw [List.getD_eq_getElem?_getD, List.getElem?_set_ne (by omega), ← List.getD_eq_getElem?_getD]
  exact hz j hj
theorem getD_beyond {l : List Int} {i : Nat} (h : l.length ≤ i) : l.getD i 0 = 0 := by rw [List.getD_eq_getElem?_getD, List.getElem?_eq_none h]; rfl
theorem vl_snoc (B : Int) (l : List Int) (x : Int) : Dg.vl B (l ++ [x]) = Dg.vl B l + x * B ^ l.length := by
  rw [Dg.vl_append]
  simp [Dg.vl]
  exact Int.mul_comm _ _
end Go.Pe
