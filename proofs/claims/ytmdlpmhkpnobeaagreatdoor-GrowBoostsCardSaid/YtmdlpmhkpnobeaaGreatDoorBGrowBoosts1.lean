/- Part 1 of the texts of GrowBoosts: words, the machine's side of functions (written by a program), plain lemmas. -/
import Derived.WalkKit
import Derived.Below
import Derived.Deep.MidRow
import Derived.Laws.IdiomCopy
import Derived.Laws.AppendOwn
import Derived.Laws.MakeOwn
import Derived.Laws.Slices
import Derived.Great.BuildSlice
set_option linter.unusedVariables false
set_option linter.unusedSimpArgs false
open Nat renaming reduceEqDiff → za, reduceLeDiff → zb, reduceAdd → zd, reduceMul → ze, reduceMod → zf, reduceLT → zj, le_refl → zz, le_trans → zE, mul_le_mul_right → zK, zero_add → zX, add_mul → zZ, lt_of_lt_of_le → je, min_eq_left → jh, lt_or_ge → jl
open Int renaming reduceToNat → zc, reduceSub → zg, reduceNeg → zh, reduceAdd → zi, reduceLT → zk, reduceLE → zm, reduceEq → zn, natCast_nonneg → zq, ofNat_zero → zI, mul_le_mul_of_nonneg_right → zJ, natAbs → zM
open List renaming getD_eq_getElem?_getD → zo, take_of_length_le → zp, getElem?_eq_getElem → zr, take_length → zt, length_append → zx, length_map → zC, length_take → zD, length_cons → zF, mem_cons_self → zG, mem_cons_of_mem → zH, replicate → zL, length_replicate → zP, take → zQ, map_nil → zR, range → zT, length_set → zU, drop_of_length_le → zW, not_mem_nil → zY, mem_singleton → ja, map_append → jb, getElem?_append_right → jc, length_drop → jd, getElem?_eq_none → jf, length_singleton → jg, take_zero → jk
open Bool renaming and_eq_true → zu, false_eq_true → ji
open Option renaming map_eq_some_iff → zw, bind_eq_some_iff → zy, bind_some → zN, map_some → jj
open Rat renaming num → zV
open Go
namespace Go.Pe
inductive AV where
 | junk
 | b (x : Bool)
 | i (k : IntKind) (n : Int)
 | s (x : ByteArray)
 | np
 | ns (z : Nat)
 | l (z : Nat) (es : List (List AV))
 | tp (cs : List AV) (o : Nat)
 | sl (r z o n : Nat)
 | p (r e o : Nat)
 | agg (cs : List AV)
 | tup (cs : List AV)
 | own (ap : Bool) (z : Nat) (es : List (List AV))
 | ownp (cs : List AV)
 | back (v : AV) (outs : List AV)
 deriving Inhabited
inductive Row where
 | sl (ap : Bool) (z : Nat) (es : List (List AV))
 | st (cs : List AV)
 | fsl (z : Nat) (es : List (List AV))
 | fst (cs : List AV)
 | dead
abbrev Heap := Nat → Option Row
structure St where
 env : Nat → AV
 h : Heap
def Heap.none : Heap := fun _ => .none
def Heap.put (h : Heap) (r : Nat) (x : Row) : Heap := fun q => if q = r then some x else h q
def Row.freeze : Row → Row
 | .sl _ z es => .fsl z es
 | .st cs => .fst cs
 | x => x
def Heap.freeze (h : Heap) : List Nat → Heap
 | [] => h
 | r :: rs => fun q => if q = r then (h.freeze rs q).map Row.freeze else h.freeze rs q
inductive At where
 | t (n : Nat)
 | c (v : AV)
def upd (e : Nat → AV) (d : Nat) (v : AV) : Nat → AV := fun t => if t = d then v else e t
def At.ev (e : Nat → AV) : At → AV
 | .t n => e n
 | .c v => v
def AV.cells : AV → List AV
 | .agg cs => cs
 | .junk | .tup _ | .own _ _ _ | .ownp _ | .back _ _ => []
 | v => [v]
def Row.win (o n : Nat) : Row → Option (List (List AV))
 | .sl _ _ es | .fsl _ es => some ((es.drop o).take n)
 | _ => none
def Row.at (e : Nat) : Row → Option (List AV)
 | .sl _ _ es | .fsl _ es => es[e]?
 | .st cs | .fst cs => if e = 0 then some cs else none
 | .dead => none
def fullB (z n l : Nat) : Bool := z != 3 || n == l
def apB (z o n l : Nat) : Bool := decide (o = 0) && fullB z n l
def tell0 (h : Heap) : AV → AV
 | .ns z => .l z []
 | .sl r z o n => match (h r).bind (Row.win o n) with | some es => .l z es | none => .junk
 | .p _ _ _ => .junk
 | .own _ z es => .l z es
 | .ownp _ => .junk
 | v => v
def tellC (h : Heap) : AV → AV
 | .p r e o => match (h r).bind (Row.at e) with | some cs => .tp (cs.map (tell0 h)) o | none => .junk
 | v => tell0 h v
def tell1 (h : Heap) : AV → AV
 | .agg cs => .agg (cs.map (tellC h))
 | .tup _ => .junk
 | v => tellC h v
def tell (h : Heap) : AV → AV
 | .tup cs => .tup (cs.map (tell1 h))
 | .back _ _ => .junk
 | v => tell1 h v
def ref0 : AV → List Nat
 | .sl r _ _ _ => [r]
 | _ => []
def refC (h : Heap) : AV → List Nat
 | .p r e _ => r :: (match (h r).bind (Row.at e) with | some cs => cs.flatMap ref0 | none => [])
 | v => ref0 v
def ref1 (h : Heap) : AV → List Nat
 | .agg cs => cs.flatMap (refC h)
 | v => refC h v
def ref (h : Heap) : AV → List Nat
 | .tup cs => cs.flatMap (ref1 h)
 | v => ref1 h v
def AV.flat : AV → Bool
 | .b _ | .i _ _ | .s _ => true
 | _ => false
def AV.scalar : AV → Bool
 | .tup cs => cs.all AV.flat
 | v => v.flat
def byteNs : List (List AV) → Option (List Int)
 | [] => some []
 | [.i .u8 n] :: l => (byteNs l).map fun ns => n :: ns
 | _ => none
def bytesS (ns : List Int) : ByteArray := ns.foldl (fun r n => r.push (UInt8.ofNat n.toNat)) ByteArray.empty
def bytesL (s : ByteArray) : List (List AV) := s.data.toList.map fun b => [.i .u8 (b.toNat : Int)]
def digsB (s : ByteArray) : Bool := s.data.toList.all fun b => decide (48 ≤ b.toNat) && decide (b.toNat ≤ 57)
inductive PO where
 | mv (x : At)
 | pick (c x y : At)
 | box (id sz : Nat) (x : At)
 | alloc (id : Nat) (z : List AV)
 | build (z : List AV) (ps : List (Nat × Nat × At))
 | bsl (id sz : Nat) (z : List AV) (n : Nat) (ps : List (Nat × At))
 | ld (agg : Bool) (sz : Nat) (x : At)
 | st (sz : Nat) (x v : At)
 | nck (x : At)
 | bin (op : BinOp) (x y : At)
 | eqb (neg : Bool) (x y : At)
 | eqs (neg : Bool) (n : Nat) (x y : At)
 | not (x : At)
 | neg (x : At)
 | conv (k : IntKind) (x : At)
 | b2s (x : At)
 | mk (id sz bytes : Nat) (z : List AV) (l : At)
 | cut (sz : Nat) (x : At) (lo hi mx : Option At)
 | scut (x : At) (lo hi : Option At)
 | fld (o : Nat) (x : At)
 | idx (sz : Nat) (x i : At)
 | idxa (n sz : Nat) (x i : At)
 | sidx (x i : At)
 | ext (n : Nat) (x : At)
 | fpt (agg : Bool) (sz o : Nat) (x : At)
 | len (x : At)
 | slen (x : At)
 | min (x y : At)
 | max (x y : At)
 | app (id sz bytes : Nat) (x y : At)
 | copy (sz : Nat) (x y : At)
 | call (f : Nat) (xs : List At)
 | callw (f : Nat) (xs : List At) (li : Nat)
 | callo (f : Nat) (xs : List At) (id : Nat)
 | callk (f : Nat) (xs : List At) (id : Nat)
 | calln (f : Nat) (xs : List At) (li id : Nat)
 | s2b (x : At)
 | aidx (agg : Bool) (n sz : Nat) (x i : At)
structure POp where
 dst : Option Nat
 op : PO
 guard : Option (Nat × Bool)
inductive PC where
 | skip
 | reg (chk : List (Nat × Nat)) (ops : List POp)
 | seq (x y : PC)
 | cond (c : At) (x y : PC)
 | block (id : Nat) (x : PC)
 | loop (live out : List (Nat × Nat)) (x : PC)
 | join (out : List (Nat × Nat)) (x : PC)
 | exit (id : Nat)
 | ret
 | digs (y : PC)
inductive PR where
 | tmp (t : Nat)
 | cell (t : Nat) (agg : Bool) (sz : Nat)
structure PF where
 res : List (PR × Nat)
 lent : List Nat
 body : PC
inductive Ex where
 | normal
 | exit (id : Nat)
 | ret
def binI (op : BinOp) (k : IntKind) (x y : Int) : Option AV :=
 match op with
 | .add => some (.i k (k.wrap (x + y)))
 | .sub => some (.i k (k.wrap (x - y)))
 | .mul => some (.i k (k.wrap (x * y)))
 | .quo => if y = 0 then none else some (.i k (k.wrap (x.tdiv y)))
 | .rem => if y = 0 then none else some (.i k (x.tmod y))
 | .and | .or | .xor => some (.i k (Go.bits op k x y))
 | .eql => some (.b (decide (x = y)))
 | .neq => some (.b (!decide (x = y)))
 | .lss => some (.b (decide (x < y)))
 | .leq => some (.b (decide (x ≤ y)))
 | .gtr => some (.b (decide (y < x)))
 | .geq => some (.b (decide (y ≤ x)))
 | _ => none
def shI (op : BinOp) (k : IntKind) (x y : Int) : Option AV :=
 if y < 0 then none else
 match op with
 | .shl => some (.i k (k.wrap (x * 2 ^ Nat.min y.toNat k.bits)))
 | .shr => some (.i k (x.fdiv (2 ^ Nat.min y.toNat k.bits)))
 | _ => none
def eqFlat : AV → AV → Option Bool
 | .i k x,.i k' y => if k = k' then some (decide (x = y)) else none
 | _,_ => none
def eqCells : List AV → List AV → Option Bool
 | [],[] => some true
 | x :: xs,y :: ys => (eqFlat x y).bind fun a => (eqCells xs ys).map fun b => a && b
 | _,_ => none
def binV (op : BinOp) (x y : AV) : Option AV :=
 match x,y with
 | .i k x,.i k' y => match op with
  | .shl | .shr => shI op k x y
  | _ => if k = k' then binI op k x y else none
 | .s x,.s y => match op with
  | .eql => some (.b (decide (x.toList = y.toList)))
  | .neq => some (.b (!decide (x.toList = y.toList)))
  | .add => if x.size + y.size ≤ 9223372036854775807 then some (.s (x ++ y)) else none
  | _ => none
 | _,_ => none
def eqbV (neg : Bool) (x y : AV) : Option AV := match x,y with
 | .b x,.b y => some (.b (if neg then !(x == y) else (x == y)))
 | _,_ => none
def eqsV (neg : Bool) (n : Nat) (x y : AV) : Option AV := match x,y with
 | .agg x,.agg y => if x.length = n ∧ y.length = n then (eqCells x y).map fun q => .b (if neg then !q else q) else none
 | _,_ => none
def fillC (z : List AV) (off : Nat) (cs : List AV) : List AV := z.take off ++ cs ++ z.drop (off + cs.length)
def putC (sz : Nat) (es : List (List AV)) (e o : Nat) (cs : List AV) : List (List AV) := es.set e (if o = 0 ∧ cs.length = sz then cs else fillC (es.getD e []) o cs)
def buildV (e : Nat → AV) : List AV → List (Nat × Nat × At) → Option (List AV)
 | z,[] => some z
 | z,(off,sz,x) :: ps =>
  if (x.ev e).cells.length = sz ∧ off + sz ≤ z.length then buildV e (fillC z off (x.ev e).cells) ps else none
def bslV (e : Nat → AV) (h : Heap) (sz : Nat) : List (List AV) → List (Nat × At) → Option (List (List AV))
 | z,[] => some z
 | z,(j,x) :: ps =>
  if (x.ev e).cells.length = sz ∧ j < z.length then bslV e h sz (z.set j ((x.ev e).cells.map (tellC h))) ps else none
def ldC (agg : Bool) (sz o : Nat) (cs : List AV) : Option AV :=
 if agg then (if o = 0 ∧ cs.length = sz then some (.agg cs) else if o + sz ≤ cs.length then some (.agg ((cs.drop o).take sz)) else none)
 else cs[o]?
def lenV : AV → Option Nat
 | .sl _ _ _ n => some n
 | .l _ es => some es.length
 | .ns _ => some 0
 | _ => none
def esV (h : Heap) (sz : Nat) : AV → Option (List (List AV))
 | .sl r z o n => if z = sz then (h r).bind (Row.win o n) else none
 | .l z es => if z = sz then some es else none
 | .ns z => if z = sz then some [] else none
 | _ => none
def ptrAt (h : Heap) : AV → Option (List AV × Nat)
 | .p r e o => ((h r).bind (Row.at e)).map fun cs => (cs,o)
 | .tp cs o => some (cs,o)
 | _ => none
def ldV (h : Heap) (agg : Bool) (sz : Nat) (x : AV) : Option AV := (ptrAt h x).bind fun q => ldC agg sz q.2 q.1
def stV (h : Heap) (sz : Nat) (x v : AV) : Option Heap :=
 match x with
 | .p r e o => match h r with
  | some (.sl ap z es) =>
   if v.cells.length = sz ∧ e < es.length ∧ o + sz ≤ z ∧ r ∉ ref1 h v then some ((h.freeze (ref1 h v)).put r (.sl ap z (putC z es e o (v.cells.map (tellC h))))) else none
  | some (.st cs) =>
   if v.cells.length = sz ∧ e = 0 ∧ o + sz ≤ cs.length then some (h.put r (.st (if o = 0 ∧ sz = cs.length then v.cells else fillC cs o v.cells))) else none
  | _ => none
 | _ => none
def cutV (z : Nat) (x : AV) (l u : Int) : Option AV :=
 match x with
 | .sl r z' o n => if z' = z ∧ 0 ≤ l ∧ l ≤ u ∧ u ≤ (n : Int) then some (.sl r z' (o + l.toNat) (u.toNat - l.toNat)) else none
 | .l z' es => if z' = z ∧ 0 ≤ l ∧ l ≤ u ∧ u ≤ (es.length : Int) then some (.l z' ((es.drop l.toNat).take (u.toNat - l.toNat))) else none
 | .ns z' => if l = 0 ∧ u = 0 then some (.ns z') else none
 | _ => none
def scutV (x : AV) (l u : Option Int) : Option AV := match x,l with
 | .s y,some l => if 0 ≤ l ∧ l ≤ u.getD (y.size : Int) ∧ u.getD (y.size : Int) ≤ (y.size : Int) then some (.s (y.extract l.toNat (u.getD (y.size : Int)).toNat)) else none
 | _,_ => none
def intV : AV → Option Int
 | .i _ n => some n
 | _ => none
def optI (e : Nat → AV) (d : Option Int) : Option At → Option Int
 | some x => intV (x.ev e)
 | none => d
def idxV (z : Nat) (x : AV) (j : Int) : Option AV :=
 match x with
 | .sl r z' o n => if z' = z ∧ 0 ≤ j ∧ j < (n : Int) then some (.p r (o + j.toNat) 0) else none
 | .l z' es => if z' = z ∧ 0 ≤ j ∧ j < (es.length : Int) then some (.tp (es.getD j.toNat []) 0) else none
 | _ => none
def appV (h : Heap) (id sz bytes : Nat) (x y : AV) : Option (AV × Heap) :=
 match esV h sz y with
 | none => none
 | some new => match x with
  | .ns z => if z = sz ∧ new.length * bytes ≤ 140737488355328 ∧ (h id).isNone then some (.sl id z 0 new.length,h.put id (.sl true z new)) else none
  | .sl r z o n => match h r with
   | some (.sl true z' es) => if z = sz ∧ z' = sz ∧ o = 0 ∧ fullB sz n es.length = true ∧ (n + new.length) * bytes ≤ 140737488355328 ∧ (h id).isNone then
     some (.sl id z 0 (n + new.length),(h.put r .dead).put id (.sl true z (es.take n ++ new))) else none
   | _ => none
  | _ => none
def copyV (h : Heap) (sz : Nat) (x y : AV) : Option (AV × Heap) :=
 match x with
 | .sl r z o n => match h r,esV h z y with
  | some (.sl ap z' es),some new => if z = sz ∧ z' = z ∧ o + n ≤ es.length then some (.i .i64 (Nat.min new.length n : Nat),h.put r (.sl ap z (es.take o ++ new.take (Nat.min new.length n) ++ es.drop (o + Nat.min new.length n)))) else none
  | _,_ => none
 | _ => none
def lendL (h : Heap) : AV → Option AV
 | .sl r z o n => match h r with
  | some (.sl _ _ es) => some (.own false z ((es.drop o).take n))
  | _ => none
 | .p r 0 0 => match h r with
  | some (.st cs) => some (.ownp (cs.map (tell0 h)))
  | _ => none
 | _ => none
def argsL (h : Heap) (x : AV) : Nat → List AV → List AV
 | _,[] => []
 | 0,_ :: vs => x :: vs.map (tell h)
 | k + 1,v :: vs => tell h v :: argsL h x k vs
def refsL (h : Heap) : Nat → List AV → List Nat
 | _,[] => []
 | 0,_ :: vs => vs.flatMap (ref h)
 | k + 1,v :: vs => ref h v ++ refsL h k vs
def pid (i : Nat) : Nat := 100000 + 100 * i
def demote : AV → AV
 | .own _ z es => .l z es
 | .ownp _ => .junk
 | .sl _ _ _ _ => .junk
 | .p _ _ _ => .junk
 | .back _ _ => .junk
 | v => v
def demoteT : AV → AV
 | .tup cs => .tup (cs.map demote)
 | v => demote v
def callV (call : Nat → List AV → Option AV) (h : Heap) (f : Nat) (vs : List AV) : Option (AV × Heap) :=
 (call f (vs.map (tell h))).map fun r => (demoteT r,if r.scalar then h else h.freeze (vs.flatMap (ref h)))
def lid (i : Nat) : Nat := 200000 + 100 * i
def aliasV (i q o : Nat) : AV → AV
 | .sl r z p n => if r = lid i ∧ 0 < n then .sl q z (o + p) n else if n = 0 then .l z [] else .junk
 | v => demoteT v
def backL (h : Heap) (li : Nat) (x : AV) (refs : List Nat) (r : AV) : Option (AV × Heap) := match x,r with
 | .sl q z o n,.back v [.own _ z2 es2] => match h q with
  | some (.sl ap z' es) => if q ∉ refs ∧ es2.length = n ∧ z2 = z' then some (aliasV li q o v,(h.freeze refs).put q (.sl ap z' (es.take o ++ es2 ++ es.drop (o + n)))) else none
  | _ => none
 | .p q 0 0,.back v [.ownp cs2] => match h q with
  | some (.st cs) => if q ∉ refs ++ cs.flatMap ref0 ∧ cs2.length = cs.length then some (demoteT v,(h.freeze (refs ++ cs.flatMap ref0)).put q (.st (cs2.map demote))) else none
  | _ => none
 | _,_ => none
def callL (call : Nat → List AV → Option AV) (h : Heap) (f : Nat) (vs : List AV) (li : Nat) : Option (AV × Heap) :=
 (lendL h (vs.getD li .junk)).bind fun x => (call f (argsL h x li vs)).bind fun r => backL h li (vs.getD li .junk) (refsL h li vs) r
def ownR (h : Heap) (refs : List Nat) (id : Nat) : AV → Option (AV × Heap)
 | .own ap z es => if (h id).isNone then some (.sl id z 0 es.length,(h.freeze refs).put id (.sl ap z es)) else none
 | .l z [] => some (.l z [],h.freeze refs)
 | .tup [.own ap z es,v] => if (h id).isNone then some (.tup [.sl id z 0 es.length,demote v],(h.freeze refs).put id (.sl ap z es)) else none
 | _ => none
def callO (call : Nat → List AV → Option AV) (h : Heap) (f : Nat) (vs : List AV) (id : Nat) : Option (AV × Heap) := (call f (vs.map (tell h))).bind (ownR h (vs.flatMap (ref h)) id)
def niC : AV → Bool
 | .b _ | .l _ _ | .ns _ | .np => true
 | _ => false
def inC : AV → Bool
 | .i _ _ => true
 | _ => false
def liC : AV → Bool
 | .b _ | .i _ _ | .s _ | .np | .ns _ | .l _ [] => true
 | .l z es => decide (0 < z) && es.all fun r => r.all inC
 | _ => false
def keepR : Option Row → Bool
 | some (.sl true 3 es) => es.all fun r => r.all niC
 | _ => false
def cut9 (h : Heap) : List Nat → List Nat
 | [] => []
 | q :: l => if keepR (h q) then cut9 h l else q :: cut9 h l
def callK9 (call : Nat → List AV → Option AV) (h : Heap) (f : Nat) (vs : List AV) (id : Nat) : Option (AV × Heap) := (call f (vs.map (tell h))).bind fun
 | .tup [.own ap z es,v] => if (h id).isNone ∧ (es.all fun r => r.all liC) = true ∧ liC v = true then some (.tup [.sl id z 0 es.length,v],(h.freeze (cut9 h (vs.flatMap (ref h)))).put id (.sl ap z es)) else none
 | _ => none
def nestC (ls : List Nat) (h : Heap) : AV → Option (AV × Heap)
 | .ns z => some (.own true z [],h)
 | .sl q z o n => if q ∈ ls then none else match h q with
  | some (.sl ap _ es) => some (.own (ap && apB z o n es.length) z ((es.drop o).take n),h.put q .dead)
  | some (.fsl _ es) => some (.l z ((es.drop o).take n),h)
  | _ => none
 | v => some (tell0 h v,h)
def nestL (ls : List Nat) : Heap → List AV → Option (List AV × Heap)
 | h,[] => some ([],h)
 | h,x :: xs => (nestC ls h x).bind fun p => (nestL ls p.2 xs).map fun q => (p.1 :: q.1,q.2)
def unC (s : Nat) (h : Heap) : AV → AV × Heap
 | .own ap z es => (.sl s z 0 es.length,h.put s (.sl ap z es))
 | v => (v,h)
def unL : Nat → Heap → List AV → List AV × Heap
 | _,h,[] => ([],h)
 | s,h,x :: xs => ((unC s h x).1 :: (unL (s + 1) (unC s h x).2 xs).1,(unL (s + 1) (unC s h x).2 xs).2)
def isLid (q : Nat) : Bool := decide (200000 ≤ q) && decide (q % 100 = 0)
def lendN (h : Heap) : AV → Option (AV × Heap)
 | .p r e o => if e = 0 ∧ o = 0 then match h r with
  | some (.st cs) => if cs.length < 99 then (nestL ((cs.flatMap ref0).filter isLid) h cs).map fun p => (.ownp p.1,p.2) else none
  | _ => none
  else none
 | _ => none
def freeL (h : Heap) : Nat → List AV → Bool
 | _,[] => true
 | s,_ :: l => (h s).isNone && freeL h (s + 1) l
def demoteN : AV → AV
 | .own ap z es => .own ap z es
 | v => demote v
def backN (h : Heap) (id : Nat) : AV → AV → AV → Option (AV × Heap)
 | .p q _ _,.ownp cs,.back v [.ownp cs2] => if cs2.length = cs.length ∧ freeL h id cs = true then some (demoteT v,(unL id h (cs2.map demoteN)).2.put q (.st (unL id h (cs2.map demoteN)).1)) else none
 | _,_,_ => none
def callN (call : Nat → List AV → Option AV) (h : Heap) (f : Nat) (vs : List AV) (li id : Nat) : Option (AV × Heap) :=
 (lendN (h.freeze (refsL h li vs)) (vs.getD li .junk)).bind fun x => (call f (argsL h x.1 li vs)).bind (backN x.2 id (vs.getD li .junk) x.1)
def PO.ev (call : Nat → List AV → Option AV) (o : PO) (e : Nat → AV) (h : Heap) : Option (AV × Heap) :=
 match o with
 | .mv x => some (x.ev e,h)
 | .pick c x y => match c.ev e with
  | .b q => some (if q then x.ev e else y.ev e,h)
  | _ => none
 | .box id sz x => if (x.ev e).cells.length = sz ∧ (h id).isNone then some (.p id 0 0,h.put id (.st (x.ev e).cells)) else none
 | .alloc id z => if (h id).isNone then some (.p id 0 0,h.put id (.st z)) else none
 | .build z ps => (buildV e z ps).map fun cs => (.agg cs,h)
 | .bsl id sz z n ps => if (h id).isNone then (bslV e h sz (zL n z) ps).map fun es => (.sl id sz 0 n,(h.freeze (ps.flatMap fun p => ref1 h (p.2.ev e))).put id (.sl true sz es)) else none
 | .ld agg sz x => (ldV h agg sz (x.ev e)).map fun v => (v,h)
 | .st sz x v => (stV h sz (x.ev e) (v.ev e)).map fun g => (.junk,g)
 | .nck x => match x.ev e with
  | .p r q o => some (.p r q o,h)
  | .tp cs o => some (.tp cs o,h)
  | _ => none
 | .bin op x y => (binV op (x.ev e) (y.ev e)).map fun v => (v,h)
 | .eqb ng x y => (eqbV ng (x.ev e) (y.ev e)).map fun v => (v,h)
 | .eqs ng n x y => (eqsV ng n (x.ev e) (y.ev e)).map fun v => (v,h)
 | .not x => match x.ev e with
  | .b q => some (.b (!q),h)
  | _ => none
 | .neg x => match x.ev e with
  | .i k n => some (.i k (k.wrap (0 - n)),h)
  | _ => none
 | .conv k x => match x.ev e with
  | .i _ n => some (.i k (k.wrap n),h)
  | _ => none
 | .b2s x => ((esV h 1 (x.ev e)).bind byteNs).map fun ns => (.s (bytesS ns),h)
 | .mk id sz bytes z l => match l.ev e with
  | .i .i64 n => if 0 ≤ n ∧ n.toNat * bytes ≤ 281474976710656 ∧ (h id).isNone then some (.sl id sz 0 n.toNat,h.put id (.sl true sz (zL n.toNat z))) else none
  | _ => none
 | .cut sz x lo hi mx =>
  (optI e (some 0) lo).bind fun l => (optI e ((lenV (x.ev e)).map fun (n : Nat) => (n : Int)) hi).bind fun u => (optI e (some u) mx).bind fun m =>
   if m = u then (cutV sz (x.ev e) l u).map fun v => (v,h) else none
 | .scut x lo hi => (match hi with | none => scutV (x.ev e) (optI e (some 0) lo) none | some y => (intV (y.ev e)).bind fun u => scutV (x.ev e) (optI e (some 0) lo) (some u)).map fun v => (v,h)
 | .fld o x => match x.ev e with
  | .p r q c => some (.p r q (c + o),h)
  | .tp cs c => some (.tp cs (c + o),h)
  | _ => none
 | .idx sz x i => (intV (i.ev e)).bind fun j => (idxV sz (x.ev e) j).map fun v => (v,h)
 | .idxa n sz x i => match intV (i.ev e),x.ev e with
  | some j,.p r q c => if 0 ≤ j ∧ j < (n : Int) then some (.p r q (c + j.toNat * sz),h) else none
  | some j,.tp cs c => if 0 ≤ j ∧ j < (n : Int) then some (.tp cs (c + j.toNat * sz),h) else none
  | _,_ => none
 | .sidx x i => match x.ev e,intV (i.ev e) with
  | .s y,some j => if q : 0 ≤ j ∧ j.toNat < y.size then some (.i .u8 ((y[j.toNat]'q.2).toNat : Int),h) else none
  | _,_ => none
 | .ext n x => match x.ev e with
  | .tup vs => (vs[n]?).map fun v => (v,h)
  | _ => none
 | .fpt agg sz o x => match x.ev e with
  | .agg cs => (ldC agg sz o cs).map fun v => (v,h)
  | _ => none
 | .len x => (lenV (x.ev e)).map fun (n : Nat) => (.i .i64 (n : Int),h)
 | .slen x => match x.ev e with
  | .s s => some (.i .i64 (s.size : Int),h)
  | _ => none
 | .min x y => match x.ev e,y.ev e with
  | .i k x,.i _ y => some (.i k (if y < x then y else x),h)
  | _,_ => none
 | .max x y => match x.ev e,y.ev e with
  | .i k x,.i _ y => some (.i k (if y > x then y else x),h)
  | _,_ => none
 | .app id sz bytes x y => appV h id sz bytes (x.ev e) (y.ev e)
 | .copy sz x y => copyV h sz (x.ev e) (y.ev e)
 | .call f xs => callV call h f (xs.map (At.ev e))
 | .callw f xs li => callL call h f (xs.map (At.ev e)) li
 | .callo f xs id => callO call h f (xs.map (At.ev e)) id
 | .callk f xs id => callK9 call h f (xs.map (At.ev e)) id
 | .calln f xs li id => callN call h f (xs.map (At.ev e)) li id
 | .s2b x => match x.ev e with
  | .s s => if s.size ≤ 140737488355328 then some (.l 1 (bytesL s),h) else none
  | _ => none
 | .aidx agg n sz x i => match x.ev e,intV (i.ev e) with
  | .agg cs,some j => if 0 ≤ j ∧ j < (n : Int) then (ldC agg sz (j.toNat * sz) cs).map fun v => (v,h) else none
  | _,_ => none
def setD (e : Nat → AV) : Option Nat → AV → (Nat → AV)
 | some d,v => upd e d v
 | none,_ => e
def AV.yes (q : Bool) : AV → Option Bool
 | .b z => some (z == q)
 | .tup [] => some false
 | _ => none
def POp.ev (call : Nat → List AV → Option AV) (o : POp) (st : St) : Option St :=
 match o.guard with
 | none => (o.op.ev call st.env st.h).map fun p => ⟨setD st.env o.dst p.1,p.2⟩
 | some (t,q) => match (st.env t).yes q with
  | some true => (o.op.ev call st.env st.h).map fun p => ⟨setD st.env o.dst p.1,p.2⟩
  | some false => some ⟨setD st.env o.dst (.tup []),st.h⟩
  | none => none
def evs (call : Nat → List AV → Option AV) : List POp → St → Option St
 | [],st => some st
 | o :: os,st => (o.ev call st).bind (evs call os)
def packV (ls : List Nat) (h : Heap) : AV → Option (AV × Heap)
 | .ns z => some (.own true z [],h)
 | .sl r z o n => if r ∈ ls then some (.sl r z o n,h) else match h r with
  | some (.sl ap z' es) => some (.own (ap && apB z o n es.length) z ((es.drop o).take n),h.put r .dead)
  | some (.fsl z' es) => some (.l z ((es.drop o).take n),h)
  | _ => none
 | .p r e o => if r ∈ ls then some (.p r e o,h) else if e = 0 ∧ o = 0 then match h r with
  | some (.st cs) => if r ∈ cs.flatMap ref0 then none else some (.ownp (cs.map (tell0 h)),(h.freeze (cs.flatMap ref0)).put r .dead)
  | some (.fst cs) => some (.tp (cs.map (tell0 h)) 0,h.freeze (cs.flatMap ref0))
  | _ => none
  else none
 | v => some (tell h v,h.freeze (ref h v))
def packL (h : Heap) (r : Nat) : Option (AV × Heap) := match h r with
 | some (.sl ap z es) => some (.own ap z es,h.put r .dead)
 | some (.st cs) => if r ∈ cs.flatMap ref0 then none else some (.ownp (cs.map (tell0 h)),(h.freeze (cs.flatMap ref0)).put r .dead)
 | _ => none
def packN (ls : List Nat) (h : Heap) : AV → Option (AV × Heap)
 | .p r e o => if e = 0 ∧ o = 0 then match h r with
  | some (.st cs) => if cs.length < 99 then (nestL ls h cs).map fun p => (.ownp p.1,p.2.put r .dead) else none
  | _ => none
  else none
 | _ => none
def unN (h : Heap) (k : Nat) : AV → AV × Heap
 | .ownp cs => (.p k 0 0,(unL (k + 1) h cs).2.put k (.st (unL (k + 1) h cs).1))
 | v => (v,h)
def packM (ls : List Nat) (h : Heap) (r : Nat) : Option (AV × Heap) := match h r with
 | some (.st cs) => if cs.length < 99 then (nestL (r :: ls) h cs).map fun p => (.ownp p.1,p.2.put r .dead) else none
 | _ => none
def pack (e : Nat → AV) : List Nat → Heap → List (Nat × Nat) → Option (List AV)
 | _,_,[] => some []
 | ls,h,(t,0) :: l => (pack e ls (h.freeze (ref h (e t))) l).map fun vs => tell h (e t) :: vs
 | ls,h,(t,1) :: l => (packV ls h (e t)).bind fun q => (pack e ls q.2 l).map fun vs => q.1 :: vs
 | ls,h,(t,4) :: l => (packN ls h (e t)).bind fun q => (pack e ls q.2 l).map fun vs => q.1 :: vs
 | ls,h,(t,5) :: l => (packM ls h t).bind fun q => (pack e (t :: ls) q.2 l).map fun vs => q.1 :: vs
 | ls,h,(t,_) :: l => (packL h t).bind fun q => (pack e (t :: ls) q.2 l).map fun vs => q.1 :: vs
def un1 (h : Heap) (k : Nat) : AV → AV × Heap
 | .own ap z es => (.sl k z 0 es.length,h.put k (.sl ap z es))
 | .ownp cs => (.p k 0 0,h.put k (.st cs))
 | v => (v,h)
def unpack : List (Nat × Nat) → List AV → St → St
 | (t,2) :: l,v :: vs,st => unpack l vs ⟨st.env,(un1 st.h t v).2⟩
 | (t,3) :: l,v :: vs,st => unpack l vs ⟨upd st.env t (un1 st.h (lid t) v).1,(un1 st.h (lid t) v).2⟩
 | (t,4) :: l,v :: vs,st => unpack l vs ⟨upd st.env t (unN st.h (pid t) v).1,(unN st.h (pid t) v).2⟩
 | (t,5) :: l,v :: vs,st => unpack l vs ⟨st.env,(unN st.h t v).2⟩
 | (t,6) :: l,v :: vs,st => unpack l vs ⟨upd st.env t (unN st.h (lid (t + 1000)) v).1,(unN st.h (lid (t + 1000)) v).2⟩
 | (t,_) :: l,v :: vs,st => unpack l vs ⟨upd st.env t (un1 st.h (pid t) v).1,(un1 st.h (pid t) v).2⟩
 | _,_,st => st
def St.none : St := ⟨fun _ => .junk,Heap.none⟩
def un (l : List (Nat × Nat)) (vs : List AV) : St := unpack l vs St.none
def apartV : AV → AV → Bool
 | .p r _ _,.p q _ _ => r != q
 | .p _ _ _,.tp _ _ => true
 | .sl r _ _ _,.p q _ _ => r != q
 | .sl _ _ _ _,.tp _ _ => true
 | .ns _,.p _ _ _ => true
 | .ns _,.tp _ _ => true
 | _,_ => false
def apartL (e : Nat → AV) : List (Nat × Nat) → Bool
 | [] => true
 | (s,l) :: r => apartV (e s) (e l) && apartL e r
def digT : List Nat := [5,13,14,15,16,17,18,19,20,21,22,23]
def junkE (ts : List Nat) (e : Nat → AV) : Nat → AV := fun t => if t ∈ ts then .junk else e t
def PC.ev (call : Nat → List AV → Option AV) (lp : List (Nat × Nat) → List (Nat × Nat) → PC → List AV → Option (Ex × List AV)) : PC → St → Option (Ex × St)
 | .skip,st => some (.normal,st)
 | .reg chk ops,st => (evs call ops st).bind fun st => if apartL st.env chk then some (.normal,st) else none
 | .seq x y,st => (PC.ev call lp x st).bind fun p => match p.1 with
  | .normal => PC.ev call lp y p.2
  | e => some (e,p.2)
 | .cond c x y,st => match c.ev st.env with
  | .b q => if q then PC.ev call lp x st else PC.ev call lp y st
  | _ => none
 | .block id x,st => (PC.ev call lp x st).map fun p => match p.1 with
  | .exit j => if j = id then (.normal,p.2) else p
  | _ => p
 | .loop live out x,st => (pack st.env [] st.h live).bind fun vs => (lp live out x vs).map fun p => (p.1,un out p.2)
 | .join out x,st => (PC.ev call lp x st).bind fun p => (pack p.2.env [] p.2.h out).map fun vs => (p.1,un out vs)
 | .exit id,st => some (.exit id,st)
 | .ret,st => some (.ret,st)
 | .digs y,st => match st.env 0 with
  | .s s => if digsB s then some (.normal,⟨junkE digT st.env,st.h⟩) else (PC.ev call lp y ⟨junkE digT st.env,st.h⟩).bind fun p => match p.1 with
   | .ret => some p
   | _ => none
  | _ => none
def round (live out : List (Nat × Nat)) (again : List AV → Option (Ex × List AV)) (p : Ex × St) : Option (Ex × List AV) :=
 match p.1 with
 | .normal => (pack p.2.env [] p.2.h live).bind again
 | e => (pack p.2.env [] p.2.h out).map fun vs => (e,vs)
def loopF (call : Nat → List AV → Option AV) : Nat → List (Nat × Nat) → List (Nat × Nat) → PC → List AV → Option (Ex × List AV)
 | 0,_,_,_,_ => none
 | k + 1,live,out,x,vs => (PC.ev call (loopF call k) x (un live vs)).bind (round live out (loopF call k live out x))
def PR.ev (st : St) : PR → Option AV
 | .tmp t => some (st.env t)
 | .cell t agg sz => ldV st.h agg sz (st.env t)
def kindL : Nat → List (PR × Nat) → List (Nat × Nat)
 | _,[] => []
 | k,(_,q) :: l => (k,q) :: kindL (k + 1) l
def resL (res : List (PR × Nat)) : List Nat → List (Nat × Nat)
 | [] => kindL 0 res
 | i :: l => (lid i,if i < 1000 then 2 else 5) :: resL res l
def envL : Nat → List AV → Nat → AV
 | _,[] => fun _ => .junk
 | k,v :: l => upd (envL (k + 1) l) k v
def resV (st : St) : List (PR × Nat) → Option (List AV)
 | [] => some []
 | (x,_) :: l => (x.ev st).bind fun v => (resV st l).map fun vs => v :: vs
def oneV : List AV → AV
 | [x] => x
 | l => .tup l
def retV (lent : List Nat) (out : List AV) : AV := if lent = [] then oneV out else .back (oneV (out.drop lent.length)) (out.take lent.length)
def fin (p : PF) (st : St) : Option AV := (resV st p.res).bind fun vs => (pack (envL 0 vs) [] st.h (resL p.res p.lent)).map (retV p.lent)
def parN (lent : List Nat) : Nat → List AV → List (Nat × Nat)
 | _,[] => []
 | k,_ :: vs => (k,if k ∈ lent then 3 else if k + 1000 ∈ lent then 6 else 0) :: parN lent (k + 1) vs
def finE (p : PF) (q : Ex × St) : Option AV := match q.1 with
 | .exit _ => none
 | _ => fin p q.2
def runF (F : Nat → Option PF) : Nat → Nat → List AV → Option AV
 | 0,_,_ => none
 | k + 1,f,xs => (F f).bind fun p => (p.body.ev (runF F k) (loopF (runF F k) k) (un (parN p.lent 0 xs) xs)).bind (finE p)
abbrev zO (d : Nat) (x : PO) : POp := ⟨some d,x,none⟩
def Le {α : Type} (a b : Option α) : Prop := ∀ x,a = some x → b = some x
theorem Le.refl {α : Type} (a : Option α) : Le a a := fun _ h => h
theorem Le.trans {α : Type} {a b c : Option α} (h : Le a b) (k : Le b c) : Le a c := fun x e => k x (h x e)
theorem Le.bind {α β : Type} {a b : Option α} {f g : α → Option β} (h : Le a b) (k : ∀ x,Le (f x) (g x)) : Le (a.bind f) (b.bind g) := by
 intro y e
 cases a with
 | none => cases e
 | some x => rw [h x rfl]; exact k x y e
theorem Le.map {α β : Type} {a b : Option α} {f : α → β} (h : Le a b) : Le (a.map f) (b.map f) := by
 intro y e
 cases a with
 | none => cases e
 | some x => rw [h x rfl]; exact e
abbrev Call := Nat → List AV → Option AV
abbrev Lp := List (Nat × Nat) → List (Nat × Nat) → PC → List AV → Option (Ex × List AV)
def LeC (c d : Call) : Prop := ∀ f xs,Le (c f xs) (d f xs)
def LeL (c d : Lp) : Prop := ∀ l o x vs,Le (c l o x vs) (d l o x vs)
theorem PO.mono {c d : Call} (h : LeC c d) (o : PO) (e : Nat → AV) (g : Heap) : Le (o.ev c e g) (o.ev d e g) := by
 cases o
 case call f xs => exact Le.map (h _ _)
 case callo f xs id => exact Le.bind (h _ _) fun r => Le.refl _
 case callk f xs id => exact Le.bind (h _ _) fun r => Le.refl _
 case callw f xs li => exact Le.bind (Le.refl _) fun xs => Le.bind (h _ _) fun r => Le.refl _
 case calln f xs li id => exact Le.bind (Le.refl _) fun xs => Le.bind (h _ _) fun r => Le.refl _
 all_goals exact Le.refl _
theorem POp.mono {c d : Call} (h : LeC c d) (o : POp) (st : St) : Le (o.ev c st) (o.ev d st) := by
 unfold POp.ev
 split
 ·exact Le.map (PO.mono h _ _ _)
 ·split
  ·exact Le.map (PO.mono h _ _ _)
  ·exact Le.refl _
  ·exact Le.refl _
theorem evs_mono {c d : Call} (h : LeC c d) (os : List POp) : ∀ st,Le (evs c os st) (evs d os st) := by
 induction os with
 | nil => intro st; exact Le.refl _
 | cons o os ih => intro st; exact Le.bind (POp.mono h o st) fun st => ih st
theorem PC.mono {c d : Call} (h : LeC c d) {l m : Lp} (k : LeL l m) (x : PC) : ∀ st,Le (x.ev c l st) (x.ev d m st) := by
 induction x with
 | skip => intro st; exact Le.refl _
 | reg chk ops => intro st; exact Le.bind (evs_mono h ops st) fun st => Le.refl _
 | seq x y hx hy =>
  intro st
  refine Le.bind (hx st) fun p => ?_
  obtain ⟨e,st'⟩ := p
  cases e
  ·exact hy st'
  ·exact Le.refl _
  ·exact Le.refl _
 | cond v x y hx hy =>
  intro st
  simp only [PC.ev]
  split
  ·split
   ·exact hx st
   ·exact hy st
  ·exact Le.refl _
 | block id x hx => intro st; exact Le.map (hx st)
 | loop live out x hx => intro st; exact Le.bind (Le.refl _) fun vs => Le.map (k _ _ _ _)
 | join out x hx => intro st; exact Le.bind (hx st) fun p => Le.refl _
 | exit id => intro st; exact Le.refl _
 | ret => intro st; exact Le.refl _
 | digs y hy =>
  intro st
  simp only [PC.ev]
  split
  ·split
   ·exact Le.refl _
   ·exact Le.bind (hy _) fun p => Le.refl _
  ·exact Le.refl _
theorem round_mono {l o : List (Nat × Nat)} {a b : List AV → Option (Ex × List AV)} (h : ∀ vs,Le (a vs) (b vs)) (p : Ex × St) : Le (round l o a p) (round l o b p) := by
 unfold round
 split
 ·exact Le.bind (Le.refl _) h
 ·exact Le.refl _
theorem loopF_succ (c : Call) : ∀ k,LeL (loopF c k) (loopF c (k + 1)) := by
 intro k
 induction k with
 | zero => intro l o x vs y e; cases e
 | succ k ih =>
  intro l o x vs
  refine Le.bind (PC.mono (fun _ _ => Le.refl _) ih x _) fun p => ?_
  exact round_mono (ih l o x) p
theorem loopF_call {c d : Call} (h : LeC c d) : ∀ k,LeL (loopF c k) (loopF d k) := by
 intro k
 induction k with
 | zero => intro l o x vs y e; cases e
 | succ k ih =>
  intro l o x vs
  refine Le.bind (PC.mono h ih x _) fun p => ?_
  exact round_mono (ih l o x) p
theorem loopF_mono (c : Call) {j k : Nat} (h : j ≤ k) : LeL (loopF c j) (loopF c k) := by
 induction h with
 | refl => intro l o x vs; exact Le.refl _
 | step _ ih => intro l o x vs; exact Le.trans (ih l o x vs) (loopF_succ c _ l o x vs)
variable (F : Nat → Option PF)
theorem runF_succ : ∀ k,LeC (runF F k) (runF F (k + 1)) := by
 intro k
 induction k with
 | zero => intro f xs y e; cases e
 | succ k ih =>
  intro f xs
  refine Le.bind (Le.refl _) fun p => Le.bind ?_ fun q => Le.refl _
  refine PC.mono ih (fun l o x vs => ?_) _ _
  exact Le.trans (loopF_call ih k l o x vs) (loopF_succ _ k l o x vs)
theorem runF_mono {j k : Nat} (h : j ≤ k) : LeC (runF F j) (runF F k) := by
 induction h with
 | refl => intro f xs; exact Le.refl _
 | step _ ih => intro f xs; exact Le.trans (ih f xs) (runF_succ F _ f xs)
theorem loopR_mono {j k : Nat} (h : j ≤ k) : LeL (loopF (runF F j) j) (loopF (runF F k) k) := fun l o x vs =>
 Le.trans (loopF_call (runF_mono F h) j l o x vs) (loopF_mono _ h l o x vs)
open Classical in
noncomputable def lim {α : Type} (g : Nat → Option α) : Option α := if h : ∃ x,∃ k,g k = some x then some h.choose else none
theorem lim_some {α : Type} {g : Nat → Option α} (hm : ∀ j k,j ≤ k → Le (g j) (g k)) {x : α} : lim g = some x ↔ ∃ k,g k = some x := by
 unfold lim
 constructor
 ·intro h
  split at h
  ·rename_i h'
   cases h
   exact h'.choose_spec
  ·cases h
 ·rintro ⟨k,hk⟩
  have h' : ∃ x,∃ k,g k = some x := ⟨x,k,hk⟩
  rw [dif_pos h']
  obtain ⟨j,hj⟩ := h'.choose_spec
  have h1 := hm j (max j k) (Nat.le_max_left _ _) _ hj
  have h2 := hm k (max j k) (Nat.le_max_right _ _) _ hk
  rw [h1] at h2
  exact h2
noncomputable def R : Call := fun f xs => lim fun k => runF F k f xs
noncomputable def LP : Lp := fun l o x vs => lim fun k => loopF (runF F k) k l o x vs
theorem R_some {f : Nat} {xs : List AV} {r : AV} : R F f xs = some r ↔ ∃ k,runF F k f xs = some r := lim_some fun _ _ h => runF_mono F h f xs
theorem LP_some {l o : List (Nat × Nat)} {x : PC} {vs : List AV} {r : Ex × List AV} : LP F l o x vs = some r ↔ ∃ k,loopF (runF F k) k l o x vs = some r := lim_some fun _ _ h => loopR_mono F h l o x vs
theorem R_ge (k : Nat) : LeC (runF F k) (R F) := fun _ _ _ h => (R_some F).2 ⟨k,h⟩
theorem LP_ge (k : Nat) : LeL (loopF (runF F k) k) (LP F) := fun _ _ _ _ _ h => (LP_some F).2 ⟨k,h⟩
theorem PO.cont {o : PO} {e : Nat → AV} {g : Heap} {q : AV × Heap} (h : o.ev (R F) e g = some q) : ∃ k,o.ev (runF F k) e g = some q := by
 cases o
 case call f xs =>
  simp only [PO.ev,callV,zw] at h
  obtain ⟨r,hr,rfl⟩ := h
  obtain ⟨k,hk⟩ := (R_some F).1 hr
  exact ⟨k,by simp only [PO.ev,callV,hk,jj]⟩
 case callo f xs id =>
  simp only [PO.ev,callO,zy] at h
  obtain ⟨r,hr,h⟩ := h
  obtain ⟨k,hk⟩ := (R_some F).1 hr
  exact ⟨k,by simp only [PO.ev,callO,hk,zN]; exact h⟩
 case callk f xs id =>
  simp only [PO.ev,callK9,zy] at h
  obtain ⟨r,hr,h⟩ := h
  obtain ⟨k,hk⟩ := (R_some F).1 hr
  exact ⟨k,by simp only [PO.ev,callK9,hk,zN]; exact h⟩
 case callw f xs li =>
  simp only [PO.ev,callL,zy] at h
  obtain ⟨ys,hy,r,hr,h⟩ := h
  obtain ⟨k,hk⟩ := (R_some F).1 hr
  exact ⟨k,by simp only [PO.ev,callL,hy,zN,hk]; exact h⟩
 case calln f xs li id =>
  simp only [PO.ev,callN,zy] at h
  obtain ⟨ys,hy,r,hr,h⟩ := h
  obtain ⟨k,hk⟩ := (R_some F).1 hr
  exact ⟨k,by simp only [PO.ev,callN,hy,zN,hk]; exact h⟩
 all_goals exact ⟨0,h⟩
theorem POp.cont {o : POp} {st : St} {q : St} (h : o.ev (R F) st = some q) : ∃ k,o.ev (runF F k) st = some q := by
 unfold POp.ev at h ⊢
 split at h
 ·rename_i hg
  simp only [zw] at h
  obtain ⟨p,hp,rfl⟩ := h
  obtain ⟨k,hk⟩ := PO.cont F hp
  exact ⟨k,by simp only [hg,hk,jj]⟩
 ·rename_i t b hg
  split at h
  ·rename_i hz
   simp only [zw] at h
   obtain ⟨p,hp,rfl⟩ := h
   obtain ⟨k,hk⟩ := PO.cont F hp
   exact ⟨k,by simp only [hg,hz,hk,jj]⟩
  ·rename_i hz
   exact ⟨0,h⟩
  ·cases h
theorem evs_cont {os : List POp} : ∀ {st q : St},evs (R F) os st = some q → ∃ k,evs (runF F k) os st = some q := by
 induction os with
 | nil => intro st q h; exact ⟨0,h⟩
 | cons o os ih =>
  intro st q h
  simp only [evs,zy] at h
  obtain ⟨s,hs,h⟩ := h
  obtain ⟨j,hj⟩ := POp.cont F hs
  obtain ⟨k,hk⟩ := ih h
  refine ⟨max j k,?_⟩
  simp only [evs,POp.mono (runF_mono F (Nat.le_max_left j k)) o st _ hj,zN]
  exact evs_mono (runF_mono F (Nat.le_max_right j k)) os s _ hk
theorem PC.cont {x : PC} : ∀ {st : St} {q : Ex × St},x.ev (R F) (LP F) st = some q → ∃ k,x.ev (runF F k) (loopF (runF F k) k) st = some q := by
 induction x with
 | skip => intro st q h; exact ⟨0,h⟩
 | exit id => intro st q h; exact ⟨0,h⟩
 | ret => intro st q h; exact ⟨0,h⟩
 | reg chk ops =>
  intro st q h
  simp only [PC.ev,zy] at h
  obtain ⟨s,hs,h⟩ := h
  obtain ⟨k,hk⟩ := evs_cont F hs
  exact ⟨k,by simp only [PC.ev,hk,zN]; exact h⟩
 | seq x y hx hy =>
  intro st q h
  simp only [PC.ev,zy] at h
  obtain ⟨⟨e,s⟩,hs,h⟩ := h
  obtain ⟨j,hj⟩ := hx hs
  cases e with
  | normal =>
   obtain ⟨k,hk⟩ := hy h
   refine ⟨max j k,?_⟩
   simp only [PC.ev,PC.mono (runF_mono F (Nat.le_max_left j k)) (loopR_mono F (Nat.le_max_left j k)) x st _ hj,zN]
   exact PC.mono (runF_mono F (Nat.le_max_right j k)) (loopR_mono F (Nat.le_max_right j k)) y s _ hk
  | exit id => exact ⟨j,by simp only [PC.ev,hj,zN]; exact h⟩
  | ret => exact ⟨j,by simp only [PC.ev,hj,zN]; exact h⟩
 | cond v x y hx hy =>
  intro st q h
  simp only [PC.ev] at h ⊢
  split at h
  ·rename_i b hb
   split at h
   ·rename_i hq
    obtain ⟨k,hk⟩ := hx h
    exact ⟨k,by simp only [hq,if_true]; exact hk⟩
   ·rename_i hq
    obtain ⟨k,hk⟩ := hy h
    exact ⟨k,by simp only [hq,if_false]; exact hk⟩
  ·cases h
 | block id x hx =>
  intro st q h
  simp only [PC.ev,zw] at h
  obtain ⟨p,hp,rfl⟩ := h
  obtain ⟨k,hk⟩ := hx hp
  exact ⟨k,by simp only [PC.ev,hk,jj]⟩
 | loop live out x hx =>
  intro st q h
  simp only [PC.ev,zy,zw] at h
  obtain ⟨vs,hv,p,hp,rfl⟩ := h
  obtain ⟨k,hk⟩ := (LP_some F).1 hp
  exact ⟨k,by simp only [PC.ev,hv,zN,hk,jj]⟩
 | join out x hx =>
  intro st q h
  simp only [PC.ev,zy] at h
  obtain ⟨p,hp,h⟩ := h
  obtain ⟨k,hk⟩ := hx hp
  exact ⟨k,by simp only [PC.ev,hk,zN]; exact h⟩
 | digs y hy =>
  intro st q h
  simp only [PC.ev] at h ⊢
  split at h
  ·rename_i b hb
   split at h
   ·rename_i hq
    exact ⟨0,by simp only [hq,if_true]; exact h⟩
   ·rename_i hq
    simp only [zy] at h
    obtain ⟨p,hp,h⟩ := h
    obtain ⟨k,hk⟩ := hy hp
    refine ⟨k,?_⟩
    rw [if_neg hq,hk]
    exact h
  ·cases h
noncomputable def Ev (x : PC) (st : St) : Option (Ex × St) := x.ev (R F) (LP F) st
theorem R_eq (f : Nat) (xs : List AV) : R F f xs = (F f).bind fun p => (Ev F p.body (un (parN p.lent 0 xs) xs)).bind (finE p) := by
 apply Option.ext
 intro r
 rw [R_some]
 constructor
 ·rintro ⟨k,hk⟩
  cases k with
  | zero => cases hk
  | succ k =>
   refine Le.bind (Le.refl _) (fun p => Le.bind ?_ fun q => Le.refl _) r hk
   exact PC.mono (R_ge F k) (LP_ge F k) _ _
 ·intro h
  simp only [zy] at h
  obtain ⟨p,hp,q,hq,h⟩ := h
  obtain ⟨k,hk⟩ := PC.cont F hq
  exact ⟨k + 1,by simp only [runF,hp,zN,hk]; exact h⟩
theorem LP_eq (l o : List (Nat × Nat)) (x : PC) (vs : List AV) : LP F l o x vs = (Ev F x (un l vs)).bind (round l o (LP F l o x)) := by
 apply Option.ext
 intro r
 rw [LP_some]
 constructor
 ·rintro ⟨k,hk⟩
  cases k with
  | zero => cases hk
  | succ k =>
   refine Le.bind ?_ (fun p => ?_) r hk
   ·refine PC.mono (R_ge F (k + 1)) (fun l o x vs => ?_) _ _
    exact Le.trans (loopF_succ _ k l o x vs) (LP_ge F (k + 1) l o x vs)
   ·exact round_mono (fun vs => Le.trans (loopF_succ _ k l o x vs) (LP_ge F (k + 1) l o x vs)) p
 ·intro h
  simp only [zy] at h
  obtain ⟨p,hp,h⟩ := h
  obtain ⟨j,hj⟩ := PC.cont F hp
  have : ∃ k,round l o (loopF (runF F k) k l o x) p = some r := by
   obtain ⟨e,s⟩ := p
   cases e with
   | normal =>
    simp only [round,zy] at h
    obtain ⟨vs,hv,h⟩ := h
    obtain ⟨k,hk⟩ := (LP_some F).1 h
    exact ⟨k,by simp only [round,hv,zN]; exact hk⟩
   | exit id => exact ⟨0,h⟩
   | ret => exact ⟨0,h⟩
  obtain ⟨k,hk⟩ := this
  refine ⟨max j k + 1,?_⟩
  have h1 := PC.mono (runF_mono F (show j ≤ max j k + 1 by omega)) (fun l o x vs => Le.trans (loopF_call (runF_mono F (show j ≤ max j k + 1 by omega)) j l o x vs) (loopF_mono (runF F (max j k + 1)) (Nat.le_max_left j k) l o x vs)) x _ _ hj
  simp only [loopF,h1,zN]
  exact round_mono (fun vs => Le.trans (loopF_call (runF_mono F (show k ≤ max j k + 1 by omega)) k l o x vs) (loopF_mono (runF F (max j k + 1)) (Nat.le_max_right j k) l o x vs)) p r hk
end Go.Pe
namespace Go.Pe
structure Pl where
 z : Nat
 n : Nat
 loc : Option (Nat × Nat)
abbrev Rho := Nat → Option Pl
def Rho.none : Rho := fun _ => .none
theorem add_at (b o n : Nat) : (⟨b,o,none⟩ : Addr).add n = ⟨b,o + n,none⟩ := by unfold Addr.add; split <;> simp_all
inductive Rv (w : World) (T : Nat → Prop) : Rho → AV → Value → Prop
 | junk {ρ v} : Rv w T ρ .junk v
 | b {ρ x} : Rv w T ρ (.b x) (.bool x)
 | i {ρ k n} : Rv w T ρ (.i k n) (.int k n)
 | s {ρ x} : Rv w T ρ (.s x) (.string x)
 | np {ρ} : Rv w T ρ .np (.pointer none)
 | ns {ρ z} : Rv w T ρ (.ns z) (.slice none 0 0)
 | lnil {ρ z a cap} (ha : a = none → cap = 0) (hm : cap ≤ maxLen) : Rv w T ρ (.l z []) (.slice a 0 cap)
 | l {ρ z es b base cap} (g : Nat → Nat → Value) (hT : ¬ T b) (hb : b < w.heap.size) (hc : es.length ≤ cap) (hm : cap ≤ maxLen) (hz : ∀ j,j < es.length → (es.getD j []).length = z)
   (hcell : ∀ j c,j < es.length → c < z → w.cell? ⟨b,base + j * z + c,none⟩ = some (g j c) ∧ (g j c).oneCell' = true)
   (hv : ∀ j c,j < es.length → c < z → Rv w T Rho.none ((es.getD j []).getD c .junk) (g j c)) : Rv w T ρ (.l z es) (.slice (some ⟨b,base,none⟩) es.length cap)
 | tp {ρ cs o b base} (g : Nat → Value) (hT : ¬ T b) (hb : b < w.heap.size)
   (hcell : ∀ c,c < cs.length → w.cell? ⟨b,base + c,none⟩ = some (g c) ∧ (g c).oneCell' = true)
   (hv : ∀ c,c < cs.length → Rv w T Rho.none (cs.getD c .junk) (g c)) : Rv w T ρ (.tp cs o) (.pointer (some ⟨b,base + o,none⟩))
 | sl {ρ r z o n m b base cap} (hr : ρ r = some ⟨z,m,some (b,base)⟩) (hn : o + n ≤ m) (hc : n ≤ cap) (hm : cap ≤ maxLen)
   (hs : ∃ cur e fr,w.heap[b]? = some (Obj.cells cur e fr) ∧ base + (o + cap) * z ≤ cur.size) : Rv w T ρ (.sl r z o n) (.slice (some ⟨b,base + o * z,none⟩) n cap)
 | slz {ρ r z o m b base off} (hr : ρ r = some ⟨z,m,some (b,base)⟩) (hn : o ≤ m) : Rv w T ρ (.sl r z o 0) (.slice (some ⟨b,off,none⟩) 0 0)
 | slnil {ρ r z} (hr : ρ r = some ⟨z,0,none⟩) : Rv w T ρ (.sl r z 0 0) (.slice none 0 0)
 | p {ρ r e o z m b base} (hr : ρ r = some ⟨z,m,some (b,base)⟩) : Rv w T ρ (.p r e o) (.pointer (some ⟨b,base + e * z + o,none⟩))
 | agg {ρ cs} (vs : Array Value) (hl : vs.size = cs.length) (h1 : ∀ c,c < cs.length → (vs.getD c undef).oneCell' = true)
   (hv : ∀ c,c < cs.length → Rv w T ρ (cs.getD c .junk) (vs.getD c undef)) : Rv w T ρ (.agg cs) (.agg vs)
 | tup {ρ cs} (vs : Array Value) (hl : vs.size = cs.length) (hv : ∀ c,c < cs.length → Rv w T ρ (cs.getD c .junk) (vs.getD c undef)) : Rv w T ρ (.tup cs) (.tuple vs)
theorem Rv.lnil0 {w : World} {T : Nat → Prop} {ρ : Rho} {z : Nat} : Rv w T ρ (.l z []) (.slice none 0 0) := .lnil (fun _ => rfl) (Nat.zero_le _)
structure Same (T : Nat → Prop) (w w' : World) : Prop where
 size : w.heap.size ≤ w'.heap.size
 same : ∀ (b : Nat),b < w.heap.size → ¬ T b → w'.heap[b]? = w.heap[b]?
 shape : ∀ (b : Nat) cur e fr,w.heap[b]? = some (Obj.cells cur e fr) → ∃ cur',w'.heap[b]? = some (Obj.cells cur' e fr) ∧ cur'.size = cur.size
theorem Same.refl (T : Nat → Prop) (w : World) : Same T w w := ⟨zz _,fun _ _ _ => rfl,fun _ cur _ _ h => ⟨cur,h,rfl⟩⟩
theorem lt_of_cells {w : World} {b : Nat} {o : Obj} (h : w.heap[b]? = some o) : b < w.heap.size := (Array.getElem?_eq_some_iff.1 h).1
theorem Same.cell {T : Nat → Prop} {w w' : World} (h : Same T w w') {b o : Nat} (hb : b < w.heap.size) (ht : ¬ T b) : w'.cell? ⟨b,o,none⟩ = w.cell? ⟨b,o,none⟩ := by
 simp only [World.cell?,h.same b hb ht]
theorem Rv.mono {w w' : World} {T T' : Nat → Prop} (hk : Same T w w') (hT : ∀ b,b < w.heap.size → T' b → T b) {ρ : Rho} {av : AV} {v : Value} (h : Rv w T ρ av v) :
  ∀ {ρ' : Rho},(∀ r p,ρ r = some p → ρ' r = some p) → Rv w' T' ρ' av v := by
 induction h with
 | junk => intro ρ' hρ; exact .junk
 | b => intro ρ' hρ; exact .b
 | i => intro ρ' hρ; exact .i
 | s => intro ρ' hρ; exact .s
 | np => intro ρ' hρ; exact .np
 | ns => intro ρ' hρ; exact .ns
 | lnil ha hm => intro ρ' hρ; exact .lnil ha hm
 | @l ρ z es b base cap g hTb hb hc hm hz hcell hv ih =>
  intro ρ' hρ
  refine .l g (fun h => hTb (hT b hb h)) (je hb hk.size) hc hm hz (fun j c hj hc => ?_) (fun j c hj hc => ih j c hj hc fun r p h => h)
  rw [hk.cell hb hTb]
  exact hcell j c hj hc
 | @tp ρ cs o b base g hTb hb hcell hv ih =>
  intro ρ' hρ
  refine .tp g (fun h => hTb (hT b hb h)) (je hb hk.size) (fun c hc => ?_) (fun c hc => ih c hc fun r p h => h)
  rw [hk.cell hb hTb]
  exact hcell c hc
 | sl hr hn hc hm hs =>
  intro ρ' hρ
  obtain ⟨cur,e,fr,h1,h2⟩ := hs
  obtain ⟨cur',h3,h4⟩ := hk.shape _ cur e fr h1
  exact .sl (hρ _ _ hr) hn hc hm ⟨cur',e,fr,h3,by rw [h4]; exact h2⟩
 | slz hr hn => intro ρ' hρ; exact .slz (hρ _ _ hr) hn
 | slnil hr => intro ρ' hρ; exact .slnil (hρ _ _ hr)
 | p hr => intro ρ' hρ; exact .p (hρ _ _ hr)
 | agg vs hl h1 hv ih => intro ρ' hρ; exact .agg vs hl h1 fun c hc => ih c hc hρ
 | tup vs hl hv ih => intro ρ' hρ; exact .tup vs hl fun c hc => ih c hc hρ
structure RowAt (w : World) (b base z : Nat) (es : List (List AV)) (R : AV → Value → Prop) : Prop where
 len : ∀ j,j < es.length → (es.getD j []).length = z
 cell : ∀ j c,j < es.length → c < z → ∃ v,w.cell? ⟨b,base + j * z + c,none⟩ = some v ∧ v.oneCell' = true ∧ R ((es.getD j []).getD c .junk) v
def SpOk (cur : Array Value) (n z : Nat) : Prop := z = 3 → ∀ o v,n * 3 ≤ o → cur[o]? = some v → ∀ k i,v ≠ .int k i
theorem SpOk.full {cur : Array Value} {n z : Nat} (h : cur.size ≤ n * z) : SpOk cur n z := fun hz o v ho hv => by
 subst hz
 have := (Array.getElem?_eq_some_iff.1 hv).1
 omega
theorem SpOk.write {cur d : Array Value} {n z : Nat} {Wb : Nat → Prop} (h : SpOk cur n z) (hs : ∀ i : Nat,¬ Wb i → d[i]? = cur[i]?) (hw : ∀ i,Wb i → i < n * z) : SpOk d n z := fun hz o v ho hv => h hz o v ho (by
 rw [← hs o (fun hwo => by have := hw o hwo; subst hz; omega)]; exact hv)
def RowOk (w : World) (T : Nat → Prop) (ρ : Rho) (r : Nat) : Row → Prop
 | .sl ap z es => (es = [] ∧ True ∧ ρ r = some ⟨z,0,none⟩) ∨ ∃ b base cur e,ρ r = some ⟨z,es.length,some (b,base)⟩ ∧ T b ∧ w.heap[b]? = some (Obj.cells cur e (0,0)) ∧ base + es.length * z ≤ cur.size ∧ (ap = true → base = 0 ∧ SpOk cur es.length z) ∧ RowAt w b base z es (Rv w T Rho.none)
 | .st cs => ∃ b base cur e,ρ r = some ⟨cs.length,1,some (b,base)⟩ ∧ T b ∧ w.heap[b]? = some (Obj.cells cur e (0,0)) ∧ base + cs.length ≤ cur.size ∧ RowAt w b base cs.length [cs] (Rv w T ρ)
 | .fsl z es => (es = [] ∧ ρ r = some ⟨z,0,none⟩) ∨ ∃ b base,ρ r = some ⟨z,es.length,some (b,base)⟩ ∧ ¬ T b ∧ b < w.heap.size ∧ RowAt w b base z es (Rv w T Rho.none)
 | .fst cs => ∃ b base,ρ r = some ⟨cs.length,1,some (b,base)⟩ ∧ ¬ T b ∧ b < w.heap.size ∧ RowAt w b base cs.length [cs] (Rv w T ρ)
 | .dead => True
theorem RowAt.mono {w w' : World} {b base z : Nat} {es : List (List AV)} {R R' : AV → Value → Prop} (h : RowAt w b base z es R) (hc : ∀ o,w'.cell? ⟨b,o,none⟩ = w.cell? ⟨b,o,none⟩) (hR : ∀ av v,R av v → R' av v) : RowAt w' b base z es R' := by
 refine ⟨h.len,fun j c hj hc' => ?_⟩
 obtain ⟨v,h1,h2,h3⟩ := h.cell j c hj hc'
 exact ⟨v,by rw [hc]; exact h1,h2,hR _ _ h3⟩
def Row.live : Row → Bool
 | .sl _ _ _ | .st _ => true
 | _ => false
def Row.isAp : Row → Bool
 | .sl ap _ _ => ap
 | _ => false
structure Keeps (W : Nat → Nat → Prop) (w w' : World) : Prop where
 os : w'.os = w.os
 tape : w'.tape = w.tape
 output : w'.output = w.output
 size : w.heap.size ≤ w'.heap.size
 block : ∀ (b : Nat),b < w.heap.size → w'.heap[b]? = w.heap[b]? ∨ ∃ c c' e fr,w.heap[b]? = some (Obj.cells c e fr) ∧ w'.heap[b]? = some (Obj.cells c' e fr) ∧ c'.size = c.size ∧ ∀ o : Nat,¬ W b o → c'[o]? = c[o]?
theorem Keeps.refl (W : Nat → Nat → Prop) (w : World) : Keeps W w w := ⟨rfl,rfl,rfl,zz _,fun _ _ => .inl rfl⟩
theorem Keeps.trans {W W' : Nat → Nat → Prop} {w w' w'' : World} (h : Keeps W w w') (k : Keeps W' w' w'') (hW : ∀ b o,b < w.heap.size → W' b o → W b o) : Keeps W w w'' := by
 refine ⟨k.os.trans h.os,k.tape.trans h.tape,k.output.trans h.output,zE h.size k.size,fun b hb => ?_⟩
 rcases h.block b hb with h1 | ⟨c,c',e,fr,h1,h2,h3,h4⟩
 ·rcases k.block b (je hb h.size) with k1 | ⟨d,d',e',fr',k1,k2,k3,k4⟩
  ·exact .inl (k1.trans h1)
  ·exact .inr ⟨d,d',e',fr',h1.symm.trans k1,k2,k3,fun o ho => k4 o fun hw => ho (hW b o hb hw)⟩
 ·rcases k.block b (je hb h.size) with k1 | ⟨d,d',e',fr',k1,k2,k3,k4⟩
  ·exact .inr ⟨c,c',e,fr,h1,k1.trans h2,h3,h4⟩
  ·rw [h2] at k1
   cases k1
   exact .inr ⟨c,d',_,_,h1,k2,k3.trans h3,fun o ho => (k4 o fun hw => ho (hW b o hb hw)).trans (h4 o ho)⟩
theorem Keeps.same {W : Nat → Nat → Prop} {T : Nat → Prop} {w w' : World} (h : Keeps W w w') (hW : ∀ b o,b < w.heap.size → W b o → T b) : Same T w w' := by
 refine ⟨h.size,fun b hb ht => ?_,fun b cur e fr hb => ?_⟩
 ·rcases h.block b hb with h1 | ⟨c,c',e,fr,h1,h2,h3,h4⟩
  ·exact h1
  ·rw [h1,h2]
   have : c' = c := by
    apply Array.ext_getElem?
    intro o
    exact h4 o fun hw => ht (hW b o hb hw)
   rw [this]
 ·rcases h.block b (lt_of_cells hb) with h1 | ⟨c,c',e',fr',h1,h2,h3,h4⟩
  ·exact ⟨cur,h1.trans hb,rfl⟩
  ·rw [hb] at h1
   cases h1
   exact ⟨c',h2,h3⟩
structure Old (w w' : World) : Prop where
 os : w'.os = w.os
 tape : w'.tape = w.tape
 output : w'.output = w.output
 size : w.heap.size ≤ w'.heap.size
 block : ∀ (b : Nat),b < w.heap.size → w'.heap[b]? = w.heap[b]?
theorem Old.keeps {w w' : World} (h : Old w w') (W : Nat → Nat → Prop) : Keeps W w w' := ⟨h.os,h.tape,h.output,h.size,fun b hb => .inl (h.block b hb)⟩
theorem Old.same {w w' : World} (h : Old w w') (T : Nat → Prop) : Same T w w' := (h.keeps fun _ _ => False).same fun _ _ _ h => h.elim
theorem Old.cell {w w' : World} (h : Old w w') {b o : Nat} (hb : b < w.heap.size) : w'.cell? ⟨b,o,none⟩ = w.cell? ⟨b,o,none⟩ := by simp only [World.cell?,h.block b hb]
theorem Old.trans {w w' w'' : World} (h : Old w w') (k : Old w' w'') : Old w w'' := ⟨k.os.trans h.os,k.tape.trans h.tape,k.output.trans h.output,zE h.size k.size,fun b hb => (k.block b (je hb h.size)).trans (h.block b hb)⟩
theorem Old.alloc (w : World) (o : Obj) : Old w (w.alloc o) := ⟨rfl,rfl,rfl,by simp,fun b hb => Go.RowKit.Below.heap_alloc w o b hb⟩
theorem Old.drew (w : World) : Old w w.drew := ⟨rfl,rfl,rfl,zz _,fun _ _ => rfl⟩
theorem RowOk.lt {w : World} {T : Nat → Prop} {ρ : Rho} {r : Nat} {x : Row} (h : RowOk w T ρ r x) (hx : x ≠ .dead) : ∀ p b base,ρ r = some p → p.loc = some (b,base) → b < w.heap.size := by
 intro p b base hp hl
 cases x with
 | sl ap z es =>
  rcases h with ⟨_,_,h⟩ | ⟨b',base',cur,e,h,_,hc,_⟩
  ·rw [h] at hp; cases hp; cases hl
  ·rw [h] at hp; cases hp; cases hl; exact lt_of_cells hc
 | st cs =>
  obtain ⟨b',base',cur,e,h,_,hc,_⟩ := h
  rw [h] at hp; cases hp; cases hl; exact lt_of_cells hc
 | fsl z es =>
  rcases h with ⟨_,h⟩ | ⟨b',base',h,_,hc,_⟩
  ·rw [h] at hp; cases hp; cases hl
  ·rw [h] at hp; cases hp; cases hl; exact hc
 | fst cs =>
  obtain ⟨b',base',h,_,hc,_⟩ := h
  rw [h] at hp; cases hp; cases hl; exact hc
 | dead => exact absurd rfl hx
theorem RowOk.inT {w : World} {T : Nat → Prop} {ρ : Rho} {r : Nat} {x : Row} (h : RowOk w T ρ r x) (hx : x.live = true) : ∀ p b base,ρ r = some p → p.loc = some (b,base) → T b := by
 intro p b base hp hl
 cases x with
 | sl ap z es =>
  rcases h with ⟨_,_,h⟩ | ⟨b',base',cur,e,h,ht,_⟩
  ·rw [h] at hp; cases hp; cases hl
  ·rw [h] at hp; cases hp; cases hl; exact ht
 | st cs =>
  obtain ⟨b',base',cur,e,h,ht,_⟩ := h
  rw [h] at hp; cases hp; cases hl; exact ht
 | fsl => cases hx
 | fst => cases hx
 | dead => cases hx
theorem RowOk.mono {w w' : World} {T T' : Nat → Prop} {ρ ρ' : Rho} {r : Nat} {x : Row} (h : RowOk w T ρ r x) (hs : Same T w w') (hT : ∀ b,b < w.heap.size → T' b → T b) (hρ : ∀ q p,ρ q = some p → ρ' q = some p)
  (hb : ∀ p b base,ρ r = some p → p.loc = some (b,base) → x.live = true → w'.heap[b]? = w.heap[b]? ∧ T' b) : RowOk w' T' ρ' r x := by
 have hR : ∀ av v,Rv w T Rho.none av v → Rv w' T' Rho.none av v := fun av v h => h.mono hs hT fun _ _ h => h
 have hR' : ∀ av v,Rv w T ρ av v → Rv w' T' ρ' av v := fun av v h => h.mono hs hT hρ
 cases x with
 | sl ap z es =>
  rcases h with ⟨h1,h2,h3⟩ | ⟨b,base,cur,e,h1,h2,h3,h4,h5,h6⟩
  ·exact .inl ⟨h1,h2,hρ _ _ h3⟩
  ·obtain ⟨k1,k2⟩ := hb _ _ _ h1 rfl rfl
   exact .inr ⟨b,base,cur,e,hρ _ _ h1,k2,k1.trans h3,h4,h5,h6.mono (fun o => by simp only [World.cell?,k1]) hR⟩
 | st cs =>
  obtain ⟨b,base,cur,e,h1,h2,h3,h4,h5⟩ := h
  obtain ⟨k1,k2⟩ := hb _ _ _ h1 rfl rfl
  exact ⟨b,base,cur,e,hρ _ _ h1,k2,k1.trans h3,h4,h5.mono (fun o => by simp only [World.cell?,k1]) hR'⟩
 | fsl z es =>
  rcases h with ⟨h1,h2⟩ | ⟨b,base,h1,h2,h3,h4⟩
  ·exact .inl ⟨h1,hρ _ _ h2⟩
  ·exact .inr ⟨b,base,hρ _ _ h1,fun h => h2 (hT b h3 h),je h3 hs.size,h4.mono (fun o => hs.cell h3 h2) hR⟩
 | fst cs =>
  obtain ⟨b,base,h1,h2,h3,h4⟩ := h
  exact ⟨b,base,hρ _ _ h1,fun h => h2 (hT b h3 h),je h3 hs.size,h4.mono (fun o => hs.cell h3 h2) hR'⟩
 | dead => trivial
structure Fr where
 w0 : World
 W0 : Nat → Nat → Prop
 T0 : Nat → Prop
 lids : List Nat
 pl0 : Nat → Pl
 tabs : List (Nat × List AV)
 N0 : Nat → Prop
 lidn : ∀ r ∈ lids,isLid r = true
 n0w : ∀ b,N0 b → ∀ o,W0 b o
structure WInv (f : Fr) (w : World) (T : Nat → Prop) (ρ : Rho) (h : Heap) : Prop where
 keeps : Keeps f.W0 f.w0 w
 tlt : ∀ b,T b → b < w.heap.size
 rows : ∀ r x,h r = some x → RowOk w T ρ r x
 dom : ∀ r,h r = none → ρ r = none
 sep : ∀ r r' x x',r ≠ r' → h r = some x → h r' = some x' → x.live = true → x'.live = true → ∀ p p' b base b' base',ρ r = some p → ρ r' = some p' → p.loc = some (b,base) → p'.loc = some (b',base') → b ≠ b'
 wr : ∀ r x p b base,h r = some x → x.live = true → ρ r = some p → p.loc = some (b,base) → f.w0.heap.size ≤ b ∨ ((∀ o,base ≤ o → o < base + p.n * p.z → f.W0 b o) ∧ (x.isAp = true → ∀ o,f.W0 b o))
 t0 : ∀ b,f.T0 b → ¬ f.N0 b → T b ∨ ∃ r ∈ f.lids,∀ x,h r = some x → x.live = false
 lp : ∀ r ∈ f.lids,ρ r = some (f.pl0 r)
 own : ∀ r x p b base,r ∉ f.lids → h r = some x → x.live = true → ρ r = some p → p.loc = some (b,base) → f.w0.heap.size ≤ b ∨ f.N0 b
 t0lt : ∀ b,f.T0 b → b < f.w0.heap.size
 la : ∀ r ∈ f.lids,∀ x,h r = some x → x.isAp = false
 tab : ∀ p ∈ f.tabs,Rv w T Rho.none (.tp p.2 0) (.pointer (some ⟨p.1,0,none⟩))
structure Goes (w w' : World) (T T' : Nat → Prop) (ρ ρ' : Rho) : Prop where
 same : Same T w w'
 less : ∀ b,b < w.heap.size → T' b → T b
 more : ∀ r p,ρ r = some p → ρ' r = some p
theorem Goes.refl (w : World) (T : Nat → Prop) (ρ : Rho) : Goes w w T T ρ ρ := ⟨Same.refl _ _,fun _ _ h => h,fun _ _ h => h⟩
theorem Goes.rv {w w' : World} {T T' : Nat → Prop} {ρ ρ' : Rho} (g : Goes w w' T T' ρ ρ') {av : AV} {v : Value} (h : Rv w T ρ av v) : Rv w' T' ρ' av v := h.mono g.same g.less g.more
theorem Goes.trans {w w' w'' : World} {T T' T'' : Nat → Prop} {ρ ρ' ρ'' : Rho} (h : Goes w w' T T' ρ ρ') (k : Goes w' w'' T' T'' ρ' ρ'') : Goes w w'' T T'' ρ ρ'' := by
 refine ⟨⟨zE h.same.size k.same.size,fun b hb ht => ?_,fun b cur e fr hb => ?_⟩,fun b hb ht => h.less b hb (k.less b (je hb h.same.size) ht),fun r p hp => k.more r p (h.more r p hp)⟩
 ·rw [k.same.same b (je hb h.same.size) (fun h' => ht (h.less b hb h')),h.same.same b hb ht]
 ·obtain ⟨c1,h1,s1⟩ := h.same.shape b cur e fr hb
  obtain ⟨c2,h2,s2⟩ := k.same.shape b c1 e fr h1
  exact ⟨c2,h2,s2.trans s1⟩
section
variable {f : Fr} {w : World} {T : Nat → Prop} {ρ : Rho} {h : Heap}
theorem WInv.old (k : WInv f w T ρ h) {w' : World} (ho : Old w w') : WInv f w' T ρ h := by
 refine ⟨k.keeps.trans (ho.keeps fun _ _ => False) (fun _ _ _ h => h.elim),fun b hb => je (k.tlt b hb) ho.size,fun r x hx => ?_,k.dom,k.sep,k.wr,k.t0,k.lp,k.own,k.t0lt,k.la,fun p hp => (k.tab p hp).mono (ho.same T) (fun _ _ h => h) fun _ _ h => h⟩
 exact (k.rows r x hx).mono (ho.same T) (fun _ _ h => h) (fun _ _ h => h) fun p b base hp hl hlv => ⟨ho.block b (k.tlt b ((k.rows r x hx).inT hlv p b base hp hl)),(k.rows r x hx).inT hlv p b base hp hl⟩
theorem Goes.old {w' : World} (ho : Old w w') : Goes w w' T T ρ ρ := ⟨ho.same T,fun _ _ h => h,fun _ _ h => h⟩
theorem WInv.new' (k : WInv f w T ρ h) {w' : World} (ho : Old w w') {id : Nat} (hid : h id = none) {x : Row} {z n base : Nat} (hsz : w.heap.size < w'.heap.size)
  {b : Nat} (hb : w.heap.size ≤ b) (hb' : b < w'.heap.size)
  (hx : RowOk w' (fun a => T a ∨ a = b) (fun r => if r = id then some ⟨z,n,some (b,base)⟩ else ρ r) id x) :
  WInv f w' (fun a => T a ∨ a = b) (fun r => if r = id then some ⟨z,n,some (b,base)⟩ else ρ r) (h.put id x) ∧ Goes w w' T (fun a => T a ∨ a = b) ρ (fun r => if r = id then some ⟨z,n,some (b,base)⟩ else ρ r) := by
 have more : ∀ r p,ρ r = some p → (if r = id then some ⟨z,n,some (b,base)⟩ else ρ r) = some p := by
  intro r p hp
  split
  ·rename_i hr
   subst hr
   rw [k.dom _ hid] at hp
   cases hp
  ·exact hp
 have less : ∀ a,a < w.heap.size → (T a ∨ a = b) → T a := fun a ha ht => ht.elim (fun h => h) fun e => by omega
 refine ⟨⟨k.keeps.trans (ho.keeps fun _ _ => False) (fun _ _ _ h => h.elim),?_,?_,?_,?_,?_,?_,?_,?_,k.t0lt,fun r hr y hy => by
  simp only [Heap.put] at hy
  split at hy
  ·rename_i e
   subst e
   have := k.lp r hr
   rw [k.dom r hid] at this
   cases this
  ·exact k.la r hr y hy,fun p hp => (k.tab p hp).mono (ho.same T) less fun _ _ h => h⟩,ho.same T,less,more⟩
 ·rintro a (ha | rfl)
  ·exact je (k.tlt a ha) ho.size
  ·exact hb'
 ·intro r y hy
  simp only [Heap.put] at hy
  split at hy
  ·rename_i hr
   subst hr
   cases hy
   exact hx
  ·rename_i hr
   exact (k.rows r y hy).mono (ho.same T) less more fun p b base hp hl hlv => ⟨ho.block b (k.tlt b ((k.rows r y hy).inT hlv p b base hp hl)),.inl ((k.rows r y hy).inT hlv p b base hp hl)⟩
 ·intro r hr
  simp only [Heap.put] at hr
  split at hr
  ·cases hr
  ·rename_i hne
   simp only [hne,if_false]
   exact k.dom r hr
 ·intro r r' y y' hne hy hy' hl hl' p p' c base c' base' hp hp' hc hc'
  simp only [Heap.put] at hy hy'
  by_cases h1 : r = id
  ·by_cases h2 : r' = id
   ·exact absurd (h1.trans h2.symm) hne
   ·rw [if_pos h1] at hp
    cases hp
    cases hc
    rw [if_neg h2] at hp' hy'
    have := k.tlt c' ((k.rows r' y' hy').inT hl' p' c' base' hp' hc')
    omega
  ·by_cases h2 : r' = id
   ·rw [if_pos h2] at hp'
    cases hp'
    cases hc'
    rw [if_neg h1] at hp hy
    have := k.tlt c ((k.rows r y hy).inT hl p c base hp hc)
    omega
   ·rw [if_neg h1] at hp hy
    rw [if_neg h2] at hp' hy'
    exact k.sep r r' y y' hne hy hy' hl hl' p p' c base c' base' hp hp' hc hc'
 ·intro r y p c base hy hl hp hc
  simp only [Heap.put] at hy
  by_cases h1 : r = id
  ·rw [if_pos h1] at hp
   cases hp
   cases hc
   have := k.keeps.size
   exact .inl (by omega)
  ·rw [if_neg h1] at hp hy
   exact k.wr r y p c base hy hl hp hc
 ·intro a ha hn
  rcases k.t0 a ha hn with h1 | ⟨r,hr,hx⟩
  ·exact .inl (.inl h1)
  ·refine .inr ⟨r,hr,fun x hx' => ?_⟩
   simp only [Heap.put] at hx'
   split at hx'
   ·rename_i e
    subst e
    have := k.lp r hr
    rw [k.dom r hid] at this
    cases this
   ·exact hx x hx'
 ·intro r hr
  exact more _ _ (k.lp r hr)
 ·intro r y p c base hr hy hl hp hc
  simp only [Heap.put] at hy
  by_cases h1 : r = id
  ·rw [if_pos h1] at hp
   cases hp
   cases hc
   have h2 := k.keeps.size
   exact .inl (by omega)
  ·rw [if_neg h1] at hp hy
   exact k.own r y p c base hr hy hl hp hc
theorem WInv.new (k : WInv f w T ρ h) {w' : World} (ho : Old w w') {id : Nat} (hid : h id = none) {x : Row} {z n base : Nat} (hsz : w.heap.size < w'.heap.size)
  {b : Nat} (hb : w.heap.size ≤ b) (hb' : b < w'.heap.size)
  (hx : ∀ T' ρ',T' b → (∀ a,a < w.heap.size → T' a → T a) → (∀ r p,ρ r = some p → ρ' r = some p) → ρ' id = some ⟨z,n,some (b,base)⟩ → RowOk w' T' ρ' id x) :
  WInv f w' (fun a => T a ∨ a = b) (fun r => if r = id then some ⟨z,n,some (b,base)⟩ else ρ r) (h.put id x) ∧ Goes w w' T (fun a => T a ∨ a = b) ρ (fun r => if r = id then some ⟨z,n,some (b,base)⟩ else ρ r) := by
 refine k.new' ho hid hsz hb hb' (hx _ _ (.inr rfl) (fun a ha ht => ht.elim (fun h => h) fun e => by omega) (fun r p hp => ?_) (if_pos rfl))
 show (if r = id then some (⟨z,n,some (b,base)⟩ : Pl) else ρ r) = some p
 split
 ·rename_i hr
  subst hr
  rw [k.dom _ hid] at hp
  cases hp
 ·exact hp
end
def rowBlk (h : Heap) (ρ : Rho) (r b : Nat) : Prop := ∃ x p base,h r = some x ∧ x.live = true ∧ ρ r = some p ∧ p.loc = some (b,base)
theorem freeze_live {x : Row} : x.freeze.live = false := by cases x <;> rfl
section
variable {f : Fr} {w : World} {T : Nat → Prop} {ρ : Rho} {h : Heap}
theorem WInv.freeze1 (k : WInv f w T ρ h) (r : Nat) :
  WInv f w (fun b => T b ∧ ¬ rowBlk h ρ r b) ρ (fun q => if q = r then (h q).map Row.freeze else h q) ∧ Goes w w T (fun b => T b ∧ ¬ rowBlk h ρ r b) ρ ρ := by
 have less : ∀ b,b < w.heap.size → (T b ∧ ¬ rowBlk h ρ r b) → T b := fun b _ hb => hb.1
 have hmap : ∀ q x,(if q = r then (h q).map Row.freeze else h q) = some x → (q ≠ r ∧ h q = some x) ∨ (q = r ∧ ∃ y,h r = some y ∧ x = y.freeze) := by
  intro q x hx
  split at hx
  ·rename_i hq
   subst hq
   cases hy : h q with
   | none => rw [hy] at hx; cases hx
   | some y => rw [hy] at hx; exact .inr ⟨rfl,y,rfl,(Option.some.inj hx).symm⟩
  ·rename_i hq
   exact .inl ⟨hq,hx⟩
 have hlive : ∀ q x,(if q = r then (h q).map Row.freeze else h q) = some x → x.live = true → q ≠ r ∧ h q = some x := by
  intro q x hx hl
  rcases hmap q x hx with h1 | ⟨_,y,_,rfl⟩
  ·exact h1
  ·rw [freeze_live] at hl
   cases hl
 refine ⟨⟨k.keeps,fun b hb => k.tlt b hb.1,?_,?_,?_,?_,?_,k.lp,?_,k.t0lt,fun q hq x hx => by
  rcases hmap q x hx with ⟨_,h1⟩ | ⟨_,y,_,rfl⟩
  ·exact k.la q hq x h1
  ·cases y <;> rfl,fun p hp => (k.tab p hp).mono (Same.refl _ _) less fun _ _ h => h⟩,Same.refl _ _,less,fun _ _ h => h⟩
 ·intro q x hx
  rcases hmap q x hx with ⟨hq,hy⟩ | ⟨rfl,y,hy,rfl⟩
  ·refine (k.rows q x hy).mono (Same.refl _ _) less (fun _ _ h => h) fun p b base hp hl hlv => ⟨rfl,(k.rows q x hy).inT hlv p b base hp hl,?_⟩
   rintro ⟨z,p',base',hz,hzl,hp',hl'⟩
   exact k.sep q r x z hq hy hz hlv hzl p p' b base b base' hp hp' hl hl' rfl
  ·have hR : ∀ av v,Rv w T Rho.none av v → Rv w (fun b => T b ∧ ¬ rowBlk h ρ q b) Rho.none av v := fun av v hh => hh.mono (Same.refl _ _) less fun _ _ h => h
   have hR' : ∀ av v,Rv w T ρ av v → Rv w (fun b => T b ∧ ¬ rowBlk h ρ q b) ρ av v := fun av v hh => hh.mono (Same.refl _ _) less fun _ _ h => h
   have ok := k.rows q y hy
   cases y with
   | sl ap z es =>
    rcases ok with ⟨h1,h2,h3⟩ | ⟨b,base,cur,e,h1,h2,h3,h4,h5,h6⟩
    ·exact .inl ⟨h1,h3⟩
    ·exact .inr ⟨b,base,h1,fun hh => hh.2 ⟨_,_,_,hy,rfl,h1,rfl⟩,lt_of_cells h3,h6.mono (fun _ => rfl) hR⟩
   | st cs =>
    obtain ⟨b,base,cur,e,h1,h2,h3,h4,h5⟩ := ok
    exact ⟨b,base,h1,fun hh => hh.2 ⟨_,_,_,hy,rfl,h1,rfl⟩,lt_of_cells h3,h5.mono (fun _ => rfl) hR'⟩
   | fsl z es => exact ok.mono (Same.refl _ _) less (fun _ _ h => h) fun _ _ _ _ _ h => by cases h
   | fst cs => exact ok.mono (Same.refl _ _) less (fun _ _ h => h) fun _ _ _ _ _ h => by cases h
   | dead => trivial
 ·intro q hq
  split at hq
  ·rename_i e
   subst e
   cases hy : h q with
   | none => exact k.dom q hy
   | some y => rw [hy] at hq; cases hq
  ·exact k.dom q hq
 ·intro q q' x x' hne hx hx' hl hl'
  obtain ⟨_,h1⟩ := hlive q x hx hl
  obtain ⟨_,h2⟩ := hlive q' x' hx' hl'
  exact k.sep q q' x x' hne h1 h2 hl hl'
 ·intro q x p b base hx hl
  obtain ⟨_,h1⟩ := hlive q x hx hl
  exact k.wr q x p b base h1 hl
 ·intro b hb hn
  rcases k.t0 b hb hn with h1 | ⟨q,hq,hx⟩
  ·by_cases hr : rowBlk h ρ r b
   ·obtain ⟨x,p,base,hx,hl,hp,hloc⟩ := hr
    by_cases hm : r ∈ f.lids
    ·refine .inr ⟨r,hm,fun y hy => ?_⟩
     rcases hmap r y hy with ⟨h2,_⟩ | ⟨_,y',_,rfl⟩
     ·exact absurd rfl h2
     ·exact freeze_live
    ·exact (k.own r x p b base hm hx hl hp hloc).elim (fun h => absurd (k.t0lt b hb) (Nat.not_lt.2 h)) fun h => absurd h hn
   ·exact .inl ⟨h1,hr⟩
  ·refine .inr ⟨q,hq,fun y hy => ?_⟩
   rcases hmap q y hy with ⟨_,h2⟩ | ⟨_,y',_,rfl⟩
   ·exact hx y h2
   ·exact freeze_live
 ·intro q x p b base hq hx hl
  obtain ⟨_,h1⟩ := hlive q x hx hl
  exact k.own q x p b base hq h1 hl
theorem freeze_none {rs : List Nat} {q : Nat} : (h.freeze rs) q = none ↔ h q = none := by
 induction rs with
 | nil => exact Iff.rfl
 | cons r rs ih =>
  simp only [Heap.freeze]
  split
  ·simp only [Option.map_eq_none_iff,ih]
  ·exact ih
theorem freeze_live' {rs : List Nat} {q : Nat} {x : Row} (hx : (h.freeze rs) q = some x) (hl : x.live = true) : h q = some x ∧ q ∉ rs := by
 induction rs generalizing x with
 | nil => exact ⟨hx,by simp⟩
 | cons r rs ih =>
  simp only [Heap.freeze] at hx
  split at hx
  ·cases hy : h.freeze rs q with
   | none => rw [hy] at hx; cases hx
   | some y =>
    rw [hy] at hx
    cases hx
    rw [freeze_live] at hl
    cases hl
  ·rename_i hne
   obtain ⟨h1,h2⟩ := ih hx hl
   exact ⟨h1,by simp [hne,h2]⟩
theorem WInv.freeze (k : WInv f w T ρ h) (rs : List Nat) : ∃ T',WInv f w T' ρ (h.freeze rs) ∧ Goes w w T T' ρ ρ ∧ (∀ r ∈ rs,∀ b,rowBlk h ρ r b → ¬ T' b) ∧ ∀ b,T b → T' b ∨ ∃ r ∈ rs,rowBlk h ρ r b := by
 induction rs with
 | nil => exact ⟨T,k,Goes.refl _ _ _,fun r hr => (by cases hr),fun b hb => .inl hb⟩
 | cons r rs ih =>
  obtain ⟨T1,k1,g1,h1,h1'⟩ := ih
  obtain ⟨k2,g2⟩ := k1.freeze1 r
  refine ⟨_,k2,g1.trans g2,fun q hq b hb => ?_,fun b hb => ?_⟩
  rotate_left
  ·rcases h1' b hb with h2 | ⟨q,hq,hqb⟩
   ·by_cases hr : rowBlk (h.freeze rs) ρ r b
    ·obtain ⟨x,p,base,hx,hl,hp,hloc⟩ := hr
     exact .inr ⟨r,zG,x,p,base,(freeze_live' hx hl).1,hl,hp,hloc⟩
    ·exact .inl ⟨h2,hr⟩
   ·exact .inr ⟨q,zH _ hq,hqb⟩
  rcases List.mem_cons.1 hq with rfl | hq
  ·rintro ⟨t1,t2⟩
   obtain ⟨x,p,base,hx,hl,hp,hloc⟩ := hb
   cases hy : h.freeze rs q with
   | none => rw [freeze_none] at hy; rw [hx] at hy; cases hy
   | some y =>
    by_cases hyl : y.live = true
    ·exact t2 ⟨y,p,base,hy,hyl,hp,hloc⟩
    ·-- it was frozen before
     have hmem : q ∈ rs := by
      by_cases hm : q ∈ rs
      ·exact hm
      ·have : ∀ rs : List Nat,q ∉ rs → h.freeze rs q = h q := by
        intro rs
        induction rs with
        | nil => intro _; rfl
        | cons a rs ih =>
         intro hm
         simp only [Heap.freeze]
         rw [if_neg (fun e => hm (by rw [e]; exact zG))]
         exact ih fun hh => hm (zH _ hh)
       rw [this rs hm,hx] at hy
       cases hy
       exact absurd hl hyl
     exact h1 q hmem b ⟨x,p,base,hx,hl,hp,hloc⟩ t1
  ·exact fun ht => h1 q hq b hb ht.1
end
theorem getD_drop_take {α : Type} (es : List α) (o n j : Nat) (d : α) (hj : j < n) : ((es.drop o).take n).getD j d = es.getD (o + j) d := by
 simp only [zo]
 rw [List.getElem?_take_of_lt hj,List.getElem?_drop]
theorem getD_map_lt {α β : Type} (f : α → β) (l : List α) (j : Nat) (d : β) (d' : α) (hj : j < l.length) : (l.map f).getD j d = f (l.getD j d') := by
 simp only [zo,List.getElem?_map,zr hj]
 rfl
section
variable {w : World} {T T' : Nat → Prop} {ρ : Rho} {h : Heap}
theorem Rv.less {av : AV} {v : Value} (k : Rv w T ρ av v) (hT : ∀ b,b < w.heap.size → T' b → T b) : Rv w T' ρ av v := k.mono (Same.refl _ _) hT fun _ _ h => h
theorem Rv.any {av : AV} {v : Value} (k : Rv w T Rho.none av v) : Rv w T ρ av v := k.mono (Same.refl _ _) (fun _ _ h => h) fun _ _ h => by cases h
theorem tell_win {b base z : Nat} {es : List (List AV)} {o n cap : Nat} (hT : ¬ T' b) (hb : b < w.heap.size) (hless : ∀ b,b < w.heap.size → T' b → T b) (hr : RowAt w b base z es (Rv w T Rho.none)) (hn : o + n ≤ es.length) (hc : n ≤ cap) (hm : cap ≤ maxLen) :
  Rv w T' Rho.none (.l z ((es.drop o).take n)) (.slice (some ⟨b,base + o * z,none⟩) n cap) := by
 have hl : ((es.drop o).take n).length = n := by rw [zD,jd]; omega
 have key : ∀ j c,base + o * z + j * z + c = base + (o + j) * z + c := by intro j c; rw [zZ]; omega
 have := Rv.l (w := w) (T := T') (ρ := Rho.none) (z := z) (es := (es.drop o).take n) (b := b) (base := base + o * z) (cap := cap) (fun j c => (w.cell? ⟨b,base + o * z + j * z + c,none⟩).getD undef) hT hb (by rw [hl]; exact hc) hm
  (fun j hj => by
   rw [hl] at hj
   rw [getD_drop_take _ _ _ _ _ hj]
   exact hr.len _ (by omega))
  (fun j c hj hc => by
   rw [hl] at hj
   obtain ⟨v,h1,h2,h3⟩ := hr.cell (o + j) c (by omega) hc
   rw [key,h1]
   exact ⟨rfl,h2⟩)
  (fun j c hj hc => by
   rw [hl] at hj
   obtain ⟨v,h1,h2,h3⟩ := hr.cell (o + j) c (by omega) hc
   rw [getD_drop_take _ _ _ _ _ hj,key,h1]
   exact h3.less hless)
 rw [hl] at this
 exact this
theorem tell0_none {av : AV} {v : Value} (k : Rv w T Rho.none av v) : Rv w T Rho.none (tell0 h av) v := by
 cases k with
 | ns => exact .lnil0
 | sl hr => cases hr
 | slz hr => cases hr
 | slnil hr => cases hr
 | p hr => cases hr
 | junk => exact .junk
 | b => exact .b
 | i => exact .i
 | s => exact .s
 | np => exact .np
 | lnil ha hm => exact .lnil ha hm
 | l g hT hb hc hm hz hcell hv => exact .l g hT hb hc hm hz hcell hv
 | tp g hT hb hcell hv => exact .tp g hT hb hcell hv
 | agg vs hl h1 hv => exact .agg vs hl h1 hv
 | tup vs hl hv => exact .tup vs hl hv
theorem tell0_rv (hrows : ∀ r x,h r = some x → RowOk w T ρ r x) (hless : ∀ b,b < w.heap.size → T' b → T b) {av : AV} {v : Value} (k : Rv w T ρ av v) (hr : ∀ r ∈ ref0 av,∀ b,rowBlk h ρ r b → ¬ T' b) :
  (∀ r e o,av ≠ .p r e o) → (∀ cs,av ≠ .agg cs) → (∀ cs,av ≠ .tup cs) → Rv w T' Rho.none (tell0 h av) v := by
 intro n1 n2 n3
 cases k with
 | ns => exact .lnil0
 | p => exact absurd rfl (n1 _ _ _)
 | agg => exact absurd rfl (n2 _)
 | tup => exact absurd rfl (n3 _)
 | junk => exact .junk
 | b => exact .b
 | i => exact .i
 | s => exact .s
 | np => exact .np
 | lnil ha hm => exact .lnil ha hm
 | l g hT hb hc hm hz hcell hv => exact (Rv.l g hT hb hc hm hz hcell hv : Rv w T Rho.none _ _).less hless
 | tp g hT hb hcell hv => exact (Rv.tp g hT hb hcell hv : Rv w T Rho.none _ _).less hless
 | @sl _ r z o n m b base cap h1 hn hc hm hs =>
  simp only [tell0]
  cases hx : h r with
  | none => exact .junk
  | some x =>
   have ok := hrows r x hx
   cases x with
   | sl ap z' es =>
    rcases ok with ⟨_,_,h3⟩ | ⟨b',base',cur,e,h3,h4,h5,h6,h7,h8⟩
    ·rw [h1] at h3; cases h3
    ·rw [h1] at h3
     cases h3
     exact tell_win (hr r zG b ⟨_,_,_,hx,rfl,h1,rfl⟩) (lt_of_cells h5) hless h8 hn hc hm
   | fsl z' es =>
    rcases ok with ⟨_,h3⟩ | ⟨b',base',h3,h4,h5,h6⟩
    ·rw [h1] at h3; cases h3
    ·rw [h1] at h3
     cases h3
     exact tell_win (fun ht => h4 (hless b h5 ht)) h5 hless h6 hn hc hm
   | st cs => exact .junk
   | fst cs => exact .junk
   | dead => exact .junk
 | @slz _ r z o m b base off h1 hn =>
  simp only [tell0]
  cases hx : h r with
  | none => exact .junk
  | some x =>
   have ok := hrows r x hx
   have mk : ∀ es : List (List AV),¬ T' b → b < w.heap.size → Rv w T' Rho.none (.l z ((es.drop o).take 0)) (.slice (some ⟨b,off,none⟩) 0 0) := by
    intro es ht hb
    rw [jk]
    exact Rv.l (es := []) (fun _ _ => undef) ht hb (Nat.zero_le _) (Nat.zero_le _) (fun j hj => by cases hj) (fun j c hj => by cases hj) (fun j c hj => by cases hj)
   cases x with
   | sl ap z' es =>
    rcases ok with ⟨_,_,h3⟩ | ⟨b',base',cur,e,h3,h4,h5,h6,h7,h8⟩
    ·rw [h1] at h3; cases h3
    ·rw [h1] at h3
     cases h3
     exact mk es (hr r zG b ⟨_,_,_,hx,rfl,h1,rfl⟩) (lt_of_cells h5)
   | fsl z' es =>
    rcases ok with ⟨_,h3⟩ | ⟨b',base',h3,h4,h5,h6⟩
    ·rw [h1] at h3; cases h3
    ·rw [h1] at h3
     cases h3
     exact mk es (fun ht => h4 (hless b h5 ht)) h5
   | st cs => exact .junk
   | fst cs => exact .junk
   | dead => exact .junk
 | @slnil _ r z h1 =>
  simp only [tell0]
  cases hx : h r with
  | none => exact .junk
  | some x =>
   cases x with
   | sl ap z' es => simp only [zN,Row.win,List.drop_zero,jk]; exact .lnil0
   | fsl z' es => simp only [zN,Row.win,List.drop_zero,jk]; exact .lnil0
   | st cs => exact .junk
   | fst cs => exact .junk
   | dead => exact .junk
end
section
variable {w : World} {T T' : Nat → Prop} {ρ : Rho} {h : Heap}
theorem tell_cells {b base : Nat} {cs : List AV} {o : Nat} (hT : ¬ T' b) (hb : b < w.heap.size)
  (hc : ∀ c,c < cs.length → ∃ v,w.cell? ⟨b,base + c,none⟩ = some v ∧ v.oneCell' = true ∧ Rv w T' Rho.none (tell0 h (cs.getD c .junk)) v) :
  Rv w T' Rho.none (.tp (cs.map (tell0 h)) o) (.pointer (some ⟨b,base + o,none⟩)) := by
 refine Rv.tp (fun c => (w.cell? ⟨b,base + c,none⟩).getD undef) hT hb (fun c h1 => ?_) (fun c h1 => ?_)
 ·rw [zC] at h1
  obtain ⟨v,h2,h3,h4⟩ := hc c h1
  rw [h2]
  exact ⟨rfl,h3⟩
 ·rw [zC] at h1
  obtain ⟨v,h2,h3,h4⟩ := hc c h1
  rw [getD_map_lt (tell0 h) cs c .junk .junk h1,h2]
  exact h4
theorem tell0_cell (hrows : ∀ r x,h r = some x → RowOk w T ρ r x) (hless : ∀ b,b < w.heap.size → T' b → T b) {av : AV} {v : Value} (h1 : v.oneCell' = true) (k : Rv w T ρ av v) (hr : ∀ r ∈ ref0 av,∀ b,rowBlk h ρ r b → ¬ T' b) : Rv w T' Rho.none (tell0 h av) v := by
 cases k with
 | p => exact .junk
 | agg vs hl => cases h1
 | tup vs hl => cases h1
 | junk => exact .junk
 | b => exact .b
 | i => exact .i
 | s => exact .s
 | np => exact .np
 | ns => exact .lnil0
 | lnil ha hm => exact .lnil ha hm
 | l g hT hb hc hm hz hcell hv => exact (Rv.l g hT hb hc hm hz hcell hv : Rv w T Rho.none _ _).less hless
 | tp g hT hb hcell hv => exact (Rv.tp g hT hb hcell hv : Rv w T Rho.none _ _).less hless
 | sl hr' hn hc hm hs => exact tell0_rv hrows hless (.sl hr' hn hc hm hs) hr (by intros; simp) (by intros; simp) (by intros; simp)
 | slz hr' hn => exact tell0_rv hrows hless (.slz hr' hn) hr (by intros; simp) (by intros; simp) (by intros; simp)
 | slnil hr' => exact tell0_rv hrows hless (.slnil hr') hr (by intros; simp) (by intros; simp) (by intros; simp)
theorem tellC_rv (hrows : ∀ r x,h r = some x → RowOk w T ρ r x) (hless : ∀ b,b < w.heap.size → T' b → T b) {av : AV} {v : Value} (k : Rv w T ρ av v) (hr : ∀ r ∈ refC h av,∀ b,rowBlk h ρ r b → ¬ T' b) (n2 : ∀ cs,av ≠ .agg cs) (n3 : ∀ cs,av ≠ .tup cs) :
  Rv w T' Rho.none (tellC h av) v := by
 cases k with
 | @p _ r e o z m b base h1 =>
  simp only [tellC]
  cases hx : h r with
  | none => exact .junk
  | some x =>
   have ok := hrows r x hx
   have hblk : x.live = true → ¬ T' b := fun hl => hr r zG b ⟨x,_,_,hx,hl,h1,rfl⟩
   have hsl : ∀ z' (es : List (List AV)) cs,es[e]? = some cs → z' = z → RowAt w b base z' es (Rv w T Rho.none) → ¬ T' b → b < w.heap.size → Rv w T' Rho.none (.tp (cs.map (tell0 h)) o) (.pointer (some ⟨b,base + e * z + o,none⟩)) := by
    intro z' es cs he hz hra ht hb
    subst hz
    have hlt : e < es.length := by
     rcases jl e es.length with h2 | h2
     ·exact h2
     ·rw [jf h2] at he; cases he
    have hcs : es.getD e [] = cs := by rw [zo,he]; rfl
    refine tell_cells ht hb fun c hc => ?_
    have hlen := hra.len e hlt
    rw [hcs] at hlen
    obtain ⟨v,h2,h3,h4⟩ := hra.cell e c hlt (by omega)
    rw [hcs] at h4
    exact ⟨v,h2,h3,tell0_none (h4.less hless)⟩
   have hst : ∀ cs,e = 0 → RowAt w b base cs.length [cs] (Rv w T ρ) → (∀ r' ∈ cs.flatMap ref0,∀ b,rowBlk h ρ r' b → ¬ T' b) → ¬ T' b → b < w.heap.size → Rv w T' Rho.none (.tp (cs.map (tell0 h)) o) (.pointer (some ⟨b,base + e * z + o,none⟩)) := by
    intro cs he hra hrr ht hb
    subst he
    rw [Nat.zero_mul,Nat.add_zero]
    refine tell_cells ht hb fun c hc => ?_
    obtain ⟨v,h2,h3,h4⟩ := hra.cell 0 c (by simp) hc
    rw [Nat.zero_mul,Nat.add_zero] at h2
    refine ⟨v,h2,h3,tell0_cell hrows hless h3 h4 fun r' hr' => hrr r' ?_⟩
    rw [List.mem_flatMap]
    refine ⟨_,?_,hr'⟩
    show cs.getD c .junk ∈ cs
    rw [zo,zr hc]
    exact List.getElem_mem hc
   cases x with
   | sl ap z' es =>
    simp only [zN,Row.at]
    cases he : es[e]? with
    | none => exact .junk
    | some cs =>
     rcases ok with ⟨h2,_,_⟩ | ⟨b',base',cur,e',h3,h4,h5,h6,h7,h8⟩
     ·subst h2; cases he
     ·rw [h1] at h3
      cases h3
      exact hsl z es cs he rfl h8 (hblk rfl) (lt_of_cells h5)
   | fsl z' es =>
    simp only [zN,Row.at]
    cases he : es[e]? with
    | none => exact .junk
    | some cs =>
     rcases ok with ⟨h2,_⟩ | ⟨b',base',h3,h4,h5,h6⟩
     ·subst h2; cases he
     ·rw [h1] at h3
      cases h3
      exact hsl z es cs he rfl h6 (fun ht => h4 (hless b h5 ht)) h5
   | st cs =>
    simp only [zN,Row.at]
    by_cases he : e = 0
    ·rw [if_pos he]
     obtain ⟨b',base',cur,e',h3,h4,h5,h6,h7⟩ := ok
     rw [h1] at h3
     cases h3
     refine hst cs he h7 (fun r' hr' => hr r' ?_) (hblk rfl) (lt_of_cells h5)
     simp only [refC,hx,zN,Row.at,if_pos he]
     exact zH _ hr'
    ·rw [if_neg he]; exact .junk
   | fst cs =>
    simp only [zN,Row.at]
    by_cases he : e = 0
    ·rw [if_pos he]
     obtain ⟨b',base',h3,h4,h5,h6⟩ := ok
     rw [h1] at h3
     cases h3
     refine hst cs he h6 (fun r' hr' => hr r' ?_) (fun ht => h4 (hless b h5 ht)) h5
     simp only [refC,hx,zN,Row.at,if_pos he]
     exact zH _ hr'
    ·rw [if_neg he]; exact .junk
   | dead => exact .junk
 | agg => exact absurd rfl (n2 _)
 | tup => exact absurd rfl (n3 _)
 | junk => exact .junk
 | b => exact .b
 | i => exact .i
 | s => exact .s
 | np => exact .np
 | ns => exact .lnil0
 | lnil ha hm => exact .lnil ha hm
 | l g hT hb hc hm hz hcell hv => exact (Rv.l g hT hb hc hm hz hcell hv : Rv w T Rho.none _ _).less hless
 | tp g hT hb hcell hv => exact (Rv.tp g hT hb hcell hv : Rv w T Rho.none _ _).less hless
 | sl hr' hn hc hm hs => exact tell0_rv hrows hless (.sl hr' hn hc hm hs) hr (by intros; simp) (by intros; simp) (by intros; simp)
 | slz hr' hn => exact tell0_rv hrows hless (.slz hr' hn) hr (by intros; simp) (by intros; simp) (by intros; simp)
 | slnil hr' => exact tell0_rv hrows hless (.slnil hr') hr (by intros; simp) (by intros; simp) (by intros; simp)
theorem getD_mem {α : Type} {l : List α} {c : Nat} (d : α) (hc : c < l.length) : l.getD c d ∈ l := by
 rw [zo,zr hc]
 exact List.getElem_mem hc
theorem one_of_cell {av : AV} {v : Value} (k : Rv w T ρ av v) (h1 : v.oneCell' = true) : (∀ cs,av ≠ .agg cs) ∧ (∀ cs,av ≠ .tup cs) := by
 refine ⟨?_,?_⟩ <;> (intro cs e; subst e; cases k; cases h1)
theorem tell1_rv (hrows : ∀ r x,h r = some x → RowOk w T ρ r x) (hless : ∀ b,b < w.heap.size → T' b → T b) {av : AV} {v : Value} (k : Rv w T ρ av v) (hr : ∀ r ∈ ref1 h av,∀ b,rowBlk h ρ r b → ¬ T' b) :
  Rv w T' Rho.none (tell1 h av) v := by
 cases k with
 | @agg _ cs vs hl h1 hv =>
  simp only [tell1]
  refine .agg vs (by rw [zC]; exact hl) (fun c hc => h1 c (by rwa [zC] at hc)) fun c hc => ?_
  rw [zC] at hc
  rw [getD_map_lt (tellC h) cs c .junk .junk hc]
  refine tellC_rv hrows hless (hv c hc) (fun r hr' => hr r ?_) (one_of_cell (hv c hc) (h1 c hc)).1 (one_of_cell (hv c hc) (h1 c hc)).2
  exact List.mem_flatMap.2 ⟨_,getD_mem _ hc,hr'⟩
 | tup => exact .junk
 | junk => exact .junk
 | b => exact .b
 | i => exact .i
 | s => exact .s
 | np => exact .np
 | ns => exact .lnil0
 | lnil ha hm => exact .lnil ha hm
 | l g hT hb hc hm hz hcell hv => exact (Rv.l g hT hb hc hm hz hcell hv : Rv w T Rho.none _ _).less hless
 | tp g hT hb hcell hv => exact (Rv.tp g hT hb hcell hv : Rv w T Rho.none _ _).less hless
 | sl hr' hn hc hm hs => exact tellC_rv hrows hless (.sl hr' hn hc hm hs) hr (by intros; simp) (by intros; simp)
 | slz hr' hn => exact tellC_rv hrows hless (.slz hr' hn) hr (by intros; simp) (by intros; simp)
 | slnil hr' => exact tellC_rv hrows hless (.slnil hr') hr (by intros; simp) (by intros; simp)
 | p hr' => exact tellC_rv hrows hless (.p hr') hr (by intros; simp) (by intros; simp)
theorem tell_rv (hrows : ∀ r x,h r = some x → RowOk w T ρ r x) (hless : ∀ b,b < w.heap.size → T' b → T b) {av : AV} {v : Value} (k : Rv w T ρ av v) (hr : ∀ r ∈ ref h av,∀ b,rowBlk h ρ r b → ¬ T' b) :
  Rv w T' Rho.none (tell h av) v := by
 cases k with
 | @tup _ cs vs hl hv =>
  simp only [tell]
  refine .tup vs (by rw [zC]; exact hl) fun c hc => ?_
  rw [zC] at hc
  rw [getD_map_lt (tell1 h) cs c .junk .junk hc]
  exact tell1_rv hrows hless (hv c hc) fun r hr' => hr r (List.mem_flatMap.2 ⟨_,getD_mem _ hc,hr'⟩)
 | agg vs hl h1 hv => exact tell1_rv hrows hless (.agg vs hl h1 hv) hr
 | junk => exact .junk
 | b => exact .b
 | i => exact .i
 | s => exact .s
 | np => exact .np
 | ns => exact .lnil0
 | lnil ha hm => exact .lnil ha hm
 | l g hT hb hc hm hz hcell hv => exact (Rv.l g hT hb hc hm hz hcell hv : Rv w T Rho.none _ _).less hless
 | tp g hT hb hcell hv => exact (Rv.tp g hT hb hcell hv : Rv w T Rho.none _ _).less hless
 | sl hr' hn hc hm hs => exact tell1_rv hrows hless (.sl hr' hn hc hm hs) hr
 | slz hr' hn => exact tell1_rv hrows hless (.slz hr' hn) hr
 | slnil hr' => exact tell1_rv hrows hless (.slnil hr') hr
 | p hr' => exact tell1_rv hrows hless (.p hr') hr
end
def mv1 : Value → AV → Bool
 | .bool a,.b b => a == b
 | .int k n,.i k' n' => k == k' && n == n'
 | .string s,.s s' => decide (s = s')
 | .slice none 0 0,.ns _ => true
 | .pointer none,.np => true
 | _,_ => false
def mvs : List Value → List AV → Bool
 | [],[] => true
 | v :: vs,c :: cs => mv1 v c && mvs vs cs
 | _,_ => false
def mv : Value → AV → Bool
 | .agg vs,.agg cs => mvs vs.toList cs
 | v,c => mv1 v c
section
variable {w : World} {T : Nat → Prop} {ρ : Rho}
theorem mv1_rv {v : Value} {c : AV} (h : mv1 v c = true) : Rv w T ρ c v ∧ v.oneCell' = true := by
 unfold mv1 at h
 split at h
 ·rw [beq_iff_eq] at h; subst h; exact ⟨.b,rfl⟩
 ·simp only [zu,beq_iff_eq] at h; obtain ⟨rfl,rfl⟩ := h; exact ⟨.i,rfl⟩
 ·simp only [decide_eq_true_eq] at h; subst h; exact ⟨.s,rfl⟩
 ·exact ⟨.ns,rfl⟩
 ·exact ⟨.np,rfl⟩
 ·cases h
theorem mvs_rv : ∀ {vs : List Value} {cs : List AV},mvs vs cs = true → vs.length = cs.length ∧ ∀ c,c < cs.length → Rv w T ρ (cs.getD c .junk) (vs.getD c undef) ∧ (vs.getD c undef).oneCell' = true
 | [],[],_ => ⟨rfl,fun c hc => by cases hc⟩
 | v :: vs,c :: cs,h => by
  simp only [mvs,zu] at h
  obtain ⟨h1,h2⟩ := mvs_rv h.2
  refine ⟨by simp [h1],fun i hi => ?_⟩
  cases i with
  | zero => exact mv1_rv h.1
  | succ i => exact h2 i (by simpa using hi)
 | [],_ :: _,h => by simp [mvs] at h
 | _ :: _,[],h => by simp [mvs] at h
theorem toList_getD (vs : Array Value) (c : Nat) : vs.getD c undef = vs.toList.getD c undef := by simp [zo]
theorem mv_rv {v : Value} {c : AV} (h : mv v c = true) : Rv w T ρ c v := by
 unfold mv at h
 split at h
 ·rename_i vs cs
  obtain ⟨h1,h2⟩ := mvs_rv (w := w) (T := T) (ρ := ρ) h
  refine .agg vs (by rw [← h1]; simp) (fun c hc => ?_) fun c hc => ?_
  ·rw [toList_getD]; exact (h2 c hc).2
  ·rw [toList_getD]; exact (h2 c hc).1
 ·exact (mv1_rv h).1
end
def ma (tabs : List (Nat × List AV)) : Operand → At → Bool
 | .tmp t,.t s => t == s
 | .const v,.c a => mv v a
 | .global g,.c (.tp cs 0) => tabs.any fun p => p.1 == g && p.2.length == cs.length && mtab p.2 cs
 | _,_ => false
where
 mtab : List AV → List AV → Bool
 | [],[] => true
 | .i k n :: xs,.i k' n' :: ys => k == k' && n == n' && mtab xs ys
 | _,_ => false
theorem mtab_eq : ∀ {xs ys : List AV},ma.mtab xs ys = true → xs = ys
 | [],[],_ => rfl
 | x :: xs,y :: ys,h => by
  unfold ma.mtab at h
  split at h
  ·rename_i h1 h2; cases h1
  ·rename_i k n xs' k' n' ys' h1 h2
   cases h1; cases h2
   simp only [zu,beq_iff_eq] at h
   obtain ⟨⟨rfl,rfl⟩,h3⟩ := h
   rw [mtab_eq h3]
  ·cases h
 | [],_ :: _,h => by simp [ma.mtab] at h
 | _ :: _,[],h => by simp [ma.mtab] at h
def Env (w : World) (T : Nat → Prop) (ρ : Rho) (e : Nat → AV) (a : Act) : Prop := ∀ t,Rv w T ρ (e t) (a.tmps.getD t undef)
theorem Env.goes {w w' : World} {T T' : Nat → Prop} {ρ ρ' : Rho} {e : Nat → AV} {a : Act} (h : Env w T ρ e a) (g : Goes w w' T T' ρ ρ') : Env w' T' ρ' e a := fun t => g.rv (h t)
theorem ma_rv {f : Fr} {w : World} {T : Nat → Prop} {ρ : Rho} {h : Heap} (k : WInv f w T ρ h) {e : Nat → AV} {a : Act} (he : Env w T ρ e a) {x : Operand} {y : At} (hm : ma f.tabs x y = true) : Rv w T ρ (y.ev e) (a.eval x) := by
 unfold ma at hm
 split at hm
 ·rw [beq_iff_eq] at hm; subst hm; exact he _
 ·exact mv_rv hm
 ·rename_i g cs
  rw [List.any_eq_true] at hm
  obtain ⟨p,hp,hq⟩ := hm
  simp only [zu,beq_iff_eq] at hq
  obtain ⟨⟨rfl,_⟩,h2⟩ := hq
  rw [← mtab_eq h2]
  exact (k.tab p hp).any
 ·cases hm
def szT (P : Program) (t : TypeId) : Option Nat := (P.info? t).map (·.size)
section
variable {P : Program} {w : World}
theorem run_typeInfo {t : TypeId} {i : TypeInfo} (h : P.info? t = some i) : (typeInfo t).run P w = .ok i w := by simp [typeInfo,h]
theorem run_sizeOf' {t : TypeId} {n : Nat} (h : szT P t = some n) : (sizeOf t).run P w = .ok n w := by
 unfold szT at h
 cases hi : P.info? t with
 | none => rw [hi] at h; cases h
 | some i => rw [hi] at h; cases h; simp [sizeOf,run_typeInfo hi]
theorem run_zeroValue {t : TypeId} {i : TypeInfo} {z : Value} (h : P.info? t = some i) (hz : i.zero = some z) : (zeroValue t).run P w = .ok z w := by simp [zeroValue,run_typeInfo h,hz]
end
def Gives (P : Program) (o : Oper) (a : Act) (w : World) (v : Value) : Prop := (execOp a.eval o).run P w = .ok (.value v) w
section
variable {P : Program} {f : Fr} {w : World} {T : Nat → Prop} {ρ : Rho} {h : Heap} {e : Nat → AV} {a : Act} {o : Oper}
theorem op_move (k : WInv f w T ρ h) (he : Env w T ρ e a) {x : Operand} {y : At} (ho : o.op = .move x ∨ o.op = .assign x) (hm : ma f.tabs x y = true) : ∃ v,Gives P o a w v ∧ Rv w T ρ (y.ev e) v := by
 refine ⟨a.eval x,?_,ma_rv k he hm⟩
 rcases ho with ho | ho <;> simp [Gives,execOp,ho]
theorem inv_b {q : Bool} {v : Value} (k : Rv w T ρ (.b q) v) : v = .bool q := by cases k; rfl
theorem inv_i {q : IntKind} {n : Int} {v : Value} (k : Rv w T ρ (.i q n) v) : v = .int q n := by cases k; rfl
theorem inv_s {s : ByteArray} {v : Value} (k : Rv w T ρ (.s s) v) : v = .string s := by cases k; rfl
theorem op_pick (k : WInv f w T ρ h) (he : Env w T ρ e a) {x y z : Operand} {x' y' z' : At} {av : AV} {h' : Heap} (call : Call) (ho : o.op = .pick x y z) (h1 : ma f.tabs x x' = true) (h2 : ma f.tabs y y' = true) (h3 : ma f.tabs z z' = true)
  (hv : PO.ev call (.pick x' y' z') e h = some (av,h')) : h' = h ∧ ∃ v,Gives P o a w v ∧ Rv w T ρ av v := by
 have r1 := ma_rv k he h1
 have r2 := ma_rv k he h2
 have r3 := ma_rv k he h3
 simp only [PO.ev] at hv
 split at hv
 ·rename_i q hq
  rw [hq] at r1
  cases hv
  refine ⟨rfl,(if q then a.eval y else a.eval z),?_,?_⟩
  ·simp only [Gives,execOp,ho,inv_b r1,asBool]
   cases q <;> simp
  ·cases q
   ·exact r3
   ·exact r2
 ·cases hv
theorem op_not (k : WInv f w T ρ h) (he : Env w T ρ e a) {x : Operand} {x' : At} {t : TypeId} {av : AV} {h' : Heap} (call : Call) (ho : o.op = .unOp .not t x) (h1 : ma f.tabs x x' = true)
  (hv : PO.ev call (.not x') e h = some (av,h')) : h' = h ∧ ∃ v,Gives P o a w v ∧ Rv w T ρ av v := by
 have r1 := ma_rv k he h1
 simp only [PO.ev] at hv
 split at hv
 ·rename_i q hq
  rw [hq] at r1
  cases hv
  exact ⟨rfl,.bool (!q),by simp [Gives,execOp,ho,inv_b r1,Op.unary],.b⟩
 ·cases hv
theorem op_neg (k : WInv f w T ρ h) (he : Env w T ρ e a) {x : Operand} {x' : At} {t : TypeId} {av : AV} {h' : Heap} (call : Call) (ho : o.op = .unOp .neg t x) (h1 : ma f.tabs x x' = true)
  (hv : PO.ev call (.neg x') e h = some (av,h')) : h' = h ∧ ∃ v,Gives P o a w v ∧ Rv w T ρ av v := by
 have r1 := ma_rv k he h1
 simp only [PO.ev] at hv
 split at hv
 ·rename_i q n hq
  rw [hq] at r1
  cases hv
  exact ⟨rfl,.int q (q.wrap (0 - n)),by simp [Gives,execOp,ho,inv_i r1,Op.unary,Op.intArith],.i⟩
 ·cases hv
theorem op_conv (k : WInv f w T ρ h) (he : Env w T ρ e a) {x : Operand} {x' : At} {s d : TypeId} {q q' : IntKind} {av : AV} {h' : Heap} (call : Call) (ho : o.op = .convert s d x) (hs : P.underlying s = some (.int q')) (hd : P.underlying d = some (.int q)) (h1 : ma f.tabs x x' = true)
  (hv : PO.ev call (.conv q x') e h = some (av,h')) : h' = h ∧ ∃ v,Gives P o a w v ∧ Rv w T ρ av v := by
 have r1 := ma_rv k he h1
 simp only [PO.ev] at hv
 split at hv
 ·rename_i q'' n hq
  rw [hq] at r1
  cases hv
  exact ⟨rfl,.int q (q.wrap n),by simp [Gives,execOp,ho,inv_i r1,convert,run_underlying hs,run_underlying hd,Conv.intToInt],.i⟩
 ·cases hv
theorem eqG (op : BinOp) (t : TypeId) (x y : Operand) (q : IntKind) (n : Int) (v : Value) : eqGuard op t x y (.int q n) v = pure () := by cases op <;> rfl
theorem bits_def (op : BinOp) (k : IntKind) (x y : Int) (h : op = .and ∨ op = .or ∨ op = .xor) : (Op.intBits op k x y).run P w = .ok (.int k (Go.bits op k x y)) w := by
 rcases h with rfl | rfl | rfl <;> simp [Op.intBits,Go.bits]
theorem run_binI {op : BinOp} {q : IntKind} {x y : Int} {t : TypeId} {av : AV} (hv : binI op q x y = some av) (hop : op ≠ .shl ∧ op ≠ .shr) : ∃ v,(binOp op t (.int q x) (.int q y)).run P w = .ok v w ∧ Rv w T ρ av v := by
 cases op <;> simp only [binI] at hv <;> try (cases hv)
 case add => exact ⟨_,by simp [binOp,Op.intArith],.i⟩
 case sub => exact ⟨_,by simp [binOp,Op.intArith],.i⟩
 case mul => exact ⟨_,by simp [binOp,Op.intArith],.i⟩
 case quo =>
  split at hv
  ·cases hv
  ·rename_i hy
   cases hv
   exact ⟨_,by simp [binOp,Op.intDiv,hy],.i⟩
 case rem =>
  split at hv
  ·cases hv
  ·rename_i hy
   cases hv
   exact ⟨_,by simp [binOp,Op.intDiv,hy],.i⟩
 case and => exact ⟨_,by simp only [binOp,if_false,ne_eq,not_true_eq_false]; exact bits_def _ _ _ _ (by simp),.i⟩
 case or => exact ⟨_,by simp only [binOp,if_false,ne_eq,not_true_eq_false]; exact bits_def _ _ _ _ (by simp),.i⟩
 case xor => exact ⟨_,by simp only [binOp,if_false,ne_eq,not_true_eq_false]; exact bits_def _ _ _ _ (by simp),.i⟩
 case eql => exact ⟨.bool (decide (x = y)),by simp [binOp,Op.intCmp]; rfl,.b⟩
 case neq => exact ⟨.bool (!decide (x = y)),by simp [binOp,Op.intCmp,bne]; rfl,.b⟩
 case lss => exact ⟨_,by simp [binOp,Op.intCmp],.b⟩
 case leq => exact ⟨_,by simp [binOp,Op.intCmp],.b⟩
 case gtr => exact ⟨_,by simp [binOp,Op.intCmp],.b⟩
 case geq => exact ⟨_,by simp [binOp,Op.intCmp],.b⟩
theorem run_shI {op : BinOp} {q q' : IntKind} {x y : Int} {t : TypeId} {av : AV} (hv : shI op q x y = some av) (hop : op = .shl ∨ op = .shr) : ∃ v,(binOp op t (.int q x) (.int q' y)).run P w = .ok v w ∧ Rv w T ρ av v := by
 unfold shI at hv
 split at hv
 ·cases hv
 ·rename_i hy
  rcases hop with rfl | rfl
  ·cases hv
   exact ⟨_,by simp [binOp,Op.shift,hy],.i⟩
  ·cases hv
   exact ⟨_,by simp [binOp,Op.shift,hy],.i⟩
theorem beqL (x y : List UInt8) : (x == y) = decide (x = y) := by by_cases h : x = y <;> simp [h]
theorem op_bin (k : WInv f w T ρ h) (he : Env w T ρ e a) {op : BinOp} {x y : Operand} {x' y' : At} {t t' : TypeId} {av : AV} {h' : Heap} (call : Call) (ho : o.op = .binOp op t x y t') (h1 : ma f.tabs x x' = true) (h2 : ma f.tabs y y' = true)
  (hv : PO.ev call (.bin op x' y') e h = some (av,h')) : h' = h ∧ ∃ v,Gives P o a w v ∧ Rv w T ρ av v := by
 have r1 := ma_rv k he h1
 have r2 := ma_rv k he h2
 simp only [PO.ev,zw] at hv
 obtain ⟨c,hc,hcv⟩ := hv
 cases hcv
 refine ⟨rfl,?_⟩
 have fin : ∀ v u1 u2,a.eval x = u1 → a.eval y = u2 → (eqGuard op t x y u1 u2 = pure ()) → (binOp op t u1 u2).run P w = .ok v w → Gives P o a w v := by
  intro v u1 u2 e1 e2 hg hr
  simp only [Gives,execOp,ho,e1,e2,hg,Sem.run_bind,Sem.run_pure,Result.andThen_ok,hr]
 unfold binV at hc
 split at hc
 ·rename_i q n q' m hx hy
  rw [hx] at r1
  rw [hy] at r2
  have e1 := inv_i r1
  have e2 := inv_i r2
  split at hc
  ·obtain ⟨v,h3,h4⟩ := run_shI (P := P) (w := w) (T := T) (ρ := ρ) (q' := q') (t := t) hc (by simp)
   exact ⟨v,fin _ _ _ e1 e2 rfl h3,h4⟩
  ·obtain ⟨v,h3,h4⟩ := run_shI (P := P) (w := w) (T := T) (ρ := ρ) (q' := q') (t := t) hc (by simp)
   exact ⟨v,fin _ _ _ e1 e2 rfl h3,h4⟩
  ·rename_i n1 n2
   split at hc
   ·rename_i hqq
    subst hqq
    obtain ⟨v,h3,h4⟩ := run_binI (P := P) (w := w) (T := T) (ρ := ρ) (t := t) hc ⟨fun e => n1 e,fun e => n2 e⟩
    exact ⟨v,fin _ _ _ e1 e2 (eqG ..) h3,h4⟩
   ·cases hc
 ·rename_i p q hx hy
  rw [hx] at r1
  rw [hy] at r2
  have e1 := inv_s r1
  have e2 := inv_s r2
  split at hc
  ·cases hc
   exact ⟨_,fin _ _ _ e1 e2 rfl (by simp [binOp,Op.stringOp,beqL]),.b⟩
  ·cases hc
   exact ⟨_,fin _ _ _ e1 e2 rfl (by simp [binOp,Op.stringOp,beqL]),.b⟩
  ·split at hc
   ·rename_i hsz
    cases hc
    exact ⟨_,fin _ _ _ e1 e2 rfl (by simp only [binOp,Op.stringOp]; rw [if_neg (by rw [IntKind.max_i64]; omega)]; rfl),.s⟩
   ·cases hc
  ·cases hc
 ·cases hc
theorem op_eqb (k : WInv f w T ρ h) (he : Env w T ρ e a) {neg : Bool} {x y : Operand} {x' y' : At} {t t' : TypeId} {av : AV} {h' : Heap} (call : Call) (ho : o.op = .binOp (if neg then .neq else .eql) t x y t') (ht : P.underlying t = some .bool) (h1 : ma f.tabs x x' = true) (h2 : ma f.tabs y y' = true)
  (hv : PO.ev call (.eqb neg x' y') e h = some (av,h')) : h' = h ∧ ∃ v,Gives P o a w v ∧ Rv w T ρ av v := by
 have r1 := ma_rv k he h1
 have r2 := ma_rv k he h2
 simp only [PO.ev,zw] at hv
 obtain ⟨c,hc,hcv⟩ := hv
 cases hcv
 refine ⟨rfl,?_⟩
 unfold eqbV at hc
 split at hc
 ·rename_i p q hx hy
  rw [hx] at r1
  rw [hy] at r2
  cases hc
  cases neg
  ·exact ⟨.bool (p == q),by simp only [Gives,execOp,ho,inv_b r1,inv_b r2,ji,if_false]; simp [eqGuard,run_eql_bool w t p q ht],.b⟩
  ·exact ⟨.bool (!(p == q)),by simp only [Gives,execOp,ho,inv_b r1,inv_b r2,if_true]; simp [eqGuard,binOp,run_equal_bool w t p q ht],.b⟩
 ·cases hc
end
def aggT (P : Program) (t : TypeId) : Option Bool := (P.underlying t).map fun d => match d with
 | .struct _ | .array _ _ => true
 | _ => false
section
variable {P : Program} {f : Fr} {w : World} {T : Nat → Prop} {ρ : Rho} {h : Heap} {e : Nat → AV} {a : Act} {o : Oper}
theorem ptr_cells (k : WInv f w T ρ h) {x : AV} {v : Value} (r : Rv w T ρ x v) {cs : List AV} {c : Nat} (hp : ptrAt h x = some (cs,c)) :
  ∃ b base,v = .pointer (some ⟨b,base + c,none⟩) ∧ ∀ i,i < cs.length → ∃ u,w.cell? ⟨b,base + i,none⟩ = some u ∧ u.oneCell' = true ∧ Rv w T ρ (cs.getD i .junk) u := by
 cases r with
 | @tp _ cs' o' b base g hT hb hcell hv =>
  simp only [ptrAt,Option.some.injEq,Prod.mk.injEq] at hp
  obtain ⟨rfl,rfl⟩ := hp
  exact ⟨b,base,rfl,fun i hi => ⟨g i,(hcell i hi).1,(hcell i hi).2,(hv i hi).any⟩⟩
 | @p _ r e' o' z m b base h1 =>
  simp only [ptrAt,zw,zy] at hp
  obtain ⟨cs',⟨row,hrow,hat⟩,hq⟩ := hp
  cases hq
  have ok := k.rows r row hrow
  have hsl : ∀ (es : List (List AV)),es[e']? = some cs → RowAt w b base z es (Rv w T Rho.none) → ∀ i,i < cs.length → ∃ u,w.cell? ⟨b,base + e' * z + i,none⟩ = some u ∧ u.oneCell' = true ∧ Rv w T ρ (cs.getD i .junk) u := by
   intro es he hra i hi
   have hlt : e' < es.length := by
    rcases jl e' es.length with h2 | h2
    ·exact h2
    ·rw [jf h2] at he; cases he
   have hcs : es.getD e' [] = cs := by rw [zo,he]; rfl
   have hlen := hra.len e' hlt
   rw [hcs] at hlen
   obtain ⟨u,h2,h3,h4⟩ := hra.cell e' i hlt (by omega)
   rw [hcs] at h4
   exact ⟨u,h2,h3,h4.any⟩
  have hst : ∀ cs,e' = 0 → RowAt w b base cs.length [cs] (Rv w T ρ) → ∀ i,i < cs.length → ∃ u,w.cell? ⟨b,base + e' * z + i,none⟩ = some u ∧ u.oneCell' = true ∧ Rv w T ρ (cs.getD i .junk) u := by
   intro cs he hra i hi
   subst he
   obtain ⟨u,h2,h3,h4⟩ := hra.cell 0 i (by simp) hi
   refine ⟨u,?_,h3,h4⟩
   rw [Nat.zero_mul,Nat.add_zero] at h2 ⊢
   exact h2
  refine ⟨b,base + e' * z,rfl,?_⟩
  cases row with
  | sl ap z' es =>
   rcases ok with ⟨h2,_,_⟩ | ⟨b',base',cur,e'',h3,h4,h5,h6,h7,h8⟩
   ·subst h2; cases hat
   ·rw [h1] at h3
    cases h3
    exact hsl es hat h8
  | fsl z' es =>
   rcases ok with ⟨h2,_⟩ | ⟨b',base',h3,h4,h5,h6⟩
   ·subst h2; cases hat
   ·rw [h1] at h3
    cases h3
    exact hsl es hat h6
  | st cs' =>
   obtain ⟨b',base',cur,e'',h3,h4,h5,h6,h7⟩ := ok
   rw [h1] at h3
   cases h3
   simp only [Row.at] at hat
   split at hat
   ·rename_i he
    cases hat
    exact hst cs he h7
   ·cases hat
  | fst cs' =>
   obtain ⟨b',base',h3,h4,h5,h6⟩ := ok
   rw [h1] at h3
   cases h3
   simp only [Row.at] at hat
   split at hat
   ·rename_i he
    cases hat
    exact hst cs he h6
   ·cases hat
  | dead => cases hat
 | _ => simp [ptrAt] at hp
theorem ldC_agg {sz c : Nat} {cs : List AV} {av : AV} (h : ldC true sz c cs = some av) : av = .agg ((cs.drop c).take sz) ∧ c + sz ≤ cs.length := by
 unfold ldC at h
 simp only [if_true] at h
 split at h
 ·rename_i h1
  cases h
  obtain ⟨rfl,rfl⟩ := h1
  simp
 ·split at h
  ·rename_i h1
   cases h
   exact ⟨rfl,h1⟩
  ·cases h
theorem load_var {t : TypeId} {sz b base c : Nat} {ag : Bool} {cs : List AV} {av : AV} (hag : aggT P t = some ag) (hsz : szT P t = some sz)
  (hc : ∀ i,i < cs.length → ∃ u,w.cell? ⟨b,base + i,none⟩ = some u ∧ u.oneCell' = true ∧ Rv w T ρ (cs.getD i .junk) u) (hv : ldC ag sz c cs = some av) :
  ∃ v,(loadVar t ⟨b,base + c,none⟩).run P w = .ok v w ∧ Rv w T ρ av v ∧ (ag = false → v.oneCell' = true) := by
 unfold aggT at hag
 cases hu : P.underlying t with
 | none => rw [hu] at hag; cases hag
 | some d =>
  rw [hu] at hag
  cases ag with
  | true =>
   obtain ⟨rfl,hle⟩ := ldC_agg hv
   have hd : d.isRow = true := by cases d <;> simp_all [TypeDesc.isRow]
   have hr : w.rangeAt b (base + c) ((zT sz).map fun i => (w.cell? ⟨b,base + c + i,none⟩).getD undef) := by
    intro j v hj
    rw [List.getElem?_map] at hj
    rcases jl j sz with h1 | h1
    ·obtain ⟨u,h2,h3,h4⟩ := hc (c + j) (by omega)
     rw [List.getElem?_range h1] at hj
     simp only [jj,Option.some.injEq] at hj
     rw [← Nat.add_assoc] at h2
     rw [h2] at hj
     rw [h2,← hj]
     rfl
    ·rw [jf (by simpa using h1)] at hj
     cases hj
   refine ⟨_,run_loadVar_mid w b (base + c) t _ d hr hu hd (by rw [zC,List.length_range]; exact hsz),?_,fun h => by cases h⟩
   have hl : ((cs.drop c).take sz).length = sz := by rw [zD,jd]; omega
   refine .agg _ (by rw [hl]; simp) (fun i hi => ?_) fun i hi => ?_
   all_goals
    rw [hl] at hi
    obtain ⟨u,h2,h3,h4⟩ := hc (c + i) (by omega)
    rw [← Nat.add_assoc] at h2
    have e1 : (((zT sz).map fun i => (w.cell? ⟨b,base + c + i,none⟩).getD undef).toArray).getD i undef = u := by
     simp [List.getElem?_range hi,h2]
    rw [e1]
   ·exact h3
   ·rw [show ((cs.drop c).take sz).getD i .junk = cs.getD (c + i) .junk by
     simp only [zo]
     rw [List.getElem?_take_of_lt hi,List.getElem?_drop]]
    exact h4
  | false =>
   have hd : (isAgg t).run P w = .ok false w := by
    unfold isAgg
    rw [Sem.run_bind,run_underlying hu w]
    cases d <;> simp_all
   simp only [ldC,ji,if_false] at hv
   have hlt : c < cs.length := by
    rcases jl c cs.length with h2 | h2
    ·exact h2
    ·rw [jf h2] at hv; cases hv
   obtain ⟨u,h2,h3,h4⟩ := hc c hlt
   have : cs.getD c .junk = av := by rw [zo,hv]; rfl
   rw [this] at h4
   exact ⟨u,by simp [loadVar,hd,h2],h4,fun _ => h3⟩
theorem op_ld (k : WInv f w T ρ h) (he : Env w T ρ e a) {x : Operand} {x' : At} {t : TypeId} {ag : Bool} {sz : Nat} {av : AV} {h' : Heap} (call : Call) (ho : o.op = .load t x) (hag : aggT P t = some ag) (hsz : szT P t = some sz) (h1 : ma f.tabs x x' = true)
  (hv : PO.ev call (.ld ag sz x') e h = some (av,h')) : h' = h ∧ ∃ v,Gives P o a w v ∧ Rv w T ρ av v := by
 have r1 := ma_rv k he h1
 simp only [PO.ev,ldV,zw,zy] at hv
 obtain ⟨c,⟨⟨cs,i⟩,hp,hc⟩,hcv⟩ := hv
 cases hcv
 obtain ⟨b,base,hx,hcell⟩ := ptr_cells k r1 hp
 obtain ⟨v,h2,h3,_⟩ := load_var hag hsz hcell hc
 exact ⟨rfl,v,by simp [Gives,execOp,ho,hx,Instr.loadAt,Instr.sureAddr,h2],h3⟩
theorem inv_p {r q c : Nat} {v : Value} (k : Rv w T ρ (.p r q c) v) : ∃ p,v = .pointer (some p) := by cases k; exact ⟨_,rfl⟩
theorem inv_tp {cs : List AV} {c : Nat} {v : Value} (k : Rv w T ρ (.tp cs c) v) : ∃ p,v = .pointer (some p) := by cases k; exact ⟨_,rfl⟩
theorem op_nck (k : WInv f w T ρ h) (he : Env w T ρ e a) {x : Operand} {x' : At} {av : AV} {h' : Heap} (call : Call) (ho : o.op = .nilCheck x) (h1 : ma f.tabs x x' = true)
  (hv : PO.ev call (.nck x') e h = some (av,h')) : h' = h ∧ ∃ v,Gives P o a w v ∧ Rv w T ρ av v := by
 have r1 := ma_rv k he h1
 simp only [PO.ev] at hv
 split at hv
 ·rename_i r q c hq
  cases hv
  rw [hq] at r1
  obtain ⟨p,hp⟩ := inv_p r1
  exact ⟨rfl,a.eval x,by simp [Gives,execOp,ho,hp],r1⟩
 ·rename_i cs c hq
  cases hv
  rw [hq] at r1
  obtain ⟨p,hp⟩ := inv_tp r1
  exact ⟨rfl,a.eval x,by simp [Gives,execOp,ho,hp],r1⟩
 ·cases hv
theorem fld_p {r q c d : Nat} {v : Value} (k : Rv w T ρ (.p r q c) v) : ∃ b i,v = .pointer (some ⟨b,i,none⟩) ∧ Rv w T ρ (.p r q (c + d)) (.pointer (some ⟨b,i + d,none⟩)) := by
 cases k with
 | p h1 => exact ⟨_,_,rfl,by rw [Nat.add_assoc]; exact .p h1⟩
theorem fld_tp {cs : List AV} {c d : Nat} {v : Value} (k : Rv w T ρ (.tp cs c) v) : ∃ b i,v = .pointer (some ⟨b,i,none⟩) ∧ Rv w T ρ (.tp cs (c + d)) (.pointer (some ⟨b,i + d,none⟩)) := by
 cases k with
 | tp g hT hb hcell hv => exact ⟨_,_,rfl,by rw [Nat.add_assoc]; exact .tp g hT hb hcell hv⟩
theorem op_fld (k : WInv f w T ρ h) (he : Env w T ρ e a) {x : Operand} {x' : At} {t : TypeId} {i d n : Nat} {fs : Array Field} {fl : Field} {av : AV} {h' : Heap} (call : Call) (ho : o.op = .fieldAddr t x i) (hu : P.underlying t = some (.struct fs)) (hf : fs[i]? = some fl) (hd : fl.offset = d) (hn : szT P fl.type = some (n + 1)) (h1 : ma f.tabs x x' = true)
  (hv : PO.ev call (.fld d x') e h = some (av,h')) : h' = h ∧ ∃ v,Gives P o a w v ∧ Rv w T ρ av v := by
 have r1 := ma_rv k he h1
 have fin : ∀ b j,a.eval x = .pointer (some ⟨b,j,none⟩) → Gives P o a w (.pointer (some ⟨b,j + d,none⟩)) := by
  intro b j hx
  simp only [Gives,execOp,ho,hx,Instr.fieldAt,Sem.run_bind,run_underlying hu w,Result.andThen_ok,hf,Instr.sureAddr,Sem.run_pure,fieldPlace,run_sizeOf' hn,Nat.add_one_ne_zero,if_false,add_at,hd]
 simp only [PO.ev] at hv
 split at hv
 ·rename_i r q c hq
  cases hv
  rw [hq] at r1
  obtain ⟨b,j,hx,h2⟩ := fld_p (d := d) r1
  exact ⟨rfl,_,fin b j hx,h2⟩
 ·rename_i cs c hq
  cases hv
  rw [hq] at r1
  obtain ⟨b,j,hx,h2⟩ := fld_tp (d := d) r1
  exact ⟨rfl,_,fin b j hx,h2⟩
 ·cases hv
theorem part_rv {t : TypeId} {sz c : Nat} {ag : Bool} {cs : List AV} {vs : Array Value} {av : AV} (hag : aggT P t = some ag) (hsz : szT P t = some sz) (hl : vs.size = cs.length) (h1 : ∀ i,i < cs.length → (vs.getD i undef).oneCell' = true)
  (hr : ∀ i,i < cs.length → Rv w T ρ (cs.getD i .junk) (vs.getD i undef)) (hv : ldC ag sz c cs = some av) : ∃ v,(part t vs c).run P w = .ok v w ∧ Rv w T ρ av v := by
 unfold aggT at hag
 cases hu : P.underlying t with
 | none => rw [hu] at hag; cases hag
 | some d =>
  rw [hu] at hag
  have hd : (isAgg t).run P w = .ok ag w := by
   unfold isAgg
   rw [Sem.run_bind,run_underlying hu w]
   cases d <;> simp_all
  cases ag with
  | true =>
   obtain ⟨rfl,hle⟩ := ldC_agg hv
   refine ⟨.agg (vs.extract c (c + sz)),?_,?_⟩
   ·simp only [part,Sem.run_bind,hd,Result.andThen_ok,if_true,run_sizeOf' hsz,Sem.run_pure]
   ·have hll : ((cs.drop c).take sz).length = sz := by rw [zD,jd]; omega
    have hg : ∀ i,i < sz → (vs.extract c (c + sz)).getD i undef = vs.getD (c + i) undef := fun i hi => by
     have hlt : c + i < vs.size := by omega
     simp [Array.getD_eq_getD_getElem?,Array.getElem?_extract,show i < min (c + sz) vs.size - c by omega,Array.getElem?_eq_getElem hlt]
    refine .agg _ (by rw [hll,Array.size_extract]; omega) (fun i hi => ?_) fun i hi => ?_
    ·rw [hll] at hi
     rw [hg i hi]
     exact h1 _ (by omega)
    ·rw [hll] at hi
     rw [hg i hi,show ((cs.drop c).take sz).getD i .junk = cs.getD (c + i) .junk by
      simp only [zo]
      rw [List.getElem?_take_of_lt hi,List.getElem?_drop]]
     exact hr _ (by omega)
  | false =>
   simp only [ldC,ji,if_false] at hv
   have hlt : c < cs.length := by
    rcases jl c cs.length with h2 | h2
    ·exact h2
    ·rw [jf h2] at hv; cases hv
   have h3 := hr c hlt
   have : cs.getD c .junk = av := by rw [zo,hv]; rfl
   rw [this] at h3
   have h4 : vs[c]? = some (vs.getD c undef) := by
    have : c < vs.size := by omega
    simp [this]
   refine ⟨_,?_,h3⟩
   simp only [part,Sem.run_bind,hd,Result.andThen_ok,ji,if_false,h4,Sem.run_pure]
theorem op_fpt (k : WInv f w T ρ h) (he : Env w T ρ e a) {x : Operand} {x' : At} {t : TypeId} {i d sz : Nat} {ag : Bool} {fs : Array Field} {fl : Field} {av : AV} {h' : Heap} (call : Call) (ho : o.op = .field t x i) (hu : P.underlying t = some (.struct fs)) (hf : fs[i]? = some fl) (hd : fl.offset = d) (hsz : szT P fl.type = some sz) (hag : aggT P fl.type = some ag) (h1 : ma f.tabs x x' = true)
  (hv : PO.ev call (.fpt ag sz d x') e h = some (av,h')) : h' = h ∧ ∃ v,Gives P o a w v ∧ Rv w T ρ av v := by
 have r1 := ma_rv k he h1
 simp only [PO.ev] at hv
 split at hv
 ·rename_i cs hq
  simp only [zw] at hv
  obtain ⟨c,hc,hcv⟩ := hv
  cases hcv
  rw [hq] at r1
  generalize hx : a.eval x = v at r1
  cases r1 with
  | agg us hl hone hu2 =>
   obtain ⟨v,h2,h3⟩ := part_rv hag hsz hl hone hu2 hc
   refine ⟨rfl,v,?_,h3⟩
   simp only [Gives,execOp,ho,hx,Instr.field,Sem.run_bind,run_underlying hu w,Result.andThen_ok,hf,asAgg,Sem.run_pure,hd,h2]
 ·cases hv
theorem intV_i {x : AV} {n : Int} {v : Value} (hi : intV x = some n) (k : Rv w T ρ x v) : ∃ q,v = .int q n := by
 unfold intV at hi
 split at hi
 ·cases hi
  exact ⟨_,inv_i k⟩
 ·cases hi
theorem op_idx (k : WInv f w T ρ h) (he : Env w T ρ e a) {x y : Operand} {x' y' : At} {t el : TypeId} {z : Nat} {av : AV} {h' : Heap} (call : Call) (ho : o.op = .indexAddr t x y) (hu : P.underlying t = some (.slice el)) (hz : szT P el = some z) (h1 : ma f.tabs x x' = true) (h2 : ma f.tabs y y' = true)
  (hv : PO.ev call (.idx z x' y') e h = some (av,h')) : h' = h ∧ ∃ v,Gives P o a w v ∧ Rv w T ρ av v := by
 have r1 := ma_rv k he h1
 have r2 := ma_rv k he h2
 simp only [PO.ev,zy,zw] at hv
 obtain ⟨j,hj,c,hc,hcv⟩ := hv
 cases hcv
 obtain ⟨q,hy⟩ := intV_i hj r2
 have fin : ∀ b i n cap,a.eval x = .slice (some ⟨b,i,none⟩) n cap → 0 ≤ j → j < (n : Int) → Gives P o a w (.pointer (some ⟨b,i + j.toNat * z,none⟩)) := by
  intro b i n cap hx h3 h4
  simp only [Gives,execOp,ho,hx,hy,Instr.indexAt,asIntOf,Sem.run_bind,run_underlying hu w,Result.andThen_ok,Sem.run_pure,run_sizeOf' hz,add_at]
  rw [if_pos ⟨h3,h4⟩]
  simp only [Sem.run_bind,run_sizeOf' hz,Result.andThen_ok,Sem.run_pure,add_at]
 refine ⟨rfl,?_⟩
 unfold idxV at hc
 split at hc
 ·rename_i r z' ofs n hq
  split at hc
  ·rename_i hcond
   obtain ⟨rfl,h3,h4⟩ := hcond
   cases hc
   rw [hq] at r1
   generalize hx : a.eval x = v at r1
   cases r1 with
   | @sl _ _ _ _ _ m b base cap hr hn hcap hm hs =>
    refine ⟨_,fin b _ n cap hx h3 h4,?_⟩
    have := Rv.p (w := w) (T := T) (ρ := ρ) (e := ofs + j.toNat) (o := 0) hr
    rw [Nat.add_zero,zZ,← Nat.add_assoc] at this
    exact this
   | slz => omega
   | slnil => omega
  ·cases hc
 ·rename_i z' es hq
  split at hc
  ·rename_i hcond
   obtain ⟨rfl,h3,h4⟩ := hcond
   cases hc
   rw [hq] at r1
   generalize hx : a.eval x = v at r1
   cases r1 with
   | lnil => simp at h4; omega
   | @l _ _ _ b base cap g hT hb hcap hm hz' hcell hv =>
    have hlt : j.toNat < es.length := by omega
    refine ⟨_,fin b base es.length cap hx h3 h4,?_⟩
    have hlen := hz' _ hlt
    have := Rv.tp (w := w) (T := T) (ρ := ρ) (cs := es.getD j.toNat []) (o := 0) (b := b) (base := base + j.toNat * z') (fun c => g j.toNat c) hT hb (fun c hc => by rw [hlen] at hc; exact hcell _ c hlt hc) (fun c hc => by rw [hlen] at hc; exact hv _ c hlt hc)
    rw [Nat.add_zero] at this
    exact this
  ·cases hc
 ·cases hc
theorem op_idxa (k : WInv f w T ρ h) (he : Env w T ρ e a) {x y : Operand} {x' y' : At} {t el : TypeId} {n z : Nat} {av : AV} {h' : Heap} (call : Call) (ho : o.op = .indexAddr t x y) (hu : P.underlying t = some (.array n el)) (hz : szT P el = some z) (h1 : ma f.tabs x x' = true) (h2 : ma f.tabs y y' = true)
  (hv : PO.ev call (.idxa n z x' y') e h = some (av,h')) : h' = h ∧ ∃ v,Gives P o a w v ∧ Rv w T ρ av v := by
 have r1 := ma_rv k he h1
 have r2 := ma_rv k he h2
 simp only [PO.ev] at hv
 have fin : ∀ b i j,intV (y'.ev e) = some j → a.eval x = .pointer (some ⟨b,i,none⟩) → 0 ≤ j → j < (n : Int) → Gives P o a w (.pointer (some ⟨b,i + j.toNat * z,none⟩)) := by
  intro b i j hj hx h3 h4
  obtain ⟨q,hy⟩ := intV_i hj r2
  simp only [Gives,execOp,ho,hx,hy,Instr.indexAt,Instr.sureAddr,asIntOf,Sem.run_bind,run_underlying hu w,Result.andThen_ok,Sem.run_pure,run_sizeOf' hz,add_at]
  rw [if_pos ⟨h3,h4⟩]
  simp only [Sem.run_bind,run_sizeOf' hz,Result.andThen_ok,Sem.run_pure,add_at]
 split at hv
 ·rename_i j r q c hj hq
  split at hv
  ·rename_i hcond
   cases hv
   rw [hq] at r1
   obtain ⟨b,i,hx,h3⟩ := fld_p (d := j.toNat * z) r1
   exact ⟨rfl,_,fin b i j hj hx hcond.1 hcond.2,h3⟩
  ·cases hv
 ·rename_i j cs c hj hq
  split at hv
  ·rename_i hcond
   cases hv
   rw [hq] at r1
   obtain ⟨b,i,hx,h3⟩ := fld_tp (d := j.toNat * z) r1
   exact ⟨rfl,_,fin b i j hj hx hcond.1 hcond.2,h3⟩
  ·cases hv
 ·cases hv
theorem op_ext (k : WInv f w T ρ h) (he : Env w T ρ e a) {x : Operand} {x' : At} {n : Nat} {av : AV} {h' : Heap} (call : Call) (ho : o.op = .extract x n) (h1 : ma f.tabs x x' = true)
  (hv : PO.ev call (.ext n x') e h = some (av,h')) : h' = h ∧ ∃ v,Gives P o a w v ∧ Rv w T ρ av v := by
 have r1 := ma_rv k he h1
 simp only [PO.ev] at hv
 split at hv
 ·rename_i vs hq
  simp only [zw] at hv
  obtain ⟨c,hc,hcv⟩ := hv
  cases hcv
  rw [hq] at r1
  generalize hx : a.eval x = v at r1
  cases r1 with
  | tup us hl hu =>
   have hlt : n < vs.length := by
    rcases jl n vs.length with h2 | h2
    ·exact h2
    ·rw [jf h2] at hc; cases hc
   have h2 := hu n hlt
   rw [show vs.getD n .junk = av by rw [zo,hc]; rfl] at h2
   refine ⟨rfl,us.getD n undef,?_,h2⟩
   have h3 : us[n]? = some (us.getD n undef) := by
    have : n < us.size := by omega
    simp [this]
   simp only [Gives,execOp,ho,hx,Instr.extract,h3,Sem.run_bind,Sem.run_pure,Result.andThen_ok]
 ·cases hv
theorem op_len (k : WInv f w T ρ h) (he : Env w T ρ e a) {x : Operand} {x' : At} {c : Go.Call} {t el : TypeId} {av : AV} {h' : Heap} (call : Call) (ho : o.op = .call c) (hc : c.callee = .builtin .len) (hx : c.args = #[x]) (ht : c.argTypes = #[t]) (hu : P.underlying t = some (.slice el)) (h1 : ma f.tabs x x' = true)
  (hv : PO.ev call (.len x') e h = some (av,h')) : h' = h ∧ ∃ v,Gives P o a w v ∧ Rv w T ρ av v := by
 have r1 := ma_rv k he h1
 simp only [PO.ev,zw] at hv
 obtain ⟨n,hn,hcv⟩ := hv
 cases hcv
 have fin : ∀ b cap,a.eval x = .slice b n cap → Gives P o a w (.int .i64 (n : Int)) := by
  intro b cap hxv
  simp [Gives,execOp,ho,resolve,hc,hx,ht,invoke,builtin,Builtin.len_,run_underlying hu,hxv,goInt]
 refine ⟨rfl,_,?_,.i⟩
 unfold lenV at hn
 generalize hxv : a.eval x = v at r1
 split at hn
 ·rename_i hq
  rw [hq] at r1
  cases hn
  cases r1 with
  | sl => exact fin _ _ hxv
  | slz => exact fin _ _ hxv
  | slnil => exact fin _ _ hxv
 ·rename_i hq
  rw [hq] at r1
  cases hn
  cases r1 with
  | lnil => exact fin _ _ hxv
  | l => exact fin _ _ hxv
 ·rename_i hq
  rw [hq] at r1
  cases hn
  cases r1
  exact fin _ _ hxv
 ·cases hn
theorem op_slen (k : WInv f w T ρ h) (he : Env w T ρ e a) {x : Operand} {x' : At} {c : Go.Call} {t : TypeId} {av : AV} {h' : Heap} (call : Call) (ho : o.op = .call c) (hc : c.callee = .builtin .len) (hx : c.args = #[x]) (ht : c.argTypes = #[t]) (hu : P.underlying t = some .string) (h1 : ma f.tabs x x' = true)
  (hv : PO.ev call (.slen x') e h = some (av,h')) : h' = h ∧ ∃ v,Gives P o a w v ∧ Rv w T ρ av v := by
 have r1 := ma_rv k he h1
 simp only [PO.ev] at hv
 split at hv
 ·rename_i s hq
  cases hv
  rw [hq] at r1
  refine ⟨rfl,.int .i64 (s.size : Int),?_,.i⟩
  simp [Gives,execOp,ho,resolve,hc,hx,ht,invoke,builtin,Builtin.len_,run_underlying hu,inv_s r1,goInt]
 ·cases hv
theorem op_min (k : WInv f w T ρ h) (he : Env w T ρ e a) {x y : Operand} {x' y' : At} {c : Go.Call} {av : AV} {h' : Heap} (call : Call) (ho : o.op = .call c) (hc : c.callee = .builtin .min) (hx : c.args = #[x,y]) (h1 : ma f.tabs x x' = true) (h2 : ma f.tabs y y' = true)
  (hv : PO.ev call (.min x' y') e h = some (av,h')) : h' = h ∧ ∃ v,Gives P o a w v ∧ Rv w T ρ av v := by
 have r1 := ma_rv k he h1
 have r2 := ma_rv k he h2
 simp only [PO.ev] at hv
 split at hv
 ·rename_i q n q' m hq hq'
  cases hv
  rw [hq] at r1
  rw [hq'] at r2
  exact ⟨rfl,.int q (if m < n then m else n),by simp [Gives,execOp,ho,resolve,hc,hx,invoke,builtin,Builtin.min_,Builtin.min2,inv_i r1,inv_i r2],.i⟩
 ·cases hv
theorem op_max (k : WInv f w T ρ h) (he : Env w T ρ e a) {x y : Operand} {x' y' : At} {c : Go.Call} {av : AV} {h' : Heap} (call : Call) (ho : o.op = .call c) (hc : c.callee = .builtin .max) (hx : c.args = #[x,y]) (h1 : ma f.tabs x x' = true) (h2 : ma f.tabs y y' = true)
  (hv : PO.ev call (.max x' y') e h = some (av,h')) : h' = h ∧ ∃ v,Gives P o a w v ∧ Rv w T ρ av v := by
 have r1 := ma_rv k he h1
 have r2 := ma_rv k he h2
 simp only [PO.ev] at hv
 split at hv
 ·rename_i q n q' m hq hq'
  cases hv
  rw [hq] at r1
  rw [hq'] at r2
  exact ⟨rfl,.int q (if m > n then m else n),by simp [Gives,execOp,ho,resolve,hc,hx,invoke,builtin,Builtin.max_,Builtin.max2,inv_i r1,inv_i r2],.i⟩
 ·cases hv
theorem op_sidx (k : WInv f w T ρ h) (he : Env w T ρ e a) {x y : Operand} {x' y' : At} {t : TypeId} {av : AV} {h' : Heap} (call : Call) (ho : o.op = .index t x y) (hu : P.underlying t = some .string) (h1 : ma f.tabs x x' = true) (h2 : ma f.tabs y y' = true)
  (hv : PO.ev call (.sidx x' y') e h = some (av,h')) : h' = h ∧ ∃ v,Gives P o a w v ∧ Rv w T ρ av v := by
 have r1 := ma_rv k he h1
 have r2 := ma_rv k he h2
 simp only [PO.ev] at hv
 split at hv
 ·rename_i s j hq hj
  split at hv
  ·rename_i hcond
   cases hv
   rw [hq] at r1
   obtain ⟨q,hy⟩ := intV_i hj r2
   refine ⟨rfl,.int .u8 _,?_,.i⟩
   have hg : s[j.toNat]? = some (s[j.toNat]'hcond.2) := getElem?_pos s j.toNat hcond.2
   simp only [Gives,execOp,ho,Instr.index,hy,asIntOf,inv_s r1,Sem.run_bind,Sem.run_pure,Result.andThen_ok,run_underlying hu w,if_pos hcond.1,hg]
  ·cases hv
 ·cases hv
def mo2 (tabs : List (Nat × List AV)) : Option Operand → Option At → Bool
 | none,none => true
 | some x,some y => ma tabs x y
 | _,_ => false
theorem run_bounds {isS : Bool} {len cap : Nat} {lo hi mx : Option Value} {l u m : Int} (hl : (lo = none ∧ l = 0) ∨ ∃ q,lo = some (.int q l)) (hu : (hi = none ∧ mx = none ∧ u = len) ∨ ∃ q,hi = some (.int q u)) (hm : (mx = none ∧ m = cap) ∨ ∃ q,mx = some (.int q m))
  (h0 : 0 ≤ l) (h1 : l ≤ u) (h2 : u ≤ m) (h3 : m ≤ (cap : Int)) : (Instr.sliceBounds isS len cap lo hi mx).run P w = .ok (l.toNat,u.toNat,m.toNat) w := by
 have e1 : (m.toNat : Int) = m := Int.toNat_of_nonneg (by omega)
 have e2 : (u.toNat : Int) = u := Int.toNat_of_nonneg (by omega)
 have p1 : 0 ≤ m := by omega
 have p2 : 0 ≤ u := by omega
 rcases hl with ⟨rfl,rfl⟩ | ⟨q,rfl⟩ <;> rcases hm with ⟨rfl,rfl⟩ | ⟨q',rfl⟩ <;> rcases hu with ⟨rfl,h9,rfl⟩ | ⟨q'',rfl⟩ <;> first
  | (cases h9; done)
  | simp [Instr.sliceBounds,Instr.sliceBound,asIntOf, *]
theorem opt_l (k : WInv f w T ρ h) (he : Env w T ρ e a) {lo : Option Operand} {lo' : Option At} {d l : Int} (hm : mo2 f.tabs lo lo' = true) (hl : optI e (some d) lo' = some l) : (lo.map a.eval = none ∧ lo = none ∧ l = d) ∨ ∃ q,lo.map a.eval = some (.int q l) := by
 cases lo with
 | none =>
  cases lo' with
  | none => simp only [optI,Option.some.injEq] at hl; exact .inl ⟨rfl,rfl,hl.symm⟩
  | some y => cases hm
 | some x =>
  cases lo' with
  | none => cases hm
  | some y =>
   obtain ⟨q,hq⟩ := intV_i hl (ma_rv k he hm)
   exact .inr ⟨q,by simp [hq]⟩
theorem op_cut (k : WInv f w T ρ h) (he : Env w T ρ e a) {x : Operand} {x' : At} {lo hi mx : Option Operand} {lo' hi' mx' : Option At} {t el : TypeId} {z : Nat} {av : AV} {h' : Heap} (call : Call) (ho : o.op = .slice t x lo hi mx) (hu : P.underlying t = some (.slice el)) (hz : szT P el = some z)
  (h1 : ma f.tabs x x' = true) (hlo : mo2 f.tabs lo lo' = true) (hhi : mo2 f.tabs hi hi' = true) (hmx : mo2 f.tabs mx mx' = true) (hmh : mx = none ∨ ∃ y,hi = some y)
  (hv : PO.ev call (.cut z x' lo' hi' mx') e h = some (av,h')) : h' = h ∧ ∃ v,Gives P o a w v ∧ Rv w T ρ av v := by
 have r1 := ma_rv k he h1
 simp only [PO.ev,zy] at hv
 obtain ⟨l,hl,u,hu',m,hm,hv⟩ := hv
 split at hv
 rotate_left
 ·cases hv
 rename_i hmu
 subst hmu
 simp only [zw] at hv
 obtain ⟨c,hc,hcv⟩ := hv
 cases hcv
 refine ⟨rfl,?_⟩
 have hL : (lo.map a.eval = none ∧ l = 0) ∨ ∃ q,lo.map a.eval = some (.int q l) := by
  rcases opt_l k he hlo hl with ⟨h2,_,h3⟩ | h2
  ·exact .inl ⟨h2,h3⟩
  ·exact .inr h2
 have fin : ∀ (ad : Option Addr) (n cap : Nat),a.eval x = .slice ad n cap → lenV (x'.ev e) = some n → n ≤ cap → 0 ≤ l → l ≤ m → m ≤ (n : Int) →
   ∃ mm : Nat,m.toNat ≤ mm ∧ mm ≤ cap ∧ Gives P o a w (.slice (if mm = l.toNat then ad else ad.map (·.add (l.toNat * z))) (m.toNat - l.toNat) (mm - l.toNat)) := by
  intro ad n cap hx hlen hnc g0 g1 g2
  have hU : (hi.map a.eval = none ∧ mx.map a.eval = none ∧ m = n) ∨ ∃ q,hi.map a.eval = some (.int q m) := by
   rw [hlen] at hu'
   rcases opt_l k he hhi hu' with ⟨h2,h3,h4⟩ | h2
   ·rcases hmh with rfl | ⟨y,hy⟩
    ·exact .inl ⟨h2,rfl,h4⟩
    ·rw [h3] at hy; cases hy
   ·exact .inr h2
  have hM : ∃ mm : Int,((mx.map a.eval = none ∧ mm = cap) ∨ ∃ q,mx.map a.eval = some (.int q mm)) ∧ m ≤ mm ∧ mm ≤ (cap : Int) := by
   rcases opt_l k he hmx hm with ⟨h2,_,_⟩ | h2
   ·exact ⟨cap,.inl ⟨h2,rfl⟩,by omega,by omega⟩
   ·exact ⟨m,.inr h2,by omega,by omega⟩
  obtain ⟨mm,hM,g3,g4⟩ := hM
  have hb := run_bounds (P := P) (w := w) (isS := true) hL hU hM g0 g1 g3 g4
  refine ⟨mm.toNat,by omega,by omega,?_⟩
  simp only [Gives,execOp,ho,hx,Instr.sliceAt,Instr.slice,Sem.run_bind,run_underlying hu w,Result.andThen_ok,hb,run_sizeOf' hz,Sem.run_pure]
 unfold cutV at hc
 split at hc
 ·rename_i r z' ofs n hq
  split at hc
  ·rename_i hcond
   obtain ⟨rfl,g0,g1,g2⟩ := hcond
   cases hc
   have hlen : lenV (x'.ev e) = some n := by rw [hq]; rfl
   rw [hq] at r1
   generalize hx : a.eval x = v at r1
   cases r1 with
   | @sl _ _ _ _ _ mx b base cap hr hn hcap hm hs =>
    obtain ⟨mm,g3,g4,hg⟩ := fin _ n cap hx hlen hcap g0 g1 g2
    refine ⟨_,hg,?_⟩
    split
    ·rename_i hml
     have e1 : m.toNat - l.toNat = 0 := by omega
     have e2 : mm - l.toNat = 0 := by omega
     rw [e1,e2]
     exact .slz hr (by omega)
    ·obtain ⟨cur,e',fr,hb,hsz⟩ := hs
     simp only [jj,add_at]
     have := Rv.sl (w := w) (T := T) (ρ := ρ) (o := ofs + l.toNat) (n := m.toNat - l.toNat) (cap := mm - l.toNat) hr (by omega) (by omega) (by omega) ⟨cur,e',fr,hb,zE (Nat.add_le_add_left (zK _ (by omega)) _) hsz⟩
     rw [zZ,← Nat.add_assoc] at this
     exact this
   | @slz _ _ _ _ mx b base off hr hn =>
    obtain ⟨mm,g3,g4,hg⟩ := fin _ 0 0 hx hlen (zz _) g0 g1 g2
    refine ⟨_,hg,?_⟩
    have e0 : l.toNat = 0 := by omega
    have e1 : m.toNat - l.toNat = 0 := by omega
    have e2 : mm = 0 := by omega
    rw [e1,e2,e0]
    exact .slz hr (by omega)
   | slnil hr =>
    obtain ⟨mm,g3,g4,hg⟩ := fin _ 0 0 hx hlen (zz _) g0 g1 g2
    refine ⟨_,hg,?_⟩
    have e0 : l.toNat = 0 := by omega
    have e1 : m.toNat - l.toNat = 0 := by omega
    have e2 : mm = 0 := by omega
    rw [e1,e2,e0]
    exact .slnil hr
  ·cases hc
 ·rename_i z' es hq
  split at hc
  ·rename_i hcond
   obtain ⟨rfl,g0,g1,g2⟩ := hcond
   cases hc
   have hlen : lenV (x'.ev e) = some es.length := by rw [hq]; rfl
   rw [hq] at r1
   generalize hx : a.eval x = v at r1
   cases r1 with
   | @lnil _ _ ad cap ha hm =>
    obtain ⟨mm,g3,g4,hg⟩ := fin _ 0 _ hx hlen (Nat.zero_le _) g0 g1 g2
    refine ⟨_,hg,?_⟩
    have e0 : l.toNat = 0 := by simp at g2; omega
    have e1 : m.toNat - l.toNat = 0 := by simp at g2; omega
    rw [e1,e0]
    refine .lnil (fun hn => ?_) (by omega)
    have : ad = none := by
     split at hn
     ·exact hn
     ·simpa using hn
    have := ha this
    omega
   | @l _ _ _ b base cap g hT hb hcap hm hz' hcell hv =>
    obtain ⟨mm,g3,g4,hg⟩ := fin _ es.length cap hx hlen hcap g0 g1 g2
    refine ⟨_,hg,?_⟩
    have hlen2 : ((es.drop l.toNat).take (m.toNat - l.toNat)).length = m.toNat - l.toNat := by rw [zD,jd]; omega
    split
    ·rename_i hml
     have e1 : m.toNat - l.toNat = 0 := by omega
     have e2 : mm - l.toNat = 0 := by omega
     rw [e1,e2,jk]
     exact Rv.l (es := []) (fun _ _ => undef) hT hb (Nat.zero_le _) (Nat.zero_le _) (fun j hj => by cases hj) (fun j c hj => by cases hj) (fun j c hj => by cases hj)
    ·simp only [jj,add_at]
     have key : ∀ j c,base + l.toNat * z' + j * z' + c = base + (l.toNat + j) * z' + c := by intro j c; rw [zZ]; omega
     have := Rv.l (w := w) (T := T) (ρ := ρ) (z := z') (es := (es.drop l.toNat).take (m.toNat - l.toNat)) (b := b) (base := base + l.toNat * z') (cap := mm - l.toNat) (fun j c => g (l.toNat + j) c) hT hb (by rw [hlen2]; omega) (by omega)
      (fun j hj => by rw [hlen2] at hj; rw [getD_drop_take _ _ _ _ _ hj]; exact hz' _ (by omega))
      (fun j c hj hc => by rw [hlen2] at hj; rw [key]; exact hcell _ c (by omega) hc)
      (fun j c hj hc => by rw [hlen2] at hj; rw [getD_drop_take _ _ _ _ _ hj]; exact hv _ c (by omega) hc)
     rw [hlen2] at this
     exact this
  ·cases hc
 ·rename_i z' hq
  split at hc
  ·rename_i hcond
   obtain ⟨rfl,rfl⟩ := hcond
   cases hc
   have hlen : lenV (x'.ev e) = some 0 := by rw [hq]; rfl
   rw [hq] at r1
   generalize hx : a.eval x = v at r1
   cases r1
   obtain ⟨mm,g3,g4,hg⟩ := fin _ 0 0 hx hlen (zz _) (Int.le_refl _) (Int.le_refl _) (Int.le_refl _)
   refine ⟨_,hg,?_⟩
   have e2 : mm = 0 := by omega
   rw [e2]
   exact .ns
  ·cases hc
 ·cases hc
end
def Turns (P : Program) (f : Fr) (o : Oper) (a : Act) (w : World) (T : Nat → Prop) (ρ : Rho) (av : AV) (h' : Heap) : Prop :=
 ∃ v w' T' ρ',((execOp a.eval o).run P w = .ok (.value v) w' ∨ ((execOp a.eval o).run P w = .ok .skip w' ∧ v = undef)) ∧ WInv f w' T' ρ' h' ∧ Goes w w' T T' ρ ρ' ∧ Rv w' T' ρ' av v
section
variable {P : Program} {f : Fr} {w : World} {T : Nat → Prop} {ρ : Rho} {h : Heap} {e : Nat → AV} {a : Act} {o : Oper}
theorem cell_new (w : World) (c : Array Value) (t : TypeId) (i : Nat) : (w.alloc (.cells c t)).cell? ⟨w.heap.size,i,none⟩ = c[i]? := World.cell?_alloc_new w c t i
theorem new_st (k : WInv f w T ρ h) {id : Nat} (hid : h id = none) {cs : List AV} {vs : Array Value} {t : TypeId} (hl : vs.size = cs.length)
  (hv : ∀ c,c < cs.length → Rv w T ρ (cs.getD c .junk) (vs.getD c undef) ∧ (vs.getD c undef).oneCell' = true) :
  ∃ T' ρ',WInv f (w.alloc (.cells vs t)) T' ρ' (h.put id (.st cs)) ∧ Goes w (w.alloc (.cells vs t)) T T' ρ ρ' ∧ Rv (w.alloc (.cells vs t)) T' ρ' (.p id 0 0) (.pointer (some ⟨w.heap.size,0,none⟩)) := by
 have ho := Old.alloc w (.cells vs t)
 obtain ⟨k',g⟩ := k.new ho hid (x := .st cs) (z := cs.length) (n := 1) (base := 0) (b := w.heap.size) (by simp) (zz _) (by simp) (fun T' ρ' ht hless hmore hρ => by
  refine ⟨w.heap.size,0,vs,t,hρ,ht,heap_alloc_new w _,by omega,⟨fun j hj => ?_,fun j c hj hc => ?_⟩⟩
  ·cases j with
   | zero => rfl
   | succ j => simp at hj
  ·cases j with
   | zero =>
    have h1 : vs[c]? = some (vs.getD c undef) := by
     have : c < vs.size := by omega
     simp [this]
    refine ⟨vs.getD c undef,?_,(hv c hc).2,(hv c hc).1.mono (ho.same T) hless hmore⟩
    rw [Nat.zero_mul,Nat.add_zero,zX,cell_new,h1]
   | succ j => simp at hj)
 refine ⟨_,_,k',g,?_⟩
 have := Rv.p (w := w.alloc (.cells vs t)) (T := fun a => T a ∨ a = w.heap.size) (ρ := fun r => if r = id then some ⟨cs.length,1,some (w.heap.size,0)⟩ else ρ r) (e := 0) (o := 0) (if_pos rfl)
 simpa using this
theorem op_alloc (k : WInv f w T ρ h) {t : TypeId} {i : TypeInfo} {zv : Value} {id : Nat} {z : List AV} {av : AV} {h' : Heap} (call : Call) (ho : o.op = .alloc t) (hi : P.info? t = some i) (hz : i.zero = some zv) (hm : mvs zv.cells.toList z = true)
  (hv : PO.ev call (.alloc id z) e h = some (av,h')) : Turns P f o a w T ρ av h' := by
 simp only [PO.ev] at hv
 split at hv
 ·rename_i hid
  cases hv
  obtain ⟨h1,h2⟩ := mvs_rv (w := w) (T := T) (ρ := ρ) hm
  obtain ⟨T',ρ',k',g,r⟩ := new_st (t := t) k (by simpa using hid) (cs := z) (vs := zv.cells) (by rw [← h1]; simp) fun c hc => by rw [toList_getD]; exact h2 c hc
  refine ⟨_,_,T',ρ',.inl ?_,k',g,r⟩
  simp [execOp,ho,Instr.alloc,run_zeroValue hi hz,newVar,newRow]
 ·cases hv
theorem cells_rv {x : AV} {v : Value} (r : Rv w T ρ x v) (hp0 : 0 < x.cells.length) : v.cells.size = x.cells.length ∧ ∀ c,c < x.cells.length → Rv w T ρ (x.cells.getD c .junk) (v.cells.getD c undef) ∧ (v.cells.getD c undef).oneCell' = true := by
 have one : ∀ {y : AV} {u : Value},Rv w T ρ y u → y.cells = [y] → u.cells = #[u] → u.oneCell' = true → u.cells.size = y.cells.length ∧ ∀ c,c < y.cells.length → Rv w T ρ (y.cells.getD c .junk) (u.cells.getD c undef) ∧ (u.cells.getD c undef).oneCell' = true := by
  intro y u hr h1 h2 h3
  rw [h1,h2]
  refine ⟨rfl,fun c hc => ?_⟩
  cases c with
  | zero => exact ⟨hr,h3⟩
  | succ c => simp at hc
 cases r with
 | agg vs hl h1 hv => exact ⟨hl,fun c hc => ⟨hv c hc,h1 c hc⟩⟩
 | junk => simp [AV.cells] at hp0
 | tup => simp [AV.cells] at hp0
 | b => exact one .b rfl rfl rfl
 | i => exact one .i rfl rfl rfl
 | s => exact one .s rfl rfl rfl
 | np => exact one .np rfl rfl rfl
 | ns => exact one .ns rfl rfl rfl
 | lnil ha hm => exact one (.lnil ha hm) rfl rfl rfl
 | l g hT hb hc hm hz hcell hv => exact one (.l g hT hb hc hm hz hcell hv) rfl rfl rfl
 | tp g hT hb hcell hv => exact one (.tp g hT hb hcell hv) rfl rfl rfl
 | sl hr hn hc hm hs => exact one (.sl hr hn hc hm hs) rfl rfl rfl
 | slz hr hn => exact one (.slz hr hn) rfl rfl rfl
 | slnil hr => exact one (.slnil hr) rfl rfl rfl
 | p hr => exact one (.p hr) rfl rfl rfl
theorem op_box (k : WInv f w T ρ h) (he : Env w T ρ e a) {t : TypeId} {x : Operand} {x' : At} {id sz : Nat} {av : AV} {h' : Heap} (call : Call) (ho : o.op = .box t x) (hsz : 0 < sz) (h1 : ma f.tabs x x' = true)
  (hv : PO.ev call (.box id sz x') e h = some (av,h')) : Turns P f o a w T ρ av h' := by
 have r1 := ma_rv k he h1
 simp only [PO.ev] at hv
 split at hv
 ·rename_i hid
  cases hv
  obtain ⟨h2,h3⟩ := cells_rv r1 (by omega)
  obtain ⟨T',ρ',k',g,r⟩ := new_st (t := t) k (by simpa using hid.2) (cs := (x'.ev e).cells) (vs := (a.eval x).cells) h2 h3
  refine ⟨_,_,T',ρ',.inl ?_,k',g,r⟩
  simp [execOp,ho,Instr.box,newVar,newRow]
 ·cases hv
theorem new_sl (k : WInv f w T ρ h) {w' : World} (ho : Old w w') {id : Nat} (hid : h id = none) {z : Nat} {es : List (List AV)} {cur : Array Value} {t : TypeId} {b : Nat} (hb : w.heap.size ≤ b) (hcur : w'.heap[b]? = some (Obj.cells cur t (0,0))) (hsz : es.length * z ≤ cur.size) {cap : Nat} (hcap : es.length ≤ cap) (hm : cap ≤ maxLen) (hcs : cap * z ≤ cur.size) (hsp : SpOk cur es.length z)
  (hl : ∀ j,j < es.length → (es.getD j []).length = z) (hv : ∀ j c,j < es.length → c < z → Rv w T Rho.none ((es.getD j []).getD c .junk) (cur.getD (j * z + c) undef) ∧ (cur.getD (j * z + c) undef).oneCell' = true) :
  ∃ T' ρ',WInv f w' T' ρ' (h.put id (.sl true z es)) ∧ Goes w w' T T' ρ ρ' ∧ Rv w' T' ρ' (.sl id z 0 es.length) (.slice (some ⟨b,0,none⟩) es.length cap) := by
 have hlt := lt_of_cells hcur
 obtain ⟨k',g⟩ := k.new ho hid (x := .sl true z es) (z := z) (n := es.length) (base := 0) (b := b) (by omega) hb hlt (fun T' ρ' ht hless hmore hρ => by
  refine .inr ⟨b,0,cur,t,hρ,ht,hcur,by omega,fun _ => ⟨rfl,hsp⟩,⟨hl,fun j c hj hc => ?_⟩⟩
  have hlt2 : j * z + c < cur.size := by
   have := zK z (show j + 1 ≤ es.length by omega)
   rw [zZ] at this
   omega
  have h1 : cur[j * z + c]? = some (cur.getD (j * z + c) undef) := by simp [hlt2]
  refine ⟨cur.getD (j * z + c) undef,?_,(hv j c hj hc).2,(hv j c hj hc).1.mono (ho.same T) hless fun _ _ h => h⟩
  simp only [World.cell?,hcur,zX]
  exact h1)
 refine ⟨_,_,k',g,?_⟩
 have := Rv.sl (w := w') (T := fun a => T a ∨ a = b) (ρ := fun r => if r = id then some ⟨z,es.length,some (b,0)⟩ else ρ r) (r := id) (o := 0) (n := es.length) (cap := cap) (if_pos rfl) (by omega) hcap hm ⟨cur,t,(0,0),hcur,by rw [zX,zX]; exact hcs⟩
 simpa using this
theorem getD_replicate {α : Type} (n : Nat) (x d : α) (j : Nat) (hj : j < n) : (zL n x).getD j d = x := by
 rw [zo,List.getElem?_replicate,if_pos hj]; rfl
theorem made_getD (z : Array Value) (n j c : Nat) (hc : c < z.size) (hj : j * z.size + c < n) : (madeCells z n).getD (j * z.size + c) undef = z.getD c undef := by
 unfold madeCells
 have h0 : (j * z.size + c) % z.size = c := by rw [Nat.mul_comm,Nat.mul_add_mod,Nat.mod_eq_of_lt hc]
 have h1 : ((Array.range n).map (fun i => z[i % z.size]!))[j * z.size + c]? = some (z[c]!) := by
  rw [Array.getElem?_map,Array.getElem?_range]
  simp [hj,h0]
 rw [show ((Array.range n).map (fun i => z[i % z.size]!)).getD (j * z.size + c) undef = z[c]! by
  rw [← Array.getElem?_eq_some_iff.1 h1 |>.2]
  simp [hj]]
 simp [hc]
theorem op_mk (k : WInv f w T ρ h) (he : Env w T ρ e a) {t el : TypeId} {i : TypeInfo} {zv : Value} {x : Operand} {x' : At} {id sz bytes : Nat} {z : List AV} {av : AV} {h' : Heap} (call : Call) (ho : o.op = .makeSlice t x x) (hu : P.underlying t = some (.slice el)) (hi : P.info? el = some i) (hz : i.zero = some zv)
  (hsz : i.size = sz) (hpos : 0 < sz) (hby : i.bytes = bytes) (hbp : 0 < bytes) (hm : mvs zv.cells.toList z = true) (hzl : z.length = sz) (h1 : ma f.tabs x x' = true)
  (hv : PO.ev call (.mk id sz bytes z x') e h = some (av,h')) : Turns P f o a w T ρ av h' := by
 have r1 := ma_rv k he h1
 simp only [PO.ev] at hv
 split at hv
 ·rename_i n hq
  split at hv
  ·rename_i hcond
   obtain ⟨g0,g1,hid⟩ := hcond
   cases hv
   rw [hq] at r1
   obtain ⟨h2,h3⟩ := mvs_rv (w := w) (T := T) (ρ := Rho.none) hm
   have hzs : zv.cells.size = sz := by rw [← hzl,← h2]; simp
   have hnb : (i.bytes : Int) * n ≤ 281474976710656 := by
    rw [hby]
    have : ((n.toNat * bytes : Nat) : Int) ≤ 281474976710656 := Int.ofNat_le.2 g1
    rw [Int.natCast_mul,Int.toNat_of_nonneg g0,Int.mul_comm] at this
    exact this
   have hn63 : n.toNat ≤ 281474976710656 := zE (Nat.le_mul_of_pos_right _ hbp) g1
   have hr := run_make (P := P) w t el i zv hu hi hz .i64 .i64 n n g0 (Int.le_refl _) hnb (by omega)
   rw [hsz] at hr
   have hcurs : (madeCells zv.cells (n.toNat * sz)).size = n.toNat * sz := size_madeCells _ _
   obtain ⟨T',ρ',k',g,r⟩ := new_sl (w' := w.alloc (.cells (madeCells zv.cells (n.toNat * sz)) el)) (t := el) k (Old.alloc w _) (by simpa using hid) (z := sz) (es := zL n.toNat z) (zz _) (heap_alloc_new w _) (by rw [zP,hcurs]; exact zz _) (cap := n.toNat) (by rw [zP]; exact zz _) (by simp only [maxLen]; omega) (by rw [hcurs]; exact zz _) (SpOk.full (by rw [zP,hcurs]; exact zz _))
    (fun j hj => by rw [zP] at hj; rw [getD_replicate _ _ _ _ hj]; exact hzl)
    (fun j c hj hc => by
     rw [zP] at hj
     rw [getD_replicate _ _ _ _ hj]
     have hlt : j * sz + c < n.toNat * sz := by
      have := zK sz (show j + 1 ≤ n.toNat by omega)
      rw [zZ] at this
      omega
     have := made_getD zv.cells (n.toNat * sz) j c (by omega) (by rw [hzs]; exact hlt)
     rw [hzs] at this
     rw [this,toList_getD]
     exact h3 c (by omega))
   rw [zP] at r
   refine ⟨_,_,T',ρ',.inl ?_,k',g,r⟩
   simp only [execOp,ho,inv_i r1,Sem.run_bind,hr,Result.andThen_ok,Sem.run_pure]
  ·cases hv
 ·cases hv
end
def mparts (tabs : List (Nat × List AV)) : List (Nat × Operand) → List (Nat × At) → Bool
 | [],[] => true
 | (i,x) :: l,(j,y) :: m => i == j && ma tabs x y && mparts tabs l m
 | _,_ => false
def laid (off : Nat) (vs : Array Value) (C : Array Value) : Array Value := vs.zipIdx.foldl (fun cs (c,j) => cs.setIfInBounds (off + j) c) C
theorem laid_list (off : Nat) : ∀ (l : List Value) (k : Nat) (C : Array Value),
  ((l.zipIdx k).foldl (fun cs (p : Value × Nat) => cs.setIfInBounds (off + p.2) p.1) C).size = C.size ∧
  ∀ m,((l.zipIdx k).foldl (fun cs (p : Value × Nat) => cs.setIfInBounds (off + p.2) p.1) C)[m]? = if off + k ≤ m ∧ m < off + k + l.length ∧ m < C.size then l[m - (off + k)]? else C[m]?
 | [],k,C => ⟨rfl,fun m => by simp; intro h1 h2; omega⟩
 | v :: l,k,C => by
  obtain ⟨h1,h2⟩ := laid_list off l (k + 1) (C.setIfInBounds (off + k) v)
  simp only [List.zipIdx_cons,List.foldl_cons]
  refine ⟨by rw [h1]; simp,fun m => ?_⟩
  rw [h2]
  simp only [Array.size_setIfInBounds,zF]
  by_cases hm : m = off + k
  ·subst hm
   rw [if_neg (by omega)]
   by_cases hs : off + k < C.size
   ·rw [if_pos (by omega),Array.getElem?_setIfInBounds_self_of_lt hs]
    simp
   ·rw [if_neg (by omega),Array.getElem?_eq_none (by simp; omega),Array.getElem?_eq_none (by omega)]
  ·by_cases hin : off + (k + 1) ≤ m ∧ m < off + (k + 1) + l.length ∧ m < C.size
   ·rw [if_pos hin,if_pos (by omega),show m - (off + k) = (m - (off + (k + 1))) + 1 by omega,List.getElem?_cons_succ]
   ·rw [if_neg hin,if_neg (by omega),Array.getElem?_setIfInBounds_ne (by omega)]
theorem laid_get (off : Nat) (vs C : Array Value) : (laid off vs C).size = C.size ∧ ∀ m,(laid off vs C)[m]? = if off ≤ m ∧ m < off + vs.size ∧ m < C.size then vs[m - off]? else C[m]? := by
 have h := laid_list off vs.toList 0 C
 have e : laid off vs C = ((vs.toList.zipIdx 0).foldl (fun cs (p : Value × Nat) => cs.setIfInBounds (off + p.2) p.1) C) := by
  unfold laid
  rw [← Array.foldl_toList]
  rw [Array.toList_zipIdx]
 rw [e]
 refine ⟨h.1,fun m => ?_⟩
 rw [h.2 m]
 simp
theorem fill_cons (place : Nat → Option (Nat × Nat)) (C : Array Value) (i : Nat) (v : Value) (rest : List (Nat × Value)) {off sz : Nat} (hp : place i = some (off,sz)) (h1 : v.cells.size = sz) (h2 : off + sz ≤ C.size) :
  Instr.fill place C ((i,v) :: rest) = Instr.fill place (laid off v.cells C) rest := by
 simp only [Instr.fill,hp,h1,laid]
 rw [if_neg]
 simp only [ne_eq,not_true_eq_false,decide_false,Bool.false_or,decide_eq_true_eq,Bool.or_eq_true,false_or]
 omega
section
variable {P : Program} {f : Fr} {w : World} {T T' : Nat → Prop} {ρ : Rho} {h : Heap} {e : Nat → AV} {a : Act} {o : Oper}
structure Good (w : World) (T : Nat → Prop) (n z : Nat) (L : List (List AV)) (C : Array Value) : Prop where
 len : L.length = n
 size : C.size = n * z
 el : ∀ j,j < n → (L.getD j []).length = z
 rv : ∀ j c,j < n → c < z → Rv w T Rho.none ((L.getD j []).getD c .junk) (C.getD (j * z + c) undef) ∧ (C.getD (j * z + c) undef).oneCell' = true
theorem getD_of {C : Array Value} {m : Nat} {v : Value} (h : C[m]? = some v) : C.getD m undef = v := by
 have := (Array.getElem?_eq_some_iff.1 h)
 simp [this.1,this.2]
theorem in_row {n z j c : Nat} (hj : j < n) (hc : c < z) : j * z + c < n * z := by
 have := zK z (show j + 1 ≤ n by omega)
 rw [zZ] at this
 omega
theorem other_row {z i j c : Nat} (hne : i ≠ j) (hc : c < z) : ¬ (i * z ≤ j * z + c ∧ j * z + c < i * z + z) := by
 rintro ⟨h1,h2⟩
 rcases Nat.lt_or_gt_of_ne hne with h3 | h3
 ·have := zK z (show i + 1 ≤ j by omega)
  rw [zZ] at this
  omega
 ·have := zK z (show j + 1 ≤ i by omega)
  rw [zZ] at this
  omega
theorem getD_set_same {α : Type} {L : List α} {j : Nat} (x d : α) (h : j < L.length) : (L.set j x).getD j d = x := by
 rw [zo,List.getElem?_set_self h]; rfl
theorem getD_set_other {α : Type} {L : List α} {i j : Nat} (x d : α) (h : i ≠ j) : (L.set i x).getD j d = L.getD j d := by
 rw [zo,List.getElem?_set_ne h,← zo]
theorem Good.part {n z : Nat} {L : List (List AV)} {C : Array Value} (g : Good w T n z L C) {j : Nat} (hj : j < n) {cs : List AV} {vs : Array Value} (hl : vs.size = z) (hc : cs.length = z) (hv : ∀ c,c < z → Rv w T Rho.none (cs.getD c .junk) (vs.getD c undef) ∧ (vs.getD c undef).oneCell' = true) :
  Good w T n z (L.set j cs) (laid (j * z) vs C) := by
 obtain ⟨h1,h2⟩ := laid_get (j * z) vs C
 refine ⟨by rw [zU]; exact g.len,h1.trans g.size,fun i hi => ?_,fun i c hi hc' => ?_⟩
 ·by_cases hij : j = i
  ·subst hij
   rw [getD_set_same _ _ (by rw [g.len]; exact hj)]
   exact hc
  ·rw [getD_set_other _ _ hij]
   exact g.el i hi
 ·have hlt := in_row hi hc'
  by_cases hij : j = i
  ·subst hij
   rw [getD_set_same _ _ (by rw [g.len]; exact hj)]
   have : (laid (j * z) vs C)[j * z + c]? = some (vs.getD c undef) := by
    rw [h2,if_pos (by rw [g.size]; omega),Nat.add_sub_cancel_left]
    have : c < vs.size := by omega
    simp [this]
   rw [getD_of this]
   exact hv c hc'
  ·rw [getD_set_other _ _ hij]
   have : (laid (j * z) vs C)[i * z + c]? = some (C.getD (i * z + c) undef) := by
    rw [h2,if_neg (fun hh => other_row hij hc' ⟨hh.1,by omega⟩)]
    have : i * z + c < C.size := by rw [g.size]; exact hlt
    simp [this]
   rw [getD_of this]
   exact g.rv i c hi hc'
theorem bsl_fill (k : WInv f w T ρ h) (he : Env w T ρ e a) (hless : ∀ b,b < w.heap.size → T' b → T b) {n z : Nat} (hz : 0 < z) : ∀ (parts : List (Nat × Operand)) (ps : List (Nat × At)) (L : List (List AV)) (C : Array Value) {L' : List (List AV)},
  mparts f.tabs parts ps = true → (∀ p ∈ ps,∀ r ∈ ref1 h (p.2.ev e),∀ b,rowBlk h ρ r b → ¬ T' b) → Good w T' n z L C → bslV e h z L ps = some L' →
  ∃ C',Instr.fill (fun i => some (i * z,z)) C (parts.map fun p => (p.1,a.eval p.2)) = some C' ∧ Good w T' n z L' C'
 | [],[],L,C,L',_,_,g,hb => by
  simp only [bslV,Option.some.injEq] at hb
  subst hb
  exact ⟨C,rfl,g⟩
 | (i,x) :: parts,(j,y) :: ps,L,C,L',hm,hr,g,hb => by
  simp only [mparts,zu,beq_iff_eq] at hm
  obtain ⟨⟨rfl,hm1⟩,hm2⟩ := hm
  simp only [bslV] at hb
  split at hb
  ·rename_i hcond
   obtain ⟨c1,c2⟩ := hcond
   have r1 := ma_rv k he hm1
   obtain ⟨h2,h3⟩ := cells_rv r1 (by omega)
   rw [g.len] at c2
   have g' := g.part c2 (vs := (a.eval x).cells) (cs := (y.ev e).cells.map (tellC h)) (by omega) (by rw [zC]; exact c1) fun c hc => by
    rw [getD_map_lt (tellC h) _ c .junk .junk (by omega)]
    obtain ⟨h4,h5⟩ := h3 c (by omega)
    refine ⟨tellC_rv k.rows hless h4 (fun r hr' => hr _ zG r ?_) (one_of_cell h4 h5).1 (one_of_cell h4 h5).2,h5⟩
    have hmem : (y.ev e).cells.getD c .junk ∈ (y.ev e).cells := getD_mem _ (by omega)
    show r ∈ ref1 h (y.ev e)
    revert hmem hr'
    generalize (y.ev e).cells.getD c .junk = q
    generalize y.ev e = u
    intro hr' hmem
    cases u <;> simp only [AV.cells,ja] at hmem <;> first
     | (subst hmem; exact hr')
     | exact List.mem_flatMap.2 ⟨q,hmem,hr'⟩
     | cases hmem
   obtain ⟨C',h6,h7⟩ := bsl_fill k he hless hz parts ps _ _ hm2 (fun p hp => hr p (zH _ hp)) g' hb
   refine ⟨C',?_,h7⟩
   show Instr.fill _ _ ((i,a.eval x) :: _) = _
   rw [fill_cons (fun i => some (i * z,z)) C i (a.eval x) _ rfl (by omega) (by rw [g.size]; have := in_row c2 (show z - 1 < z by omega); omega)]
   exact h6
  ·cases hb
 | [],_ :: _,_,_,_,hm,_,_,_ => by simp [mparts] at hm
 | _ :: _,[],_,_,_,hm,_,_,_ => by simp [mparts] at hm
theorem op_bsl (k : WInv f w T ρ h) (he : Env w T ρ e a) {t el : TypeId} {n : Nat} {parts : Array (Nat × Operand)} {i : TypeInfo} {zv : Value} {id sz : Nat} {z : List AV} {ps : List (Nat × At)} {av : AV} {h' : Heap} (call : Call) (ho : o.op = .buildSlice t n parts) (hu : P.underlying t = some (.slice el)) (hi : P.info? el = some i) (hz : i.zero = some zv)
  (hsz : i.size = sz) (hpos : 0 < sz) (hsmall : n * sz ≤ 16777216) (hm : mvs zv.cells.toList z = true) (hzl : z.length = sz) (hp : mparts f.tabs parts.toList ps = true)
  (hv : PO.ev call (.bsl id sz z n ps) e h = some (av,h')) : Turns P f o a w T ρ av h' := by
 simp only [PO.ev] at hv
 split at hv
 ·rename_i hid
  simp only [zw] at hv
  obtain ⟨es,hb,hcv⟩ := hv
  cases hcv
  obtain ⟨T1,k1,g1,hfree,_⟩ := k.freeze (ps.flatMap fun p => ref1 h (p.2.ev e))
  obtain ⟨h2,h3⟩ := mvs_rv (w := w) (T := T1) (ρ := Rho.none) hm
  have hzs : zv.cells.size = sz := by rw [← hzl,← h2]; simp
  have good0 : Good w T1 n sz (zL n z) (madeCells zv.cells (n * sz)) := by
   refine ⟨zP,size_madeCells _ _,fun j hj => by rw [getD_replicate _ _ _ _ hj]; exact hzl,fun j c hj hc => ?_⟩
   rw [getD_replicate _ _ _ _ hj]
   have := made_getD zv.cells (n * sz) j c (by omega) (by rw [hzs]; exact in_row hj hc)
   rw [hzs] at this
   rw [this,toList_getD]
   exact h3 c (by omega)
  obtain ⟨C',hf,gd⟩ := bsl_fill k he g1.less hpos parts.toList ps _ _ hp (fun p hp r hr => hfree r (List.mem_flatMap.2 ⟨p,hp,hr⟩)) good0 hb
  obtain ⟨T2,ρ2,k2,g2,r2⟩ := new_sl (w' := w.alloc (.cells C' el)) (t := el) k1 (Old.alloc w _) (id := id) (by rw [freeze_none]; simpa using hid) (z := sz) (es := es) (zz _) (heap_alloc_new w _) (by rw [gd.size,gd.len]; exact zz _) (cap := n) (by rw [gd.len]; exact zz _) (by have := Nat.le_mul_of_pos_right n hpos; simp only [maxLen]; omega) (by rw [gd.size]; exact zz _) (SpOk.full (by rw [gd.size,gd.len]; exact zz _))
   (fun j hj => gd.el j (by rw [← gd.len]; exact hj)) (fun j c hj hc => gd.rv j c (by rw [← gd.len]; exact hj) hc)
  rw [gd.len] at r2
  refine ⟨_,_,T2,ρ2,.inl ?_,k2,g1.trans g2,r2⟩
  have hr : (Instr.buildSlice t n (parts.map fun (i,x) => (i,a.eval x))).run P w = .ok (.slice (some ⟨w.heap.size,0,none⟩) n n) (w.alloc (.cells C' el)) := by
   by_cases hn : n * i.size = 0
   ·have hn0 : n = 0 := by
     rcases Nat.mul_eq_zero.1 hn with h9 | h9
     ·exact h9
     ·omega
    subst hn0
    have hps : parts.toList = [] := by
     cases hpl : parts.toList with
     | nil => rfl
     | cons p l =>
      rw [hpl] at hp
      cases ps with
      | nil => simp [mparts] at hp
      | cons q ps =>
       simp only [bslV,List.replicate_zero,List.length_nil,Nat.not_lt_zero,and_false,if_false] at hb
       cases hb
    have hpa : parts = #[] := by
     apply Array.ext'
     rw [hps]
    subst hpa
    have hC : C' = #[] := by
     apply Array.eq_empty_of_size_eq_zero
     rw [gd.size]; simp
    subst hC
    simp [Instr.buildSlice,run_underlying hu,run_sizeOf' (show szT P el = some i.size by simp [szT,hi]),Instr.fill,newRow]
    have h0 : Array.range 0 = #[] := rfl
    rw [h0,Array.map_empty]
   ·refine run_buildSlice w t el n _ C' i zv hu hi hz (by rw [hsz]; omega) hn ?_
    rw [hsz]
    have : (parts.map fun (i,x) => (i,a.eval x)).toList = parts.toList.map fun p => (p.1,a.eval p.2) := by simp
    rw [this]
    exact hf
  simp only [execOp,ho,Sem.run_bind,hr,Result.andThen_ok,Sem.run_pure]
 ·cases hv
end
section
variable {P : Program} {f : Fr} {w : World} {T T' : Nat → Prop} {ρ : Rho} {h : Heap} {e : Nat → AV} {a : Act} {o : Oper}
theorem run_places (fs : Array Field) (g : Field → Nat) (hs : ∀ x ∈ fs.toList,szT P x.type = some (g x)) : (fs.mapM fun x => (do pure (x.offset,← sizeOf x.type) : Sem (Nat × Nat))).run P w = .ok (fs.map fun x => (x.offset,g x)) w := by
 have key : ∀ l : List Field,(∀ x ∈ l,szT P x.type = some (g x)) → (l.mapM fun x => (do pure (x.offset,← sizeOf x.type) : Sem (Nat × Nat))).run P w = .ok (l.map fun x => (x.offset,g x)) w := by
  intro l
  induction l with
  | nil => intro _; simp
  | cons x l ih =>
   intro hl
   simp only [List.mapM_cons,Sem.run_bind,run_sizeOf' (hl x zG),Result.andThen_ok,Sem.run_pure,ih fun y hy => hl y (zH _ hy),List.map_cons]
 rw [Array.mapM_eq_mapM_toList,Sem.run_map,key fs.toList hs]
 simp only [Result.andThen_ok]
 congr 1
 apply Array.ext'
 simp
def mfields (P : Program) (tabs : List (Nat × List AV)) (place : Nat → Option (Nat × Nat)) : List (Nat × Operand) → List (Nat × Nat × At) → Bool
 | [],[] => true
 | (i,x) :: l,(off,sz,y) :: m => decide (place i = some (off,sz)) && ma tabs x y && mfields P tabs place l m && decide (0 < sz)
 | _,_ => false
structure GoodB (w : World) (T : Nat → Prop) (ρ : Rho) (z : List AV) (C : Array Value) : Prop where
 size : C.size = z.length
 rv : ∀ c,c < z.length → Rv w T ρ (z.getD c .junk) (C.getD c undef) ∧ (C.getD c undef).oneCell' = true
theorem fillC_get {z cs : List AV} {off : Nat} (hle : off + cs.length ≤ z.length) : (fillC z off cs).length = z.length ∧ ∀ c,(fillC z off cs).getD c .junk = if off ≤ c ∧ c < off + cs.length then cs.getD (c - off) .junk else z.getD c .junk := by
 refine ⟨by simp [fillC]; omega,fun c => ?_⟩
 simp only [fillC,zo]
 by_cases h1 : c < off
 ·rw [if_neg (by omega),List.append_assoc,List.getElem?_append_left (by rw [zD]; omega),List.getElem?_take_of_lt h1]
 ·by_cases h2 : c < off + cs.length
  ·rw [if_pos (by omega),List.append_assoc,jc (by rw [zD]; omega),zD,jh (by omega),List.getElem?_append_left (by omega)]
  ·rw [if_neg (by omega),jc (by rw [zx,zD]; omega),List.getElem?_drop]
   congr 2
   rw [zx,zD]
   omega
theorem GoodB.part {z : List AV} {C : Array Value} (g : GoodB w T ρ z C) {off : Nat} {cs : List AV} {vs : Array Value} (hl : vs.size = cs.length) (hle : off + cs.length ≤ z.length) (hv : ∀ c,c < cs.length → Rv w T ρ (cs.getD c .junk) (vs.getD c undef) ∧ (vs.getD c undef).oneCell' = true) :
  GoodB w T ρ (fillC z off cs) (laid off vs C) := by
 obtain ⟨h1,h2⟩ := laid_get off vs C
 obtain ⟨h3,h4⟩ := fillC_get hle
 refine ⟨by rw [h1,h3,g.size],fun c hc => ?_⟩
 rw [h3] at hc
 rw [h4]
 by_cases hin : off ≤ c ∧ c < off + cs.length
 ·rw [if_pos hin]
  have : (laid off vs C)[c]? = some (vs.getD (c - off) undef) := by
   rw [h2,if_pos (by rw [g.size]; omega)]
   have : c - off < vs.size := by omega
   simp [this]
  rw [getD_of this]
  exact hv _ (by omega)
 ·rw [if_neg hin]
  have : (laid off vs C)[c]? = some (C.getD c undef) := by
   rw [h2,if_neg (by rw [hl]; omega)]
   have : c < C.size := by rw [g.size]; exact hc
   simp [this]
  rw [getD_of this]
  exact g.rv c hc
theorem build_fill (k : WInv f w T ρ h) (he : Env w T ρ e a) (place : Nat → Option (Nat × Nat)) : ∀ (parts : List (Nat × Operand)) (ps : List (Nat × Nat × At)) (z : List AV) (C : Array Value) {z' : List AV},
  mfields P f.tabs place parts ps = true → GoodB w T ρ z C → buildV e z ps = some z' →
  ∃ C',Instr.fill place C (parts.map fun p => (p.1,a.eval p.2)) = some C' ∧ GoodB w T ρ z' C'
 | [],[],z,C,z',_,g,hb => by
  simp only [buildV,Option.some.injEq] at hb
  subst hb
  exact ⟨C,rfl,g⟩
 | (i,x) :: parts,(off,sz,y) :: ps,z,C,z',hm,g,hb => by
  simp only [mfields,zu,decide_eq_true_eq] at hm
  obtain ⟨⟨⟨hp,hm1⟩,hm2⟩,hsz⟩ := hm
  simp only [buildV] at hb
  split at hb
  ·rename_i hcond
   obtain ⟨c1,c2⟩ := hcond
   obtain ⟨h2,h3⟩ := cells_rv (ma_rv k he hm1) (by omega)
   have g' := g.part (off := off) (vs := (a.eval x).cells) (cs := (y.ev e).cells) (by omega) (by omega) h3
   obtain ⟨C',h6,h7⟩ := build_fill k he place parts ps _ _ hm2 g' hb
   refine ⟨C',?_,h7⟩
   show Instr.fill _ _ ((i,a.eval x) :: _) = _
   rw [fill_cons place C i (a.eval x) _ hp (by omega) (by rw [g.size]; omega)]
   exact h6
  ·cases hb
 | [],_ :: _,_,_,_,hm,_,_ => by simp [mfields] at hm
 | _ :: _,[],_,_,_,hm,_,_ => by simp [mfields] at hm
theorem GoodB.agg {z : List AV} {C : Array Value} (g : GoodB w T ρ z C) : Rv w T ρ (.agg z) (.agg C) := .agg C g.size (fun c hc => (g.rv c hc).2) fun c hc => (g.rv c hc).1
def placeS (P : Program) (fs : Array Field) (i : Nat) : Option (Nat × Nat) := (fs[i]?).bind fun x => (szT P x.type).map fun n => (x.offset,n)
theorem op_build (k : WInv f w T ρ h) (he : Env w T ρ e a) {t : TypeId} {parts : Array (Nat × Operand)} {i : TypeInfo} {zv : Value} {z : List AV} {ps : List (Nat × Nat × At)} {av : AV} {h' : Heap} (call : Call) (ho : o.op = .build t parts) (hi : P.info? t = some i) (hz : i.zero = some zv) (hm : mvs zv.cells.toList z = true)
  {place : Nat → Option (Nat × Nat)} (hp : mfields P f.tabs place parts.toList ps = true)
  (hk : (∃ fs,P.underlying t = some (.struct fs) ∧ (∀ x ∈ fs.toList,(szT P x.type).isSome = true) ∧ place = placeS P fs) ∨ ∃ n el sz,P.underlying t = some (.array n el) ∧ szT P el = some sz ∧ place = fun i => some (i * sz,sz))
  (hv : PO.ev call (.build z ps) e h = some (av,h')) : h' = h ∧ ∃ v,Gives P o a w v ∧ Rv w T ρ av v := by
 simp only [PO.ev,zw] at hv
 obtain ⟨cs,hb,hcv⟩ := hv
 cases hcv
 obtain ⟨h2,h3⟩ := mvs_rv (w := w) (T := T) (ρ := ρ) hm
 have g0 : GoodB w T ρ z zv.cells := ⟨by rw [← h2]; simp,fun c hc => by rw [toList_getD]; exact h3 c hc⟩
 obtain ⟨C',hf,gd⟩ := build_fill k he place parts.toList ps z zv.cells hp g0 hb
 refine ⟨rfl,.agg C',?_,gd.agg⟩
 have hparts : (parts.map fun (i,x) => (i,a.eval x)).toList = parts.toList.map fun p => (p.1,a.eval p.2) := by simp
 rcases hk with ⟨fs,hu,hs,rfl⟩ | ⟨n,el,sz,hu,hs,rfl⟩
 ·have hr := run_places (P := P) (w := w) fs (fun x => (szT P x.type).getD 0) fun x hx => by
   obtain ⟨n,hn⟩ := Option.isSome_iff_exists.1 (hs x hx)
   rw [hn]; rfl
  have hpl : (fun i => (fs.map fun x => (x.offset,(szT P x.type).getD 0))[i]?) = placeS P fs := by
   funext i
   simp only [placeS,Array.getElem?_map]
   cases hx : fs[i]? with
   | none => rfl
   | some x =>
    obtain ⟨n,hn⟩ := Option.isSome_iff_exists.1 (hs x (by simpa using Array.mem_of_getElem? hx))
    simp [hn]
  simp only [Gives,execOp,ho,Instr.build,Sem.run_bind,run_zeroValue hi hz,Result.andThen_ok,run_underlying hu w,hr,hpl,hparts,hf,Sem.run_pure]
 ·simp only [Gives,execOp,ho,Instr.build,Sem.run_bind,run_zeroValue hi hz,Result.andThen_ok,run_underlying hu w,run_sizeOf' hs,hparts,hf,Sem.run_pure]
end
structure Rew (w w' : World) (b : Nat) (Wb : Nat → Prop) : Prop where
 os : w'.os = w.os
 tape : w'.tape = w.tape
 output : w'.output = w.output
 size : w'.heap.size = w.heap.size
 other : ∀ (b' : Nat),b' ≠ b → w'.heap[b']? = w.heap[b']?
 blk : ∃ c c' e fr,w.heap[b]? = some (Obj.cells c e fr) ∧ w'.heap[b]? = some (Obj.cells c' e fr) ∧ c'.size = c.size ∧ ∀ i : Nat,¬ Wb i → c'[i]? = c[i]?
theorem Rew.keeps {w w' : World} {b : Nat} {Wb : Nat → Prop} (h : Rew w w' b Wb) : Keeps (fun b' i => b' = b ∧ Wb i) w w' := by
 refine ⟨h.os,h.tape,h.output,Nat.le_of_eq h.size.symm,fun b' _ => ?_⟩
 by_cases hb : b' = b
 ·subst hb
  obtain ⟨c,c',e,fr,h1,h2,h3,h4⟩ := h.blk
  exact .inr ⟨c,c',e,fr,h1,h2,h3,fun o ho => h4 o fun hw => ho ⟨rfl,hw⟩⟩
 ·exact .inl (h.other b' hb)
theorem setCell_blk {w : World} {b o : Nat} {v : Value} {c : Array Value} {e : TypeId} {fr : Nat × Nat} (h : w.heap[b]? = some (Obj.cells c e fr)) : (w.setCell ⟨b,o,none⟩ v).heap[b]? = some (Obj.cells (c.setIfInBounds o v) e fr) := by
 simp only [World.setCell,Array.getElem?_modify,if_true,h,jj,Option.isSome_none,ji,if_false]
theorem rew_setCells (b : Nat) : ∀ (vs : List Value) (o : Nat) (w : World) {c : Array Value} {e : TypeId} {fr : Nat × Nat},w.heap[b]? = some (Obj.cells c e fr) → Rew w (w.setCells b o vs) b (fun i => o ≤ i ∧ i < o + vs.length)
 | [],o,w,c,e,fr,h => ⟨rfl,rfl,rfl,rfl,fun _ _ => rfl,c,c,e,fr,h,h,rfl,fun _ _ => rfl⟩
 | v :: vs,o,w,c,e,fr,h => by
  have h1 := setCell_blk (o := o) (v := v) h
  obtain ⟨k1,k2,k3,k4,k5,d,d',e',fr',k6,k7,k8,k9⟩ := rew_setCells b vs (o + 1) (w.setCell ⟨b,o,none⟩ v) h1
  rw [h1] at k6
  cases k6
  refine ⟨k1,k2,k3,k4.trans (by simp),fun b' hb => (k5 b' hb).trans (Go.RowKit.Below.heap_setCell _ _ _ _ hb),c,d',e,fr,h,k7,k8.trans (by simp),fun i hi => ?_⟩
  rw [k9 i (by simp only [zF] at hi; omega)]
  rw [Array.getElem?_setIfInBounds_ne]
  simp only [zF] at hi
  omega
section
variable {P : Program} {f : Fr} {w : World} {T T' : Nat → Prop} {ρ : Rho} {h : Heap} {e : Nat → AV} {a : Act} {o : Oper}
theorem Rew.same {w' : World} {b : Nat} {Wb : Nat → Prop} (hw : Rew w w' b Wb) (hT : T b) : Same T w w' := hw.keeps.same fun b' o _ hh => by rw [hh.1]; exact hT
theorem WInv.rewrite (k : WInv f w T ρ h) {r : Nat} {x : Row} {p : Pl} {b base : Nat} (hr : h r = some x) (hl : x.live = true) (hp : ρ r = some p) (hloc : p.loc = some (b,base)) {w' : World} {Wb : Nat → Prop} (hw : Rew w w' b Wb) (hWb : f.w0.heap.size ≤ b ∨ ∀ i,Wb i → f.W0 b i)
  {x' : Row} (hx' : RowOk w' T ρ r x') (hap : x'.isAp = true → x.isAp = true) : WInv f w' T ρ (h.put r x') ∧ Goes w w' T T ρ ρ := by
 have hT : T b := (k.rows r x hr).inT hl p b base hp hloc
 have hs : Same T w w' := hw.same hT
 have old : ∀ q y,(h.put r x') q = some y → (q = r ∧ y = x') ∨ (q ≠ r ∧ h q = some y) := by
  intro q y hy
  simp only [Heap.put] at hy
  split at hy
  ·rename_i e; cases hy; exact .inl ⟨e,rfl⟩
  ·rename_i e; exact .inr ⟨e,hy⟩
 have live : ∀ q y,(h.put r x') q = some y → y.live = true → ∃ z,h q = some z ∧ z.live = true ∧ (y.isAp = true → z.isAp = true) := by
  intro q y hy hyl
  rcases old q y hy with ⟨rfl,rfl⟩ | ⟨_,hq⟩
  ·exact ⟨x,hr,hl,hap⟩
  ·exact ⟨y,hq,hyl,fun h => h⟩
 refine ⟨⟨k.keeps.trans hw.keeps fun b' i hb hh => ?_,fun b' hb => by rw [hw.size]; exact k.tlt b' hb,fun q y hy => ?_,fun q hq => ?_,fun q q' y y' hne hy hy' hyl hyl' pp pp' c cb c' cb' hpp hpp' hc hc' => ?_,fun q y pp c cb hy hyl hpp hc => ?_,fun b' hb hn => ?_,k.lp,fun q y pp c cb hq hy hyl hpp hc => ?_,k.t0lt,fun q hq y hy => ?_,fun pp hpp => (k.tab pp hpp).mono hs (fun _ _ h => h) fun _ _ h => h⟩,hs,fun _ _ h => h,fun _ _ h => h⟩
 ·obtain ⟨rfl,hi⟩ := hh
  rcases hWb with h1 | h1
  ·omega
  ·exact h1 i hi
 ·rcases old q y hy with ⟨rfl,rfl⟩ | ⟨hne,hq⟩
  ·exact hx'
  ·refine (k.rows q y hq).mono hs (fun _ _ h => h) (fun _ _ h => h) fun pp c cb hpp hc hyl => ⟨hw.other c ?_,(k.rows q y hq).inT hyl pp c cb hpp hc⟩
   exact k.sep q r y x hne hq hr hyl hl pp p c cb b base hpp hp hc hloc
 ·simp only [Heap.put] at hq
  split at hq
  ·cases hq
  ·exact k.dom q hq
 ·obtain ⟨z,hz,hzl,_⟩ := live q y hy hyl
  obtain ⟨z',hz',hzl',_⟩ := live q' y' hy' hyl'
  exact k.sep q q' z z' hne hz hz' hzl hzl' pp pp' c cb c' cb' hpp hpp' hc hc'
 ·obtain ⟨z,hz,hzl,hza⟩ := live q y hy hyl
  rcases k.wr q z pp c cb hz hzl hpp hc with h1 | ⟨h1,h2⟩
  ·exact .inl h1
  ·exact .inr ⟨h1,fun hh => h2 (hza hh)⟩
 ·rcases k.t0 b' hb hn with h1 | ⟨q,hq,hx⟩
  ·exact .inl h1
  ·refine .inr ⟨q,hq,fun y hy => ?_⟩
   rcases old q y hy with ⟨rfl,rfl⟩ | ⟨_,hq'⟩
   ·exact absurd (hx x hr) (by rw [hl]; simp)
   ·exact hx y hq'
 ·obtain ⟨z,hz,hzl,_⟩ := live q y hy hyl
  exact k.own q z pp c cb hq hz hzl hpp hc
 ·rcases old q y hy with ⟨rfl,rfl⟩ | ⟨_,hq'⟩
  ·have := k.la q hq x hr
   cases hxa : y.isAp with
   | false => rfl
   | true => rw [hap hxa] at this; cases this
  ·exact k.la q hq y hq'
theorem run_store {t : TypeId} {b i : Nat} {v : Value} {c : Array Value} {el : TypeId} (hsz : szT P t = some v.cells.size) (hb : w.heap[b]? = some (Obj.cells c el (0,0))) (hle : i + v.cells.size ≤ c.size) (h1 : ∀ j,j < v.cells.size → (v.cells.getD j undef).oneCell' = true) :
  (Instr.storeAt t (.pointer (some ⟨b,i,none⟩)) v).run P w = .ok () (w.setCells b i v.cells.toList) := by
 have hc : ∀ j,j < v.cells.toList.length → (w.cell? ⟨b,i + j,none⟩).isSome = true := by
  intro j hj
  simp only [World.cell?,hb,Option.isSome_none,ji,if_false]
  have : i + j < c.size := by simp at hj; omega
  simp [this]
 have hf : ∀ j,j < v.cells.toList.length → w.frozen? ⟨b,i + j,none⟩ = false := by
  intro j hj
  simp [World.frozen?,hb]
 have := run_storeCells_cells (P := P) b i v.cells.toList 0 w (by simpa using hc) (by simpa using hf) (fun u hu => by
  obtain ⟨j,hj,rfl⟩ := List.getElem_of_mem hu
  have := h1 j (by simpa using hj)
  rw [toList_getD,zo,zr hj] at this
  exact this)
 rw [Nat.add_zero] at this
 simp only [Instr.storeAt,Instr.sureAddr,storeVar,Sem.run_bind,Sem.run_pure,Result.andThen_ok,run_sizeOf' hsz,ne_eq,not_true_eq_false,if_false,this]
theorem putC_eq {z ei off : Nat} {es : List (List AV)} {cs : List AV} (hl : (es.getD ei []).length = z) (hle : off + cs.length ≤ z) : putC z es ei off cs = es.set ei (fillC (es.getD ei []) off cs) := by
 unfold putC
 split
 ·rename_i hc
  obtain ⟨rfl,h2⟩ := hc
  congr 1
  have hl' := hl
  simp only [zo] at hl'
  simp [fillC,h2,hl']
 ·rfl
theorem freeze_notin {rs : List Nat} {q : Nat} (hq : q ∉ rs) : (h.freeze rs) q = h q := by
 induction rs with
 | nil => rfl
 | cons a rs ih =>
  simp only [Heap.freeze]
  rw [if_neg (fun e => hq (by rw [e]; exact zG))]
  exact ih fun hh => hq (zH _ hh)
theorem cell_of {b i : Nat} {c : Array Value} {el : TypeId} {fr : Nat × Nat} (hb : w.heap[b]? = some (Obj.cells c el fr)) : w.cell? ⟨b,i,none⟩ = c[i]? := by simp [World.cell?,hb]
theorem op_st (k : WInv f w T ρ h) (he : Env w T ρ e a) {t : TypeId} {x y : Operand} {x' y' : At} {sz : Nat} {av : AV} {h' : Heap} (call : Call) (ho : o.op = .store t x y) (hsz : szT P t = some sz) (hpos : 0 < sz) (h1 : ma f.tabs x x' = true) (h2 : ma f.tabs y y' = true)
  (hv : PO.ev call (.st sz x' y') e h = some (av,h')) : Turns P f o a w T ρ av h' := by
 have r1 := ma_rv k he h1
 have r2 := ma_rv k he h2
 simp only [PO.ev,zw] at hv
 obtain ⟨g,hg,hgv⟩ := hv
 cases hgv
 unfold stV at hg
 split at hg
 rotate_left
 ·cases hg
 rename_i r ei off hq
 rw [hq] at r1
 generalize hx : a.eval x = v at r1
 cases r1 with
 | @p _ _ _ _ z m b base hρ =>
  split at hg
  ·rename_i ap z' es hrow
   split at hg
   ·rename_i hcond
    obtain ⟨c1,c2,c3,c4⟩ := hcond
    cases hg
    obtain ⟨T1,k1,g1,hfree,_⟩ := k.freeze (ref1 h (y'.ev e))
    obtain ⟨h3,h4⟩ := cells_rv r2 (by omega)
    have hrow1 : (h.freeze (ref1 h (y'.ev e))) r = some (.sl ap z' es) := by rw [freeze_notin c4]; exact hrow
    have ok := k1.rows r _ hrow1
    rcases ok with ⟨h5,_,_⟩ | ⟨b',base',cur,el,h5,h6,h7,h8,h9,h10⟩
    ·subst h5; simp at c2
    ·rw [hρ] at h5
     cases h5
     have hin : ei * z + off + sz ≤ es.length * z := by
      have := zK z (show ei + 1 ≤ es.length by omega)
      rw [zZ] at this
      omega
     have hst := run_store (P := P) (w := w) (t := t) (b := b) (i := base + ei * z + off) (v := a.eval y) (by rw [hsz,h3,c1]) h7 (by omega) fun j hj => (h4 j (by omega)).2
     have hrw := rew_setCells b (a.eval y).cells.toList (base + ei * z + off) w h7
     have hcl : (a.eval y).cells.toList.length = sz := by simp; omega
     rw [hcl] at hrw
     have hcs : ((y'.ev e).cells.map (tellC h)).length = sz := by rw [zC]; exact c1
     have hlen := h10.len ei c2
     obtain ⟨hfl,hfg⟩ := fillC_get (z := es.getD ei []) (cs := (y'.ev e).cells.map (tellC h)) (off := off) (by rw [hcs,hlen]; exact c3)
     have hsame := hrw.same (T := T1) h6
     have hnew : RowOk (w.setCells b (base + ei * z + off) (a.eval y).cells.toList) T1 ρ r (.sl ap z (putC z es ei off ((y'.ev e).cells.map (tellC h)))) := by
      rw [putC_eq hlen (by rw [hcs]; exact c3)]
      obtain ⟨d,d',e',fr',q1,q2,q3,q4⟩ := hrw.blk
      rw [h7] at q1
      cases q1
      refine .inr ⟨b,base,d',el,by rw [zU]; exact hρ,h6,q2,by rw [zU,q3]; exact h8,fun ha => ⟨(h9 ha).1,by rw [zU]; exact (h9 ha).2.write q4 (fun i hi => by have := (h9 ha).1; omega)⟩,⟨fun j hj => ?_,fun j c hj hc => ?_⟩⟩
      ·rw [zU] at hj
       by_cases hje : ei = j
       ·subst hje
        rw [getD_set_same _ _ hj,hfl,hlen]
       ·rw [getD_set_other _ _ hje]
        exact h10.len j hj
      ·rw [zU] at hj
       by_cases hje : ei = j
       ·subst hje
        rw [getD_set_same _ _ hj,hfg,hcs]
        by_cases hin2 : off ≤ c ∧ c < off + sz
        ·rw [if_pos hin2,getD_map_lt (tellC h) _ _ .junk .junk (by omega)]
         obtain ⟨h11,h12⟩ := h4 (c - off) (by omega)
         refine ⟨(a.eval y).cells.getD (c - off) undef,?_,h12,?_⟩
         ·have := World.cell?_setCells_in b (a.eval y).cells.toList (base + ei * z + off) w (fun i hi => by
           rw [cell_of h7]
           have : base + ei * z + off + i < cur.size := by rw [hcl] at hi; omega
           simp [this]) (c - off) (by rw [hcl]; omega)
          rw [show base + ei * z + off + (c - off) = base + ei * z + c by omega] at this
          rw [this,toList_getD,zo,zr (by rw [hcl]; omega)]
          rfl
         ·have := tellC_rv k.rows g1.less h11 (fun r' hr' => hfree r' ?_) (one_of_cell h11 h12).1 (one_of_cell h11 h12).2
          ·exact this.mono hsame (fun _ _ h => h) fun _ _ h => h
          ·have hmem : (y'.ev e).cells.getD (c - off) .junk ∈ (y'.ev e).cells := getD_mem _ (by omega)
           revert hmem hr'
           generalize (y'.ev e).cells.getD (c - off) .junk = q
           generalize y'.ev e = uu
           intro hr' hmem
           cases uu <;> simp only [AV.cells,ja] at hmem <;> first
            | (subst hmem; exact hr')
            | exact List.mem_flatMap.2 ⟨q,hmem,hr'⟩
            | cases hmem
        ·rw [if_neg hin2]
         obtain ⟨u,h11,h12,h13⟩ := h10.cell ei c hj hc
         refine ⟨u,?_,h12,h13.mono hsame (fun _ _ h => h) fun _ _ h => h⟩
         rw [cell_of h7] at h11
         rw [cell_of q2,q4 _ (by omega)]
         exact h11
       ·rw [getD_set_other _ _ hje]
        obtain ⟨u,h11,h12,h13⟩ := h10.cell j c hj hc
        refine ⟨u,?_,h12,h13.mono hsame (fun _ _ h => h) fun _ _ h => h⟩
        rw [cell_of h7] at h11
        have := other_row hje hc
        rw [cell_of q2,q4 _ (by omega)]
        exact h11
     obtain ⟨k2,g2⟩ := k1.rewrite hrow1 rfl hρ rfl hrw (by
      rcases k1.wr r _ _ b base hrow1 rfl hρ rfl with hh | ⟨hh,_⟩
      ·exact .inl hh
      ·exact .inr fun i hi => hh i (by omega) (by simp only; omega)) hnew (fun hh => hh)
     refine ⟨undef,_,T1,ρ,.inr ⟨?_,rfl⟩,k2,g1.trans g2,.junk⟩
     simp only [execOp,ho,hx,Sem.run_bind,hst,Result.andThen_ok,Sem.run_pure]
   ·cases hg
  ·rename_i cs hrow
   split at hg
   ·rename_i hcond
    obtain ⟨c1,c2,c3⟩ := hcond
    cases hg
    subst c2
    obtain ⟨h3,h4⟩ := cells_rv r2 (by omega)
    have ok := k.rows r _ hrow
    obtain ⟨b',base',cur,el,h5,h6,h7,h8,h9⟩ := ok
    rw [hρ] at h5
    cases h5
    rw [Nat.zero_mul,Nat.add_zero] at hx
    have hst := run_store (P := P) (w := w) (t := t) (b := b) (i := base + off) (v := a.eval y) (by rw [hsz,h3,c1]) h7 (by omega) fun j hj => (h4 j (by omega)).2
    have hrw := rew_setCells b (a.eval y).cells.toList (base + off) w h7
    have hcl : (a.eval y).cells.toList.length = sz := by simp; omega
    rw [hcl] at hrw
    obtain ⟨hfl,hfg⟩ := fillC_get (z := cs) (cs := (y'.ev e).cells) (off := off) (by omega)
    have hcs2 : (if off = 0 ∧ sz = cs.length then (y'.ev e).cells else fillC cs off (y'.ev e).cells) = fillC cs off (y'.ev e).cells := by
     split
     ·rename_i hc
      obtain ⟨rfl,h2⟩ := hc
      simp [fillC,c1,h2]
     ·rfl
    have hsame := hrw.same (T := T) h6
    have hnew : RowOk (w.setCells b (base + off) (a.eval y).cells.toList) T ρ r (.st (fillC cs off (y'.ev e).cells)) := by
     obtain ⟨d,d',e',fr',q1,q2,q3,q4⟩ := hrw.blk
     rw [h7] at q1
     cases q1
     refine ⟨b,base,d',el,by rw [hfl]; exact hρ,h6,q2,by rw [hfl,q3]; exact h8,⟨fun j hj => ?_,fun j c hj hc => ?_⟩⟩
     ·cases j with
      | zero => rfl
      | succ j => simp at hj
     ·cases j with
      | succ j => simp at hj
      | zero =>
       rw [hfl] at hc
       show ∃ v,_ ∧ _ ∧ Rv _ _ _ ((fillC cs off (y'.ev e).cells).getD c .junk) v
       rw [hfg,Nat.zero_mul,Nat.add_zero]
       by_cases hin2 : off ≤ c ∧ c < off + (y'.ev e).cells.length
       ·rw [if_pos hin2]
        obtain ⟨h11,h12⟩ := h4 (c - off) (by omega)
        refine ⟨(a.eval y).cells.getD (c - off) undef,?_,h12,h11.mono hsame (fun _ _ h => h) fun _ _ h => h⟩
        have := World.cell?_setCells_in b (a.eval y).cells.toList (base + off) w (fun i hi => by
         rw [cell_of h7]
         have : base + off + i < cur.size := by rw [hcl] at hi; omega
         simp [this]) (c - off) (by rw [hcl]; omega)
        rw [show base + off + (c - off) = base + c by omega] at this
        rw [this,toList_getD,zo,zr (by rw [hcl]; omega)]
        rfl
       ·rw [if_neg hin2]
        obtain ⟨u,h11,h12,h13⟩ := h9.cell 0 c (by simp) hc
        rw [Nat.zero_mul,Nat.add_zero] at h11
        refine ⟨u,?_,h12,h13.mono hsame (fun _ _ h => h) fun _ _ h => h⟩
        rw [cell_of h7] at h11
        rw [cell_of q2,q4 _ (by omega)]
        exact h11
    rw [hcs2]
    obtain ⟨k2,g2⟩ := k.rewrite hrow rfl hρ rfl hrw (by
     rcases k.wr r _ _ b base hrow rfl hρ rfl with hh | ⟨hh,_⟩
     ·exact .inl hh
     ·exact .inr fun i hi => hh i (by omega) (by simp only; omega)) hnew (fun hh => by cases hh)
    refine ⟨undef,_,T,ρ,.inr ⟨?_,rfl⟩,k2,g2,.junk⟩
    simp only [execOp,ho,hx,Sem.run_bind,hst,Result.andThen_ok,Sem.run_pure]
   ·cases hg
  ·cases hg
end
section
variable {P : Program} {f : Fr} {w : World} {T T' : Nat → Prop} {ρ : Rho} {h : Heap} {e : Nat → AV} {a : Act} {o : Oper}
theorem WInv.kill (k : WInv f w T ρ h) {r : Nat} {x : Row} (hr : h r = some x) : WInv f w T ρ (h.put r .dead) := by
 have old : ∀ q y,(h.put r .dead) q = some y → (q = r ∧ y = .dead) ∨ (q ≠ r ∧ h q = some y) := by
  intro q y hy
  simp only [Heap.put] at hy
  split at hy
  ·rename_i e; cases hy; exact .inl ⟨e,rfl⟩
  ·rename_i e; exact .inr ⟨e,hy⟩
 have live : ∀ q y,(h.put r .dead) q = some y → y.live = true → h q = some y := by
  intro q y hy hyl
  rcases old q y hy with ⟨_,rfl⟩ | ⟨_,hq⟩
  ·cases hyl
  ·exact hq
 refine ⟨k.keeps,k.tlt,fun q y hy => ?_,fun q hq => ?_,fun q q' y y' hne hy hy' hyl hyl' => k.sep q q' y y' hne (live q y hy hyl) (live q' y' hy' hyl') hyl hyl',fun q y p b base hy hyl => k.wr q y p b base (live q y hy hyl) hyl,fun b hb hn => ?_,k.lp,fun q y p b base hq hy hyl => k.own q y p b base hq (live q y hy hyl) hyl,k.t0lt,fun q hq y hy => ?_,k.tab⟩
 ·rcases old q y hy with ⟨_,rfl⟩ | ⟨_,hq⟩
  ·trivial
  ·exact k.rows q y hq
 ·simp only [Heap.put] at hq
  split at hq
  ·cases hq
  ·exact k.dom q hq
 ·rcases k.t0 b hb hn with h1 | ⟨q,hq,hx⟩
  ·exact .inl h1
  ·refine .inr ⟨q,hq,fun y hy => ?_⟩
   rcases old q y hy with ⟨_,rfl⟩ | ⟨_,hq'⟩
   ·rfl
   ·exact hx y hq'
 ·rcases old q y hy with ⟨_,rfl⟩ | ⟨_,hq'⟩
  ·rfl
  ·exact k.la q hq y hq'
theorem WInv.newnil (k : WInv f w T ρ h) {id : Nat} (hid : h id = none) (z : Nat) {ap : Bool} :
  WInv f w T (fun r => if r = id then some ⟨z,0,none⟩ else ρ r) (h.put id (.sl ap z [])) ∧ Goes w w T T ρ (fun r => if r = id then some ⟨z,0,none⟩ else ρ r) := by
 have more : ∀ r p,ρ r = some p → (if r = id then some ⟨z,0,none⟩ else ρ r) = some p := by
  intro r p hp
  split
  ·rename_i hr
   subst hr
   rw [k.dom _ hid] at hp
   cases hp
  ·exact hp
 have old : ∀ q y,(h.put id (.sl ap z [])) q = some y → (q = id ∧ y = .sl ap z []) ∨ (q ≠ id ∧ h q = some y) := by
  intro q y hy
  simp only [Heap.put] at hy
  split at hy
  ·rename_i e; cases hy; exact .inl ⟨e,rfl⟩
  ·rename_i e; exact .inr ⟨e,hy⟩
 have place : ∀ q y p b base,(h.put id (.sl ap z [])) q = some y → (if q = id then some ⟨z,0,none⟩ else ρ q) = some p → p.loc = some (b,base) → h q = some y ∧ ρ q = some p := by
  intro q y p b base hy hp hl
  rcases old q y hy with ⟨rfl,rfl⟩ | ⟨hne,hq⟩
  ·rw [if_pos rfl] at hp; cases hp; cases hl
  ·rw [if_neg hne] at hp; exact ⟨hq,hp⟩
 refine ⟨⟨k.keeps,k.tlt,fun q y hy => ?_,fun q hq => ?_,fun q q' y y' hne hy hy' hyl hyl' p p' b base b' base' hp hp' hl hl' => ?_,fun q y p b base hy hyl hp hl => ?_,fun b hb hn => ?_,fun r hr => more _ _ (k.lp r hr),fun q y p b base hq hy hyl hp hl => ?_,k.t0lt,fun q hq y hy => ?_,k.tab⟩,Same.refl _ _,fun _ _ h => h,more⟩
 ·rcases old q y hy with ⟨rfl,rfl⟩ | ⟨_,hq⟩
  ·exact .inl ⟨rfl,trivial,if_pos rfl⟩
  ·exact (k.rows q y hq).mono (Same.refl _ _) (fun _ _ h => h) more fun p b base hp hl hlv => ⟨rfl,(k.rows q y hq).inT hlv p b base hp hl⟩
 ·simp only [Heap.put] at hq
  split at hq
  ·cases hq
  ·rename_i hne
   simp only [hne,if_false]
   exact k.dom q hq
 ·obtain ⟨h1,h2⟩ := place q y p b base hy hp hl
  obtain ⟨h3,h4⟩ := place q' y' p' b' base' hy' hp' hl'
  exact k.sep q q' y y' hne h1 h3 hyl hyl' p p' b base b' base' h2 h4 hl hl'
 ·obtain ⟨h1,h2⟩ := place q y p b base hy hp hl
  exact k.wr q y p b base h1 hyl h2 hl
 ·rcases k.t0 b hb hn with h1 | ⟨q,hq,hx⟩
  ·exact .inl h1
  ·refine .inr ⟨q,hq,fun y hy => ?_⟩
   rcases old q y hy with ⟨rfl,rfl⟩ | ⟨_,hq'⟩
   ·have := k.lp q hq
    rw [k.dom q hid] at this
    cases this
   ·exact hx y hq'
 ·obtain ⟨h1,h2⟩ := place q y p b base hy hp hl
  exact k.own q y p b base hq h1 hyl h2 hl
 ·rcases old q y hy with ⟨rfl,rfl⟩ | ⟨_,hq'⟩
  ·have := k.lp q hq
   rw [k.dom q hid] at this
   cases this
  ·exact k.la q hq y hq'
theorem WInv.adopt (k : WInv f w T ρ h) {r : Nat} {z z' n n' b base base' : Nat} {es : List (List AV)} (hr : h r = some (.sl true z es)) (hρ : ρ r = some ⟨z',n,some (b,base)⟩) {id : Nat} (hid : h id = none) {w' : World} {Wb : Nat → Prop} (hw : Rew w w' b Wb) {x : Row}
  (hx : ∀ ρ',(∀ r p,ρ r = some p → ρ' r = some p) → ρ' id = some ⟨z,n',some (b,base')⟩ → RowOk w' T ρ' id x) :
  WInv f w' T (fun q => if q = id then some ⟨z,n',some (b,base')⟩ else ρ q) ((h.put r .dead).put id x) ∧ Goes w w' T T ρ (fun q => if q = id then some ⟨z,n',some (b,base')⟩ else ρ q) := by
 have hT : T b := (k.rows r _ hr).inT rfl _ b base hρ rfl
 have hs : Same T w w' := hw.same hT
 have hne : id ≠ r := fun e => by rw [e,hr] at hid; cases hid
 have hrl : r ∉ f.lids := fun hm => by have := k.la r hm _ hr; cases this
 have more : ∀ r p,ρ r = some p → (if r = id then some ⟨z,n',some (b,base')⟩ else ρ r) = some p := by
  intro r p hp
  split
  ·rename_i hr
   subst hr
   rw [k.dom _ hid] at hp
   cases hp
  ·exact hp
 have old : ∀ q y,((h.put r .dead).put id x) q = some y → (q = id ∧ y = x) ∨ (q ≠ id ∧ q = r ∧ y = .dead) ∨ (q ≠ id ∧ q ≠ r ∧ h q = some y) := by
  intro q y hy
  simp only [Heap.put] at hy
  split at hy
  ·rename_i e; cases hy; exact .inl ⟨e,rfl⟩
  ·rename_i e
   split at hy
   ·rename_i e'; cases hy; exact .inr (.inl ⟨e,e',rfl⟩)
   ·rename_i e'; exact .inr (.inr ⟨e,e',hy⟩)
 -- each live row is an old one at its place,or the new one at the place of r
 have place : ∀ q y p c cb,((h.put r .dead).put id x) q = some y → y.live = true → (if q = id then some ⟨z,n',some (b,base')⟩ else ρ q) = some p → p.loc = some (c,cb) →
   (q = id ∧ c = b) ∨ (q ≠ id ∧ q ≠ r ∧ h q = some y ∧ ρ q = some p) := by
  intro q y p c cb hy hyl hp hl
  rcases old q y hy with ⟨rfl,rfl⟩ | ⟨hn,rfl,rfl⟩ | ⟨hn,hn',hq⟩
  ·rw [if_pos rfl] at hp; cases hp; cases hl; exact .inl ⟨rfl,rfl⟩
  ·cases hyl
  ·rw [if_neg hn] at hp; exact .inr ⟨hn,hn',hq,hp⟩
 refine ⟨⟨k.keeps.trans hw.keeps fun b' i hb hh => ?_,fun b' hb => by rw [hw.size]; exact k.tlt b' hb,fun q y hy => ?_,fun q hq => ?_,fun q q' y y' hne' hy hy' hyl hyl' p p' c cb c' cb' hp hp' hl hl' => ?_,fun q y p c cb hy hyl hp hl => ?_,fun b' hb hn => ?_,fun q hq => more _ _ (k.lp q hq),fun q y p c cb hq hy hyl hp hl => ?_,k.t0lt,fun q hq y hy => ?_,fun pp hpp => (k.tab pp hpp).mono hs (fun _ _ h => h) fun _ _ h => h⟩,hs,fun _ _ h => h,more⟩
 ·obtain ⟨rfl,hi⟩ := hh
  rcases k.wr r _ _ b' base hr rfl hρ rfl with h1 | ⟨_,h1⟩
  ·omega
  ·exact h1 rfl i
 ·rcases old q y hy with ⟨rfl,rfl⟩ | ⟨_,_,rfl⟩ | ⟨hn,hn',hq⟩
  ·exact hx _ more (if_pos rfl)
  ·trivial
  ·refine (k.rows q y hq).mono hs (fun _ _ h => h) more fun p c cb hp hc hyl => ⟨hw.other c ?_,(k.rows q y hq).inT hyl p c cb hp hc⟩
   exact k.sep q r y _ hn' hq hr hyl rfl p _ c cb b base hp hρ hc rfl
 ·simp only [Heap.put] at hq
  split at hq
  ·cases hq
  ·rename_i hn
   split at hq
   ·cases hq
   ·simp only [hn,if_false]
    exact k.dom q hq
 ·rcases place q y p c cb hy hyl hp hl with ⟨h1,h2⟩ | ⟨h1,h2,h3,h4⟩
  ·rcases place q' y' p' c' cb' hy' hyl' hp' hl' with ⟨h5,h6⟩ | ⟨h5,h6,h7,h8⟩
   ·exact absurd (h1.trans h5.symm) hne'
   ·rw [h2]
    exact fun e => k.sep q' r y' _ h6 h7 hr hyl' rfl p' _ c' cb' b base h8 hρ hl' rfl e.symm
  ·rcases place q' y' p' c' cb' hy' hyl' hp' hl' with ⟨h5,h6⟩ | ⟨h5,h6,h7,h8⟩
   ·rw [h6]
    exact k.sep q r y _ h2 h3 hr hyl rfl p _ c cb b base h4 hρ hl rfl
   ·exact k.sep q q' y y' hne' h3 h7 hyl hyl' p p' c cb c' cb' h4 h8 hl hl'
 ·rcases place q y p c cb hy hyl hp hl with ⟨h1,rfl⟩ | ⟨h1,h2,h3,h4⟩
  ·rcases k.wr r _ _ c base hr rfl hρ rfl with h5 | ⟨_,h5⟩
   ·exact .inl h5
   ·exact .inr ⟨fun i _ _ => h5 rfl i,fun _ => h5 rfl⟩
  ·exact k.wr q y p c cb h3 hyl h4 hl
 ·rcases k.t0 b' hb hn with h1 | ⟨q,hq,hx⟩
  ·exact .inl h1
  ·refine .inr ⟨q,hq,fun y hy => ?_⟩
   rcases old q y hy with ⟨rfl,rfl⟩ | ⟨_,_,rfl⟩ | ⟨_,_,hq'⟩
   ·have := k.lp q hq
    rw [k.dom q hid] at this
    cases this
   ·rfl
   ·exact hx y hq'
 ·rcases place q y p c cb hy hyl hp hl with ⟨h1,rfl⟩ | ⟨h1,h2,h3,h4⟩
  ·exact k.own r _ _ c base hrl hr rfl hρ rfl
  ·exact k.own q y p c cb hq h3 hyl h4 hl
 ·rcases old q y hy with ⟨rfl,rfl⟩ | ⟨_,_,rfl⟩ | ⟨_,_,hq'⟩
  ·have := k.lp q hq
   rw [k.dom q hid] at this
   cases this
  ·rfl
  ·exact k.la q hq y hq'
structure Src (w : World) (T : Nat → Prop) (z : Nat) (new : List (List AV)) (v : Value) (vs : List Value) : Prop where
 len : vs.length = new.length * z
 val : (v = .slice none 0 0 ∧ new = []) ∨ ∃ ad cap,v = .slice (some ad) new.length cap ∧ ∀ j u,vs[j]? = some u → w.cell? (ad.add j) = some u
 el : ∀ j,j < new.length → (new.getD j []).length = z
 rv : ∀ j c,j < new.length → c < z → Rv w T Rho.none ((new.getD j []).getD c .junk) (vs.getD (j * z + c) undef) ∧ (vs.getD (j * z + c) undef).oneCell' = true
theorem div_row {n z i : Nat} (hi : i < n * z) : i / z < n ∧ i % z < z ∧ i = i / z * z + i % z := by
 have hz : 0 < z := by
  rcases Nat.eq_zero_or_pos z with h | h
  ·subst h; simp at hi
  ·exact h
 refine ⟨Nat.div_lt_of_lt_mul (by rw [Nat.mul_comm]; exact hi),Nat.mod_lt _ hz,?_⟩
 rw [Nat.mul_comm]
 exact (Nat.div_add_mod i z).symm
theorem Src.at {b base z cap : Nat} {new : List (List AV)} (hl : ∀ j,j < new.length → (new.getD j []).length = z)
  (hc : ∀ j c,j < new.length → c < z → ∃ v,w.cell? ⟨b,base + j * z + c,none⟩ = some v ∧ v.oneCell' = true ∧ Rv w T Rho.none ((new.getD j []).getD c .junk) v) :
  Src w T z new (.slice (some ⟨b,base,none⟩) new.length cap) ((zT (new.length * z)).map fun i => (w.cell? ⟨b,base + i,none⟩).getD undef) := by
 refine ⟨by simp,.inr ⟨_,_,rfl,fun j u hj => ?_⟩,hl,fun j c hj hcz => ?_⟩
 ·rw [List.getElem?_map] at hj
  rcases jl j (new.length * z) with h1 | h1
  ·rw [List.getElem?_range h1] at hj
   simp only [jj,Option.some.injEq] at hj
   obtain ⟨h2,h3,h4⟩ := div_row h1
   obtain ⟨v,h5,h6,h7⟩ := hc (j / z) (j % z) h2 h3
   rw [Nat.add_assoc,← h4] at h5
   rw [add_at,h5]
   rw [h5] at hj
   rw [← hj]
   rfl
  ·rw [jf (by simpa using h1)] at hj
   cases hj
 ·have hlt := in_row hj hcz
  obtain ⟨v,h5,h6,h7⟩ := hc j c hj hcz
  have : ((zT (new.length * z)).map fun i => (w.cell? ⟨b,base + i,none⟩).getD undef).getD (j * z + c) undef = v := by
   rw [zo,List.getElem?_map,List.getElem?_range hlt]
   rw [Nat.add_assoc] at h5
   simp [h5]
  rw [this]
  exact ⟨h7,h6⟩
theorem esV_src (k : WInv f w T ρ h) {y : AV} {v : Value} (r : Rv w T ρ y v) {z : Nat} {new : List (List AV)} (hy : esV h z y = some new) : ∃ vs,Src w T z new v vs := by
 cases r with
 | ns =>
  simp only [esV] at hy
  split at hy
  ·cases hy; exact ⟨[],by simp,.inl ⟨rfl,rfl⟩,fun j hj => (by cases hj),fun j c hj => (by cases hj)⟩
  ·cases hy
 | @lnil _ _ a cap ha hm =>
  simp only [esV] at hy
  split at hy
  ·cases hy
   refine ⟨[],by simp,?_,fun j hj => (by cases hj),fun j c hj => (by cases hj)⟩
   cases a with
   | none => rw [ha rfl]; exact .inl ⟨rfl,rfl⟩
   | some ad => exact .inr ⟨ad,cap,rfl,fun j u hj => (by simp at hj)⟩
  ·cases hy
 | @l _ z' es b base cap g hT hb hc hm hz hcell hv =>
  simp only [esV] at hy
  split at hy
  ·rename_i hzz
   subst hzz
   cases hy
   exact ⟨_,Src.at hz fun j c hj hc => ⟨g j c,(hcell j c hj hc).1,(hcell j c hj hc).2,hv j c hj hc⟩⟩
  ·cases hy
 | @sl _ q z' ofs n m b base cap hq hn hc hm hs =>
  simp only [esV] at hy
  split at hy
  ·rename_i hzz
   subst hzz
   simp only [zy] at hy
   obtain ⟨row,hrow,hwin⟩ := hy
   have main : ∀ es : List (List AV),es.length = m → RowAt w b base z' es (Rv w T Rho.none) → new = (es.drop ofs).take n → ∃ vs,Src w T z' new (.slice (some ⟨b,base + ofs * z',none⟩) n cap) vs := by
    intro es hm hra hnew
    have hl : new.length = n := by rw [hnew,zD,jd]; omega
    have key : ∀ j c,base + ofs * z' + j * z' + c = base + (ofs + j) * z' + c := by intro j c; rw [zZ]; omega
    have := Src.at (w := w) (T := T) (b := b) (base := base + ofs * z') (z := z') (cap := cap) (new := new) (fun j hj => by
     rw [hl] at hj
     rw [hnew,getD_drop_take _ _ _ _ _ hj]
     exact hra.len _ (by omega)) (fun j c hj hc => by
     rw [hl] at hj
     rw [hnew,getD_drop_take _ _ _ _ _ hj,key]
     exact hra.cell _ c (by omega) hc)
    rw [hl] at this
    exact ⟨_,this⟩
   have ok := k.rows q row hrow
   cases row with
   | sl ap z'' es =>
    cases hwin
    rcases ok with ⟨_,_,h3⟩ | ⟨b',base',cur,e',h3,h4,h5,h6,h7,h8⟩
    ·rw [hq] at h3; cases h3
    ·rw [hq] at h3
     cases h3
     exact main es rfl h8 rfl
   | fsl z'' es =>
    cases hwin
    rcases ok with ⟨_,h3⟩ | ⟨b',base',h3,h4,h5,h6⟩
    ·rw [hq] at h3; cases h3
    ·rw [hq] at h3
     cases h3
     exact main es rfl h6 rfl
   | st cs => cases hwin
   | fst cs => cases hwin
   | dead => cases hwin
  ·cases hy
 | @slz _ q z' ofs m b base off hq hn =>
  simp only [esV] at hy
  split at hy
  ·rename_i hzz
   subst hzz
   simp only [zy] at hy
   obtain ⟨row,hrow,hwin⟩ := hy
   have hnew : new = [] := by
    cases row <;> simp only [Row.win,Option.some.injEq,jk] at hwin <;> first | exact hwin.symm | cases hwin
   subst hnew
   exact ⟨[],by simp,.inr ⟨_,_,rfl,fun j u hj => (by simp at hj)⟩,fun j hj => (by cases hj),fun j c hj => (by cases hj)⟩
  ·cases hy
 | @slnil _ q z' hq =>
  simp only [esV] at hy
  split at hy
  ·simp only [zy] at hy
   obtain ⟨row,hrow,hwin⟩ := hy
   have hnew : new = [] := by
    cases row <;> simp only [Row.win,Option.some.injEq,jk] at hwin <;> first | exact hwin.symm | cases hwin
   subst hnew
   exact ⟨[],by simp,.inl ⟨rfl,rfl⟩,fun j hj => (by cases hj),fun j c hj => (by cases hj)⟩
  ·cases hy
 | _ => simp [esV] at hy
end
section
variable {P : Program} {f : Fr} {w : World} {T T' : Nat → Prop} {ρ : Rho} {h : Heap} {e : Nat → AV} {a : Act} {o : Oper}
structure Els (w : World) (T : Nat → Prop) (z : Nat) (L : List (List AV)) (vs : List Value) : Prop where
 len : vs.length = L.length * z
 el : ∀ j,j < L.length → (L.getD j []).length = z
 rv : ∀ j c,j < L.length → c < z → Rv w T Rho.none ((L.getD j []).getD c .junk) (vs.getD (j * z + c) undef) ∧ (vs.getD (j * z + c) undef).oneCell' = true
theorem Src.els {z : Nat} {new : List (List AV)} {v : Value} {vs : List Value} (s : Src w T z new v vs) : Els w T z new vs := ⟨s.len,s.el,s.rv⟩
theorem getD_append_left' {α : Type} (l m : List α) (i : Nat) (d : α) (h : i < l.length) : (l ++ m).getD i d = l.getD i d := by
 rw [zo,List.getElem?_append_left h,← zo]
theorem getD_append_right' {α : Type} (l m : List α) (i : Nat) (d : α) (h : l.length ≤ i) : (l ++ m).getD i d = m.getD (i - l.length) d := by
 rw [zo,jc h,← zo]
theorem Els.append {z : Nat} {L M : List (List AV)} {vs us : List Value} (x : Els w T z L vs) (y : Els w T z M us) : Els w T z (L ++ M) (vs ++ us) := by
 refine ⟨by rw [zx,zx,x.len,y.len,zZ],fun j hj => ?_,fun j c hj hc => ?_⟩
 ·by_cases h1 : j < L.length
  ·rw [getD_append_left' _ _ _ _ h1]; exact x.el j h1
  ·rw [getD_append_right' _ _ _ _ (by omega)]; exact y.el _ (by rw [zx] at hj; omega)
 ·by_cases h1 : j < L.length
  ·have := in_row h1 hc
   rw [getD_append_left' _ _ _ _ h1,getD_append_left' _ _ _ _ (by rw [x.len]; exact this)]
   exact x.rv j c h1 hc
  ·have h2 := zK z (show L.length ≤ j by omega)
   rw [getD_append_right' _ _ _ _ (by omega),getD_append_right' _ _ _ _ (by rw [x.len]; omega),x.len]
   have := y.rv (j - L.length) c (by rw [zx] at hj; omega) hc
   rw [Nat.sub_mul] at this
   rw [show j * z + c - L.length * z = j * z - L.length * z + c by omega]
   exact this
theorem Els.one {z : Nat} {L : List (List AV)} {vs : List Value} (x : Els w T z L vs) : ∀ u ∈ vs,u.oneCell' = true := by
 intro u hu
 obtain ⟨i,hi,rfl⟩ := List.getElem_of_mem hu
 rw [x.len] at hi
 obtain ⟨h1,h2,h3⟩ := div_row hi
 have := (x.rv _ _ h1 h2).2
 rw [← h3,zo,zr (by rw [x.len]; exact hi)] at this
 exact this
def Ni (l : List Value) : Prop := ∀ v ∈ l,∀ k i,v ≠ .int k i
theorem zero_ni {z : Array Value} {n : Nat} (h : Ni z.toList) : Ni (Builtin.zeroCells z n).toList := by
 intro v hv
 unfold Builtin.zeroCells at hv
 simp only [Array.toList_map,List.mem_map] at hv
 obtain ⟨i,hi,rfl⟩ := hv
 by_cases hz : z.size = 0
 ·simp [hz] at hi
 ·have hlt : i % z.size < z.size := Nat.mod_lt _ (by omega)
  refine h _ ?_
  rw [getElem!_pos z _ hlt]
  exact Array.mem_toList_iff.2 (Array.getElem_mem hlt)
theorem new_els (k : WInv f w T ρ h) {w' : World} (ho : Old w w') {id : Nat} (hid : h id = none) {z : Nat} {L : List (List AV)} {vs : List Value} (x : Els w T z L vs) {tail : Array Value} {t : TypeId} {b : Nat} (hb : w.heap.size ≤ b) (hcur : w'.heap[b]? = some (Obj.cells (vs.toArray ++ tail) t (0,0))) {cap : Nat} (hcap : L.length ≤ cap) (hm : cap ≤ maxLen) (hcs : cap * z ≤ vs.length + tail.size) (hni : z = 3 → Ni tail.toList) :
  ∃ T' ρ',WInv f w' T' ρ' (h.put id (.sl true z L)) ∧ Goes w w' T T' ρ ρ' ∧ Rv w' T' ρ' (.sl id z 0 L.length) (.slice (some ⟨b,0,none⟩) L.length cap) := by
 refine new_sl k ho hid hb hcur (by simp [x.len]) hcap hm (by simpa using hcs) (fun hz o v ho hv => by
  have h1 : vs.length ≤ o := by rw [x.len,hz]; exact ho
  rw [Array.getElem?_append_right (by simpa using h1)] at hv
  exact hni hz v (Array.mem_toList_iff.2 (Array.mem_of_getElem? hv))) x.el fun j c hj hc => ?_
 have hlt := in_row hj hc
 have : (vs.toArray ++ tail).getD (j * z + c) undef = vs.getD (j * z + c) undef := by
  rw [toList_getD]
  simp only [Array.toList_append]
  rw [getD_append_left' _ _ _ _ (by rw [x.len]; exact hlt)]
 rw [this]
 exact x.rv j c hj hc
theorem run_app0 {t ty el : TypeId} {i : TypeInfo} (hu : P.underlying t = some (.slice el)) (hi : P.info? el = some i) (b ad : Option Addr) (n cap cap' : Nat) (hn : n ≤ cap) :
  (Builtin.append_ #[t,t] ty #[.slice b n cap,.slice ad 0 cap']).run P w = .ok (.slice b n cap) w := by
 cases b <;> cases ad <;> simp [Builtin.append_,run_underlying hu,sizeOf,typeInfo,hi,Builtin.lenOf,hn,Builtin.firstCells,loadCells,loadCellsFrom,storeCells]
theorem run_room {t ty el el' : TypeId} {i : TypeInfo} (hu : P.underlying t = some (.slice el)) (hi : P.info? el = some i) {g n cap : Nat} {cur : Array Value} (hg : w.heap[g]? = some (Obj.cells cur el' (0,0))) {ad : Addr} {m c : Nat} {news : List Value} (hl : news.length = m * i.size) (hnews : ∀ j u,news[j]? = some u → w.cell? (ad.add j) = some u) (h1 : ∀ u ∈ news,u.oneCell' = true) (hroom : n + m ≤ cap) (hfit : n * i.size + news.length ≤ cur.size) :
  (Builtin.append_ #[t,t] ty #[.slice (some ⟨g,0,none⟩) n cap,.slice (some ad) m c]).run P w = .ok (.slice (some ⟨g,0,none⟩) (n + m) cap) (w.setCells g (n * i.size) news) := by
 have hf := run_firstCells_some (P := P) w i.size m ad m c news hl hnews
 have hst := run_storeCells_cells (P := P) g (n * i.size) news 0 w (fun j hj => by
  rw [cell_of hg]
  simp; omega) (fun j hj => by simp [World.frozen?,hg]) h1
 rw [Nat.add_zero] at hst
 simp only [Builtin.append_,Sem.run_bind,run_underlying hu w,Result.andThen_ok,sizeOf,run_typeInfo hi,Sem.run_pure,Builtin.lenOf,if_false,ji,Bool.not_false,if_true,hf,if_pos hroom,add_at,zX,List.getElem?_toArray,List.getElem?_cons_zero,List.getElem?_cons_succ,hst]
theorem op_app (k : WInv f w T ρ h) (he : Env w T ρ e a) {t el : TypeId} {i : TypeInfo} {zv : Value} {x y : Operand} {x' y' : At} {c : Go.Call} {id sz bytes : Nat} {av : AV} {h' : Heap} (call : Call) (ho : o.op = .call c) (hc : c.callee = .builtin .append) (hx : c.args = #[x,y]) (ht : c.argTypes = #[t,t])
  (hu : P.underlying t = some (.slice el)) (hi : P.info? el = some i) (hz : i.zero = some zv) (hsz : i.size = sz) (hby : i.bytes = bytes) (hzs : zv.cells.size = sz) (hpos : 0 < sz) (hbp : 0 < bytes) (h3z : sz = 3 → Ni zv.cells.toList) (h1 : ma f.tabs x x' = true) (h2 : ma f.tabs y y' = true)
  (hv : PO.ev call (.app id sz bytes x' y') e h = some (av,h')) : Turns P f o a w T ρ av h' := by
 have r1 := ma_rv k he h1
 have r2 := ma_rv k he h2
 have fin : ∀ v u r w',a.eval x = v → a.eval y = u → (Builtin.append_ #[t,t] o.type #[v,u]).run P w = .ok r w' → (execOp a.eval o).run P w = .ok (.value r) w' := by
  intro v u r w' e1 e2 hr
  simp [execOp,ho,resolve,hc,hx,ht,invoke,builtin,e1,e2,hr]
 simp only [PO.ev,appV] at hv
 split at hv
 ·cases hv
 rename_i new hnew
 obtain ⟨news,src⟩ := esV_src k r2 hnew
 have els := src.els
 generalize hyv : a.eval y = u at r2 src
 have hu63 : ∀ q : Nat,q * bytes ≤ 140737488355328 → q ≤ 140737488355328 := fun q hq => zE (Nat.le_mul_of_pos_right _ hbp) hq
 split at hv
 ·-- a nil slice
  rename_i z hq
  split at hv
  ·rename_i hcond
   obtain ⟨rfl,hby2,hid⟩ := hcond
   cases hv
   have hid' : h id = none := by simpa using hid
   rw [hq] at r1
   generalize hxv : a.eval x = v at r1
   cases r1
   rcases src.val with ⟨hun,rfl⟩ | ⟨ad,cap',hun,hcells⟩
   ·obtain ⟨k',g⟩ := k.newnil hid' z
    exact ⟨_,w,T,_,.inl (fin _ _ _ _ hxv (hyv.trans hun) (run_app0 hu hi none none 0 0 0 (zz _))),k',g,.slnil (if_pos rfl)⟩
   ·by_cases hm : new.length = 0
    ·have hnil : new = [] := List.length_eq_zero_iff.1 hm
     subst hnil
     obtain ⟨k',g⟩ := k.newnil hid' z
     exact ⟨_,w,T,_,.inl (fin _ _ _ _ hxv (hyv.trans hun) (run_app0 hu hi none (some ad) 0 0 cap' (zz _))),k',g,.slnil (if_pos rfl)⟩
    ·have hr := run_append_nil (P := P) w t o.type el i zv hu hi hz ad new.length cap' news (by rw [els.len,hsz]) hcells (by omega) (by have := hu63 _ hby2; omega) (by rw [hby]; omega)
     obtain ⟨T',ρ',k',g,r⟩ := new_els (w' := w.drew.alloc (.cells (news.toArray ++ Builtin.zeroCells zv.cells (grownCap w new.length 0 el - new.length)) el)) (t := el) k ((Old.drew w).trans (Old.alloc _ _)) hid' els (b := w.heap.size) (zz _) (heap_alloc_new w.drew _) (cap := grownCap w new.length 0 el) (grownCap_ge ..) (grownCap_le_maxLen _ _ _ _ (by have := hu63 _ hby2; simp only [maxLen]; omega)) (by
      rw [size_zeroCells,hzs,els.len,← zZ]
      exact zK _ (by have := grownCap_ge w new.length 0 el; omega)) (fun hz => zero_ni (h3z hz))
     exact ⟨_,_,T',ρ',.inl (fin _ _ _ _ hxv (hyv.trans hun) hr),k',g,r⟩
  ·cases hv
 ·rename_i r z ofs n hq
  split at hv
  ·rename_i z' es hrow
   split at hv
   ·rename_i hcond
    obtain ⟨rfl,hzz,rfl,hfull,hby2,hid⟩ := hcond
    have hzz' := hzz.symm
    subst hzz'
    clear hzz
    cases hv
    have hid' : h id = none := by simpa using hid
    have hid2 : (h.put r .dead) id = none := by
     simp only [Heap.put]
     rw [if_neg (fun e => by rw [e,hrow] at hid'; cases hid')]
     exact hid'
    have hkill := k.kill hrow
    have hle := hu63 _ hby2
    rw [hq] at r1
    generalize hxv : a.eval x = v at r1
    have ok := k.rows r _ hrow
    cases r1 with
    | slnil hρ =>
     rw [jk,List.nil_append,zX]
     rw [zX] at hby2 hle
     rcases src.val with ⟨hun,rfl⟩ | ⟨ad,cap',hun,hcells⟩
     ·obtain ⟨k',g⟩ := hkill.newnil hid2 z
      exact ⟨_,w,T,_,.inl (fin _ _ _ _ hxv (hyv.trans hun) (run_app0 hu hi none none 0 0 0 (zz _))),k',g,.slnil (if_pos rfl)⟩
     ·by_cases hm : new.length = 0
      ·have hnil : new = [] := List.length_eq_zero_iff.1 hm
       subst hnil
       obtain ⟨k',g⟩ := hkill.newnil hid2 z
       exact ⟨_,w,T,_,.inl (fin _ _ _ _ hxv (hyv.trans hun) (run_app0 hu hi none (some ad) 0 0 cap' (zz _))),k',g,.slnil (if_pos rfl)⟩
      ·have hr := run_append_nil (P := P) w t o.type el i zv hu hi hz ad new.length cap' news (by rw [els.len,hsz]) hcells (by omega) (by omega) (by rw [hby]; omega)
       obtain ⟨T',ρ',k',g,r⟩ := new_els (w' := w.drew.alloc (.cells (news.toArray ++ Builtin.zeroCells zv.cells (grownCap w new.length 0 el - new.length)) el)) (t := el) hkill ((Old.drew w).trans (Old.alloc _ _)) hid2 els (b := w.heap.size) (zz _) (heap_alloc_new w.drew _) (cap := grownCap w new.length 0 el) (grownCap_ge ..) (grownCap_le_maxLen _ _ _ _ (by simp only [maxLen]; omega)) (by
        rw [size_zeroCells,hzs,els.len,← zZ]
        exact zK _ (by have := grownCap_ge w new.length 0 el; omega)) (fun hz => zero_ni (h3z hz))
       exact ⟨_,_,T',ρ',.inl (fin _ _ _ _ hxv (hyv.trans hun) hr),k',g,r⟩
    | @slz _ _ _ _ m b base off hρ hn =>
     rw [jk,List.nil_append,zX]
     rcases ok with ⟨_,_,h3⟩ | ⟨b',base',cur,e',h3,h4,h5,h6,h7,h8⟩
     ·rw [hρ] at h3; cases h3
     rw [hρ] at h3
     cases h3
     have zero : new = [] → ∀ ad cap',a.eval y = .slice ad 0 cap' → Turns P f o a w T ρ (.sl id z 0 new.length) ((h.put r .dead).put id (.sl true z new)) := by
      intro hnil ad cap' hy'
      subst hnil
      have hrw : Rew w w b (fun _ => False) := ⟨rfl,rfl,rfl,rfl,fun _ _ => rfl,cur,cur,e',_,h5,h5,rfl,fun _ _ => rfl⟩
      obtain ⟨k',g⟩ := k.adopt (n' := 0) (base' := 0) hrow hρ hid' hrw (x := .sl true z []) fun ρ' hmore hρ' => .inr ⟨b,0,cur,e',hρ',h4,h5,by simp,fun _ => ⟨rfl,fun hz o v ho hv => (h7 rfl).2 hz o v (by
        subst hz
        have : 0 = es.length := by simpa [fullB] using hfull
        omega) hv⟩,⟨fun j hj => (by cases hj),fun j c hj => (by cases hj)⟩⟩
      exact ⟨_,w,T,_,.inl (fin _ _ _ _ hxv hy' (run_app0 hu hi _ ad 0 0 cap' (zz _))),k',g,.slz (if_pos rfl) (zz _)⟩
     rcases src.val with ⟨hun,hnil⟩ | ⟨ad,cap',hun,hcells⟩
     ·exact zero hnil none 0 (hyv.trans hun)
     ·by_cases hm : new.length = 0
      ·exact zero (List.length_eq_zero_iff.1 hm) (some ad) cap' (by rw [hyv,hun,hm])
      ·rw [zX] at hby2 hle
       have hr := run_append_grow (P := P) w t o.type el i zv hu hi hz ⟨b,off,none⟩ 0 0 [] (by simp) (fun j v hj => by simp at hj) ad new.length cap' news (by rw [els.len,hsz]) hcells (by omega) (by omega) (growslice_fits (by omega) (by rw [hby,zX]; exact hby2))
       rw [zX] at hr
       obtain ⟨T',ρ',k',g,r⟩ := new_els (w' := w.drew.alloc (.cells (#[] ++ news.toArray ++ Builtin.zeroCells zv.cells (grownCap w new.length 0 el - new.length)) el)) (t := el) hkill ((Old.drew w).trans (Old.alloc _ _)) hid2 els (tail := Builtin.zeroCells zv.cells (grownCap w new.length 0 el - new.length)) (b := w.heap.size) (zz _) (by rw [Array.empty_append]; exact heap_alloc_new w.drew _) (cap := grownCap w new.length 0 el) (grownCap_ge ..) (grownCap_le_maxLen _ _ _ _ (by simp only [maxLen]; omega)) (by
        rw [size_zeroCells,hzs,els.len,← zZ]
        exact zK _ (by have := grownCap_ge w new.length 0 el; omega)) (fun hz => zero_ni (h3z hz))
       exact ⟨_,_,T',ρ',.inl (fin _ _ _ _ hxv (hyv.trans hun) hr),k',g,r⟩
    | @sl _ _ _ _ _ m b base cap hρ hn hcap hcm hs =>
     rcases ok with ⟨_,_,h3⟩ | ⟨b',base',cur,e',h3,h4,h5,h6,h7,h8⟩
     ·rw [hρ] at h3; cases h3
     rw [hρ] at h3
     cases h3
     have hb0 := (h7 rfl).1
     have hsp0 := (h7 rfl).2
     subst hb0
     rw [Nat.zero_mul,zX] at hxv
     rw [zX] at hn
     obtain ⟨cur2,e2,fr2,hs1,hs2⟩ := hs
     rw [h5] at hs1
     cases hs1
     rw [zX,zX] at hs2
     have hlen : (es.take n).length = n := by rw [zD]; omega
     have olds := (Src.at (w := w) (T := T) (b := b) (base := 0) (z := z) (cap := cap) (new := es.take n) (fun j hj => by
      rw [hlen] at hj
      have := getD_drop_take es 0 n j [] hj
      rw [List.drop_zero,zX] at this
      rw [this]
      exact h8.len j (by omega)) (fun j c hj hc => by
      rw [hlen] at hj
      have := getD_drop_take es 0 n j [] hj
      rw [List.drop_zero,zX] at this
      rw [this]
      exact h8.cell j c (by omega) hc))
     generalize hov : ((zT ((es.take n).length * z)).map fun i => (w.cell? ⟨b,0 + i,none⟩).getD undef) = ov at olds
     have oels := olds.els
     have hocells : ∀ j u,ov[j]? = some u → w.cell? ((⟨b,0,none⟩ : Addr).add j) = some u := by
      rcases olds.val with ⟨hh,_⟩ | ⟨ad,cap',hh,hcells⟩
      ·cases hh
      ·cases hh; exact hcells
     have both := oels.append els
     have inplace : ∀ (w' : World) (hrw : Rew w w' b (fun i => n * z ≤ i ∧ i < n * z + news.length)) (hnv : ∀ j,j < news.length → w'.cell? ⟨b,n * z + j,none⟩ = some (news.getD j undef)),n + new.length ≤ cap → (execOp a.eval o).run P w = .ok (.value (.slice (some ⟨b,0,none⟩) (n + new.length) cap)) w' → Turns P f o a w T ρ (.sl id z 0 (n + new.length)) ((h.put r .dead).put id (.sl true z (es.take n ++ new))) := by
      intro w' hrw hnv hroom hrun
      have hsame := hrw.same (T := T) h4
      have hfit : (n + new.length) * z ≤ cur.size := zE (zK _ hroom) hs2
      obtain ⟨d,d',e3,fr3,q1,q2,q3,q4⟩ := hrw.blk
      rw [h5] at q1
      cases q1
      obtain ⟨k',g⟩ := k.adopt (n' := n + new.length) (base' := 0) hrow hρ hid' hrw (x := .sl true z (es.take n ++ new)) fun ρ' hmore hρ' => by
       refine .inr ⟨b,0,d',e',by rw [zx,hlen]; exact hρ',h4,q2,by rw [zx,hlen,q3,zX]; exact hfit,fun _ => ⟨rfl,fun hz o v ho hv => by
        have hn9 : n = es.length := by subst hz; simpa [fullB] using hfull
        rw [zx,hlen] at ho
        rw [q4 o (fun hw => by
         have h9 := hw.2
         rw [els.len,hz] at h9
         rw [zZ] at ho
         omega)] at hv
        exact hsp0 hz o v (by rw [← hn9]; rw [zZ] at ho; omega) hv⟩,⟨both.el,fun j c hj hc => ?_⟩⟩
       obtain ⟨h11,h12⟩ := both.rv j c hj hc
       refine ⟨_,?_,h12,h11.mono hsame (fun _ _ h => h) fun _ _ h => h⟩
       rw [zX]
       rw [zx,hlen] at hj
       have hlt := in_row hj hc
       by_cases hjn : j < n
       ·have hlt2 := in_row hjn hc
        rw [getD_append_left' _ _ _ _ (by rw [oels.len,hlen]; exact hlt2)]
        rw [cell_of q2,q4 _ (by omega)]
        have h13 : ov[j * z + c]? = some (ov.getD (j * z + c) undef) := by
         rw [zo,zr (by rw [oels.len,hlen]; exact hlt2)]; rfl
        have := hocells _ _ h13
        rw [add_at,zX,cell_of h5] at this
        exact this
       ·have h2 := zK z (show n ≤ j by omega)
        rw [getD_append_right' _ _ _ _ (by rw [oels.len,hlen]; omega),oels.len,hlen]
        have h3 : j * z + c - n * z < news.length := by rw [els.len]; rw [zZ] at hlt; omega
        have := hnv _ h3
        rw [show n * z + (j * z + c - n * z) = j * z + c by omega] at this
        exact this
      refine ⟨_,w',T,_,.inl hrun,k',g,?_⟩
      have := Rv.sl (w := w') (T := T) (ρ := fun q => if q = id then some ⟨z,n + new.length,some (b,0)⟩ else ρ q) (r := id) (o := 0) (n := n + new.length) (cap := cap) (if_pos rfl) (by omega) hroom hcm ⟨d',e',(0,0),q2,by rw [q3,zX,zX]; exact hs2⟩
      simpa using this
     have noop : new = [] → ∀ ad cap',a.eval y = .slice ad 0 cap' → Turns P f o a w T ρ (.sl id z 0 (n + new.length)) ((h.put r .dead).put id (.sl true z (es.take n ++ new))) := by
      intro hnil ad cap' hy'
      have hnl : news.length = 0 := by rw [els.len,hnil]; simp
      refine inplace w ⟨rfl,rfl,rfl,rfl,fun _ _ => rfl,cur,cur,e',_,h5,h5,rfl,fun _ _ => rfl⟩ (fun j hj => by omega) (by rw [hnil]; simpa using hcap) ?_
      rw [hnil]
      exact fin _ _ _ _ hxv hy' (run_app0 hu hi _ ad n cap cap' hcap)
     rcases src.val with ⟨hun,hnil⟩ | ⟨ad,cap',hun,hcells⟩
     ·exact noop hnil none 0 (hyv.trans hun)
     ·by_cases hm : new.length = 0
      ·exact noop (List.length_eq_zero_iff.1 hm) (some ad) cap' (by rw [hyv,hun,hm])
      ·by_cases hroom : n + new.length ≤ cap
       ·have hfit : (n + new.length) * z ≤ cur.size := zE (zK _ hroom) hs2
        rw [zZ] at hfit
        have hr := run_room (P := P) (w := w) (ty := o.type) hu hi h5 (n := n) (cap := cap) (c := cap') (by rw [els.len,hsz]) hcells els.one hroom (by rw [hsz,els.len]; exact hfit)
        rw [hsz] at hr
        refine inplace _ (rew_setCells b news (n * z) w h5) (fun j hj => ?_) hroom (fin _ _ _ _ hxv (hyv.trans hun) hr)
        have := World.cell?_setCells_in b news (n * z) w (fun i hi => by
         rw [cell_of h5]
         have : n * z + i < cur.size := by rw [els.len] at hi; omega
         simp [this]) j hj
        rw [this,zo,zr hj]
        rfl
       ·have hr := run_append_grow (P := P) w t o.type el i zv hu hi hz ⟨b,0,none⟩ n cap ov (by rw [oels.len,hlen,hsz]) hocells ad new.length cap' news (by rw [els.len,hsz]) hcells (by omega) (by omega) (growslice_fits (by omega) (by rw [hby]; exact hby2))
        obtain ⟨T',ρ',k',g,r⟩ := new_els (w' := w.drew.alloc (.cells (ov.toArray ++ news.toArray ++ Builtin.zeroCells zv.cells (grownCap w (n + new.length) cap el - (n + new.length))) el)) (t := el) hkill ((Old.drew w).trans (Old.alloc _ _)) hid2 both (tail := Builtin.zeroCells zv.cells (grownCap w (n + new.length) cap el - (n + new.length))) (b := w.heap.size) (zz _) (by
          have e9 : (ov ++ news).toArray = ov.toArray ++ news.toArray := by simp
          rw [e9]; exact heap_alloc_new w.drew _) (cap := grownCap w (n + new.length) cap el) (by rw [zx,hlen]; exact grownCap_ge ..) (grownCap_le_maxLen _ _ _ _ (by simp only [maxLen]; omega)) (by
          rw [size_zeroCells,hzs,zx,oels.len,els.len,hlen,← zZ,← zZ]
          exact zK _ (by have := grownCap_ge w (n + new.length) cap el; omega)) (fun hz => zero_ni (h3z hz))
        rw [zx,hlen] at r
        exact ⟨_,_,T',ρ',.inl (fin _ _ _ _ hxv (hyv.trans hun) hr),k',g,r⟩
   ·cases hv
  ·cases hv
 ·cases hv
end
def isRef : AV → Bool
 | .sl _ _ _ _ | .p _ _ _ => true
 | _ => false
structure J (f : Fr) (w : World) (T : Nat → Prop) (ρ : Rho) (h : Heap) (ρ0 : Rho) (e0 : Nat → AV) (h0 : Heap) (ls : List Nat) (a : Act) : Prop where
 A : WInv f w T ρ h
 env : Env w T ρ0 e0 a
 rows : ∀ r x,h0 r = some x → RowOk w T ρ0 r x
 dom : ∀ r,h0 r = none → ρ0 r = none
 sep : ∀ r r' x x',r ≠ r' → h0 r = some x → h0 r' = some x' → x.live = true → x'.live = true → ∀ p p' b base b' base',ρ0 r = some p → ρ0 r' = some p' → p.loc = some (b,base) → p'.loc = some (b',base') → b ≠ b'
 wr : ∀ r x p b base,h0 r = some x → x.live = true → ρ0 r = some p → p.loc = some (b,base) → f.w0.heap.size ≤ b ∨ ((∀ o,base ≤ o → o < base + p.n * p.z → f.W0 b o) ∧ (x.isAp = true → ∀ o,f.W0 b o))
 own : ∀ r x p b base,r ∉ f.lids → h0 r = some x → x.live = true → ρ0 r = some p → p.loc = some (b,base) → f.w0.heap.size ≤ b ∨ f.N0 b
 la : ∀ r ∈ f.lids,∀ x,h0 r = some x → x.isAp = false
 x : ∀ r r' x x',h r = some x → h0 r' = some x' → x.live = true → x'.live = true → ∀ p p' b base b' base',ρ r = some p → ρ0 r' = some p' → p.loc = some (b,base) → p'.loc = some (b',base') → b ≠ b'
 lp : ∀ r ∈ ls,r ∈ f.lids ∧ ρ0 r = some (f.pl0 r) ∧ ∀ x,h r = some x → x.live = false
 tn : ∀ t,isRef (e0 t) = true ∨ Rv w T Rho.none (e0 t) (a.tmps.getD t undef)
 t0 : ∀ b,f.T0 b → ¬ f.N0 b → T b ∨ ∃ r ∈ f.lids,r ∉ ls ∧ ∀ x,h r = some x → x.live = false
section
variable {f : Fr} {w : World} {T : Nat → Prop} {ρ ρ0 : Rho} {h h0 : Heap} {e0 : Nat → AV} {ls : List Nat} {a : Act}
theorem J.freeze (j : J f w T ρ h ρ0 e0 h0 ls a) (rs : List Nat) : ∃ T',J f w T' ρ (h.freeze rs) ρ0 e0 h0 ls a ∧ Goes w w T T' ρ ρ ∧ (∀ r ∈ rs,∀ b,rowBlk h ρ r b → ¬ T' b) := by
 obtain ⟨T',k',g,h1,h2⟩ := j.A.freeze rs
 have less : ∀ b,b < w.heap.size → T' b → T b := g.less
 refine ⟨T',⟨k',fun t => (j.env t).less less,fun r x hx => ?_,j.dom,j.sep,j.wr,j.own,j.la,fun r r' x x' hx hx' hl hl' => ?_,fun r hr => ?_,fun t => (j.tn t).imp id fun h => h.less less,fun b hb hn => ?_⟩,g,h1⟩
 ·refine (j.rows r x hx).mono (Same.refl _ _) less (fun _ _ h => h) fun p b base hp hl hlv => ⟨rfl,?_⟩
  rcases h2 b ((j.rows r x hx).inT hlv p b base hp hl) with h3 | ⟨q,hq,y,p',base',hy,hyl,hp',hloc⟩
  ·exact h3
  ·exact absurd rfl (j.x q r y x hy hx hyl hlv p' p b base' b base hp' hp hloc hl)
 ·exact j.x r r' x x' (freeze_live' hx hl).1 hx' hl hl'
 ·obtain ⟨h3,h4,h5⟩ := j.lp r hr
  refine ⟨h3,h4,fun x hx => ?_⟩
  cases hl : x.live with
  | false => rfl
  | true => rw [h5 x (freeze_live' hx hl).1] at hl; cases hl
 ·rcases j.t0 b hb hn with h3 | ⟨r,hr,hrl,h4⟩
  ·rcases h2 b h3 with h5 | ⟨q,hq,y,p',base',hy,hyl,hp',hloc⟩
   ·exact .inl h5
   ·by_cases hm : q ∈ f.lids
    ·refine .inr ⟨q,hm,fun hql => ?_,fun x hx => ?_⟩
     ·rw [(j.lp q hql).2.2 y hy] at hyl; cases hyl
     ·cases hl : x.live with
      | false => rfl
      | true => exact absurd hq (freeze_live' hx hl).2
    ·exact (j.A.own q y p' b base' hm hy hyl hp' hloc).elim (fun h => absurd (j.A.t0lt b hb) (Nat.not_lt.2 h)) fun h => absurd h hn
  ·refine .inr ⟨r,hr,hrl,fun x hx => ?_⟩
   cases hl : x.live with
   | false => rfl
   | true => rw [h4 x (freeze_live' hx hl).1] at hl; cases hl
theorem J.set (j : J f w T ρ h ρ0 e0 h0 ls a) {t : Nat} {av : AV} (hv : Rv w T Rho.none av (a.tmps.getD t undef)) : J f w T ρ h ρ0 (upd e0 t av) h0 ls a := by
 refine { j with env := fun s => ?_,tn := fun s => ?_ } <;> unfold upd <;> split
 ·rename_i e; subst e; exact hv.any
 ·exact j.env s
 ·rename_i e; subst e; exact .inr hv
 ·exact j.tn s
theorem J.setr (j : J f w T ρ h ρ0 e0 h0 ls a) {t : Nat} {av : AV} (hv : Rv w T ρ0 av (a.tmps.getD t undef)) (hi : isRef av = true) : J f w T ρ h ρ0 (upd e0 t av) h0 ls a := by
 refine { j with env := fun s => ?_,tn := fun s => ?_ } <;> unfold upd <;> split
 ·rename_i e; subst e; exact hv
 ·exact j.env s
 ·exact .inl hi
 ·exact j.tn s
theorem J.move (j : J f w T ρ h ρ0 e0 h0 ls a) {r : Nat} {y : Row} (hy : h r = some y) (hyl : y.live = true) {q : Nat} (hq : h0 q = none) {x : Row} {p : Pl} (hx : ∀ ρ',(∀ r p,ρ0 r = some p → ρ' r = some p) → ρ' q = some p → RowOk w T ρ' q x) (hxl : x.live = true)
  (hloc : p.loc = none ∨ ∃ py b base base',ρ r = some py ∧ py.loc = some (b,base) ∧ p.loc = some (b,base') ∧ (∀ i,base' ≤ i → i < base' + p.n * p.z → base ≤ i ∧ i < base + py.n * py.z) ∧ (x.isAp = true → y.isAp = true))
  (hown : q ∈ f.lids ∧ q = r ∧ p = f.pl0 q ∧ q ∉ ls ∧ x.isAp = false ∨ q ∉ f.lids ∧ r ∉ f.lids) (ls' : List Nat) (hls : q ∈ f.lids ∧ ls' = q :: ls ∨ ls' = ls ∧ q ∉ f.lids) :
  J f w T ρ (h.put r .dead) (fun s => if s = q then some p else ρ0 s) e0 (h0.put q x) ls' a := by
 have more : ∀ s p',ρ0 s = some p' → (if s = q then some p else ρ0 s) = some p' := by
  intro s p' hs
  split
  ·rename_i e
   subst e
   rw [j.dom _ hq] at hs
   cases hs
  ·exact hs
 have old0 : ∀ s z,(h0.put q x) s = some z → (s = q ∧ z = x) ∨ (s ≠ q ∧ h0 s = some z) := by
  intro s z hz
  simp only [Heap.put] at hz
  split at hz
  ·rename_i e; cases hz; exact .inl ⟨e,rfl⟩
  ·rename_i e; exact .inr ⟨e,hz⟩
 have old : ∀ s z,(h.put r .dead) s = some z → z.live = true → s ≠ r ∧ h s = some z := by
  intro s z hz hzl
  simp only [Heap.put] at hz
  split at hz
  ·cases hz; cases hzl
  ·rename_i e; exact ⟨e,hz⟩
 -- the block of the row that moves
 have blk : ∀ b base',p.loc = some (b,base') → ∃ py base,ρ r = some py ∧ py.loc = some (b,base) := by
  intro b base' hb
  rcases hloc with h1 | ⟨py,b',base,base'',h1,h2,h3,_⟩
  ·rw [h1] at hb; cases hb
  ·rw [h3] at hb; cases hb; exact ⟨py,base,h1,h2⟩
 refine ⟨j.A.kill hy,fun t => (j.env t).mono (Same.refl _ _) (fun _ _ h => h) more,fun s z hz => ?_,fun s hs => ?_,fun s s' z z' hne hz hz' hl hl' p1 p2 b base b' base' hp1 hp2 hl1 hl2 => ?_,fun s z p1 b base hz hl hp1 hl1 => ?_,fun s z p1 b base hs hz hl hp1 hl1 => ?_,fun s hs z hz => ?_,fun s s' z z' hz hz' hl hl' p1 p2 b base b' base' hp1 hp2 hl1 hl2 => ?_,fun s hs => ?_,j.tn,fun b hb hn => ?_⟩
 ·rcases old0 s z hz with ⟨rfl,rfl⟩ | ⟨hne,hz'⟩
  ·exact hx _ more (if_pos rfl)
  ·exact (j.rows s z hz').mono (Same.refl _ _) (fun _ _ h => h) more fun p' b base hp hl hlv => ⟨rfl,(j.rows s z hz').inT hlv p' b base hp hl⟩
 ·simp only [Heap.put] at hs
  split at hs
  ·cases hs
  ·rename_i hne
   simp only [hne,if_false]
   exact j.dom s hs
 ·rcases old0 s z hz with ⟨rfl,rfl⟩ | ⟨h1,h2⟩
  ·rcases old0 s' z' hz' with ⟨rfl,rfl⟩ | ⟨h3,h4⟩
   ·exact absurd rfl hne
   ·rw [if_pos rfl] at hp1
    cases hp1
    rw [if_neg h3] at hp2
    obtain ⟨py,base2,h5,h6⟩ := blk b base hl1
    exact j.x r s' y z' hy h4 hyl hl' py p2 b base2 b' base' h5 hp2 h6 hl2
  ·rcases old0 s' z' hz' with ⟨rfl,rfl⟩ | ⟨h3,h4⟩
   ·rw [if_pos rfl] at hp2
    cases hp2
    rw [if_neg h1] at hp1
    obtain ⟨py,base2,h5,h6⟩ := blk b' base' hl2
    exact fun e => j.x r s y z hy h2 hyl hl py p1 b' base2 b base h5 hp1 h6 hl1 e.symm
   ·rw [if_neg h1] at hp1
    rw [if_neg h3] at hp2
    exact j.sep s s' z z' hne h2 h4 hl hl' p1 p2 b base b' base' hp1 hp2 hl1 hl2
 ·rcases old0 s z hz with ⟨rfl,rfl⟩ | ⟨h1,h2⟩
  ·rw [if_pos rfl] at hp1
   cases hp1
   rcases hloc with h3 | ⟨py,b',base2,base3,h3,h4,h5,h6,h7⟩
   ·rw [h3] at hl1; cases hl1
   ·rw [h5] at hl1
    cases hl1
    rcases j.A.wr r y py b base2 hy hyl h3 h4 with h8 | ⟨h8,h9⟩
    ·exact .inl h8
    ·exact .inr ⟨fun i hi1 hi2 => h8 i (h6 i hi1 hi2).1 (h6 i hi1 hi2).2,fun hh => h9 (h7 hh)⟩
  ·rw [if_neg h1] at hp1
   exact j.wr s z p1 b base h2 hl hp1 hl1
 ·rcases old0 s z hz with ⟨rfl,rfl⟩ | ⟨h1,h2⟩
  ·rw [if_pos rfl] at hp1
   cases hp1
   obtain ⟨py,base2,h5,h6⟩ := blk b base hl1
   rcases hown with ⟨h7,_⟩ | ⟨_,h7⟩
   ·exact absurd h7 hs
   ·exact j.A.own r y py b base2 h7 hy hyl h5 h6
  ·rw [if_neg h1] at hp1
   exact j.own s z p1 b base hs h2 hl hp1 hl1
 ·rcases old0 s z hz with ⟨rfl,rfl⟩ | ⟨h1,h2⟩
  ·rcases hown with ⟨_,_,_,_,h7⟩ | ⟨h7,_⟩
   ·exact h7
   ·exact absurd hs h7
  ·exact j.la s hs z h2
 ·obtain ⟨h1,h2⟩ := old s z hz hl
  rcases old0 s' z' hz' with ⟨rfl,rfl⟩ | ⟨h3,h4⟩
  ·rw [if_pos rfl] at hp2
   cases hp2
   obtain ⟨py,base2,h5,h6⟩ := blk b' base' hl2
   exact j.A.sep s r z y h1 h2 hy hl hyl p1 py b base b' base2 hp1 h5 hl1 h6
  ·rw [if_neg h3] at hp2
   exact j.x s s' z z' h2 h4 hl hl' p1 p2 b base b' base' hp1 hp2 hl1 hl2
 ·have hold : s ∈ ls → s ∈ f.lids ∧ (if s = q then some p else ρ0 s) = some (f.pl0 s) ∧ ∀ x,(h.put r .dead) s = some x → x.live = false := by
   intro hs
   obtain ⟨h1,h2,h3⟩ := j.lp s hs
   refine ⟨h1,more _ _ h2,fun z hz => ?_⟩
   cases hzl : z.live with
   | false => rfl
   | true => rw [h3 z (old s z hz hzl).2] at hzl; cases hzl
  rcases hls with ⟨h1,rfl⟩ | ⟨rfl,_⟩
  ·rcases List.mem_cons.1 hs with rfl | hs'
   ·rcases hown with ⟨h7,h8,h9,_⟩ | ⟨h7,_⟩
    ·refine ⟨h7,by rw [if_pos rfl,h9],fun z hz => ?_⟩
     cases hzl : z.live with
     | false => rfl
     | true => exact absurd h8 (old s z hz hzl).1
    ·exact absurd h1 h7
   ·exact hold hs'
  ·exact hold hs
 ·rcases j.t0 b hb hn with h1 | ⟨s,h1,h2,h3⟩
  ·exact .inl h1
  ·refine .inr ⟨s,h1,?_,fun z hz => ?_⟩
   ·rcases hls with ⟨h4,rfl⟩ | ⟨rfl,_⟩
    ·intro hs
     rcases List.mem_cons.1 hs with rfl | hs'
     ·rcases hown with ⟨_,h8,_⟩ | ⟨h7,_⟩
      ·subst h8; rw [h3 y hy] at hyl; cases hyl
      ·exact absurd h4 h7
     ·exact h2 hs'
    ·exact h2
   ·cases hzl : z.live with
    | false => rfl
    | true => rw [h3 z (old s z hz hzl).2] at hzl; cases hzl
theorem J.nil (j : J f w T ρ h ρ0 e0 h0 ls a) {q : Nat} (hq : h0 q = none) (hql : q ∉ f.lids) (ap : Bool) (z : Nat) :
  J f w T ρ h (fun s => if s = q then some ⟨z,0,none⟩ else ρ0 s) e0 (h0.put q (.sl ap z [])) ls a := by
 have more : ∀ s p',ρ0 s = some p' → (if s = q then some ⟨z,0,none⟩ else ρ0 s) = some p' := by
  intro s p' hs
  split
  ·rename_i e
   subst e
   rw [j.dom _ hq] at hs
   cases hs
  ·exact hs
 have place : ∀ s y p b base,(h0.put q (.sl ap z [])) s = some y → (if s = q then some ⟨z,0,none⟩ else ρ0 s) = some p → p.loc = some (b,base) → h0 s = some y ∧ ρ0 s = some p := by
  intro s y p b base hy hp hl
  simp only [Heap.put] at hy
  split at hy
  ·rename_i e; rw [if_pos e] at hp; cases hp; cases hl
  ·rename_i e; rw [if_neg e] at hp; exact ⟨hy,hp⟩
 refine ⟨j.A,fun t => (j.env t).mono (Same.refl _ _) (fun _ _ h => h) more,fun s y hy => ?_,fun s hs => ?_,fun s s' y y' hne hy hy' hl hl' p1 p2 b base b' base' hp1 hp2 hl1 hl2 => ?_,fun s y p1 b base hy hl hp1 hl1 => ?_,fun s y p1 b base hs hy hl hp1 hl1 => ?_,fun s hs y hy => ?_,fun s s' y y' hy hy' hl hl' p1 p2 b base b' base' hp1 hp2 hl1 hl2 => ?_,fun s hs => ?_,j.tn,j.t0⟩
 ·simp only [Heap.put] at hy
  split at hy
  ·rename_i e
   cases hy
   subst e
   exact .inl ⟨rfl,trivial,if_pos rfl⟩
  ·exact (j.rows s y hy).mono (Same.refl _ _) (fun _ _ h => h) more fun p' b base hp hl hlv => ⟨rfl,(j.rows s y hy).inT hlv p' b base hp hl⟩
 ·simp only [Heap.put] at hs
  split at hs
  ·cases hs
  ·rename_i hne
   simp only [hne,if_false]
   exact j.dom s hs
 ·obtain ⟨h1,h2⟩ := place s y p1 b base hy hp1 hl1
  obtain ⟨h3,h4⟩ := place s' y' p2 b' base' hy' hp2 hl2
  exact j.sep s s' y y' hne h1 h3 hl hl' p1 p2 b base b' base' h2 h4 hl1 hl2
 ·obtain ⟨h1,h2⟩ := place s y p1 b base hy hp1 hl1
  exact j.wr s y p1 b base h1 hl h2 hl1
 ·obtain ⟨h1,h2⟩ := place s y p1 b base hy hp1 hl1
  exact j.own s y p1 b base hs h1 hl h2 hl1
 ·simp only [Heap.put] at hy
  split at hy
  ·rename_i e; rw [e] at hs; exact absurd hs hql
  ·exact j.la s hs y hy
 ·obtain ⟨h3,h4⟩ := place s' y' p2 b' base' hy' hp2 hl2
  exact j.x s s' y y' hy h3 hl hl' p1 p2 b base b' base' hp1 h4 hl1 hl2
 ·obtain ⟨h1,h2,h3⟩ := j.lp s hs
  exact ⟨h1,more _ _ h2,h3⟩
end
section
variable {f : Fr} {w : World} {T : Nat → Prop} {ρ ρ0 : Rho} {h h0 : Heap} {e e0 : Nat → AV} {ls ls2 : List Nat} {a : Act}
theorem put_self_none {q : Nat} {x : Row} (r : Nat) (hne : r ≠ q) : (h.put q x) r = h r := by simp only [Heap.put]; rw [if_neg hne]
theorem J.slice2 (j : J f w T ρ h ρ0 e0 h0 ls a) {s r z o n : Nat} {ap : Bool} {z' : Nat} {es : List (List AV)} (hr : h r = some (.sl ap z' es)) {v : Value} (hv : Rv w T ρ (.sl r z o n) v) (hq : h0 s = none) (hpl : s ∉ f.lids) (hrl : r ∉ f.lids) :
  ∃ ρ0',J f w T ρ (h.put r .dead) ρ0' e0 (h0.put s (.sl (ap && apB z o n es.length) z ((es.drop o).take n))) ls a ∧ Rv w T ρ0' (.sl s z 0 ((es.drop o).take n).length) v ∧ ∀ q p,ρ0 q = some p → ρ0' q = some p := by
 have ok := j.A.rows r _ hr
 have more : ∀ {p : Pl} q p',ρ0 q = some p' → (if q = s then some p else ρ0 q) = some p' := by
  intro p q p' hs
  split
  ·rename_i e
   subst e
   rw [j.dom _ hq] at hs
   cases hs
  ·exact hs
 have fin : ∀ {p : Pl} {x : Row} {av : AV},J f w T ρ (h.put r .dead) (fun q => if q = s then some p else ρ0 q) e0 (h0.put s x) ls a → Rv w T (fun q => if q = s then some p else ρ0 q) av v →
   ∃ ρ0',J f w T ρ (h.put r .dead) ρ0' e0 (h0.put s x) ls a ∧ Rv w T ρ0' av v ∧ ∀ q p,ρ0 q = some p → ρ0' q = some p := fun j' hv' => ⟨_,j',hv',more⟩
 cases hv with
 | @sl _ _ _ _ _ m b base cap hρ hn hc hm hs =>
  rcases ok with ⟨_,_,h3⟩ | ⟨b',base',cur,el,h3,h4,h5,h6,h7,h8⟩
  ·rw [hρ] at h3; cases h3
  rw [hρ] at h3
  cases h3
  have hl : ((es.drop o).take n).length = n := by rw [zD,jd]; omega
  have key : ∀ j c,base + o * z + j * z + c = base + (o + j) * z + c := by intro j c; rw [zZ]; omega
  have hsz : base + o * z + n * z ≤ cur.size := by
   have := zK z hn
   rw [zZ] at this
   omega
  rw [hl]
  refine fin (p := ⟨z,n,some (b,base + o * z)⟩) (j.move hr rfl hq (x := .sl (ap && apB z o n es.length) z ((es.drop o).take n)) (p := ⟨z,n,some (b,base + o * z)⟩) (fun ρ' hmore hp => ?_) rfl (.inr ⟨_,b,base,base + o * z,hρ,rfl,rfl,fun i h1 h2 => ⟨by omega,?_⟩,fun hh => ?_⟩) (.inr ⟨hpl,hrl⟩) ls (.inr ⟨rfl,hpl⟩)) ?_
  ·refine .inr ⟨b,base + o * z,cur,el,by rw [hl]; exact hp,h4,h5,by rw [hl]; exact hsz,fun hh => ?_,⟨fun j hj => ?_,fun j c hj hc' => ?_⟩⟩
   ·simp only [apB,zu,decide_eq_true_eq] at hh
    obtain ⟨ha,ho,hf⟩ := hh
    obtain ⟨h71,h72⟩ := h7 ha
    refine ⟨by rw [h71,ho]; simp,fun hz o' v' ho' hv' => h72 hz o' v' ?_ hv'⟩
    subst hz
    rw [hl] at ho'
    have : n = es.length := by simpa [fullB] using hf
    omega
   ·rw [hl] at hj
    rw [getD_drop_take _ _ _ _ _ hj]
    exact h8.len _ (by omega)
   ·rw [hl] at hj
    rw [getD_drop_take _ _ _ _ _ hj,key]
    exact h8.cell _ c (by omega) hc'
  ·have := zK z hn
   rw [zZ] at this
   simp only at h2 ⊢
   omega
  ·simp only [Row.isAp,zu] at hh ⊢
   exact hh.1
  ·have := Rv.sl (w := w) (T := T) (ρ := fun q => if q = s then some ⟨z,n,some (b,base + o * z)⟩ else ρ0 q) (r := s) (o := 0) (n := n) (cap := cap) (if_pos rfl) (by omega) hc hm (by
    obtain ⟨cur2,e2,fr2,h9,h10⟩ := hs
    refine ⟨cur2,e2,fr2,h9,?_⟩
    rw [zZ] at h10
    rw [zX]
    omega)
   rw [Nat.zero_mul,Nat.add_zero] at this
   exact this
 | @slz _ _ _ _ m b base off hρ hn =>
  rcases ok with ⟨_,_,h3⟩ | ⟨b',base',cur,el,h3,h4,h5,h6,h7,h8⟩
  ·rw [hρ] at h3; cases h3
  rw [hρ] at h3
  cases h3
  rw [jk]
  refine fin (p := ⟨z,0,some (b,0)⟩) (j.move hr rfl hq (x := .sl (ap && apB z o 0 es.length) z []) (p := ⟨z,0,some (b,0)⟩) (fun ρ' hmore hp => ?_) rfl (.inr ⟨_,b,base,0,hρ,rfl,rfl,fun i h1 h2 => ?_,fun hh => ?_⟩) (.inr ⟨hpl,hrl⟩) ls (.inr ⟨rfl,hpl⟩)) ?_
  ·refine .inr ⟨b,0,cur,el,hp,h4,h5,by simp,fun hh => ⟨rfl,fun hz o' v' ho' hv' => ?_⟩,⟨fun j hj => (by cases hj),fun j c hj => (by cases hj)⟩⟩
   simp only [apB,zu,decide_eq_true_eq] at hh
   obtain ⟨ha,ho,hf⟩ := hh
   subst hz
   have : 0 = es.length := by simpa [fullB] using hf
   exact (h7 ha).2 rfl o' v' (by omega) hv'
  ·simp at h2
  ·simp only [Row.isAp,zu] at hh ⊢
   exact hh.1
  ·exact .slz (if_pos rfl) (zz _)
 | slnil hρ =>
  rcases ok with ⟨h1,h2,h3⟩ | ⟨b',base',cur,el,h3,h4,h5,h6,h7,h8⟩
  ·subst h1
   rw [List.drop_nil,List.take_nil]
   refine fin (p := ⟨z,0,none⟩) (j.move hr rfl hq (x := .sl (ap && apB z 0 0 ([] : List (List AV)).length) z []) (p := ⟨z,0,none⟩) (fun ρ' hmore hp => .inl ⟨rfl,trivial,hp⟩) rfl (.inl rfl) (.inr ⟨hpl,hrl⟩) ls (.inr ⟨rfl,hpl⟩)) ?_
   exact .slnil (if_pos rfl)
  ·rw [hρ] at h3
   have := congrArg Pl.loc (Option.some.inj h3)
   cases this
theorem unC_rv {av : AV} {v : Value} (k : Rv w T ρ av v) (s : Nat) (g : Heap) : unC s g av = (av,g) := by cases k <;> rfl
theorem J.cell (j : J f w T ρ h ρ0 e0 h0 ls a) {x y : AV} {h' : Heap} {v : Value} (hx : Rv w T ρ x v) (h1 : v.oneCell' = true) {s : Nat} (hq : h0 s = none) (hpl : s ∉ f.lids) (hall : ∀ q z o n,x = .sl q z o n → q ∉ ls2 → q ∉ f.lids) (hn : nestC ls2 h x = some (y,h')) :
  ∃ ρ0',J f w T ρ h' ρ0' e0 (unC s h0 y).2 ls a ∧ Rv w T ρ0' (unC s h0 y).1 v ∧ ∀ q p,ρ0 q = some p → ρ0' q = some p := by
 unfold nestC at hn
 split at hn
 ·rename_i z
  cases hn
  have hv : v = .slice none 0 0 := by cases hx; rfl
  subst hv
  refine ⟨_,j.nil hq hpl true z,.slnil (if_pos rfl),fun q p hp => ?_⟩
  split
  ·rename_i e
   subst e
   rw [j.dom _ hq] at hp
   cases hp
  ·exact hp
 ·rename_i q z o n
  split at hn
  ·cases hn
  ·rename_i hrls
   have hrl : q ∉ f.lids := hall q z o n rfl hrls
   split at hn
   ·rename_i ap z' es hrow
    cases hn
    exact j.slice2 hrow hx hq hpl hrl
   ·rename_i z' es hrow
    cases hn
    have hv1 : Rv w T Rho.none (.l z ((es.drop o).take n)) v := by
     have := tell0_rv (T' := T) j.A.rows (fun _ _ h => h) hx (fun r' hr' b hb => by
      simp only [ref0,ja] at hr'
      subst hr'
      obtain ⟨x,p,base,hx,hl,_⟩ := hb
      rw [hrow] at hx
      cases hx
      cases hl) (by intros; simp) (by intros; simp) (by intros; simp)
     simpa only [tell0,hrow,zN,Row.win] using this
    exact ⟨ρ0,j,hv1.any,fun _ _ h => h⟩
   ·cases hn
 ·rename_i n1 n2
  cases hn
  have hv1 : Rv w T Rho.none (tell0 h x) v := tell0_cell (T := T) (T' := T) j.A.rows (fun _ _ h => h) h1 hx fun r' hr' => by
   exfalso
   cases x <;> simp [ref0] at hr'
   exact n2 _ _ _ _ rfl
  rw [unC_rv hv1]
  exact ⟨ρ0,j,hv1.any,fun _ _ h => h⟩
theorem unL_len : ∀ (xs : List AV) (s : Nat) (h : Heap),(unL s h xs).1.length = xs.length := by
 intro xs
 induction xs with
 | nil => intro s h; rfl
 | cons x xs ih => intro s h; simp [unL,ih]
theorem unC_other {s q : Nat} (hne : q ≠ s) (g : Heap) (x : AV) : (unC s g x).2 q = g q := by
 unfold unC
 split
 ·exact put_self_none _ hne
 ·rfl
theorem J.cells : ∀ (xs : List AV) {ρ0 : Rho} {h h0 h' : Heap} {ys : List AV} {s : Nat} {v : Nat → Value},J f w T ρ h ρ0 e0 h0 ls a → (∀ c,c < xs.length → Rv w T ρ (xs.getD c .junk) (v c) ∧ (v c).oneCell' = true) → (∀ c,c < xs.length → h0 (s + c) = none ∧ s + c ∉ f.lids) → nestL ls2 h xs = some (ys,h') → (∀ q z o n,AV.sl q z o n ∈ xs → q ∉ ls2 → q ∉ f.lids) →
  ∃ ρ0',J f w T ρ h' ρ0' e0 (unL s h0 ys).2 ls a ∧ (∀ c,c < xs.length → Rv w T ρ0' ((unL s h0 ys).1.getD c .junk) (v c)) ∧ ys.length = xs.length ∧ (∀ q p,ρ0 q = some p → ρ0' q = some p) := by
 intro xs
 induction xs with
 | nil =>
  intro ρ0 h h0 h' ys s v j hx hq hn _
  cases hn
  exact ⟨ρ0,j,fun c hc => absurd hc (Nat.not_lt_zero c),rfl,fun _ _ h => h⟩
 | cons x xs ih =>
  intro ρ0 h h0 h' ys s v j hx hq hn hall
  simp only [nestL,zy,zw] at hn
  obtain ⟨⟨y,h1⟩,hc,⟨ys',h2⟩,hl,he⟩ := hn
  cases he
  have hx0 := hx 0 (by simp)
  have hq0 := hq 0 (by simp)
  obtain ⟨ρ1,j1,r1,m1⟩ := j.cell (x := x) (s := s) hx0.1 hx0.2 hq0.1 hq0.2 (fun q z o n e => hall q z o n (e ▸ zG)) hc
  obtain ⟨ρ2,j2,r2,l2,m2⟩ := ih (s := s + 1) (v := fun c => v (c + 1)) j1 (fun c hc => by have := hx (c + 1) (by simpa using hc); exact this) (fun c hc => by
   have := hq (c + 1) (by simpa using hc)
   refine ⟨?_,by rw [show s + 1 + c = s + (c + 1) by omega]; exact this.2⟩
   rw [unC_other (by omega),show s + 1 + c = s + (c + 1) by omega]
   exact this.1) hl fun q z o n hm => hall q z o n (zH _ hm)
  refine ⟨ρ2,j2,fun c hc => ?_,by simp [l2],fun q p hp => m2 q p (m1 q p hp)⟩
  cases c with
  | zero => exact r1.mono (Same.refl _ _) (fun _ _ h => h) m2
  | succ c => exact r2 c (by simpa using hc)
theorem nestC_keep {r : Nat} {cs : List AV} {x y : AV} {g g' : Heap} (hr : g r = some (.st cs)) (hn : nestC ls g x = some (y,g')) : g' r = some (.st cs) := by
 unfold nestC at hn
 split at hn
 ·cases hn; exact hr
 ·rename_i q z o n
  split at hn
  ·cases hn
  ·split at hn
   ·rename_i ap z' es hrow
    cases hn
    rw [put_self_none _ (fun e => by subst e; rw [hrow] at hr; cases hr)]
    exact hr
   ·cases hn; exact hr
   ·cases hn
 ·cases hn; exact hr
theorem nestL_keep {r : Nat} {cs : List AV} : ∀ (xs : List AV) {ys : List AV} {g g' : Heap},g r = some (.st cs) → nestL ls g xs = some (ys,g') → g' r = some (.st cs) := by
 intro xs
 induction xs with
 | nil => intro ys g g' hr hn; cases hn; exact hr
 | cons x xs ih =>
  intro ys g g' hr hn
  simp only [nestL,zy,zw] at hn
  obtain ⟨⟨y,h1⟩,hc,⟨ys',h2⟩,hl,he⟩ := hn
  cases he
  exact ih (nestC_keep hr hc) hl
theorem unL_other {q : Nat} : ∀ (xs : List AV) (s : Nat) (g : Heap),q < s → (unL s g xs).2 q = g q := by
 intro xs
 induction xs with
 | nil => intro s g h; rfl
 | cons x xs ih =>
  intro s g h
  show (unL (s + 1) (unC s g x).2 xs).2 q = g q
  rw [ih _ _ (by omega),unC_other (by omega)]
theorem J.struct2 (j : J f w T ρ h ρ0 e0 h0 ls a) {r : Nat} {cs ys : List AV} {h' : Heap} (hr : h r = some (.st cs)) {q : Nat} (hq : h0 q = none) (hown : q ∈ f.lids ∧ q = r ∧ q ∉ ls ∨ q ∉ f.lids ∧ r ∉ f.lids) (ls' : List Nat) (hls : q ∈ f.lids ∧ ls' = q :: ls ∨ ls' = ls ∧ q ∉ f.lids) (hall : ∀ q z o n,AV.sl q z o n ∈ cs → q ∉ ls2 → q ∉ f.lids)
  (hfresh : ∀ c,c < cs.length → h0 (q + 1 + c) = none ∧ q + 1 + c ∉ f.lids) (hn : nestL ls2 h cs = some (ys,h')) :
  ∃ ρ0' b base,J f w T ρ (h'.put r .dead) ρ0' e0 ((unL (q + 1) h0 ys).2.put q (.st (unL (q + 1) h0 ys).1)) ls' a ∧ ρ r = some ⟨cs.length,1,some (b,base)⟩ ∧ ρ0' q = some ⟨cs.length,1,some (b,base)⟩ := by
 obtain ⟨b,base,cur,el,h3,h4,h5,h6,h7⟩ := j.A.rows r _ hr
 have hcell : ∀ c,c < cs.length → Rv w T ρ (cs.getD c .junk) ((w.cell? ⟨b,base + c,none⟩).getD undef) ∧ ((w.cell? ⟨b,base + c,none⟩).getD undef).oneCell' = true ∧ w.cell? ⟨b,base + c,none⟩ = some ((w.cell? ⟨b,base + c,none⟩).getD undef) := by
  intro c hc
  obtain ⟨v,h8,h9,h10⟩ := h7.cell 0 c (by simp) hc
  rw [Nat.zero_mul,Nat.add_zero] at h8
  rw [h8]
  exact ⟨h10,h9,rfl⟩
 obtain ⟨ρ1,j1,r1,l1,m1⟩ := J.cells cs (s := q + 1) (v := fun c => (w.cell? ⟨b,base + c,none⟩).getD undef) j (fun c hc => ⟨(hcell c hc).1,(hcell c hc).2.1⟩) hfresh hn hall
 have hr' := nestL_keep cs hr hn
 have hq' : (unL (q + 1) h0 ys).2 q = none := by rw [unL_other _ _ _ (by omega)]; exact hq
 have hlen : (unL (q + 1) h0 ys).1.length = cs.length := by rw [unL_len,l1]
 refine ⟨_,b,base,j1.move hr' rfl hq' (x := .st (unL (q + 1) h0 ys).1) (p := ⟨cs.length,1,some (b,base)⟩) (fun ρ' hmore hp => ?_) rfl (.inr ⟨_,b,base,base,h3,rfl,rfl,fun i h1 h2 => ⟨h1,h2⟩,fun hh => by cases hh⟩) ?_ ls' hls,h3,if_pos rfl⟩
 rotate_left
 ·rcases hown with ⟨h1,h2,h4⟩ | h1
  ·subst h2
   refine .inl ⟨h1,rfl,?_,h4,rfl⟩
   have := j.A.lp q h1
   rw [h3] at this
   exact Option.some.inj this
  ·exact .inr h1
 refine ⟨b,base,cur,el,by rw [hlen]; exact hp,h4,h5,by rw [hlen]; exact h6,⟨fun i hi => ?_,fun i c hi hc => ?_⟩⟩
 ·cases i with
  | zero => rfl
  | succ i => simp at hi
 ·cases i with
  | succ i => simp at hi
  | zero =>
   rw [hlen] at hc
   refine ⟨_,?_,(hcell c hc).2.1,(r1 c hc).mono (Same.refl _ _) (fun _ _ h => h) hmore⟩
   rw [Nat.zero_mul,Nat.add_zero]
   exact (hcell c hc).2.2
theorem unL_out : ∀ (xs : List AV) (s : Nat) (g : Heap) (q : Nat),q < s ∨ s + xs.length ≤ q → (unL s g xs).2 q = g q := by
 intro xs
 induction xs with
 | nil => intro s g q h; rfl
 | cons x xs ih =>
  intro s g q h
  simp only [zF] at h
  show (unL (s + 1) (unC s g x).2 xs).2 q = g q
  rw [ih _ _ _ (by omega),unC_other (by omega)]
theorem nestL_len : ∀ (xs : List AV) {ys : List AV} {g g' : Heap},nestL ls g xs = some (ys,g') → ys.length = xs.length := by
 intro xs
 induction xs with
 | nil => intro ys g g' hn; cases hn; rfl
 | cons x xs ih =>
  intro ys g g' hn
  simp only [nestL,zy,zw] at hn
  obtain ⟨⟨y,h1⟩,hc,⟨ys',h2⟩,hl,he⟩ := hn
  cases he
  simp [ih hl]
end
def idOf (p : Nat × Nat) : Nat := if p.2 = 2 ∨ p.2 = 5 then p.1 else pid p.1
def Flat (w : World) (T : Nat → Prop) (e : Nat → AV) (a : Act) : Prop := ∀ t,isRef (e t) = true ∨ Rv w T Rho.none (e t) (a.tmps.getD t undef)
def okL (lids : List Nat) : List Nat → List (Nat × Nat) → Bool
 | ls,[] => lids.all fun r => ls.contains r
 | ls,(t,0) :: l => !lids.contains (pid t) && okL lids ls l
 | ls,(t,1) :: l => lids.all (fun r => ls.contains r) && !lids.contains (pid t) && okL lids ls l
 | ls,(t,2) :: l => lids.contains t && !ls.contains t && okL lids (t :: ls) l
 | ls,(t,4) :: l => lids.all (fun r => ls.contains r && (decide (r < pid t) || decide (pid t + 100 ≤ r))) && okL lids ls l
 | ls,(t,5) :: l => lids.contains t && !ls.contains t && lids.all (fun r => decide (r = t) || (ls.contains r && (decide (r < t) || decide (t + 100 ≤ r)))) && decide (t % 100 = 0) && okL lids (t :: ls) l
 | _,_ => false
section
variable {f : Fr} {w : World} {T : Nat → Prop} {ρ ρ0 : Rho} {h h0 : Heap} {e e0 : Nat → AV} {ls : List Nat} {a : Act}
theorem un1_rv {av : AV} {v : Value} (k : Rv w T ρ av v) (g : Heap) (q : Nat) : un1 g q av = (av,g) := by cases k <;> rfl
theorem J.slice (j : J f w T ρ h ρ0 e0 h0 ls a) {t r z o n : Nat} {ap : Bool} {z' : Nat} {es : List (List AV)} (hr : h r = some (.sl ap z' es)) (hv : Rv w T ρ (.sl r z o n) (a.tmps.getD t undef)) (hq : h0 (pid t) = none) (hpl : pid t ∉ f.lids) (hrl : r ∉ f.lids) :
  ∃ ρ0',J f w T ρ (h.put r .dead) ρ0' (upd e0 t (.sl (pid t) z 0 ((es.drop o).take n).length)) (h0.put (pid t) (.sl (ap && apB z o n es.length) z ((es.drop o).take n))) ls a := by
 have ok := j.A.rows r _ hr
 generalize hx : a.tmps.getD t undef = v at hv
 have fin : ∀ {p : Pl} {x : Row} {av : AV},J f w T ρ (h.put r .dead) (fun s => if s = pid t then some p else ρ0 s) e0 (h0.put (pid t) x) ls a → Rv w T (fun s => if s = pid t then some p else ρ0 s) av v → isRef av = true →
   ∃ ρ0',J f w T ρ (h.put r .dead) ρ0' (upd e0 t av) (h0.put (pid t) x) ls a := by
  intro p x av j' hv' hi
  exact ⟨_,j'.setr (by rw [hx]; exact hv') hi⟩
 cases hv with
 | @sl _ _ _ _ _ m b base cap hρ hn hc hm hs =>
  rcases ok with ⟨_,_,h3⟩ | ⟨b',base',cur,el,h3,h4,h5,h6,h7,h8⟩
  ·rw [hρ] at h3; cases h3
  rw [hρ] at h3
  cases h3
  have hl : ((es.drop o).take n).length = n := by rw [zD,jd]; omega
  have key : ∀ j c,base + o * z + j * z + c = base + (o + j) * z + c := by intro j c; rw [zZ]; omega
  have hsz : base + o * z + n * z ≤ cur.size := by
   have := zK z hn
   rw [zZ] at this
   omega
  rw [hl]
  refine fin (p := ⟨z,n,some (b,base + o * z)⟩) (j.move hr rfl hq (x := .sl (ap && apB z o n es.length) z ((es.drop o).take n)) (p := ⟨z,n,some (b,base + o * z)⟩) (fun ρ' hmore hp => ?_) rfl (.inr ⟨_,b,base,base + o * z,hρ,rfl,rfl,fun i h1 h2 => ⟨by omega,?_⟩,fun hh => ?_⟩) (.inr ⟨hpl,hrl⟩) ls (.inr ⟨rfl,hpl⟩)) ?_ rfl
  ·refine .inr ⟨b,base + o * z,cur,el,by rw [hl]; exact hp,h4,h5,by rw [hl]; exact hsz,fun hh => ?_,⟨fun j hj => ?_,fun j c hj hc' => ?_⟩⟩
   ·simp only [apB,zu,decide_eq_true_eq] at hh
    obtain ⟨ha,ho,hf⟩ := hh
    obtain ⟨h71,h72⟩ := h7 ha
    refine ⟨by rw [h71,ho]; simp,fun hz o' v' ho' hv' => h72 hz o' v' ?_ hv'⟩
    subst hz
    rw [hl] at ho'
    have : n = es.length := by simpa [fullB] using hf
    omega
   ·rw [hl] at hj
    rw [getD_drop_take _ _ _ _ _ hj]
    exact h8.len _ (by omega)
   ·rw [hl] at hj
    rw [getD_drop_take _ _ _ _ _ hj,key]
    exact h8.cell _ c (by omega) hc'
  ·have := zK z hn
   rw [zZ] at this
   simp only at h2 ⊢
   omega
  ·simp only [Row.isAp,zu] at hh ⊢
   exact hh.1
  ·have := Rv.sl (w := w) (T := T) (ρ := fun s => if s = pid t then some ⟨z,n,some (b,base + o * z)⟩ else ρ0 s) (r := pid t) (o := 0) (n := n) (cap := cap) (if_pos rfl) (by omega) hc hm (by
    obtain ⟨cur2,e2,fr2,h9,h10⟩ := hs
    refine ⟨cur2,e2,fr2,h9,?_⟩
    rw [zZ] at h10
    rw [zX]
    omega)
   rw [Nat.zero_mul,Nat.add_zero] at this
   exact this
 | @slz _ _ _ _ m b base off hρ hn =>
  rcases ok with ⟨_,_,h3⟩ | ⟨b',base',cur,el,h3,h4,h5,h6,h7,h8⟩
  ·rw [hρ] at h3; cases h3
  rw [hρ] at h3
  cases h3
  rw [jk]
  refine fin (p := ⟨z,0,some (b,0)⟩) (j.move hr rfl hq (x := .sl (ap && apB z o 0 es.length) z []) (p := ⟨z,0,some (b,0)⟩) (fun ρ' hmore hp => ?_) rfl (.inr ⟨_,b,base,0,hρ,rfl,rfl,fun i h1 h2 => ?_,fun hh => ?_⟩) (.inr ⟨hpl,hrl⟩) ls (.inr ⟨rfl,hpl⟩)) ?_ rfl
  ·refine .inr ⟨b,0,cur,el,hp,h4,h5,by simp,fun hh => ⟨rfl,fun hz o' v' ho' hv' => ?_⟩,⟨fun j hj => (by cases hj),fun j c hj => (by cases hj)⟩⟩
   simp only [apB,zu,decide_eq_true_eq] at hh
   obtain ⟨ha,ho,hf⟩ := hh
   subst hz
   have : 0 = es.length := by simpa [fullB] using hf
   exact (h7 ha).2 rfl o' v' (by omega) hv'
  ·simp at h2
  ·simp only [Row.isAp,zu] at hh ⊢
   exact hh.1
  ·exact .slz (if_pos rfl) (zz _)
 | slnil hρ =>
  rcases ok with ⟨h1,h2,h3⟩ | ⟨b',base',cur,el,h3,h4,h5,h6,h7,h8⟩
  ·subst h1
   rw [List.drop_nil,List.take_nil]
   refine fin (p := ⟨z,0,none⟩) (j.move hr rfl hq (x := .sl (ap && apB z 0 0 ([] : List (List AV)).length) z []) (p := ⟨z,0,none⟩) (fun ρ' hmore hp => .inl ⟨rfl,trivial,hp⟩) rfl (.inl rfl) (.inr ⟨hpl,hrl⟩) ls (.inr ⟨rfl,hpl⟩)) ?_ rfl
   exact .slnil (if_pos rfl)
  ·rw [hρ] at h3
   have := congrArg Pl.loc (Option.some.inj h3)
   cases this
theorem J.struct (j : J f w T ρ h ρ0 e0 h0 ls a) {r : Nat} {cs : List AV} (hr : h r = some (.st cs)) (hnr : r ∉ cs.flatMap ref0) {q : Nat} (hq : h0 q = none) (hown : q ∈ f.lids ∧ q = r ∧ q ∉ ls ∨ q ∉ f.lids ∧ r ∉ f.lids) (ls' : List Nat) (hls : q ∈ f.lids ∧ ls' = q :: ls ∨ ls' = ls ∧ q ∉ f.lids) :
  ∃ T' ρ0' b base,J f w T' ρ ((h.freeze (cs.flatMap ref0)).put r .dead) ρ0' e0 (h0.put q (.st (cs.map (tell0 h)))) ls' a ∧ Goes w w T T' ρ ρ ∧ ρ r = some ⟨cs.length,1,some (b,base)⟩ ∧ ρ0' q = some ⟨cs.length,1,some (b,base)⟩ := by
 obtain ⟨T',j',g,hfree⟩ := j.freeze (cs.flatMap ref0)
 have hr' : (h.freeze (cs.flatMap ref0)) r = some (.st cs) := by rw [freeze_notin hnr]; exact hr
 obtain ⟨b,base,cur,el,h3,h4,h5,h6,h7⟩ := j'.A.rows r _ hr'
 refine ⟨T',_,b,base,j'.move hr' rfl hq (x := .st (cs.map (tell0 h))) (p := ⟨cs.length,1,some (b,base)⟩) (fun ρ' hmore hp => ?_) rfl (.inr ⟨_,b,base,base,h3,rfl,rfl,fun i h1 h2 => ⟨h1,h2⟩,fun hh => by cases hh⟩) ?_ ls' hls,g,h3,if_pos rfl⟩
 ·refine ⟨b,base,cur,el,by rw [zC]; exact hp,h4,h5,by rw [zC]; exact h6,⟨fun i hi => ?_,fun i c hi hc => ?_⟩⟩
  ·cases i with
   | zero => rfl
   | succ i => simp at hi
  ·cases i with
   | succ i => simp at hi
   | zero =>
    rw [zC] at hc
    obtain ⟨v,h8,h9,h10⟩ := h7.cell 0 c (by simp) hc
    refine ⟨v,?_,h9,?_⟩
    ·simpa only [Nat.zero_mul] using h8
    ·show Rv w T' ρ' ((cs.map (tell0 h)).getD c .junk) v
     rw [getD_map_lt (tell0 h) cs c .junk .junk hc]
     refine (tell0_cell (T := T) j.A.rows g.less h9 ?_ fun r' hr2 => hfree r' ?_).any
     ·-- the cell as it was ahead of the freezing
      obtain ⟨b2,base2,cur2,el2,k3,k4,k5,k6,k7⟩ := j.A.rows r _ hr
      rw [h3] at k3
      cases k3
      obtain ⟨v2,k8,k9,k10⟩ := k7.cell 0 c (by simp) hc
      rw [h8] at k8
      cases k8
      exact k10
     ·exact List.mem_flatMap.2 ⟨_,getD_mem _ hc,hr2⟩
 ·rcases hown with ⟨h1,rfl,h2⟩ | h1
  ·refine .inl ⟨h1,rfl,?_,h2,rfl⟩
   have := j.A.lp q h1
   rw [h3] at this
   exact Option.some.inj this
  ·exact .inr h1
theorem okL_tail {lids : List Nat} {t kd : Nat} {l : List (Nat × Nat)} {ls : List Nat} (hok : okL lids ls ((t,kd) :: l) = true) : ∃ ls',okL lids ls' l = true := by
 match kd,hok with
 | 0,hok => simp only [okL,zu] at hok; exact ⟨_,hok.2⟩
 | 1,hok => simp only [okL,zu] at hok; exact ⟨_,hok.2⟩
 | 2,hok => simp only [okL,zu] at hok; exact ⟨_,hok.2⟩
 | 3,hok => simp [okL] at hok
 | 4,hok => simp only [okL,zu] at hok; exact ⟨_,hok.2⟩
 | 5,hok => simp only [okL,zu] at hok; exact ⟨_,hok.2⟩
 | (n + 6),hok => simp [okL] at hok
theorem idOf_pid {p : Nat × Nat} (h2 : p.2 ≠ 2) (h5 : p.2 ≠ 5) : idOf p = pid p.1 := by unfold idOf; rw [if_neg (fun h => h.elim h2 h5)]
theorem pid_mod (t : Nat) : pid t % 100 = 0 := by unfold pid; omega
theorem okL_nest {lids : List Nat} : ∀ (l : List (Nat × Nat)) (ls : List Nat),okL lids ls l = true → ∀ p ∈ l,p.2 = 4 ∨ p.2 = 5 → idOf p % 100 = 0 ∧ ∀ r ∈ lids,r = idOf p ∨ r < idOf p ∨ idOf p + 100 ≤ r := by
 intro l
 induction l with
 | nil => intro ls _ p hp; cases hp
 | cons q l ih =>
  obtain ⟨t,kd⟩ := q
  intro ls hok p hp h4
  rcases List.mem_cons.1 hp with h | h
  ·cases h
   simp only at h4
   rcases h4 with rfl | rfl
   ·simp only [okL,zu,List.all_eq_true,Bool.or_eq_true,decide_eq_true_eq] at hok
    rw [idOf_pid (p := (t,4)) (by simp) (by simp)]
    exact ⟨pid_mod t,fun r hr => .inr (hok.1 r hr).2⟩
   ·simp only [okL,zu,List.all_eq_true,Bool.or_eq_true,decide_eq_true_eq] at hok
    have : idOf (t,5) = t := by unfold idOf; rw [if_pos (.inr rfl)]
    rw [this]
    exact ⟨hok.1.2,fun r hr => (hok.1.1.2 r hr).imp id fun h => h.2⟩
  ·obtain ⟨ls',h5⟩ := okL_tail hok
   exact ih ls' h5 p h h4
theorem okL_two {lids : List Nat} : ∀ (l : List (Nat × Nat)) (ls : List Nat),okL lids ls l = true → ∀ p ∈ l,p.2 = 2 ∨ p.2 = 5 → p.1 ∈ lids := by
 intro l
 induction l with
 | nil => intro ls _ p hp; cases hp
 | cons q l ih =>
  obtain ⟨t,kd⟩ := q
  intro ls hok p hp h2
  rcases List.mem_cons.1 hp with h | h
  ·cases h
   simp only at h2
   rcases h2 with rfl | rfl
   ·simp only [okL,zu,List.contains_iff_mem] at hok
    exact hok.1.1
   ·simp only [okL,zu,List.contains_iff_mem] at hok
    exact hok.1.1.1.1
  ·obtain ⟨ls',h5⟩ := okL_tail hok
   exact ih ls' h5 p h h2
def Free (g : Heap) (p : Nat × Nat) : Prop := g (idOf p) = none ∧ (p.2 = 4 ∨ p.2 = 5 → ∀ c,c < 99 → g (idOf p + 1 + c) = none)
theorem pack_sound : ∀ (l : List (Nat × Nat)) {T : Nat → Prop} {h : Heap} {ρ0 : Rho} {st : St} {ls : List Nat} {vs : List AV},
  J f w T ρ h ρ0 st.env st.h ls a → Env w T ρ e a → okL f.lids ls l = true → (l.map idOf).Nodup → (∀ p ∈ l,Free st.h p) → pack e ls h l = some vs →
  ∃ T' ρ',WInv f w T' ρ' (unpack l vs st).h ∧ Env w T' ρ' (unpack l vs st).env a ∧ Flat w T' (unpack l vs st).env a ∧ ∀ b,b < w.heap.size → T' b → T b := by
 intro l
 induction l with
 | nil =>
  intro T h ρ0 st ls vs j he hok hnd hfr hp
  simp only [okL,List.all_eq_true,List.contains_iff_mem] at hok
  have hst : unpack [] vs st = st := by cases vs <;> rfl
  rw [hst]
  refine ⟨T,ρ0,⟨j.A.keeps,j.A.tlt,j.rows,j.dom,j.sep,j.wr,fun b hb hn => ?_,fun r hr => (j.lp r (hok r hr)).2.1,j.own,j.A.t0lt,j.la,j.A.tab⟩,j.env,j.tn,fun _ _ h => h⟩
  rcases j.t0 b hb hn with h1 | ⟨r,h1,h2,_⟩
  ·exact .inl h1
  ·exact absurd (hok r h1) h2
 | cons p l ih =>
  obtain ⟨t,kd⟩ := p
  intro T h ρ0 st ls vs j he hok hnd hfr hp
  rw [List.map_cons,List.nodup_cons] at hnd
  have hq := (hfr (t,kd) zG).1
  have hq4 := (hfr (t,kd) zG).2
  -- what is put leaves the other places free
  have hnest := okL_nest _ _ hok
  have htwo := okL_two _ _ hok
  have hself : idOf (t,kd) % 100 = 0 ∨ idOf (t,kd) ∈ f.lids := by
   by_cases hk : kd = 2 ∨ kd = 5
   ·refine .inr ?_
    have : idOf (t,kd) = t := by unfold idOf; rw [if_pos hk]
    rw [this]
    exact htwo (t,kd) zG hk
   ·rw [idOf_pid (p := (t,kd)) (fun h => hk (.inl h)) fun h => hk (.inr h)]
    exact .inl (pid_mod t)
  have hput : ∀ (x : Row),∀ p ∈ l,Free (st.h.put (idOf (t,kd)) x) p := by
   intro x p hp
   have h1 := hfr p (zH _ hp)
   have hne : idOf p ≠ idOf (t,kd) := fun e => hnd.1 (List.mem_map.2 ⟨p,hp,e⟩)
   refine ⟨by rw [put_self_none _ hne]; exact h1.1,fun h4 c hc => ?_⟩
   rw [put_self_none _ ?_]
   ·exact h1.2 h4 c hc
   ·intro e
    obtain ⟨h5,h6⟩ := hnest p (zH _ hp) h4
    rcases hself with h7 | h7
    ·omega
    ·have := h6 _ h7
     omega
  -- a struct with rows leaves the other places free
  have hputN : ∀ (x : Row) (ys : List AV),ys.length < 99 → (∀ r ∈ f.lids,r = idOf (t,kd) ∨ r < idOf (t,kd) ∨ idOf (t,kd) + 100 ≤ r) → idOf (t,kd) % 100 = 0 → ∀ p ∈ l,Free ((unL (idOf (t,kd) + 1) st.h ys).2.put (idOf (t,kd)) x) p := by
   intro x ys hlen hout hmod p hp
   have h1 := hfr p (zH _ hp)
   have hne : idOf p ≠ idOf (t,kd) := fun e => hnd.1 (List.mem_map.2 ⟨p,hp,e⟩)
   have hself' : idOf p % 100 = 0 ∨ idOf p ∈ f.lids := by
    by_cases hk : p.2 = 2 ∨ p.2 = 5
    ·refine .inr ?_
     have : idOf p = p.1 := by unfold idOf; rw [if_pos hk]
     rw [this]
     exact htwo p (zH _ hp) hk
    ·rw [idOf_pid (fun h => hk (.inl h)) fun h => hk (.inr h)]
     exact .inl (pid_mod _)
   have hfar : idOf p < idOf (t,kd) ∨ idOf (t,kd) + 100 ≤ idOf p := by
    rcases hself' with h7 | h7
    ·omega
    ·have := hout _ h7
     omega
   refine ⟨?_,fun h4 c hc => ?_⟩
   ·rw [put_self_none _ hne,unL_out _ _ _ _ (by omega)]
    exact h1.1
   ·obtain ⟨h5,h6⟩ := hnest p (zH _ hp) h4
    rw [put_self_none _ (by omega),unL_out _ _ _ _ (by omega)]
    exact h1.2 h4 c hc
  have hkeep : ∀ p ∈ l,Free st.h p := fun p hp => hfr p (zH _ hp)
  -- a variable that is told
  have told : ∀ {vs' : List AV},okL f.lids ls l = true → kd = 0 ∨ kd = 1 → pack e ls (h.freeze (ref h (e t))) l = some vs' →
    ∃ T' ρ',WInv f w T' ρ' (unpack ((t,kd) :: l) (tell h (e t) :: vs') st).h ∧ Env w T' ρ' (unpack ((t,kd) :: l) (tell h (e t) :: vs') st).env a ∧ Flat w T' (unpack ((t,kd) :: l) (tell h (e t) :: vs') st).env a ∧ ∀ b,b < w.heap.size → T' b → T b := by
   intro vs' hok' hkd hp'
   obtain ⟨T1,j1,g1,hfree⟩ := j.freeze (ref h (e t))
   have hv : Rv w T1 Rho.none (tell h (e t)) (a.tmps.getD t undef) := tell_rv j.A.rows g1.less (he t) hfree
   have hun : unpack ((t,kd) :: l) (tell h (e t) :: vs') st = unpack l vs' ⟨upd st.env t (tell h (e t)),st.h⟩ := by
    rcases hkd with rfl | rfl <;> simp only [unpack,un1_rv hv]
   rw [hun]
   obtain ⟨T2,ρ2,h3,h4,h4',h5⟩ := ih (st := ⟨upd st.env t (tell h (e t)),st.h⟩) (j1.set hv) (he.goes g1) hok' hnd.2 hkeep hp'
   exact ⟨T2,ρ2,h3,h4,h4',fun b hb ht => g1.less b hb (h5 b hb ht)⟩
  match kd,hok,hp with
  | 0,hok,hp =>
   simp only [okL,zu] at hok
   simp only [pack,zw] at hp
   obtain ⟨vs',hp',rfl⟩ := hp
   exact told hok.2 (.inl rfl) hp'
  | 1,hok,hp =>
   simp only [okL,zu,List.all_eq_true,List.contains_iff_mem,Bool.not_eq_true',List.contains_eq_mem,decide_eq_false_iff_not,decide_eq_true_eq] at hok
   obtain ⟨⟨hall,hpl⟩,hok'⟩ := hok
   simp only [pack,zy,zw] at hp
   obtain ⟨⟨v,h1⟩,hv,vs',hp',rfl⟩ := hp
   have hid : idOf (t,1) = pid t := rfl
   rw [hid] at hq hput
   have hr := he t
   unfold packV at hv
   split at hv
   ·rename_i z hz
    cases hv
    rw [hz] at hr
    have hun : unpack ((t,1) :: l) (AV.own true z [] :: vs') st = unpack l vs' ⟨upd st.env t (.sl (pid t) z 0 0),st.h.put (pid t) (.sl true z [])⟩ := rfl
    rw [hun]
    have hvv : a.tmps.getD t undef = .slice none 0 0 := by generalize a.tmps.getD t undef = u at hr; cases hr; rfl
    exact ih (st := ⟨upd st.env t (.sl (pid t) z 0 0),st.h.put (pid t) (.sl true z [])⟩) ((j.nil hq hpl true z).setr (by rw [hvv]; exact .slnil (if_pos rfl)) rfl) he hok' hnd.2 (hput _) hp'
   ·rename_i r z o n hz
    rw [hz] at hr
    split at hv
    ·rename_i hrls
     cases hv
     obtain ⟨l1,l2,l3⟩ := j.lp r hrls
     have l4 := j.A.lp r l1
     have hun : unpack ((t,1) :: l) (AV.sl r z o n :: vs') st = unpack l vs' ⟨upd st.env t (.sl r z o n),st.h⟩ := rfl
     rw [hun]
     have hv0 : Rv w T ρ0 (.sl r z o n) (a.tmps.getD t undef) := by
      generalize a.tmps.getD t undef = u at hr
      cases hr with
      | sl hρ hn hc hm hs => rw [l4] at hρ; rw [Option.some.inj hρ] at l2; exact .sl l2 hn hc hm hs
      | slz hρ hn => rw [l4] at hρ; rw [Option.some.inj hρ] at l2; exact .slz l2 hn
      | slnil hρ => rw [l4] at hρ; rw [Option.some.inj hρ] at l2; exact .slnil l2
     exact ih (st := ⟨upd st.env t (.sl r z o n),st.h⟩) (j.setr hv0 rfl) he hok' hnd.2 hkeep hp'
    ·rename_i hrls
     have hrl : r ∉ f.lids := fun hm => hrls (hall r hm)
     split at hv
     ·rename_i ap z' es hrow
      cases hv
      obtain ⟨ρ1,j1⟩ := j.slice hrow hr hq hpl hrl
      exact ih (st := ⟨upd st.env t (.sl (pid t) z 0 ((es.drop o).take n).length),st.h.put (pid t) (.sl (ap && apB z o n es.length) z ((es.drop o).take n))⟩) j1 he hok' hnd.2 (hput _) hp'
     ·rename_i z' es hrow
      cases hv
      have hv1 : Rv w T Rho.none (.l z ((es.drop o).take n)) (a.tmps.getD t undef) := by
       have := tell0_rv (T' := T) j.A.rows (fun _ _ h => h) hr (fun r' hr' b hb => by
        simp only [ref0,ja] at hr'
        subst hr'
        obtain ⟨x,p,base,hx,hl,_⟩ := hb
        rw [hrow] at hx
        cases hx
        cases hl) (by intros; simp) (by intros; simp) (by intros; simp)
       simpa only [tell0,hrow,zN,Row.win] using this
      have hun : unpack ((t,1) :: l) (AV.l z ((es.drop o).take n) :: vs') st = unpack l vs' ⟨upd st.env t (.l z ((es.drop o).take n)),st.h⟩ := rfl
      rw [hun]
      exact ih (st := ⟨upd st.env t (.l z ((es.drop o).take n)),st.h⟩) (j.set hv1) he hok' hnd.2 hkeep hp'
     ·cases hv
   ·rename_i r pe po hz
    rw [hz] at hr
    split at hv
    ·rename_i hrls
     cases hv
     obtain ⟨l1,l2,l3⟩ := j.lp r hrls
     have l4 := j.A.lp r l1
     have hun : unpack ((t,1) :: l) (AV.p r pe po :: vs') st = unpack l vs' ⟨upd st.env t (.p r pe po),st.h⟩ := rfl
     rw [hun]
     have hv0 : Rv w T ρ0 (.p r pe po) (a.tmps.getD t undef) := by
      generalize a.tmps.getD t undef = u at hr
      cases hr with
      | p hρ => rw [l4] at hρ; rw [Option.some.inj hρ] at l2; exact .p l2
     exact ih (st := ⟨upd st.env t (.p r pe po),st.h⟩) (j.setr hv0 rfl) he hok' hnd.2 hkeep hp'
    split at hv
    rotate_left
    ·cases hv
    rename_i hrls hpo
    obtain ⟨rfl,rfl⟩ := hpo
    split at hv
    ·rename_i cs hrow
     split at hv
     ·cases hv
     ·rename_i hnr
      cases hv
      have hrl : r ∉ f.lids ∨ r ∈ f.lids := (Classical.em _).symm
      rcases hrl with hrl | hrl
      ·obtain ⟨T1,ρ1,b,base,j1,g1,h8,h9⟩ := j.struct hrow hnr hq (.inr ⟨hpl,hrl⟩) ls (.inr ⟨rfl,hpl⟩)
       have hv1 : Rv w T1 ρ1 (.p (pid t) 0 0) (a.tmps.getD t undef) := by
        generalize a.tmps.getD t undef = u at hr
        cases hr with
        | p hρ => rw [h8] at hρ; cases hρ; have := Rv.p (w := w) (T := T1) (ρ := ρ1) (e := 0) (o := 0) h9; simpa using this
       have hun : unpack ((t,1) :: l) (AV.ownp (cs.map (tell0 h)) :: vs') st = unpack l vs' ⟨upd st.env t (.p (pid t) 0 0),st.h.put (pid t) (.st (cs.map (tell0 h)))⟩ := rfl
       rw [hun]
       obtain ⟨T2,ρ2,q1,q2,q2',q3⟩ := ih (st := ⟨upd st.env t (.p (pid t) 0 0),st.h.put (pid t) (.st (cs.map (tell0 h)))⟩) (j1.setr hv1 rfl) (he.goes g1) hok' hnd.2 (hput _) hp'
       exact ⟨T2,ρ2,q1,q2,q2',fun b hb ht => g1.less b hb (q3 b hb ht)⟩
      ·exact absurd ((j.lp r (hall r hrl)).2.2 _ hrow) (by simp [Row.live])
    ·rename_i cs hrow
     cases hv
     obtain ⟨T1,j1,g1,hfree⟩ := j.freeze (cs.flatMap ref0)
     have hv1 : Rv w T1 Rho.none (.tp (cs.map (tell0 h)) 0) (a.tmps.getD t undef) := by
      have := tellC_rv (T' := T1) j.A.rows g1.less hr (fun r' hr' b hb => by
       simp only [refC,hrow,zN,Row.at,if_true] at hr'
       rcases List.mem_cons.1 hr' with rfl | hr'
       ·obtain ⟨x,p,base,hx,hl,_⟩ := hb
        rw [hrow] at hx
        cases hx
        cases hl
       ·exact hfree r' hr' b hb) (by intros; simp) (by intros; simp)
      simpa only [tellC,hrow,zN,Row.at,if_true] using this
     have hun : unpack ((t,1) :: l) (AV.tp (cs.map (tell0 h)) 0 :: vs') st = unpack l vs' ⟨upd st.env t (.tp (cs.map (tell0 h)) 0),st.h⟩ := rfl
     rw [hun]
     obtain ⟨T2,ρ2,q1,q2,q2',q3⟩ := ih (st := ⟨upd st.env t (.tp (cs.map (tell0 h)) 0),st.h⟩) (j1.set hv1) (he.goes g1) hok' hnd.2 hkeep hp'
     exact ⟨T2,ρ2,q1,q2,q2',fun b hb ht => g1.less b hb (q3 b hb ht)⟩
    ·cases hv
   ·rename_i n1 n2 n3
    cases hv
    exact told hok' (.inr rfl) hp'
  | 2,hok,hp =>
   simp only [okL,zu,List.contains_iff_mem,Bool.not_eq_true',List.contains_eq_mem,decide_eq_false_iff_not,decide_eq_true_eq] at hok
   obtain ⟨⟨htl,htls⟩,hok'⟩ := hok
   simp only [pack,zy,zw] at hp
   obtain ⟨⟨v,h1⟩,hv,vs',hp',rfl⟩ := hp
   have hid : idOf (t,2) = t := rfl
   rw [hid] at hq hput
   have hlp := j.A.lp t htl
   unfold packL at hv
   split at hv
   ·rename_i ap z es hrow
    cases hv
    have hap := j.A.la t htl _ hrow
    have ok := j.A.rows t _ hrow
    have hun : unpack ((t,2) :: l) (AV.own ap z es :: vs') st = unpack l vs' ⟨st.env,st.h.put t (.sl ap z es)⟩ := rfl
    rw [hun]
    refine ih (st := ⟨st.env,st.h.put t (.sl ap z es)⟩) (j.move hrow rfl hq (x := .sl ap z es) (p := f.pl0 t) (fun ρ' hmore hp => ?_) rfl ?_ (.inl ⟨htl,rfl,rfl,htls,hap⟩) (t :: ls) (.inl ⟨htl,rfl⟩)) he hok' hnd.2 (hput _) hp'
    ·rcases ok with ⟨h1,h2,h3⟩ | ⟨b',base',cur,el,h3,h4,h5,h6,h7,h8⟩
     ·rw [hlp] at h3; rw [Option.some.inj h3] at hp; exact .inl ⟨h1,h2,hp⟩
     ·rw [hlp] at h3; rw [Option.some.inj h3] at hp; exact .inr ⟨b',base',cur,el,hp,h4,h5,h6,h7,h8⟩
    ·rcases ok with ⟨h1,h2,h3⟩ | ⟨b',base',cur,el,h3,h4,h5,h6,h7,h8⟩
     ·rw [hlp] at h3; rw [Option.some.inj h3]; exact .inl rfl
     ·rw [hlp] at h3; rw [Option.some.inj h3] at hlp ⊢; exact .inr ⟨_,b',base',base',hlp,rfl,rfl,fun i h1 h2 => ⟨h1,h2⟩,fun hh => hh⟩
   ·rename_i cs hrow
    split at hv
    ·cases hv
    ·rename_i hnr
     cases hv
     obtain ⟨T1,ρ1,b,base,j1,g1,h8,h9⟩ := j.struct hrow hnr hq (.inl ⟨htl,rfl,htls⟩) (t :: ls) (.inl ⟨htl,rfl⟩)
     have hun : unpack ((t,2) :: l) (AV.ownp (cs.map (tell0 h)) :: vs') st = unpack l vs' ⟨st.env,st.h.put t (.st (cs.map (tell0 h)))⟩ := rfl
     rw [hun]
     obtain ⟨T2,ρ2,q1,q2,q2',q3⟩ := ih (st := ⟨st.env,st.h.put t (.st (cs.map (tell0 h)))⟩) j1 (he.goes g1) hok' hnd.2 (hput _) hp'
     exact ⟨T2,ρ2,q1,q2,q2',fun b hb ht => g1.less b hb (q3 b hb ht)⟩
   ·cases hv
  | 3,hok,hp => simp [okL] at hok
  | 4,hok,hp =>
   simp only [okL,zu,List.all_eq_true,List.contains_iff_mem,Bool.or_eq_true,decide_eq_true_eq] at hok
   obtain ⟨hall,hok'⟩ := hok
   simp only [pack,zy,zw] at hp
   obtain ⟨⟨v,h1⟩,hv,vs',hp',rfl⟩ := hp
   have hid : idOf (t,4) = pid t := rfl
   rw [hid] at hq
   have hr := he t
   have out : ∀ x,pid t ≤ x → x < pid t + 100 → x ∉ f.lids := fun x h1 h2 hm => by have := (hall x hm).2; omega
   unfold packN at hv
   split at hv
   ·rename_i r pe po hz
    rw [hz] at hr
    split at hv
    ·rename_i hpo
     obtain ⟨rfl,rfl⟩ := hpo
     split at hv
     ·rename_i cs hrow
      split at hv
      ·rename_i hlen
       simp only [zw] at hv
       obtain ⟨⟨ys,h2⟩,hnl,hv⟩ := hv
       cases hv
       have hrl : r ∉ f.lids := fun hm => by have := (j.lp r (hall r hm).1).2.2 _ hrow; cases this
       have hyl := nestL_len cs hnl
       obtain ⟨ρ1,b,base,j1,h8,h9⟩ := j.struct2 hrow hq (.inr ⟨out _ (zz _) (by omega),hrl⟩) ls (.inr ⟨rfl,out _ (zz _) (by omega)⟩) (fun q _ _ _ _ hq hm => hq (hall q hm).1) (fun c hc => ⟨hq4 (.inl rfl) c (by omega),out _ (by omega) (by omega)⟩) hnl
       have hv1 : Rv w T ρ1 (.p (pid t) 0 0) (a.tmps.getD t undef) := by
        generalize a.tmps.getD t undef = u at hr
        cases hr with
        | p hρ => rw [h8] at hρ; cases hρ; have := Rv.p (w := w) (T := T) (ρ := ρ1) (e := 0) (o := 0) h9; simpa using this
       have hun : unpack ((t,4) :: l) (AV.ownp ys :: vs') st = unpack l vs' ⟨upd st.env t (.p (pid t) 0 0),(unL (pid t + 1) st.h ys).2.put (pid t) (.st (unL (pid t + 1) st.h ys).1)⟩ := rfl
       rw [hun]
       have hN := hputN (.st (unL (pid t + 1) st.h ys).1) ys (by omega) (fun r hr => by
        have := (hall r hr).2
        rw [hid]
        omega) (by rw [hid]; exact pid_mod t)
       rw [hid] at hN
       exact ih (st := ⟨upd st.env t (.p (pid t) 0 0),(unL (pid t + 1) st.h ys).2.put (pid t) (.st (unL (pid t + 1) st.h ys).1)⟩) (j1.setr hv1 rfl) he hok' hnd.2 hN hp'
      ·cases hv
     ·cases hv
    ·cases hv
   ·cases hv
  | 5,hok,hp =>
   have hok0 := hok
   simp only [okL,zu,List.all_eq_true,List.contains_iff_mem,Bool.or_eq_true,decide_eq_true_eq,Bool.not_eq_true',List.contains_eq_mem,decide_eq_false_iff_not] at hok
   obtain ⟨⟨⟨⟨htl,htls⟩,hall⟩,hmod⟩,hok'⟩ := hok
   simp only [pack,zy,zw] at hp
   obtain ⟨⟨v,h1⟩,hv,vs',hp',rfl⟩ := hp
   have hid : idOf (t,5) = t := rfl
   rw [hid] at hq
   unfold packM at hv
   split at hv
   ·rename_i cs hrow
    split at hv
    ·rename_i hlen
     simp only [zw] at hv
     obtain ⟨⟨ys,h2⟩,hnl,hv⟩ := hv
     cases hv
     have hyl := nestL_len cs hnl
     have out : ∀ c,c < cs.length → t + 1 + c ∉ f.lids := fun c hc hm => by
      rcases hall _ hm with h | ⟨_,h⟩
      ·omega
      ·omega
     obtain ⟨ρ1,b,base,j1,h8,h9⟩ := j.struct2 hrow hq (.inl ⟨htl,rfl,htls⟩) (t :: ls) (.inl ⟨htl,rfl⟩) (fun q _ _ _ _ hq hm => hq (by
      rcases hall q hm with h | ⟨h,_⟩
      ·exact h ▸ zG
      ·exact zH _ h)) (fun c hc => ⟨hq4 (.inr rfl) c (by omega),out c hc⟩) hnl
     have hun : unpack ((t,5) :: l) (AV.ownp ys :: vs') st = unpack l vs' ⟨st.env,(unL (t + 1) st.h ys).2.put t (.st (unL (t + 1) st.h ys).1)⟩ := rfl
     rw [hun]
     have hN := hputN (.st (unL (t + 1) st.h ys).1) ys (by omega) (fun r hr => by
      rw [hid]
      rcases hall r hr with h | ⟨_,h⟩
      ·exact .inl h
      ·exact .inr h) (by rw [hid]; exact hmod)
     rw [hid] at hN
     exact ih (st := ⟨st.env,(unL (t + 1) st.h ys).2.put t (.st (unL (t + 1) st.h ys).1)⟩) j1 he hok' hnd.2 hN hp'
    ·cases hv
   ·cases hv
  | (n + 6),hok,hp => simp [okL] at hok
theorem canon {T : Nat → Prop} (k : WInv f w T ρ h) (he : Env w T ρ e a) {l : List (Nat × Nat)} {vs : List AV} (hok : okL f.lids [] l = true) (hnd : (l.map idOf).Nodup) (hp : pack e [] h l = some vs) :
  ∃ T' ρ',WInv f w T' ρ' (un l vs).h ∧ Env w T' ρ' (un l vs).env a ∧ Flat w T' (un l vs).env a := by
 have j : J f w T ρ h Rho.none St.none.env St.none.h [] a := ⟨k,fun _ => .junk,fun _ _ h => (by cases h),fun _ _ => rfl,fun _ _ _ _ _ h => (by cases h),fun _ _ _ _ _ h => (by cases h),fun _ _ _ _ _ _ h => (by cases h),fun _ _ _ h => (by cases h),fun _ _ _ _ _ h => (by cases h),fun _ h => (by cases h),fun _ => .inr .junk,fun b hb hn => by
  rcases k.t0 b hb hn with h1 | ⟨r,h1,h2⟩
  ·exact .inl h1
  ·exact .inr ⟨r,h1,by simp,h2⟩⟩
 obtain ⟨T',ρ',h1,h2,h3,_⟩ := pack_sound l j he hok hnd (fun _ _ => ⟨rfl,fun _ _ _ => rfl⟩) hp
 exact ⟨T',ρ',h1,h2,h3⟩
end
end Go.Pe
