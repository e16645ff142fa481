/- Proved: whatever is taken and refused, a meter counts it, and allows just as many as it has, for every input. No conditions. -/
import Derived.Test.YthkkidbbiodkjaaChecked
import Derived.WalkKit
import Derived.Below
import Derived.KernelRfl
import Derived.Laws.LoneSync
import Derived.BigQuiet
import Derived.Deep.QuietTactic
import Derived.WalkSmall
import Derived.Deep.MidRow
import Derived.Laws.IdiomCopy
import Derived.Laws.AppendOwn
import Derived.Laws.MakeOwn
import Derived.Great.BuildSlice
import Derived.Orders
import Derived.ChangeArms
import Derived.DataReads
import Derived.WideShapes
import Derived.Test.YthkkidbbiodkjaaRows
import Derived.ProofKit
import Derived.OpenShut
import Derived.ShutString
import Derived.ChangeOld
import Derived.SizedLaws
set_option linter.unusedVariables false
set_option linter.unusedSimpArgs false
set_option linter.unusedVariables false
set_option linter.unusedSimpArgs false
namespace Go.Proofs.Ythkkidbbiodkjaa
open Go.RowKit
theorem w64_eq (x : Int) : IntKind.i64.wrap x = wrap64 x := by rw [IntKind.wrap_i64]; unfold wrap64; omega
theorem add_c (b off : Nat) (x d : Int) (w : World) (hc : w.cell? ⟨b, off, none⟩ = some (.int .i64 x)) (hz : w.frozen? ⟨b, off, none⟩ = false) :
    Calls Try.prog 16 #[.pointer (some ⟨b, off, none⟩), .int .i64 d] w fun e w' => e = .returned (.int .i64 (wrap64 (x + d))) ∧ w' = w.setCell ⟨b, off, none⟩ (.int .i64 (wrap64 (x + d))) := by
  have hadd := run_call_add (P := Try.prog) Try.func20 (by kernel_rfl) (by kernel_rfl) (by kernel_rfl) .i64 (by kernel_rfl) (y := d) (s := wrap64 (x + d)) hc hz (by show Result.ok (Value.int .i64 (IntKind.i64.wrap (x + d))) w = _; rw [w64_eq])
  go_enter Try.func16, Try.ntmps16
  go_wp2
  go_ret
  exact ⟨rfl, rfl⟩
theorem store_c (b off : Nat) (x : Int) (u : Value) (w : World) (hc : w.cell? ⟨b, off, none⟩ = some u) (hz : w.frozen? ⟨b, off, none⟩ = false) :
    Calls Try.prog 17 #[.pointer (some ⟨b, off, none⟩), .int .i64 x] w fun e w' => e = .returned (.tuple #[]) ∧ w' = w.setCell ⟨b, off, none⟩ (.int .i64 x) := by
  have hst := run_call_store (P := Try.prog) Try.func21 (by kernel_rfl) (by kernel_rfl) (by kernel_rfl) (by kernel_rfl) (k := .i64) (y := x) hc hz
  go_enter Try.func17, Try.ntmps17
  go_wp2
  go_end0
  exact ⟨rfl, rfl⟩
theorem load_c (b off : Nat) (x : Int) (w : World) (hc : w.cell? ⟨b, off, none⟩ = some (.int .i64 x)) :
    Calls Try.prog 18 #[.pointer (some ⟨b, off, none⟩)] w fun e w' => e = .returned (.int .i64 x) ∧ w' = w := by
  have hl := run_call_load (P := Try.prog) Try.func22 (by kernel_rfl) (by kernel_rfl) (by kernel_rfl) .i64 (by kernel_rfl) hc
  go_enter Try.func18, Try.ntmps18
  go_wp2
  go_ret
  exact ⟨rfl, rfl⟩
structure Met (w : World) (b : Nat) (A R L : Int) (bd : Bool) : Prop where
  a : w.cell? ⟨b, 0, none⟩ = some (.int .i64 A)
  r : w.cell? ⟨b, 1, none⟩ = some (.int .i64 R)
  l : w.cell? ⟨b, 2, none⟩ = some (.int .i64 L)
  d : w.cell? ⟨b, 3, none⟩ = some (.bool bd)
  fa : w.frozen? ⟨b, 0, none⟩ = false
  fr : w.frozen? ⟨b, 1, none⟩ = false
  fl : w.frozen? ⟨b, 2, none⟩ = false
theorem take_free (b : Nat) (A R L : Int) (w : World) (m : Met w b A R L false) :
    Calls Try.prog 8 #[.pointer (some ⟨b, 0, none⟩)] w fun e w' => e = .returned (.bool true) ∧ w' = w.setCell ⟨b, 0, none⟩ (.int .i64 (wrap64 (A + 1))) := by
  obtain ⟨ha, hr, hl, hd, fa, fr, fl⟩ := m
  go_enter Try.func8, Try.ntmps8
  go_wp2_with (go_at_call 16; refine (add_c b 0 A 1 _ (by go_simp) (by go_simp)).mono ?_; rintro e w' ⟨rfl, rfl⟩)
  go_ret
  exact ⟨rfl, rfl⟩
theorem Met.setA {w : World} {b : Nat} {A R L : Int} {bd : Bool} (m : Met w b A R L bd) (x : Int) : Met (w.setCell ⟨b, 0, none⟩ (.int .i64 x)) b x R L bd := by
  obtain ⟨ha, hr, hl, hd, fa, fr, fl⟩ := m
  constructor <;> go_simp
theorem Met.setR {w : World} {b : Nat} {A R L : Int} {bd : Bool} (m : Met w b A R L bd) (x : Int) : Met (w.setCell ⟨b, 1, none⟩ (.int .i64 x)) b A x L bd := by
  obtain ⟨ha, hr, hl, hd, fa, fr, fl⟩ := m
  constructor <;> go_simp
theorem Met.setL {w : World} {b : Nat} {A R L : Int} {bd : Bool} (m : Met w b A R L bd) (x : Int) : Met (w.setCell ⟨b, 2, none⟩ (.int .i64 x)) b A R x bd := by
  obtain ⟨ha, hr, hl, hd, fa, fr, fl⟩ := m
  constructor <;> go_simp
set_option maxHeartbeats 1600000 in
theorem take_some (b : Nat) (A R L : Int) (w : World) (m : Met w b A R L true) (h : ¬ wrap64 (L + -1) < 0) :
    Calls Try.prog 8 #[.pointer (some ⟨b, 0, none⟩)] w fun e w' => e = .returned (.bool true) ∧ w' = (w.setCell ⟨b, 2, none⟩ (.int .i64 (wrap64 (L + -1)))).setCell ⟨b, 0, none⟩ (.int .i64 (wrap64 (A + 1))) := by
  have m2 := m.setL (wrap64 (L + -1))
  have hd := m.d
  have c1 := add_c b 2 L (-1) _ m.l m.fl
  have c2 := add_c b 0 A 1 _ m2.a m2.fa
  clear m m2
  go_enter Try.func8, Try.ntmps8
  go_wp2_with (go_at_call 16; first | (refine c1.mono ?_; rintro e w' ⟨rfl, rfl⟩) | (refine c2.mono ?_; rintro e w' ⟨rfl, rfl⟩))
  go_ret
  exact ⟨rfl, rfl⟩
set_option maxHeartbeats 1600000 in
theorem take_none (b : Nat) (A R L : Int) (w : World) (m : Met w b A R L true) (h : wrap64 (L + -1) < 0) :
    Calls Try.prog 8 #[.pointer (some ⟨b, 0, none⟩)] w fun e w' => e = .returned (.bool false) ∧ w' = ((w.setCell ⟨b, 2, none⟩ (.int .i64 (wrap64 (L + -1)))).setCell ⟨b, 2, none⟩ (.int .i64 0)).setCell ⟨b, 1, none⟩ (.int .i64 (wrap64 (R + 1))) := by
  have m2 := m.setL (wrap64 (L + -1))
  have m3 := m2.setL 0
  have hd := m.d
  have c1 := add_c b 2 L (-1) _ m.l m.fl
  have c2 := store_c b 2 0 _ _ m2.l m2.fl
  have c3 := add_c b 1 R 1 _ m3.r m3.fr
  clear m m2 m3
  go_enter Try.func8, Try.ntmps8
  go_wp2_with (first | (go_at_call 17; refine c2.mono ?_; rintro e w' ⟨rfl, rfl⟩) | (go_at_call 16; first | (refine c1.mono ?_; rintro e w' ⟨rfl, rfl⟩) | (refine c3.mono ?_; rintro e w' ⟨rfl, rfl⟩)))
  go_ret
  exact ⟨rfl, rfl⟩
theorem take_nil (w : World) : Calls Try.prog 8 #[.pointer none] w fun e w' => e = .returned (.bool false) ∧ w' = w := by
  go_enter Try.func8, Try.ntmps8
  go_wp2
  go_ret
  exact ⟨rfl, rfl⟩
theorem refuse_c (b : Nat) (A R L : Int) (bd : Bool) (w : World) (m : Met w b A R L bd) :
    Calls Try.prog 13 #[.pointer (some ⟨b, 0, none⟩)] w fun e w' => e = .returned (.tuple #[]) ∧ w' = w.setCell ⟨b, 1, none⟩ (.int .i64 (wrap64 (R + 1))) := by
  have c3 := add_c b 1 R 1 _ m.r m.fr
  clear m
  go_enter Try.func13, Try.ntmps13
  go_wp2_with (go_at_call 16; refine c3.mono ?_; rintro e w' ⟨rfl, rfl⟩)
  go_end0
  exact ⟨rfl, rfl⟩
theorem left_free (b : Nat) (A R L : Int) (w : World) (m : Met w b A R L false) :
    Calls Try.prog 14 #[.pointer (some ⟨b, 0, none⟩)] w fun e w' => e = .returned (.int .i64 (-1)) ∧ w' = w := by
  have hd := m.d
  clear m
  go_enter Try.func14, Try.ntmps14
  go_wp2
  go_ret
  exact ⟨rfl, rfl⟩
set_option maxHeartbeats 1600000 in
theorem left_some (b : Nat) (A R L : Int) (w : World) (m : Met w b A R L true) :
    Calls Try.prog 14 #[.pointer (some ⟨b, 0, none⟩)] w fun e w' => e = .returned (.int .i64 L) ∧ w' = w := by
  have hd := m.d
  have c1 := load_c b 2 L _ m.l
  clear m
  go_enter Try.func14, Try.ntmps14
  go_wp2_with (go_at_call 18; refine c1.mono ?_; rintro e w' ⟨rfl, rfl⟩)
  go_ret
  exact ⟨rfl, rfl⟩
theorem Met.drewN {w : World} {b : Nat} {A R L : Int} {bd : Bool} (m : Met w b A R L bd) (n : Nat) : Met (w.drewN n) b A R L bd := ⟨m.a, m.r, m.l, m.d, m.fa, m.fr, m.fl⟩
set_option maxHeartbeats 1600000 in
theorem counts_c (b : Nat) (A R L : Int) (bd : Bool) (w : World) (m : Met w b A R L bd) :
    Calls Try.prog 9 #[.pointer (some ⟨b, 0, none⟩)] w fun e w' => e = .returned (.tuple #[.int .i64 A, .int .i64 R]) ∧ ∃ n, w' = w.drewN n := by
  have c1 : ∀ n, Calls Try.prog 18 #[.pointer (some ⟨b, 0, none⟩)] (w.drewN n) fun e w' => e = .returned (.int .i64 A) ∧ w' = w.drewN n := fun n => load_c b 0 A _ (m.drewN n).a
  have c2 : ∀ n, Calls Try.prog 18 #[.pointer (some ⟨b, 1, none⟩)] (w.drewN n) fun e w' => e = .returned (.int .i64 R) ∧ w' = w.drewN n := fun n => load_c b 1 R _ (m.drewN n).r
  clear m
  go_enter Try.func9, Try.ntmps9
  go_wp2_with fail
  go_quiet (first | (go_at_call 18; exact Calls.quiet_of_same (c1 _)) | (go_at_call 18; exact Calls.quiet_of_same (c2 _)))
  go_wp2
  go_ret2
  exact ⟨rfl, _, rfl⟩
end Go.Proofs.Ythkkidbbiodkjaa
set_option linter.unusedVariables false
set_option linter.unusedSimpArgs false
namespace Go.Proofs.Ythkkidbbiodkjaa
open Go.RowKit
def mobj (A R L : Int) (bd : Bool) : Obj := Obj.cells #[.int .i64 A, .int .i64 R, .int .i64 L, .bool bd] 46
theorem met_alloc (w : World) (A R L : Int) (bd : Bool) : Met (w.alloc (mobj A R L bd)) w.heap.size A R L bd := by
  unfold mobj
  constructor <;> go_simp
theorem new_c (w : World) : Calls Try.prog 7 #[] w fun e w' => e = .returned (.pointer (some ⟨w.heap.size, 0, none⟩)) ∧ w' = w.alloc (mobj 0 0 0 false) := by
  go_enter Try.func7, Try.ntmps7
  go_wp2
  go_ret
  exact ⟨rfl, rfl⟩
theorem bound_c (n : Int) (h : ¬ n < 0) (w : World) : Calls Try.prog 15 #[.int .i64 n] w fun e w' => e = .returned (.tuple #[.pointer (some ⟨w.heap.size, 0, none⟩), .int .i64 0]) ∧ w' = w.alloc (mobj 0 0 n true) := by
  have m := met_alloc w 0 0 0 true
  have c1 := store_c w.heap.size 2 n _ _ m.l m.fl
  clear m
  unfold mobj at c1 ⊢
  go_enter Try.func15, Try.ntmps15
  go_wp2_with (go_at_call 17; refine c1.mono ?_; rintro e w' ⟨rfl, rfl⟩)
  go_ret2
  exact ⟨rfl, rfl⟩
theorem bound_err (n : Int) (h : n < 0) (w : World) : Calls Try.prog 15 #[.int .i64 n] w fun e w' => e = .returned (.tuple #[.pointer none, .int .i64 8]) ∧ w' = w := by
  go_enter Try.func15, Try.ntmps15
  go_wp2
  go_ret2
  exact ⟨rfl, rfl⟩
theorem al_a (w : World) (A R L x : Int) (bd : Bool) : (w.alloc (mobj A R L bd)).setCell ⟨w.heap.size, 0, none⟩ (.int .i64 x) = w.alloc (mobj x R L bd) := by unfold mobj; go_simp
theorem al_r (w : World) (A R L x : Int) (bd : Bool) : (w.alloc (mobj A R L bd)).setCell ⟨w.heap.size, 1, none⟩ (.int .i64 x) = w.alloc (mobj A x L bd) := by unfold mobj; go_simp
theorem al_l (w : World) (A R L x : Int) (bd : Bool) : (w.alloc (mobj A R L bd)).setCell ⟨w.heap.size, 2, none⟩ (.int .i64 x) = w.alloc (mobj A R x bd) := by unfold mobj; go_simp
theorem wrp {x : Int} (h0 : -9223372036854775808 ≤ x) (h1 : x ≤ 9223372036854775807) : wrap64 x = x := by unfold wrap64; omega
theorem take_a1 (w : World) : Calls Try.prog 8 #[.pointer (some ⟨w.heap.size, 0, none⟩)] (w.alloc (mobj 0 0 1 true)) fun e w' => e = .returned (.bool true) ∧ w' = w.alloc (mobj 1 0 0 true) := by
  refine (take_some w.heap.size 0 0 1 _ (met_alloc w 0 0 1 true) (by rw [wrp (by omega) (by omega)]; omega)).mono fun e w' ⟨h1, h2⟩ => ⟨h1, ?_⟩
  rw [h2, al_l, al_a, wrp (by omega) (by omega), wrp (by omega) (by omega)]; rfl
theorem take_a2 (w : World) : Calls Try.prog 8 #[.pointer (some ⟨w.heap.size, 0, none⟩)] (w.alloc (mobj 1 0 0 true)) fun e w' => e = .returned (.bool false) ∧ w' = w.alloc (mobj 1 1 0 true) := by
  refine (take_none w.heap.size 1 0 0 _ (met_alloc w 1 0 0 true) (by rw [wrp (by omega) (by omega)]; omega)).mono fun e w' ⟨h1, h2⟩ => ⟨h1, ?_⟩
  rw [h2, al_l, al_l, al_r, wrp (x := 0 + 1) (by omega) (by omega)]; rfl
theorem default_c (w : World) : Calls Try.prog 19 #[] w fun e w' => e = .returned (.agg #[.int .i64 1000, .int .i64 100, .int .i64 100, .int .i64 200]) ∧ w' = w.alloc (Obj.cells #[.int .i64 1000, .int .i64 100, .int .i64 100, .int .i64 200] 30) := by
  go_enter Try.func19, Try.ntmps19
  go_wp2
  refine bodyPost_ret (v := .agg #[.int .i64 1000, .int .i64 100, .int .i64 100, .int .i64 200]) (by simp [results, Try.results19, go_sem]) rfl ⟨rfl, rfl⟩
set_option maxHeartbeats 3200000 in
theorem awake_c (w : World) : Calls Try.prog 10 #[] w fun e w' => e = .returned (.bool true) ∧ Below w.heap.size w w' := by
  have c1 := bound_c 1 (by decide) w
  have c2 := take_a1 w
  have c3 := take_a2 w
  have c4 := counts_c w.heap.size 1 1 0 true _ (met_alloc w 1 1 0 true)
  unfold mobj at c1 c2 c3 c4
  go_enter Try.func10, Try.ntmps10
  go_wp2_with (first | (go_at_call 15; refine c1.mono ?_; rintro e w' ⟨rfl, rfl⟩) | (go_at_call 8; first | (refine c2.mono ?_; rintro e w' ⟨rfl, rfl⟩) | (refine c3.mono ?_; rintro e w' ⟨rfl, rfl⟩)) | (go_at_call 9; refine c4.mono ?_; rintro e w' ⟨rfl, nq, rfl⟩) | (go_at_call 19; refine (default_c _).mono ?_; rintro e w' ⟨rfl, rfl⟩))
  go_ret
  refine ⟨rfl, ?_⟩
  exact (below_drewN ((Below.refl _ w).alloc (Nat.le_refl _) _) nq).alloc (by simp) _
end Go.Proofs.Ythkkidbbiodkjaa
set_option linter.unusedVariables false
set_option linter.unusedSimpArgs false
namespace Go.Proofs.Ythkkidbbiodkjaa
open Go.RowKit
theorem Met.other {w : World} {b c o : Nat} {A R L : Int} {bd : Bool} (m : Met w b A R L bd) (h : c ≠ b) (v : Value) : Met (w.setCell ⟨c, o, none⟩ v) b A R L bd := by
  have hb := Below.heap_setCell w ⟨c, o, none⟩ v b (fun e => h e.symm)
  exact ⟨(World.cell?_of_block hb).trans m.a, (World.cell?_of_block hb).trans m.r, (World.cell?_of_block hb).trans m.l, (World.cell?_of_block hb).trans m.d, (World.frozen?_of_block hb).trans m.fa, (World.frozen?_of_block hb).trans m.fr, (World.frozen?_of_block hb).trans m.fl⟩
def Sb (w : World) (pa : Option Addr) (n : Nat) : Prop := ∀ i : Nat, i < n → ∃ b base q, pa = some ⟨b, base, none⟩ ∧ b < w.heap.size ∧ w.cell? ⟨b, base + i, none⟩ = some (.bool q)
end Go.Proofs.Ythkkidbbiodkjaa
namespace Go.Pe
inductive AV where
  | junk
  | b (x : Bool)
  | i (k : IntKind) (n : Int)
  | s (x : ByteArray)
  | np
  | ns (z : Nat)
  | l (z : Nat) (es : List (List AV))
  | tp (cs : List AV) (o : Nat)
  | sl (r z o n : Nat)
  | p (r e o : Nat)
  | agg (cs : List AV)
  | tup (cs : List AV)
  | own (ap : Bool) (z : Nat) (es : List (List AV))
  | ownp (cs : List AV)
  | back (v : AV) (outs : List AV)
  deriving Inhabited
inductive Row where
  | sl (ap : Bool) (z : Nat) (es : List (List AV))
  | st (cs : List AV)
  | fsl (z : Nat) (es : List (List AV))
  | fst (cs : List AV)
  | dead
abbrev Heap := Nat → Option Row
structure St where
  env : Nat → AV
  h : Heap
def Heap.none : Heap := fun _ => .none
def Heap.put (h : Heap) (r : Nat) (x : Row) : Heap := fun q => if q = r then some x else h q
def Row.freeze : Row → Row
  | .sl _ z es => .fsl z es
  | .st cs => .fst cs
  | x => x
def Heap.freeze (h : Heap) : List Nat → Heap
  | [] => h
  | r :: rs => fun q => if q = r then (h.freeze rs q).map Row.freeze else h.freeze rs q
inductive At where
  | t (n : Nat)
  | c (v : AV)
def upd (e : Nat → AV) (d : Nat) (v : AV) : Nat → AV := fun t => if t = d then v else e t
def At.ev (e : Nat → AV) : At → AV
  | .t n => e n
  | .c v => v
def AV.cells : AV → List AV
  | .agg cs => cs
  | .junk | .tup _ | .own _ _ _ | .ownp _ | .back _ _ => []
  | v => [v]
def Row.win (o n : Nat) : Row → Option (List (List AV))
  | .sl _ _ es | .fsl _ es => some ((es.drop o).take n)
  | _ => none
def Row.at (e : Nat) : Row → Option (List AV)
  | .sl _ _ es | .fsl _ es => es[e]?
  | .st cs | .fst cs => if e = 0 then some cs else none
  | .dead => none
def tell0 (h : Heap) : AV → AV
  | .ns z => .l z []
  | .sl r z o n => match (h r).bind (Row.win o n) with | some es => .l z es | none => .junk
  | .p _ _ _ => .junk
  | .own _ z es => .l z es
  | .ownp _ => .junk
  | v => v
def tellC (h : Heap) : AV → AV
  | .p r e o => match (h r).bind (Row.at e) with | some cs => .tp (cs.map (tell0 h)) o | none => .junk
  | v => tell0 h v
def tell1 (h : Heap) : AV → AV
  | .agg cs => .agg (cs.map (tellC h))
  | .tup _ => .junk
  | v => tellC h v
def tell (h : Heap) : AV → AV
  | .tup cs => .tup (cs.map (tell1 h))
  | .back _ _ => .junk
  | v => tell1 h v
def ref0 : AV → List Nat
  | .sl r _ _ _ => [r]
  | _ => []
def refC (h : Heap) : AV → List Nat
  | .p r e _ => r :: (match (h r).bind (Row.at e) with | some cs => cs.flatMap ref0 | none => [])
  | v => ref0 v
def ref1 (h : Heap) : AV → List Nat
  | .agg cs => cs.flatMap (refC h)
  | v => refC h v
def ref (h : Heap) : AV → List Nat
  | .tup cs => cs.flatMap (ref1 h)
  | v => ref1 h v
def AV.flat : AV → Bool
  | .b _ | .i _ _ | .s _ => true
  | _ => false
def AV.scalar : AV → Bool
  | .tup cs => cs.all AV.flat
  | v => v.flat
def byteNs : List (List AV) → Option (List Int)
  | [] => some []
  | [.i .u8 n] :: l => (byteNs l).map fun ns => n :: ns
  | _ => none
def bytesS (ns : List Int) : ByteArray := ns.foldl (fun r n => r.push (UInt8.ofNat n.toNat)) ByteArray.empty
inductive PO where
  | mv (x : At)
  | pick (c x y : At)
  | box (id sz : Nat) (x : At)
  | alloc (id : Nat) (z : List AV)
  | build (z : List AV) (ps : List (Nat × Nat × At))
  | bsl (id sz : Nat) (z : List AV) (n : Nat) (ps : List (Nat × At))
  | ld (agg : Bool) (sz : Nat) (x : At)
  | st (sz : Nat) (x v : At)
  | nck (x : At)
  | bin (op : BinOp) (x y : At)
  | eqb (neg : Bool) (x y : At)
  | eqs (neg : Bool) (x y : At)
  | not (x : At)
  | neg (x : At)
  | conv (k : IntKind) (x : At)
  | b2s (x : At)
  | mk (id sz bytes : Nat) (z : List AV) (l : At)
  | cut (sz : Nat) (x : At) (lo hi mx : Option At)
  | scut (x : At) (lo hi : Option At)
  | fld (o : Nat) (x : At)
  | idx (sz : Nat) (x i : At)
  | idxa (n sz : Nat) (x i : At)
  | sidx (x i : At)
  | ext (n : Nat) (x : At)
  | fpt (agg : Bool) (sz o : Nat) (x : At)
  | len (x : At)
  | slen (x : At)
  | min (x y : At)
  | max (x y : At)
  | app (id sz bytes : Nat) (x y : At)
  | copy (x y : At)
  | call (f : Nat) (xs : List At)
  | callw (f : Nat) (xs : List At) (li : Nat)
  | callo (f : Nat) (xs : List At) (id : Nat)
structure POp where
  dst : Option Nat
  op : PO
  guard : Option (Nat × Bool)
inductive PC where
  | skip
  | reg (chk : List (Nat × Nat)) (ops : List POp)
  | seq (x y : PC)
  | cond (c : At) (x y : PC)
  | block (id : Nat) (x : PC)
  | loop (live out : List (Nat × Nat)) (x : PC)
  | join (out : List (Nat × Nat)) (x : PC)
  | exit (id : Nat)
  | ret
inductive PR where
  | tmp (t : Nat)
  | cell (t : Nat) (agg : Bool) (sz : Nat)
structure PF where
  res : List (PR × Nat)
  lent : List Nat
  body : PC
inductive Ex where
  | normal
  | exit (id : Nat)
  | ret
def binI (op : BinOp) (k : IntKind) (x y : Int) : Option AV :=
  match op with
  | .add => some (.i k (k.wrap (x + y)))
  | .sub => some (.i k (k.wrap (x - y)))
  | .mul => some (.i k (k.wrap (x * y)))
  | .quo => if y = 0 then none else some (.i k (k.wrap (x.tdiv y)))
  | .rem => if y = 0 then none else some (.i k (x.tmod y))
  | .and | .or | .xor => some (.i k (Go.bits op k x y))
  | .eql => some (.b (decide (x = y)))
  | .neq => some (.b (!decide (x = y)))
  | .lss => some (.b (decide (x < y)))
  | .leq => some (.b (decide (x ≤ y)))
  | .gtr => some (.b (decide (y < x)))
  | .geq => some (.b (decide (y ≤ x)))
  | _ => none
def shI (op : BinOp) (k : IntKind) (x y : Int) : Option AV :=
  if y < 0 then none else
  match op with
  | .shl => some (.i k (k.wrap (x * 2 ^ Nat.min y.toNat k.bits)))
  | .shr => some (.i k (x.fdiv (2 ^ Nat.min y.toNat k.bits)))
  | _ => none
def eqFlat : AV → AV → Option Bool
  | .b x, .b y => some (x == y)
  | .i _ x, .i _ y => some (decide (x = y))
  | .s x, .s y => some (decide (x.toList = y.toList))
  | .np, .np => some true
  | _, _ => none
def eqCells : List AV → List AV → Option Bool
  | [], [] => some true
  | x :: xs, y :: ys => (eqFlat x y).bind fun a => (eqCells xs ys).map fun b => a && b
  | _, _ => none
def binV (op : BinOp) (x y : AV) : Option AV :=
  match x, y with
  | .i k x, .i k' y => match op with
    | .shl | .shr => shI op k x y
    | _ => if k = k' then binI op k x y else none
  | .s x, .s y => match op with
    | .eql => some (.b (decide (x.toList = y.toList)))
    | .neq => some (.b (!decide (x.toList = y.toList)))
    | .add => if x.size + y.size ≤ 9223372036854775807 then some (.s (x ++ y)) else none
    | _ => none
  | _, _ => none
def eqbV (neg : Bool) (x y : AV) : Option AV := match x, y with
  | .b x, .b y => some (.b (if neg then !(x == y) else (x == y)))
  | _, _ => none
def eqsV (neg : Bool) (x y : AV) : Option AV := match x, y with
  | .agg x, .agg y => (eqCells x y).map fun q => .b (if neg then !q else q)
  | _, _ => none
def fillC (z : List AV) (off : Nat) (cs : List AV) : List AV := z.take off ++ cs ++ z.drop (off + cs.length)
def putC (sz : Nat) (es : List (List AV)) (e o : Nat) (cs : List AV) : List (List AV) := es.set e (if o = 0 ∧ cs.length = sz then cs else fillC (es.getD e []) o cs)
def buildV (e : Nat → AV) : List AV → List (Nat × Nat × At) → Option (List AV)
  | z, [] => some z
  | z, (off, sz, x) :: ps =>
    if (x.ev e).cells.length = sz ∧ off + sz ≤ z.length then buildV e (fillC z off (x.ev e).cells) ps else none
def bslV (e : Nat → AV) (h : Heap) (sz : Nat) : List (List AV) → List (Nat × At) → Option (List (List AV))
  | z, [] => some z
  | z, (j, x) :: ps =>
    if (x.ev e).cells.length = sz ∧ j < z.length then bslV e h sz (z.set j ((x.ev e).cells.map (tellC h))) ps else none
def ldC (agg : Bool) (sz o : Nat) (cs : List AV) : Option AV :=
  if agg then (if o = 0 ∧ cs.length = sz then some (.agg cs) else if o + sz ≤ cs.length then some (.agg ((cs.drop o).take sz)) else none)
  else cs[o]?
def lenV : AV → Option Nat
  | .sl _ _ _ n => some n
  | .l _ es => some es.length
  | .ns _ => some 0
  | _ => none
def esV (h : Heap) (sz : Nat) : AV → Option (List (List AV))
  | .sl r z o n => if z = sz then (h r).bind (Row.win o n) else none
  | .l z es => if z = sz then some es else none
  | .ns z => if z = sz then some [] else none
  | _ => none
def ptrAt (h : Heap) : AV → Option (List AV × Nat)
  | .p r e o => ((h r).bind (Row.at e)).map fun cs => (cs, o)
  | .tp cs o => some (cs, o)
  | _ => none
def ldV (h : Heap) (agg : Bool) (sz : Nat) (x : AV) : Option AV := (ptrAt h x).bind fun q => ldC agg sz q.2 q.1
def stV (h : Heap) (sz : Nat) (x v : AV) : Option Heap :=
  match x with
  | .p r e o => match h r with
    | some (.sl ap z es) =>
      if v.cells.length = sz ∧ e < es.length ∧ o + sz ≤ z ∧ r ∉ ref1 h v then some ((h.freeze (ref1 h v)).put r (.sl ap z (putC z es e o (v.cells.map (tellC h))))) else none
    | some (.st cs) =>
      if v.cells.length = sz ∧ e = 0 ∧ o + sz ≤ cs.length then some (h.put r (.st (if o = 0 ∧ sz = cs.length then v.cells else fillC cs o v.cells))) else none
    | _ => none
  | _ => none
def cutV (z : Nat) (x : AV) (l u : Int) : Option AV :=
  match x with
  | .sl r z' o n => if z' = z ∧ 0 ≤ l ∧ l ≤ u ∧ u ≤ (n : Int) then some (.sl r z' (o + l.toNat) (u.toNat - l.toNat)) else none
  | .l z' es => if z' = z ∧ 0 ≤ l ∧ l ≤ u ∧ u ≤ (es.length : Int) then some (.l z' ((es.drop l.toNat).take (u.toNat - l.toNat))) else none
  | .ns z' => if l = 0 ∧ u = 0 then some (.ns z') else none
  | _ => none
def scutV (x : AV) (l u : Option Int) : Option AV := match x, l with
  | .s y, some l => if 0 ≤ l ∧ l ≤ u.getD (y.size : Int) ∧ u.getD (y.size : Int) ≤ (y.size : Int) then some (.s (y.extract l.toNat (u.getD (y.size : Int)).toNat)) else none
  | _, _ => none
def intV : AV → Option Int
  | .i _ n => some n
  | _ => none
def optI (e : Nat → AV) (d : Option Int) : Option At → Option Int
  | some x => intV (x.ev e)
  | none => d
def idxV (z : Nat) (x : AV) (j : Int) : Option AV :=
  match x with
  | .sl r z' o n => if z' = z ∧ 0 ≤ j ∧ j < (n : Int) then some (.p r (o + j.toNat) 0) else none
  | .l z' es => if z' = z ∧ 0 ≤ j ∧ j < (es.length : Int) then some (.tp (es.getD j.toNat []) 0) else none
  | _ => none
def appV (h : Heap) (id sz bytes : Nat) (x y : AV) : Option (AV × Heap) :=
  match esV h sz y with
  | none => none
  | some new => match x with
    | .ns z => if z = sz ∧ new.length * bytes ≤ 140737488355328 ∧ (h id).isNone then some (.sl id z 0 new.length, h.put id (.sl true z new)) else none
    | .sl r z o n => match h r with
      | some (.sl true z' es) => if z = sz ∧ z' = sz ∧ o = 0 ∧ (n + new.length) * bytes ≤ 140737488355328 ∧ (h id).isNone then
          some (.sl id z 0 (n + new.length), (h.put r .dead).put id (.sl true z (es.take n ++ new))) else none
      | _ => none
    | _ => none
def copyV (h : Heap) (x y : AV) : Option (AV × Heap) :=
  match x with
  | .sl r z o n => match h r, esV h z y with
    | some (.sl ap z' es), some new => if z' = z ∧ o + n ≤ es.length then some (.i .i64 (Nat.min new.length n : Nat), h.put r (.sl ap z (es.take o ++ new.take (Nat.min new.length n) ++ es.drop (o + Nat.min new.length n)))) else none
    | _, _ => none
  | _ => none
def lendL (h : Heap) : AV → Option AV
  | .sl r z o n => match h r with
    | some (.sl _ _ es) => some (.own false z ((es.drop o).take n))
    | _ => none
  | .p r 0 0 => match h r with
    | some (.st cs) => some (.ownp (cs.map (tell0 h)))
    | _ => none
  | _ => none
def argsL (h : Heap) (x : AV) : Nat → List AV → List AV
  | _, [] => []
  | 0, _ :: vs => x :: vs.map (tell h)
  | k + 1, v :: vs => tell h v :: argsL h x k vs
def refsL (h : Heap) : Nat → List AV → List Nat
  | _, [] => []
  | 0, _ :: vs => vs.flatMap (ref h)
  | k + 1, v :: vs => ref h v ++ refsL h k vs
def pid (i : Nat) : Nat := 100000 + 100 * i
def demote : AV → AV
  | .own _ z es => .l z es
  | .ownp _ => .junk
  | .sl _ _ _ _ => .junk
  | .p _ _ _ => .junk
  | .back _ _ => .junk
  | v => v
def demoteT : AV → AV
  | .tup cs => .tup (cs.map demote)
  | v => demote v
def callV (call : Nat → List AV → Option AV) (h : Heap) (f : Nat) (vs : List AV) : Option (AV × Heap) :=
  (call f (vs.map (tell h))).map fun r => (demoteT r, if r.scalar then h else h.freeze (vs.flatMap (ref h)))
def lid (i : Nat) : Nat := 200000 + 100 * i
def aliasV (i q o : Nat) : AV → AV
  | .sl r z p n => if r = lid i ∧ 0 < n then .sl q z (o + p) n else if n = 0 then .l z [] else .junk
  | v => demoteT v
def backL (h : Heap) (li : Nat) (x : AV) (refs : List Nat) (r : AV) : Option (AV × Heap) := match x, r with
  | .sl q z o n, .back v [.own _ z2 es2] => match h q with
    | some (.sl ap z' es) => if q ∉ refs ∧ es2.length = n ∧ z2 = z' then some (aliasV li q o v, (h.freeze refs).put q (.sl ap z' (es.take o ++ es2 ++ es.drop (o + n)))) else none
    | _ => none
  | .p q 0 0, .back v [.ownp cs2] => match h q with
    | some (.st cs) => if q ∉ refs ++ cs.flatMap ref0 ∧ cs2.length = cs.length then some (demoteT v, (h.freeze (refs ++ cs.flatMap ref0)).put q (.st (cs2.map demote))) else none
    | _ => none
  | _, _ => none
def callL (call : Nat → List AV → Option AV) (h : Heap) (f : Nat) (vs : List AV) (li : Nat) : Option (AV × Heap) :=
  (lendL h (vs.getD li .junk)).bind fun x => (call f (argsL h x li vs)).bind fun r => backL h li (vs.getD li .junk) (refsL h li vs) r
def ownR (h : Heap) (refs : List Nat) (id : Nat) : AV → Option (AV × Heap)
  | .own ap z es => if (h id).isNone then some (.sl id z 0 es.length, (h.freeze refs).put id (.sl ap z es)) else none
  | .l z [] => some (.l z [], h.freeze refs)
  | _ => none
def callO (call : Nat → List AV → Option AV) (h : Heap) (f : Nat) (vs : List AV) (id : Nat) : Option (AV × Heap) := (call f (vs.map (tell h))).bind (ownR h (vs.flatMap (ref h)) id)
def PO.ev (call : Nat → List AV → Option AV) (o : PO) (e : Nat → AV) (h : Heap) : Option (AV × Heap) :=
  match o with
  | .mv x => some (x.ev e, h)
  | .pick c x y => match c.ev e with
    | .b q => some (if q then x.ev e else y.ev e, h)
    | _ => none
  | .box id sz x => if (x.ev e).cells.length = sz ∧ (h id).isNone then some (.p id 0 0, h.put id (.st (x.ev e).cells)) else none
  | .alloc id z => if (h id).isNone then some (.p id 0 0, h.put id (.st z)) else none
  | .build z ps => (buildV e z ps).map fun cs => (.agg cs, h)
  | .bsl id sz z n ps => if (h id).isNone then (bslV e h sz (List.replicate n z) ps).map fun es => (.sl id sz 0 n, (h.freeze (ps.flatMap fun p => ref1 h (p.2.ev e))).put id (.sl true sz es)) else none
  | .ld agg sz x => (ldV h agg sz (x.ev e)).map fun v => (v, h)
  | .st sz x v => (stV h sz (x.ev e) (v.ev e)).map fun g => (.junk, g)
  | .nck x => match x.ev e with
    | .p r q o => some (.p r q o, h)
    | .tp cs o => some (.tp cs o, h)
    | _ => none
  | .bin op x y => (binV op (x.ev e) (y.ev e)).map fun v => (v, h)
  | .eqb ng x y => (eqbV ng (x.ev e) (y.ev e)).map fun v => (v, h)
  | .eqs ng x y => (eqsV ng (x.ev e) (y.ev e)).map fun v => (v, h)
  | .not x => match x.ev e with
    | .b q => some (.b (!q), h)
    | _ => none
  | .neg x => match x.ev e with
    | .i k n => some (.i k (k.wrap (0 - n)), h)
    | _ => none
  | .conv k x => match x.ev e with
    | .i _ n => some (.i k (k.wrap n), h)
    | _ => none
  | .b2s x => ((esV h 1 (x.ev e)).bind byteNs).map fun ns => (.s (bytesS ns), h)
  | .mk id sz bytes z l => match l.ev e with
    | .i .i64 n => if 0 ≤ n ∧ n.toNat * bytes ≤ 281474976710656 ∧ (h id).isNone then some (.sl id sz 0 n.toNat, h.put id (.sl true sz (List.replicate n.toNat z))) else none
    | _ => none
  | .cut sz x lo hi mx =>
    (optI e (some 0) lo).bind fun l => (optI e ((lenV (x.ev e)).map fun (n : Nat) => (n : Int)) hi).bind fun u => (optI e (some u) mx).bind fun m =>
      if m = u then (cutV sz (x.ev e) l u).map fun v => (v, h) else none
  | .scut x lo hi => (match hi with | none => scutV (x.ev e) (optI e (some 0) lo) none | some y => (intV (y.ev e)).bind fun u => scutV (x.ev e) (optI e (some 0) lo) (some u)).map fun v => (v, h)
  | .fld o x => match x.ev e with
    | .p r q c => some (.p r q (c + o), h)
    | .tp cs c => some (.tp cs (c + o), h)
    | _ => none
  | .idx sz x i => (intV (i.ev e)).bind fun j => (idxV sz (x.ev e) j).map fun v => (v, h)
  | .idxa n sz x i => match intV (i.ev e), x.ev e with
    | some j, .p r q c => if 0 ≤ j ∧ j < (n : Int) then some (.p r q (c + j.toNat * sz), h) else none
    | some j, .tp cs c => if 0 ≤ j ∧ j < (n : Int) then some (.tp cs (c + j.toNat * sz), h) else none
    | _, _ => none
  | .sidx x i => match x.ev e, intV (i.ev e) with
    | .s y, some j => if q : 0 ≤ j ∧ j.toNat < y.size then some (.i .u8 ((y[j.toNat]'q.2).toNat : Int), h) else none
    | _, _ => none
  | .ext n x => match x.ev e with
    | .tup vs => (vs[n]?).map fun v => (v, h)
    | _ => none
  | .fpt agg sz o x => match x.ev e with
    | .agg cs => (ldC agg sz o cs).map fun v => (v, h)
    | _ => none
  | .len x => (lenV (x.ev e)).map fun (n : Nat) => (.i .i64 (n : Int), h)
  | .slen x => match x.ev e with
    | .s s => some (.i .i64 (s.size : Int), h)
    | _ => none
  | .min x y => match x.ev e, y.ev e with
    | .i k x, .i _ y => some (.i k (if y < x then y else x), h)
    | _, _ => none
  | .max x y => match x.ev e, y.ev e with
    | .i k x, .i _ y => some (.i k (if y > x then y else x), h)
    | _, _ => none
  | .app id sz bytes x y => appV h id sz bytes (x.ev e) (y.ev e)
  | .copy x y => copyV h (x.ev e) (y.ev e)
  | .call f xs => callV call h f (xs.map (At.ev e))
  | .callw f xs li => callL call h f (xs.map (At.ev e)) li
  | .callo f xs id => callO call h f (xs.map (At.ev e)) id
def setD (e : Nat → AV) : Option Nat → AV → (Nat → AV)
  | some d, v => upd e d v
  | none, _ => e
def AV.yes (q : Bool) : AV → Option Bool
  | .b z => some (z == q)
  | .tup [] => some false
  | _ => none
def POp.ev (call : Nat → List AV → Option AV) (o : POp) (st : St) : Option St :=
  match o.guard with
  | none => (o.op.ev call st.env st.h).map fun p => ⟨setD st.env o.dst p.1, p.2⟩
  | some (t, q) => match (st.env t).yes q with
    | some true => (o.op.ev call st.env st.h).map fun p => ⟨setD st.env o.dst p.1, p.2⟩
    | some false => some ⟨setD st.env o.dst (.tup []), st.h⟩
    | none => none
def evs (call : Nat → List AV → Option AV) : List POp → St → Option St
  | [], st => some st
  | o :: os, st => (o.ev call st).bind (evs call os)
def packV (ls : List Nat) (h : Heap) : AV → Option (AV × Heap)
  | .ns z => some (.own true z [], h)
  | .sl r z o n => if r ∈ ls then some (.sl r z o n, h) else match h r with
    | some (.sl ap z' es) => some (.own (ap && decide (o = 0)) z ((es.drop o).take n), h.put r .dead)
    | some (.fsl z' es) => some (.l z ((es.drop o).take n), h)
    | _ => none
  | .p r e o => if e = 0 ∧ o = 0 then match h r with
    | some (.st cs) => if r ∈ cs.flatMap ref0 then none else some (.ownp (cs.map (tell0 h)), (h.freeze (cs.flatMap ref0)).put r .dead)
    | some (.fst cs) => some (.tp (cs.map (tell0 h)) 0, h.freeze (cs.flatMap ref0))
    | _ => none
    else none
  | v => some (tell h v, h.freeze (ref h v))
def packL (h : Heap) (r : Nat) : Option (AV × Heap) := match h r with
  | some (.sl ap z es) => some (.own ap z es, h.put r .dead)
  | some (.st cs) => if r ∈ cs.flatMap ref0 then none else some (.ownp (cs.map (tell0 h)), (h.freeze (cs.flatMap ref0)).put r .dead)
  | _ => none
def pack (e : Nat → AV) : List Nat → Heap → List (Nat × Nat) → Option (List AV)
  | _, _, [] => some []
  | ls, h, (t, 0) :: l => (pack e ls (h.freeze (ref h (e t))) l).map fun vs => tell h (e t) :: vs
  | ls, h, (t, 1) :: l => (packV ls h (e t)).bind fun q => (pack e ls q.2 l).map fun vs => q.1 :: vs
  | ls, h, (t, _) :: l => (packL h t).bind fun q => (pack e (t :: ls) q.2 l).map fun vs => q.1 :: vs
def un1 (h : Heap) (k : Nat) : AV → AV × Heap
  | .own ap z es => (.sl k z 0 es.length, h.put k (.sl ap z es))
  | .ownp cs => (.p k 0 0, h.put k (.st cs))
  | v => (v, h)
def unpack : List (Nat × Nat) → List AV → St → St
  | (t, 2) :: l, v :: vs, st => unpack l vs ⟨st.env, (un1 st.h t v).2⟩
  | (t, 3) :: l, v :: vs, st => unpack l vs ⟨upd st.env t (un1 st.h (lid t) v).1, (un1 st.h (lid t) v).2⟩
  | (t, _) :: l, v :: vs, st => unpack l vs ⟨upd st.env t (un1 st.h (pid t) v).1, (un1 st.h (pid t) v).2⟩
  | _, _, st => st
def St.none : St := ⟨fun _ => .junk, Heap.none⟩
def un (l : List (Nat × Nat)) (vs : List AV) : St := unpack l vs St.none
def apartV : AV → AV → Bool
  | .p r _ _, .p q _ _ => r != q
  | .p _ _ _, .tp _ _ => true
  | _, _ => false
def apartL (e : Nat → AV) : List (Nat × Nat) → Bool
  | [] => true
  | (s, l) :: r => apartV (e s) (e l) && apartL e r
def PC.ev (call : Nat → List AV → Option AV) (lp : List (Nat × Nat) → List (Nat × Nat) → PC → List AV → Option (Ex × List AV)) : PC → St → Option (Ex × St)
  | .skip, st => some (.normal, st)
  | .reg chk ops, st => (evs call ops st).bind fun st => if apartL st.env chk then some (.normal, st) else none
  | .seq x y, st => (PC.ev call lp x st).bind fun p => match p.1 with
    | .normal => PC.ev call lp y p.2
    | e => some (e, p.2)
  | .cond c x y, st => match c.ev st.env with
    | .b q => if q then PC.ev call lp x st else PC.ev call lp y st
    | _ => none
  | .block id x, st => (PC.ev call lp x st).map fun p => match p.1 with
    | .exit j => if j = id then (.normal, p.2) else p
    | _ => p
  | .loop live out x, st => (pack st.env [] st.h live).bind fun vs => (lp live out x vs).map fun p => (p.1, un out p.2)
  | .join out x, st => (PC.ev call lp x st).bind fun p => (pack p.2.env [] p.2.h out).map fun vs => (p.1, un out vs)
  | .exit id, st => some (.exit id, st)
  | .ret, st => some (.ret, st)
def round (live out : List (Nat × Nat)) (again : List AV → Option (Ex × List AV)) (p : Ex × St) : Option (Ex × List AV) :=
  match p.1 with
  | .normal => (pack p.2.env [] p.2.h live).bind again
  | e => (pack p.2.env [] p.2.h out).map fun vs => (e, vs)
def loopF (call : Nat → List AV → Option AV) : Nat → List (Nat × Nat) → List (Nat × Nat) → PC → List AV → Option (Ex × List AV)
  | 0, _, _, _, _ => none
  | k + 1, live, out, x, vs => (PC.ev call (loopF call k) x (un live vs)).bind (round live out (loopF call k live out x))
def PR.ev (st : St) : PR → Option AV
  | .tmp t => some (st.env t)
  | .cell t agg sz => ldV st.h agg sz (st.env t)
def kindL : Nat → List (PR × Nat) → List (Nat × Nat)
  | _, [] => []
  | k, (_, q) :: l => (k, q) :: kindL (k + 1) l
def resL (res : List (PR × Nat)) : List Nat → List (Nat × Nat)
  | [] => kindL 0 res
  | i :: l => (lid i, 2) :: resL res l
def envL : Nat → List AV → Nat → AV
  | _, [] => fun _ => .junk
  | k, v :: l => upd (envL (k + 1) l) k v
def resV (st : St) : List (PR × Nat) → Option (List AV)
  | [] => some []
  | (x, _) :: l => (x.ev st).bind fun v => (resV st l).map fun vs => v :: vs
def oneV : List AV → AV
  | [x] => x
  | l => .tup l
def retV (lent : List Nat) (out : List AV) : AV := if lent = [] then oneV out else .back (oneV (out.drop lent.length)) (out.take lent.length)
def fin (p : PF) (st : St) : Option AV := (resV st p.res).bind fun vs => (pack (envL 0 vs) [] st.h (resL p.res p.lent)).map (retV p.lent)
def parN (lent : List Nat) : Nat → List AV → List (Nat × Nat)
  | _, [] => []
  | k, _ :: vs => (k, if k ∈ lent then 3 else 0) :: parN lent (k + 1) vs
def finE (p : PF) (q : Ex × St) : Option AV := match q.1 with
  | .exit _ => none
  | _ => fin p q.2
def runF (F : Nat → Option PF) : Nat → Nat → List AV → Option AV
  | 0, _, _ => none
  | k + 1, f, xs => (F f).bind fun p => (p.body.ev (runF F k) (loopF (runF F k) k) (un (parN p.lent 0 xs) xs)).bind (finE p)
end Go.Pe
namespace Go.Pe
def Le {α : Type} (a b : Option α) : Prop := ∀ x, a = some x → b = some x
theorem Le.refl {α : Type} (a : Option α) : Le a a := fun _ h => h
theorem Le.trans {α : Type} {a b c : Option α} (h : Le a b) (k : Le b c) : Le a c := fun x e => k x (h x e)
theorem Le.bind {α β : Type} {a b : Option α} {f g : α → Option β} (h : Le a b) (k : ∀ x, Le (f x) (g x)) : Le (a.bind f) (b.bind g) := by
  intro y e
  cases a with
  | none => cases e
  | some x => rw [h x rfl]; exact k x y e
theorem Le.map {α β : Type} {a b : Option α} {f : α → β} (h : Le a b) : Le (a.map f) (b.map f) := by
  intro y e
  cases a with
  | none => cases e
  | some x => rw [h x rfl]; exact e
abbrev Call := Nat → List AV → Option AV
abbrev Lp := List (Nat × Nat) → List (Nat × Nat) → PC → List AV → Option (Ex × List AV)
def LeC (c d : Call) : Prop := ∀ f xs, Le (c f xs) (d f xs)
def LeL (c d : Lp) : Prop := ∀ l o x vs, Le (c l o x vs) (d l o x vs)
theorem PO.mono {c d : Call} (h : LeC c d) (o : PO) (e : Nat → AV) (g : Heap) : Le (o.ev c e g) (o.ev d e g) := by
  cases o
  case call f xs => exact Le.map (h _ _)
  case callo f xs id => exact Le.bind (h _ _) fun r => Le.refl _
  case callw f xs li => exact Le.bind (Le.refl _) fun xs => Le.bind (h _ _) fun r => Le.refl _
  all_goals exact Le.refl _
theorem POp.mono {c d : Call} (h : LeC c d) (o : POp) (st : St) : Le (o.ev c st) (o.ev d st) := by
  unfold POp.ev
  split
  · exact Le.map (PO.mono h _ _ _)
  · split
    · exact Le.map (PO.mono h _ _ _)
    · exact Le.refl _
    · exact Le.refl _
theorem evs_mono {c d : Call} (h : LeC c d) (os : List POp) : ∀ st, Le (evs c os st) (evs d os st) := by
  induction os with
  | nil => intro st; exact Le.refl _
  | cons o os ih => intro st; exact Le.bind (POp.mono h o st) fun st => ih st
theorem PC.mono {c d : Call} (h : LeC c d) {l m : Lp} (k : LeL l m) (x : PC) : ∀ st, Le (x.ev c l st) (x.ev d m st) := by
  induction x with
  | skip => intro st; exact Le.refl _
  | reg chk ops => intro st; exact Le.bind (evs_mono h ops st) fun st => Le.refl _
  | seq x y hx hy =>
    intro st
    refine Le.bind (hx st) fun p => ?_
    obtain ⟨e, st'⟩ := p
    cases e
    · exact hy st'
    · exact Le.refl _
    · exact Le.refl _
  | cond v x y hx hy =>
    intro st
    simp only [PC.ev]
    split
    · split
      · exact hx st
      · exact hy st
    · exact Le.refl _
  | block id x hx => intro st; exact Le.map (hx st)
  | loop live out x hx => intro st; exact Le.bind (Le.refl _) fun vs => Le.map (k _ _ _ _)
  | join out x hx => intro st; exact Le.bind (hx st) fun p => Le.refl _
  | exit id => intro st; exact Le.refl _
  | ret => intro st; exact Le.refl _
variable (F : Nat → Option PF)
open Classical in
noncomputable def lim {α : Type} (g : Nat → Option α) : Option α := if h : ∃ x, ∃ k, g k = some x then some h.choose else none
noncomputable def R : Call := fun f xs => lim fun k => runF F k f xs
noncomputable def LP : Lp := fun l o x vs => lim fun k => loopF (runF F k) k l o x vs
end Go.Pe
set_option linter.unusedVariables false
set_option linter.unusedSimpArgs false
namespace Go.Pe
open Go
structure Pl where
  z : Nat
  n : Nat
  loc : Option (Nat × Nat)
abbrev Rho := Nat → Option Pl
def Rho.none : Rho := fun _ => .none
theorem add_at (b o n : Nat) : (⟨b, o, none⟩ : Addr).add n = ⟨b, o + n, none⟩ := by unfold Addr.add; split <;> simp_all
inductive Rv (w : World) (T : Nat → Prop) : Rho → AV → Value → Prop
  | junk {ρ v} : Rv w T ρ .junk v
  | b {ρ x} : Rv w T ρ (.b x) (.bool x)
  | i {ρ k n} : Rv w T ρ (.i k n) (.int k n)
  | s {ρ x} : Rv w T ρ (.s x) (.string x)
  | np {ρ} : Rv w T ρ .np (.pointer none)
  | ns {ρ z} : Rv w T ρ (.ns z) (.slice none 0 0)
  | lnil {ρ z a cap} (ha : a = none → cap = 0) (hm : cap ≤ maxLen) : Rv w T ρ (.l z []) (.slice a 0 cap)
  | l {ρ z es b base cap} (g : Nat → Nat → Value) (hT : ¬ T b) (hb : b < w.heap.size) (hc : es.length ≤ cap) (hm : cap ≤ maxLen) (hz : ∀ j, j < es.length → (es.getD j []).length = z)
      (hcell : ∀ j c, j < es.length → c < z → w.cell? ⟨b, base + j * z + c, none⟩ = some (g j c) ∧ (g j c).oneCell' = true)
      (hv : ∀ j c, j < es.length → c < z → Rv w T Rho.none ((es.getD j []).getD c .junk) (g j c)) : Rv w T ρ (.l z es) (.slice (some ⟨b, base, none⟩) es.length cap)
  | tp {ρ cs o b base} (g : Nat → Value) (hT : ¬ T b) (hb : b < w.heap.size)
      (hcell : ∀ c, c < cs.length → w.cell? ⟨b, base + c, none⟩ = some (g c) ∧ (g c).oneCell' = true)
      (hv : ∀ c, c < cs.length → Rv w T Rho.none (cs.getD c .junk) (g c)) : Rv w T ρ (.tp cs o) (.pointer (some ⟨b, base + o, none⟩))
  | sl {ρ r z o n m b base cap} (hr : ρ r = some ⟨z, m, some (b, base)⟩) (hn : o + n ≤ m) (hc : n ≤ cap) (hm : cap ≤ maxLen)
      (hs : ∃ cur e fr, w.heap[b]? = some (Obj.cells cur e fr) ∧ base + (o + cap) * z ≤ cur.size) : Rv w T ρ (.sl r z o n) (.slice (some ⟨b, base + o * z, none⟩) n cap)
  | slz {ρ r z o m b base off} (hr : ρ r = some ⟨z, m, some (b, base)⟩) (hn : o ≤ m) : Rv w T ρ (.sl r z o 0) (.slice (some ⟨b, off, none⟩) 0 0)
  | slnil {ρ r z} (hr : ρ r = some ⟨z, 0, none⟩) : Rv w T ρ (.sl r z 0 0) (.slice none 0 0)
  | p {ρ r e o z m b base} (hr : ρ r = some ⟨z, m, some (b, base)⟩) : Rv w T ρ (.p r e o) (.pointer (some ⟨b, base + e * z + o, none⟩))
  | agg {ρ cs} (vs : Array Value) (hl : vs.size = cs.length) (h1 : ∀ c, c < cs.length → (vs.getD c undef).oneCell' = true)
      (hv : ∀ c, c < cs.length → Rv w T ρ (cs.getD c .junk) (vs.getD c undef)) : Rv w T ρ (.agg cs) (.agg vs)
  | tup {ρ cs} (vs : Array Value) (hl : vs.size = cs.length) (hv : ∀ c, c < cs.length → Rv w T ρ (cs.getD c .junk) (vs.getD c undef)) : Rv w T ρ (.tup cs) (.tuple vs)
theorem Rv.lnil0 {w : World} {T : Nat → Prop} {ρ : Rho} {z : Nat} : Rv w T ρ (.l z []) (.slice none 0 0) := .lnil (fun _ => rfl) (Nat.zero_le _)
structure Same (T : Nat → Prop) (w w' : World) : Prop where
  size : w.heap.size ≤ w'.heap.size
  same : ∀ (b : Nat), b < w.heap.size → ¬ T b → w'.heap[b]? = w.heap[b]?
  shape : ∀ (b : Nat) cur e fr, w.heap[b]? = some (Obj.cells cur e fr) → ∃ cur', w'.heap[b]? = some (Obj.cells cur' e fr) ∧ cur'.size = cur.size
theorem Same.refl (T : Nat → Prop) (w : World) : Same T w w := ⟨Nat.le_refl _, fun _ _ _ => rfl, fun _ cur _ _ h => ⟨cur, h, rfl⟩⟩
theorem lt_of_cells {w : World} {b : Nat} {o : Obj} (h : w.heap[b]? = some o) : b < w.heap.size := (Array.getElem?_eq_some_iff.1 h).1
theorem Same.trans {T : Nat → Prop} {w w' w'' : World} (h : Same T w w') (k : Same T w' w'') : Same T w w'' := by
  refine ⟨Nat.le_trans h.size k.size, fun b hb ht => ?_, fun b cur e fr hb => ?_⟩
  · rw [k.same b (Nat.lt_of_lt_of_le hb h.size) ht, h.same b hb ht]
  · obtain ⟨c1, h1, s1⟩ := h.shape b cur e fr hb
    obtain ⟨c2, h2, s2⟩ := k.shape b c1 e fr h1
    exact ⟨c2, h2, s2.trans s1⟩
theorem Same.cell {T : Nat → Prop} {w w' : World} (h : Same T w w') {b o : Nat} (hb : b < w.heap.size) (ht : ¬ T b) : w'.cell? ⟨b, o, none⟩ = w.cell? ⟨b, o, none⟩ := by
  simp only [World.cell?, h.same b hb ht]
theorem Rv.mono {w w' : World} {T T' : Nat → Prop} (hk : Same T w w') (hT : ∀ b, b < w.heap.size → T' b → T b) {ρ : Rho} {av : AV} {v : Value} (h : Rv w T ρ av v) :
    ∀ {ρ' : Rho}, (∀ r p, ρ r = some p → ρ' r = some p) → Rv w' T' ρ' av v := by
  induction h with
  | junk => intro ρ' hρ; exact .junk
  | b => intro ρ' hρ; exact .b
  | i => intro ρ' hρ; exact .i
  | s => intro ρ' hρ; exact .s
  | np => intro ρ' hρ; exact .np
  | ns => intro ρ' hρ; exact .ns
  | lnil ha hm => intro ρ' hρ; exact .lnil ha hm
  | @l ρ z es b base cap g hTb hb hc hm hz hcell hv ih =>
    intro ρ' hρ
    refine .l g (fun h => hTb (hT b hb h)) (Nat.lt_of_lt_of_le hb hk.size) hc hm hz (fun j c hj hc => ?_) (fun j c hj hc => ih j c hj hc fun r p h => h)
    rw [hk.cell hb hTb]
    exact hcell j c hj hc
  | @tp ρ cs o b base g hTb hb hcell hv ih =>
    intro ρ' hρ
    refine .tp g (fun h => hTb (hT b hb h)) (Nat.lt_of_lt_of_le hb hk.size) (fun c hc => ?_) (fun c hc => ih c hc fun r p h => h)
    rw [hk.cell hb hTb]
    exact hcell c hc
  | sl hr hn hc hm hs =>
    intro ρ' hρ
    obtain ⟨cur, e, fr, h1, h2⟩ := hs
    obtain ⟨cur', h3, h4⟩ := hk.shape _ cur e fr h1
    exact .sl (hρ _ _ hr) hn hc hm ⟨cur', e, fr, h3, by rw [h4]; exact h2⟩
  | slz hr hn => intro ρ' hρ; exact .slz (hρ _ _ hr) hn
  | slnil hr => intro ρ' hρ; exact .slnil (hρ _ _ hr)
  | p hr => intro ρ' hρ; exact .p (hρ _ _ hr)
  | agg vs hl h1 hv ih => intro ρ' hρ; exact .agg vs hl h1 fun c hc => ih c hc hρ
  | tup vs hl hv ih => intro ρ' hρ; exact .tup vs hl fun c hc => ih c hc hρ
structure RowAt (w : World) (b base z : Nat) (es : List (List AV)) (R : AV → Value → Prop) : Prop where
  len : ∀ j, j < es.length → (es.getD j []).length = z
  cell : ∀ j c, j < es.length → c < z → ∃ v, w.cell? ⟨b, base + j * z + c, none⟩ = some v ∧ v.oneCell' = true ∧ R ((es.getD j []).getD c .junk) v
def RowOk (w : World) (T : Nat → Prop) (ρ : Rho) (r : Nat) : Row → Prop
  | .sl ap z es => (es = [] ∧ True ∧ ρ r = some ⟨z, 0, none⟩) ∨ ∃ b base cur e, ρ r = some ⟨z, es.length, some (b, base)⟩ ∧ T b ∧ w.heap[b]? = some (Obj.cells cur e (0, 0)) ∧ base + es.length * z ≤ cur.size ∧ (ap = true → base = 0) ∧ RowAt w b base z es (Rv w T Rho.none)
  | .st cs => ∃ b base cur e, ρ r = some ⟨cs.length, 1, some (b, base)⟩ ∧ T b ∧ w.heap[b]? = some (Obj.cells cur e (0, 0)) ∧ base + cs.length ≤ cur.size ∧ RowAt w b base cs.length [cs] (Rv w T ρ)
  | .fsl z es => (es = [] ∧ ρ r = some ⟨z, 0, none⟩) ∨ ∃ b base, ρ r = some ⟨z, es.length, some (b, base)⟩ ∧ ¬ T b ∧ b < w.heap.size ∧ RowAt w b base z es (Rv w T Rho.none)
  | .fst cs => ∃ b base, ρ r = some ⟨cs.length, 1, some (b, base)⟩ ∧ ¬ T b ∧ b < w.heap.size ∧ RowAt w b base cs.length [cs] (Rv w T ρ)
  | .dead => True
theorem RowAt.mono {w w' : World} {b base z : Nat} {es : List (List AV)} {R R' : AV → Value → Prop} (h : RowAt w b base z es R) (hc : ∀ o, w'.cell? ⟨b, o, none⟩ = w.cell? ⟨b, o, none⟩) (hR : ∀ av v, R av v → R' av v) : RowAt w' b base z es R' := by
  refine ⟨h.len, fun j c hj hc' => ?_⟩
  obtain ⟨v, h1, h2, h3⟩ := h.cell j c hj hc'
  exact ⟨v, by rw [hc]; exact h1, h2, hR _ _ h3⟩
end Go.Pe
set_option linter.unusedVariables false
set_option linter.unusedSimpArgs false
namespace Go.Pe
open Go
def Row.live : Row → Bool
  | .sl _ _ _ | .st _ => true
  | _ => false
def Row.isAp : Row → Bool
  | .sl ap _ _ => ap
  | _ => false
structure Keeps (W : Nat → Nat → Prop) (w w' : World) : Prop where
  os : w'.os = w.os
  tape : w'.tape = w.tape
  output : w'.output = w.output
  size : w.heap.size ≤ w'.heap.size
  block : ∀ (b : Nat), b < w.heap.size → w'.heap[b]? = w.heap[b]? ∨ ∃ c c' e fr, w.heap[b]? = some (Obj.cells c e fr) ∧ w'.heap[b]? = some (Obj.cells c' e fr) ∧ c'.size = c.size ∧ ∀ o : Nat, ¬ W b o → c'[o]? = c[o]?
theorem Keeps.refl (W : Nat → Nat → Prop) (w : World) : Keeps W w w := ⟨rfl, rfl, rfl, Nat.le_refl _, fun _ _ => .inl rfl⟩
theorem Keeps.trans {W W' : Nat → Nat → Prop} {w w' w'' : World} (h : Keeps W w w') (k : Keeps W' w' w'') (hW : ∀ b o, b < w.heap.size → W' b o → W b o) : Keeps W w w'' := by
  refine ⟨k.os.trans h.os, k.tape.trans h.tape, k.output.trans h.output, Nat.le_trans h.size k.size, fun b hb => ?_⟩
  rcases h.block b hb with h1 | ⟨c, c', e, fr, h1, h2, h3, h4⟩
  · rcases k.block b (Nat.lt_of_lt_of_le hb h.size) with k1 | ⟨d, d', e', fr', k1, k2, k3, k4⟩
    · exact .inl (k1.trans h1)
    · exact .inr ⟨d, d', e', fr', h1.symm.trans k1, k2, k3, fun o ho => k4 o fun hw => ho (hW b o hb hw)⟩
  · rcases k.block b (Nat.lt_of_lt_of_le hb h.size) with k1 | ⟨d, d', e', fr', k1, k2, k3, k4⟩
    · exact .inr ⟨c, c', e, fr, h1, k1.trans h2, h3, h4⟩
    · rw [h2] at k1
      cases k1
      exact .inr ⟨c, d', _, _, h1, k2, k3.trans h3, fun o ho => (k4 o fun hw => ho (hW b o hb hw)).trans (h4 o ho)⟩
theorem Keeps.same {W : Nat → Nat → Prop} {T : Nat → Prop} {w w' : World} (h : Keeps W w w') (hW : ∀ b o, b < w.heap.size → W b o → T b) : Same T w w' := by
  refine ⟨h.size, fun b hb ht => ?_, fun b cur e fr hb => ?_⟩
  · rcases h.block b hb with h1 | ⟨c, c', e, fr, h1, h2, h3, h4⟩
    · exact h1
    · rw [h1, h2]
      have : c' = c := by
        apply Array.ext_getElem?
        intro o
        exact h4 o fun hw => ht (hW b o hb hw)
      rw [this]
  · rcases h.block b (lt_of_cells hb) with h1 | ⟨c, c', e', fr', h1, h2, h3, h4⟩
    · exact ⟨cur, h1.trans hb, rfl⟩
    · rw [hb] at h1
      cases h1
      exact ⟨c', h2, h3⟩
structure Old (w w' : World) : Prop where
  os : w'.os = w.os
  tape : w'.tape = w.tape
  output : w'.output = w.output
  size : w.heap.size ≤ w'.heap.size
  block : ∀ (b : Nat), b < w.heap.size → w'.heap[b]? = w.heap[b]?
theorem Old.refl (w : World) : Old w w := ⟨rfl, rfl, rfl, Nat.le_refl _, fun _ _ => rfl⟩
theorem Old.keeps {w w' : World} (h : Old w w') (W : Nat → Nat → Prop) : Keeps W w w' := ⟨h.os, h.tape, h.output, h.size, fun b hb => .inl (h.block b hb)⟩
theorem Old.same {w w' : World} (h : Old w w') (T : Nat → Prop) : Same T w w' := (h.keeps fun _ _ => False).same fun _ _ _ h => h.elim
theorem Old.cell {w w' : World} (h : Old w w') {b o : Nat} (hb : b < w.heap.size) : w'.cell? ⟨b, o, none⟩ = w.cell? ⟨b, o, none⟩ := by simp only [World.cell?, h.block b hb]
theorem Old.trans {w w' w'' : World} (h : Old w w') (k : Old w' w'') : Old w w'' := ⟨k.os.trans h.os, k.tape.trans h.tape, k.output.trans h.output, Nat.le_trans h.size k.size, fun b hb => (k.block b (Nat.lt_of_lt_of_le hb h.size)).trans (h.block b hb)⟩
theorem Old.alloc (w : World) (o : Obj) : Old w (w.alloc o) := ⟨rfl, rfl, rfl, by simp, fun b hb => Go.RowKit.Below.heap_alloc w o b hb⟩
theorem RowOk.inT {w : World} {T : Nat → Prop} {ρ : Rho} {r : Nat} {x : Row} (h : RowOk w T ρ r x) (hx : x.live = true) : ∀ p b base, ρ r = some p → p.loc = some (b, base) → T b := by
  intro p b base hp hl
  cases x with
  | sl ap z es =>
    rcases h with ⟨_, _, h⟩ | ⟨b', base', cur, e, h, ht, _⟩
    · rw [h] at hp; cases hp; cases hl
    · rw [h] at hp; cases hp; cases hl; exact ht
  | st cs =>
    obtain ⟨b', base', cur, e, h, ht, _⟩ := h
    rw [h] at hp; cases hp; cases hl; exact ht
  | fsl => cases hx
  | fst => cases hx
  | dead => cases hx
theorem RowOk.mono {w w' : World} {T T' : Nat → Prop} {ρ ρ' : Rho} {r : Nat} {x : Row} (h : RowOk w T ρ r x) (hs : Same T w w') (hT : ∀ b, b < w.heap.size → T' b → T b) (hρ : ∀ q p, ρ q = some p → ρ' q = some p)
    (hb : ∀ p b base, ρ r = some p → p.loc = some (b, base) → x.live = true → w'.heap[b]? = w.heap[b]? ∧ T' b) : RowOk w' T' ρ' r x := by
  have hR : ∀ av v, Rv w T Rho.none av v → Rv w' T' Rho.none av v := fun av v h => h.mono hs hT fun _ _ h => h
  have hR' : ∀ av v, Rv w T ρ av v → Rv w' T' ρ' av v := fun av v h => h.mono hs hT hρ
  cases x with
  | sl ap z es =>
    rcases h with ⟨h1, h2, h3⟩ | ⟨b, base, cur, e, h1, h2, h3, h4, h5, h6⟩
    · exact .inl ⟨h1, h2, hρ _ _ h3⟩
    · obtain ⟨k1, k2⟩ := hb _ _ _ h1 rfl rfl
      exact .inr ⟨b, base, cur, e, hρ _ _ h1, k2, k1.trans h3, h4, h5, h6.mono (fun o => by simp only [World.cell?, k1]) hR⟩
  | st cs =>
    obtain ⟨b, base, cur, e, h1, h2, h3, h4, h5⟩ := h
    obtain ⟨k1, k2⟩ := hb _ _ _ h1 rfl rfl
    exact ⟨b, base, cur, e, hρ _ _ h1, k2, k1.trans h3, h4, h5.mono (fun o => by simp only [World.cell?, k1]) hR'⟩
  | fsl z es =>
    rcases h with ⟨h1, h2⟩ | ⟨b, base, h1, h2, h3, h4⟩
    · exact .inl ⟨h1, hρ _ _ h2⟩
    · exact .inr ⟨b, base, hρ _ _ h1, fun h => h2 (hT b h3 h), Nat.lt_of_lt_of_le h3 hs.size, h4.mono (fun o => hs.cell h3 h2) hR⟩
  | fst cs =>
    obtain ⟨b, base, h1, h2, h3, h4⟩ := h
    exact ⟨b, base, hρ _ _ h1, fun h => h2 (hT b h3 h), Nat.lt_of_lt_of_le h3 hs.size, h4.mono (fun o => hs.cell h3 h2) hR'⟩
  | dead => trivial
structure Fr where
  w0 : World
  W0 : Nat → Nat → Prop
  T0 : Nat → Prop
  lids : List Nat
  pl0 : Nat → Pl
  tabs : List (Nat × List AV)
structure WInv (f : Fr) (w : World) (T : Nat → Prop) (ρ : Rho) (h : Heap) : Prop where
  keeps : Keeps f.W0 f.w0 w
  tlt : ∀ b, T b → b < w.heap.size
  rows : ∀ r x, h r = some x → RowOk w T ρ r x
  dom : ∀ r, h r = none → ρ r = none
  sep : ∀ r r' x x', r ≠ r' → h r = some x → h r' = some x' → x.live = true → x'.live = true → ∀ p p' b base b' base', ρ r = some p → ρ r' = some p' → p.loc = some (b, base) → p'.loc = some (b', base') → b ≠ b'
  wr : ∀ r x p b base, h r = some x → x.live = true → ρ r = some p → p.loc = some (b, base) → f.w0.heap.size ≤ b ∨ ((∀ o, base ≤ o → o < base + p.n * p.z → f.W0 b o) ∧ (x.isAp = true → ∀ o, f.W0 b o))
  t0 : ∀ b, f.T0 b → T b ∨ ∃ r ∈ f.lids, ∀ x, h r = some x → x.live = false
  lp : ∀ r ∈ f.lids, ρ r = some (f.pl0 r)
  own : ∀ r x p b base, r ∉ f.lids → h r = some x → x.live = true → ρ r = some p → p.loc = some (b, base) → f.w0.heap.size ≤ b
  t0lt : ∀ b, f.T0 b → b < f.w0.heap.size
  la : ∀ r ∈ f.lids, ∀ x, h r = some x → x.isAp = false
  tab : ∀ p ∈ f.tabs, Rv w T Rho.none (.tp p.2 0) (.pointer (some ⟨p.1, 0, none⟩))
structure Goes (w w' : World) (T T' : Nat → Prop) (ρ ρ' : Rho) : Prop where
  same : Same T w w'
  less : ∀ b, b < w.heap.size → T' b → T b
  more : ∀ r p, ρ r = some p → ρ' r = some p
theorem Goes.refl (w : World) (T : Nat → Prop) (ρ : Rho) : Goes w w T T ρ ρ := ⟨Same.refl _ _, fun _ _ h => h, fun _ _ h => h⟩
theorem Goes.rv {w w' : World} {T T' : Nat → Prop} {ρ ρ' : Rho} (g : Goes w w' T T' ρ ρ') {av : AV} {v : Value} (h : Rv w T ρ av v) : Rv w' T' ρ' av v := h.mono g.same g.less g.more
theorem Goes.rv0 {w w' : World} {T T' : Nat → Prop} {ρ ρ' : Rho} (g : Goes w w' T T' ρ ρ') {av : AV} {v : Value} (h : Rv w T Rho.none av v) : Rv w' T' Rho.none av v := h.mono g.same g.less fun _ _ h => h
theorem Goes.trans {w w' w'' : World} {T T' T'' : Nat → Prop} {ρ ρ' ρ'' : Rho} (h : Goes w w' T T' ρ ρ') (k : Goes w' w'' T' T'' ρ' ρ'') : Goes w w'' T T'' ρ ρ'' := by
  refine ⟨⟨Nat.le_trans h.same.size k.same.size, fun b hb ht => ?_, fun b cur e fr hb => ?_⟩, fun b hb ht => h.less b hb (k.less b (Nat.lt_of_lt_of_le hb h.same.size) ht), fun r p hp => k.more r p (h.more r p hp)⟩
  · rw [k.same.same b (Nat.lt_of_lt_of_le hb h.same.size) (fun h' => ht (h.less b hb h')), h.same.same b hb ht]
  · obtain ⟨c1, h1, s1⟩ := h.same.shape b cur e fr hb
    obtain ⟨c2, h2, s2⟩ := k.same.shape b c1 e fr h1
    exact ⟨c2, h2, s2.trans s1⟩
section
variable {f : Fr} {w : World} {T : Nat → Prop} {ρ : Rho} {h : Heap}
theorem WInv.old (k : WInv f w T ρ h) {w' : World} (ho : Old w w') : WInv f w' T ρ h := by
  refine ⟨k.keeps.trans (ho.keeps fun _ _ => False) (fun _ _ _ h => h.elim), fun b hb => Nat.lt_of_lt_of_le (k.tlt b hb) ho.size, fun r x hx => ?_, k.dom, k.sep, k.wr, k.t0, k.lp, k.own, k.t0lt, k.la, fun p hp => (k.tab p hp).mono (ho.same T) (fun _ _ h => h) fun _ _ h => h⟩
  exact (k.rows r x hx).mono (ho.same T) (fun _ _ h => h) (fun _ _ h => h) fun p b base hp hl hlv => ⟨ho.block b (k.tlt b ((k.rows r x hx).inT hlv p b base hp hl)), (k.rows r x hx).inT hlv p b base hp hl⟩
theorem Goes.old {w' : World} (ho : Old w w') : Goes w w' T T ρ ρ := ⟨ho.same T, fun _ _ h => h, fun _ _ h => h⟩
theorem WInv.new' (k : WInv f w T ρ h) {w' : World} (ho : Old w w') {id : Nat} (hid : h id = none) {x : Row} {z n base : Nat} (hsz : w.heap.size < w'.heap.size)
    {b : Nat} (hb : w.heap.size ≤ b) (hb' : b < w'.heap.size)
    (hx : RowOk w' (fun a => T a ∨ a = b) (fun r => if r = id then some ⟨z, n, some (b, base)⟩ else ρ r) id x) :
    WInv f w' (fun a => T a ∨ a = b) (fun r => if r = id then some ⟨z, n, some (b, base)⟩ else ρ r) (h.put id x) ∧ Goes w w' T (fun a => T a ∨ a = b) ρ (fun r => if r = id then some ⟨z, n, some (b, base)⟩ else ρ r) := by
  have more : ∀ r p, ρ r = some p → (if r = id then some ⟨z, n, some (b, base)⟩ else ρ r) = some p := by
    intro r p hp
    split
    · rename_i hr
      subst hr
      rw [k.dom _ hid] at hp
      cases hp
    · exact hp
  have less : ∀ a, a < w.heap.size → (T a ∨ a = b) → T a := fun a ha ht => ht.elim (fun h => h) fun e => by omega
  refine ⟨⟨k.keeps.trans (ho.keeps fun _ _ => False) (fun _ _ _ h => h.elim), ?_, ?_, ?_, ?_, ?_, ?_, ?_, ?_, k.t0lt, fun r hr y hy => by
    simp only [Heap.put] at hy
    split at hy
    · rename_i e
      subst e
      have := k.lp r hr
      rw [k.dom r hid] at this
      cases this
    · exact k.la r hr y hy, fun p hp => (k.tab p hp).mono (ho.same T) less fun _ _ h => h⟩, ho.same T, less, more⟩
  · rintro a (ha | rfl)
    · exact Nat.lt_of_lt_of_le (k.tlt a ha) ho.size
    · exact hb'
  · intro r y hy
    simp only [Heap.put] at hy
    split at hy
    · rename_i hr
      subst hr
      cases hy
      exact hx
    · rename_i hr
      exact (k.rows r y hy).mono (ho.same T) less more fun p b base hp hl hlv => ⟨ho.block b (k.tlt b ((k.rows r y hy).inT hlv p b base hp hl)), .inl ((k.rows r y hy).inT hlv p b base hp hl)⟩
  · intro r hr
    simp only [Heap.put] at hr
    split at hr
    · cases hr
    · rename_i hne
      simp only [hne, if_false]
      exact k.dom r hr
  · intro r r' y y' hne hy hy' hl hl' p p' c base c' base' hp hp' hc hc'
    simp only [Heap.put] at hy hy'
    by_cases h1 : r = id
    · by_cases h2 : r' = id
      · exact absurd (h1.trans h2.symm) hne
      · rw [if_pos h1] at hp
        cases hp
        cases hc
        rw [if_neg h2] at hp' hy'
        have := k.tlt c' ((k.rows r' y' hy').inT hl' p' c' base' hp' hc')
        omega
    · by_cases h2 : r' = id
      · rw [if_pos h2] at hp'
        cases hp'
        cases hc'
        rw [if_neg h1] at hp hy
        have := k.tlt c ((k.rows r y hy).inT hl p c base hp hc)
        omega
      · rw [if_neg h1] at hp hy
        rw [if_neg h2] at hp' hy'
        exact k.sep r r' y y' hne hy hy' hl hl' p p' c base c' base' hp hp' hc hc'
  · intro r y p c base hy hl hp hc
    simp only [Heap.put] at hy
    by_cases h1 : r = id
    · rw [if_pos h1] at hp
      cases hp
      cases hc
      have := k.keeps.size
      exact .inl (by omega)
    · rw [if_neg h1] at hp hy
      exact k.wr r y p c base hy hl hp hc
  · intro a ha
    rcases k.t0 a ha with h1 | ⟨r, hr, hx⟩
    · exact .inl (.inl h1)
    · refine .inr ⟨r, hr, fun x hx' => ?_⟩
      simp only [Heap.put] at hx'
      split at hx'
      · rename_i e
        subst e
        have := k.lp r hr
        rw [k.dom r hid] at this
        cases this
      · exact hx x hx'
  · intro r hr
    exact more _ _ (k.lp r hr)
  · intro r y p c base hr hy hl hp hc
    simp only [Heap.put] at hy
    by_cases h1 : r = id
    · rw [if_pos h1] at hp
      cases hp
      cases hc
      have h2 := k.keeps.size
      omega
    · rw [if_neg h1] at hp hy
      exact k.own r y p c base hr hy hl hp hc
theorem WInv.new (k : WInv f w T ρ h) {w' : World} (ho : Old w w') {id : Nat} (hid : h id = none) {x : Row} {z n base : Nat} (hsz : w.heap.size < w'.heap.size)
    {b : Nat} (hb : w.heap.size ≤ b) (hb' : b < w'.heap.size)
    (hx : ∀ T' ρ', T' b → (∀ a, a < w.heap.size → T' a → T a) → (∀ r p, ρ r = some p → ρ' r = some p) → ρ' id = some ⟨z, n, some (b, base)⟩ → RowOk w' T' ρ' id x) :
    WInv f w' (fun a => T a ∨ a = b) (fun r => if r = id then some ⟨z, n, some (b, base)⟩ else ρ r) (h.put id x) ∧ Goes w w' T (fun a => T a ∨ a = b) ρ (fun r => if r = id then some ⟨z, n, some (b, base)⟩ else ρ r) := by
  refine k.new' ho hid hsz hb hb' (hx _ _ (.inr rfl) (fun a ha ht => ht.elim (fun h => h) fun e => by omega) (fun r p hp => ?_) (if_pos rfl))
  show (if r = id then some (⟨z, n, some (b, base)⟩ : Pl) else ρ r) = some p
  split
  · rename_i hr
    subst hr
    rw [k.dom _ hid] at hp
    cases hp
  · exact hp
end
end Go.Pe
set_option linter.unusedVariables false
set_option linter.unusedSimpArgs false
namespace Go.Pe
open Go
def rowBlk (h : Heap) (ρ : Rho) (r b : Nat) : Prop := ∃ x p base, h r = some x ∧ x.live = true ∧ ρ r = some p ∧ p.loc = some (b, base)
theorem freeze_live {x : Row} : x.freeze.live = false := by cases x <;> rfl
section
variable {f : Fr} {w : World} {T : Nat → Prop} {ρ : Rho} {h : Heap}
theorem WInv.freeze1 (k : WInv f w T ρ h) (r : Nat) :
    WInv f w (fun b => T b ∧ ¬ rowBlk h ρ r b) ρ (fun q => if q = r then (h q).map Row.freeze else h q) ∧ Goes w w T (fun b => T b ∧ ¬ rowBlk h ρ r b) ρ ρ := by
  have less : ∀ b, b < w.heap.size → (T b ∧ ¬ rowBlk h ρ r b) → T b := fun b _ hb => hb.1
  have hmap : ∀ q x, (if q = r then (h q).map Row.freeze else h q) = some x → (q ≠ r ∧ h q = some x) ∨ (q = r ∧ ∃ y, h r = some y ∧ x = y.freeze) := by
    intro q x hx
    split at hx
    · rename_i hq
      subst hq
      cases hy : h q with
      | none => rw [hy] at hx; cases hx
      | some y => rw [hy] at hx; exact .inr ⟨rfl, y, rfl, (Option.some.inj hx).symm⟩
    · rename_i hq
      exact .inl ⟨hq, hx⟩
  have hlive : ∀ q x, (if q = r then (h q).map Row.freeze else h q) = some x → x.live = true → q ≠ r ∧ h q = some x := by
    intro q x hx hl
    rcases hmap q x hx with h1 | ⟨_, y, _, rfl⟩
    · exact h1
    · rw [freeze_live] at hl
      cases hl
  refine ⟨⟨k.keeps, fun b hb => k.tlt b hb.1, ?_, ?_, ?_, ?_, ?_, k.lp, ?_, k.t0lt, fun q hq x hx => by
    rcases hmap q x hx with ⟨_, h1⟩ | ⟨_, y, _, rfl⟩
    · exact k.la q hq x h1
    · cases y <;> rfl, fun p hp => (k.tab p hp).mono (Same.refl _ _) less fun _ _ h => h⟩, Same.refl _ _, less, fun _ _ h => h⟩
  · intro q x hx
    rcases hmap q x hx with ⟨hq, hy⟩ | ⟨rfl, y, hy, rfl⟩
    · refine (k.rows q x hy).mono (Same.refl _ _) less (fun _ _ h => h) fun p b base hp hl hlv => ⟨rfl, (k.rows q x hy).inT hlv p b base hp hl, ?_⟩
      rintro ⟨z, p', base', hz, hzl, hp', hl'⟩
      exact k.sep q r x z hq hy hz hlv hzl p p' b base b base' hp hp' hl hl' rfl
    · have hR : ∀ av v, Rv w T Rho.none av v → Rv w (fun b => T b ∧ ¬ rowBlk h ρ q b) Rho.none av v := fun av v hh => hh.mono (Same.refl _ _) less fun _ _ h => h
      have hR' : ∀ av v, Rv w T ρ av v → Rv w (fun b => T b ∧ ¬ rowBlk h ρ q b) ρ av v := fun av v hh => hh.mono (Same.refl _ _) less fun _ _ h => h
      have ok := k.rows q y hy
      cases y with
      | sl ap z es =>
        rcases ok with ⟨h1, h2, h3⟩ | ⟨b, base, cur, e, h1, h2, h3, h4, h5, h6⟩
        · exact .inl ⟨h1, h3⟩
        · exact .inr ⟨b, base, h1, fun hh => hh.2 ⟨_, _, _, hy, rfl, h1, rfl⟩, lt_of_cells h3, h6.mono (fun _ => rfl) hR⟩
      | st cs =>
        obtain ⟨b, base, cur, e, h1, h2, h3, h4, h5⟩ := ok
        exact ⟨b, base, h1, fun hh => hh.2 ⟨_, _, _, hy, rfl, h1, rfl⟩, lt_of_cells h3, h5.mono (fun _ => rfl) hR'⟩
      | fsl z es => exact ok.mono (Same.refl _ _) less (fun _ _ h => h) fun _ _ _ _ _ h => by cases h
      | fst cs => exact ok.mono (Same.refl _ _) less (fun _ _ h => h) fun _ _ _ _ _ h => by cases h
      | dead => trivial
  · intro q hq
    split at hq
    · rename_i e
      subst e
      cases hy : h q with
      | none => exact k.dom q hy
      | some y => rw [hy] at hq; cases hq
    · exact k.dom q hq
  · intro q q' x x' hne hx hx' hl hl'
    obtain ⟨_, h1⟩ := hlive q x hx hl
    obtain ⟨_, h2⟩ := hlive q' x' hx' hl'
    exact k.sep q q' x x' hne h1 h2 hl hl'
  · intro q x p b base hx hl
    obtain ⟨_, h1⟩ := hlive q x hx hl
    exact k.wr q x p b base h1 hl
  · intro b hb
    rcases k.t0 b hb with h1 | ⟨q, hq, hx⟩
    · by_cases hr : rowBlk h ρ r b
      · obtain ⟨x, p, base, hx, hl, hp, hloc⟩ := hr
        by_cases hm : r ∈ f.lids
        · refine .inr ⟨r, hm, fun y hy => ?_⟩
          rcases hmap r y hy with ⟨h2, _⟩ | ⟨_, y', _, rfl⟩
          · exact absurd rfl h2
          · exact freeze_live
        · exact absurd (k.t0lt b hb) (Nat.not_lt.2 (k.own r x p b base hm hx hl hp hloc))
      · exact .inl ⟨h1, hr⟩
    · refine .inr ⟨q, hq, fun y hy => ?_⟩
      rcases hmap q y hy with ⟨_, h2⟩ | ⟨_, y', _, rfl⟩
      · exact hx y h2
      · exact freeze_live
  · intro q x p b base hq hx hl
    obtain ⟨_, h1⟩ := hlive q x hx hl
    exact k.own q x p b base hq h1 hl
theorem freeze_none {rs : List Nat} {q : Nat} : (h.freeze rs) q = none ↔ h q = none := by
  induction rs with
  | nil => exact Iff.rfl
  | cons r rs ih =>
    simp only [Heap.freeze]
    split
    · simp only [Option.map_eq_none_iff, ih]
    · exact ih
theorem freeze_live' {rs : List Nat} {q : Nat} {x : Row} (hx : (h.freeze rs) q = some x) (hl : x.live = true) : h q = some x ∧ q ∉ rs := by
  induction rs generalizing x with
  | nil => exact ⟨hx, by simp⟩
  | cons r rs ih =>
    simp only [Heap.freeze] at hx
    split at hx
    · cases hy : h.freeze rs q with
      | none => rw [hy] at hx; cases hx
      | some y =>
        rw [hy] at hx
        cases hx
        rw [freeze_live] at hl
        cases hl
    · rename_i hne
      obtain ⟨h1, h2⟩ := ih hx hl
      exact ⟨h1, by simp [hne, h2]⟩
theorem WInv.freeze (k : WInv f w T ρ h) (rs : List Nat) : ∃ T', WInv f w T' ρ (h.freeze rs) ∧ Goes w w T T' ρ ρ ∧ (∀ r ∈ rs, ∀ b, rowBlk h ρ r b → ¬ T' b) ∧ ∀ b, T b → T' b ∨ ∃ r ∈ rs, rowBlk h ρ r b := by
  induction rs with
  | nil => exact ⟨T, k, Goes.refl _ _ _, fun r hr => (by cases hr), fun b hb => .inl hb⟩
  | cons r rs ih =>
    obtain ⟨T1, k1, g1, h1, h1'⟩ := ih
    obtain ⟨k2, g2⟩ := k1.freeze1 r
    refine ⟨_, k2, g1.trans g2, fun q hq b hb => ?_, fun b hb => ?_⟩
    rotate_left
    · rcases h1' b hb with h2 | ⟨q, hq, hqb⟩
      · by_cases hr : rowBlk (h.freeze rs) ρ r b
        · obtain ⟨x, p, base, hx, hl, hp, hloc⟩ := hr
          exact .inr ⟨r, List.mem_cons_self, x, p, base, (freeze_live' hx hl).1, hl, hp, hloc⟩
        · exact .inl ⟨h2, hr⟩
      · exact .inr ⟨q, List.mem_cons_of_mem _ hq, hqb⟩
    rcases List.mem_cons.1 hq with rfl | hq
    · rintro ⟨t1, t2⟩
      obtain ⟨x, p, base, hx, hl, hp, hloc⟩ := hb
      cases hy : h.freeze rs q with
      | none => rw [freeze_none] at hy; rw [hx] at hy; cases hy
      | some y =>
        by_cases hyl : y.live = true
        · exact t2 ⟨y, p, base, hy, hyl, hp, hloc⟩
        · -- it was frozen before
          have hmem : q ∈ rs := by
            by_cases hm : q ∈ rs
            · exact hm
            · have : ∀ rs : List Nat, q ∉ rs → h.freeze rs q = h q := by
                intro rs
                induction rs with
                | nil => intro _; rfl
                | cons a rs ih =>
                  intro hm
                  simp only [Heap.freeze]
                  rw [if_neg (fun e => hm (by rw [e]; exact List.mem_cons_self))]
                  exact ih fun hh => hm (List.mem_cons_of_mem _ hh)
              rw [this rs hm, hx] at hy
              cases hy
              exact absurd hl hyl
          exact h1 q hmem b ⟨x, p, base, hx, hl, hp, hloc⟩ t1
    · exact fun ht => h1 q hq b hb ht.1
end
theorem getD_drop_take {α : Type} (es : List α) (o n j : Nat) (d : α) (hj : j < n) : ((es.drop o).take n).getD j d = es.getD (o + j) d := by
  simp only [List.getD_eq_getElem?_getD]
  rw [List.getElem?_take_of_lt hj, List.getElem?_drop]
theorem getD_map_lt {α β : Type} (f : α → β) (l : List α) (j : Nat) (d : β) (d' : α) (hj : j < l.length) : (l.map f).getD j d = f (l.getD j d') := by
  simp only [List.getD_eq_getElem?_getD, List.getElem?_map, List.getElem?_eq_getElem hj]
  rfl
section
variable {w : World} {T T' : Nat → Prop} {ρ : Rho} {h : Heap}
theorem Rv.less {av : AV} {v : Value} (k : Rv w T ρ av v) (hT : ∀ b, b < w.heap.size → T' b → T b) : Rv w T' ρ av v := k.mono (Same.refl _ _) hT fun _ _ h => h
theorem Rv.any {av : AV} {v : Value} (k : Rv w T Rho.none av v) : Rv w T ρ av v := k.mono (Same.refl _ _) (fun _ _ h => h) fun _ _ h => by cases h
theorem tell_win {b base z : Nat} {es : List (List AV)} {o n cap : Nat} (hT : ¬ T' b) (hb : b < w.heap.size) (hless : ∀ b, b < w.heap.size → T' b → T b) (hr : RowAt w b base z es (Rv w T Rho.none)) (hn : o + n ≤ es.length) (hc : n ≤ cap) (hm : cap ≤ maxLen) :
    Rv w T' Rho.none (.l z ((es.drop o).take n)) (.slice (some ⟨b, base + o * z, none⟩) n cap) := by
  have hl : ((es.drop o).take n).length = n := by rw [List.length_take, List.length_drop]; omega
  have key : ∀ j c, base + o * z + j * z + c = base + (o + j) * z + c := by intro j c; rw [Nat.add_mul]; omega
  have := Rv.l (w := w) (T := T') (ρ := Rho.none) (z := z) (es := (es.drop o).take n) (b := b) (base := base + o * z) (cap := cap) (fun j c => (w.cell? ⟨b, base + o * z + j * z + c, none⟩).getD undef) hT hb (by rw [hl]; exact hc) hm
    (fun j hj => by
      rw [hl] at hj
      rw [getD_drop_take _ _ _ _ _ hj]
      exact hr.len _ (by omega))
    (fun j c hj hc => by
      rw [hl] at hj
      obtain ⟨v, h1, h2, h3⟩ := hr.cell (o + j) c (by omega) hc
      rw [key, h1]
      exact ⟨rfl, h2⟩)
    (fun j c hj hc => by
      rw [hl] at hj
      obtain ⟨v, h1, h2, h3⟩ := hr.cell (o + j) c (by omega) hc
      rw [getD_drop_take _ _ _ _ _ hj, key, h1]
      exact h3.less hless)
  rw [hl] at this
  exact this
theorem tell0_rv (hrows : ∀ r x, h r = some x → RowOk w T ρ r x) (hless : ∀ b, b < w.heap.size → T' b → T b) {av : AV} {v : Value} (k : Rv w T ρ av v) (hr : ∀ r ∈ ref0 av, ∀ b, rowBlk h ρ r b → ¬ T' b) :
    (∀ r e o, av ≠ .p r e o) → (∀ cs, av ≠ .agg cs) → (∀ cs, av ≠ .tup cs) → Rv w T' Rho.none (tell0 h av) v := by
  intro n1 n2 n3
  cases k with
  | ns => exact .lnil0
  | p => exact absurd rfl (n1 _ _ _)
  | agg => exact absurd rfl (n2 _)
  | tup => exact absurd rfl (n3 _)
  | junk => exact .junk
  | b => exact .b
  | i => exact .i
  | s => exact .s
  | np => exact .np
  | lnil ha hm => exact .lnil ha hm
  | l g hT hb hc hm hz hcell hv => exact (Rv.l g hT hb hc hm hz hcell hv : Rv w T Rho.none _ _).less hless
  | tp g hT hb hcell hv => exact (Rv.tp g hT hb hcell hv : Rv w T Rho.none _ _).less hless
  | @sl _ r z o n m b base cap h1 hn hc hm hs =>
    simp only [tell0]
    cases hx : h r with
    | none => exact .junk
    | some x =>
      have ok := hrows r x hx
      cases x with
      | sl ap z' es =>
        rcases ok with ⟨_, _, h3⟩ | ⟨b', base', cur, e, h3, h4, h5, h6, h7, h8⟩
        · rw [h1] at h3; cases h3
        · rw [h1] at h3
          cases h3
          exact tell_win (hr r List.mem_cons_self b ⟨_, _, _, hx, rfl, h1, rfl⟩) (lt_of_cells h5) hless h8 hn hc hm
      | fsl z' es =>
        rcases ok with ⟨_, h3⟩ | ⟨b', base', h3, h4, h5, h6⟩
        · rw [h1] at h3; cases h3
        · rw [h1] at h3
          cases h3
          exact tell_win (fun ht => h4 (hless b h5 ht)) h5 hless h6 hn hc hm
      | st cs => exact .junk
      | fst cs => exact .junk
      | dead => exact .junk
  | @slz _ r z o m b base off h1 hn =>
    simp only [tell0]
    cases hx : h r with
    | none => exact .junk
    | some x =>
      have ok := hrows r x hx
      have mk : ∀ es : List (List AV), ¬ T' b → b < w.heap.size → Rv w T' Rho.none (.l z ((es.drop o).take 0)) (.slice (some ⟨b, off, none⟩) 0 0) := by
        intro es ht hb
        rw [List.take_zero]
        exact Rv.l (es := []) (fun _ _ => undef) ht hb (Nat.zero_le _) (Nat.zero_le _) (fun j hj => by cases hj) (fun j c hj => by cases hj) (fun j c hj => by cases hj)
      cases x with
      | sl ap z' es =>
        rcases ok with ⟨_, _, h3⟩ | ⟨b', base', cur, e, h3, h4, h5, h6, h7, h8⟩
        · rw [h1] at h3; cases h3
        · rw [h1] at h3
          cases h3
          exact mk es (hr r List.mem_cons_self b ⟨_, _, _, hx, rfl, h1, rfl⟩) (lt_of_cells h5)
      | fsl z' es =>
        rcases ok with ⟨_, h3⟩ | ⟨b', base', h3, h4, h5, h6⟩
        · rw [h1] at h3; cases h3
        · rw [h1] at h3
          cases h3
          exact mk es (fun ht => h4 (hless b h5 ht)) h5
      | st cs => exact .junk
      | fst cs => exact .junk
      | dead => exact .junk
  | @slnil _ r z h1 =>
    simp only [tell0]
    cases hx : h r with
    | none => exact .junk
    | some x =>
      cases x with
      | sl ap z' es => simp only [Option.bind_some, Row.win, List.drop_zero, List.take_zero]; exact .lnil0
      | fsl z' es => simp only [Option.bind_some, Row.win, List.drop_zero, List.take_zero]; exact .lnil0
      | st cs => exact .junk
      | fst cs => exact .junk
      | dead => exact .junk
end
end Go.Pe
set_option linter.unusedVariables false
set_option linter.unusedSimpArgs false
namespace Go.Pe
open Go
section
variable {w : World} {T T' : Nat → Prop} {ρ : Rho} {h : Heap}
theorem tell0_cell (hrows : ∀ r x, h r = some x → RowOk w T ρ r x) (hless : ∀ b, b < w.heap.size → T' b → T b) {av : AV} {v : Value} (h1 : v.oneCell' = true) (k : Rv w T ρ av v) (hr : ∀ r ∈ ref0 av, ∀ b, rowBlk h ρ r b → ¬ T' b) : Rv w T' Rho.none (tell0 h av) v := by
  cases k with
  | p => exact .junk
  | agg vs hl => cases h1
  | tup vs hl => cases h1
  | junk => exact .junk
  | b => exact .b
  | i => exact .i
  | s => exact .s
  | np => exact .np
  | ns => exact .lnil0
  | lnil ha hm => exact .lnil ha hm
  | l g hT hb hc hm hz hcell hv => exact (Rv.l g hT hb hc hm hz hcell hv : Rv w T Rho.none _ _).less hless
  | tp g hT hb hcell hv => exact (Rv.tp g hT hb hcell hv : Rv w T Rho.none _ _).less hless
  | sl hr' hn hc hm hs => exact tell0_rv hrows hless (.sl hr' hn hc hm hs) hr (by intros; simp) (by intros; simp) (by intros; simp)
  | slz hr' hn => exact tell0_rv hrows hless (.slz hr' hn) hr (by intros; simp) (by intros; simp) (by intros; simp)
  | slnil hr' => exact tell0_rv hrows hless (.slnil hr') hr (by intros; simp) (by intros; simp) (by intros; simp)
theorem getD_mem {α : Type} {l : List α} {c : Nat} (d : α) (hc : c < l.length) : l.getD c d ∈ l := by
  rw [List.getD_eq_getElem?_getD, List.getElem?_eq_getElem hc]
  exact List.getElem_mem hc
end
end Go.Pe
set_option linter.unusedVariables false
set_option linter.unusedSimpArgs false
namespace Go.Pe
open Go
def mv1 : Value → AV → Bool
  | .bool a, .b b => a == b
  | .int k n, .i k' n' => k == k' && n == n'
  | .string s, .s s' => decide (s = s')
  | .slice none 0 0, .ns _ => true
  | .pointer none, .np => true
  | _, _ => false
def mvs : List Value → List AV → Bool
  | [], [] => true
  | v :: vs, c :: cs => mv1 v c && mvs vs cs
  | _, _ => false
def mv : Value → AV → Bool
  | .agg vs, .agg cs => mvs vs.toList cs
  | v, c => mv1 v c
section
variable {w : World} {T : Nat → Prop} {ρ : Rho}
theorem toList_getD (vs : Array Value) (c : Nat) : vs.getD c undef = vs.toList.getD c undef := by simp [List.getD_eq_getElem?_getD]
end
def Env (w : World) (T : Nat → Prop) (ρ : Rho) (e : Nat → AV) (a : Act) : Prop := ∀ t, Rv w T ρ (e t) (a.tmps.getD t undef)
theorem Env.goes {w w' : World} {T T' : Nat → Prop} {ρ ρ' : Rho} {e : Nat → AV} {a : Act} (h : Env w T ρ e a) (g : Goes w w' T T' ρ ρ') : Env w' T' ρ' e a := fun t => g.rv (h t)
section
variable {P : Program} {w : World}
end
section
variable {P : Program} {f : Fr} {w : World} {T : Nat → Prop} {ρ : Rho} {h : Heap} {e : Nat → AV} {a : Act} {o : Oper}
end
end Go.Pe
set_option linter.unusedVariables false
set_option linter.unusedSimpArgs false
namespace Go.Pe
open Go
section
variable {P : Program} {f : Fr} {w : World} {T T' : Nat → Prop} {ρ : Rho} {h : Heap} {e : Nat → AV} {a : Act} {o : Oper}
theorem in_row {n z j c : Nat} (hj : j < n) (hc : c < z) : j * z + c < n * z := by
  have := Nat.mul_le_mul_right z (show j + 1 ≤ n by omega)
  rw [Nat.add_mul] at this
  omega
end
end Go.Pe
set_option linter.unusedVariables false
set_option linter.unusedSimpArgs false
namespace Go.Pe
open Go
section
variable {P : Program} {f : Fr} {w : World} {T T' : Nat → Prop} {ρ : Rho} {h : Heap} {e : Nat → AV} {a : Act} {o : Oper}
structure GoodB (w : World) (T : Nat → Prop) (ρ : Rho) (z : List AV) (C : Array Value) : Prop where
  size : C.size = z.length
  rv : ∀ c, c < z.length → Rv w T ρ (z.getD c .junk) (C.getD c undef) ∧ (C.getD c undef).oneCell' = true
theorem GoodB.agg {z : List AV} {C : Array Value} (g : GoodB w T ρ z C) : Rv w T ρ (.agg z) (.agg C) := .agg C g.size (fun c hc => (g.rv c hc).2) fun c hc => (g.rv c hc).1
end
end Go.Pe
set_option linter.unusedVariables false
set_option linter.unusedSimpArgs false
namespace Go.Pe
open Go
structure Rew (w w' : World) (b : Nat) (Wb : Nat → Prop) : Prop where
  os : w'.os = w.os
  tape : w'.tape = w.tape
  output : w'.output = w.output
  size : w'.heap.size = w.heap.size
  other : ∀ (b' : Nat), b' ≠ b → w'.heap[b']? = w.heap[b']?
  blk : ∃ c c' e fr, w.heap[b]? = some (Obj.cells c e fr) ∧ w'.heap[b]? = some (Obj.cells c' e fr) ∧ c'.size = c.size ∧ ∀ i : Nat, ¬ Wb i → c'[i]? = c[i]?
theorem Rew.keeps {w w' : World} {b : Nat} {Wb : Nat → Prop} (h : Rew w w' b Wb) : Keeps (fun b' i => b' = b ∧ Wb i) w w' := by
  refine ⟨h.os, h.tape, h.output, Nat.le_of_eq h.size.symm, fun b' _ => ?_⟩
  by_cases hb : b' = b
  · subst hb
    obtain ⟨c, c', e, fr, h1, h2, h3, h4⟩ := h.blk
    exact .inr ⟨c, c', e, fr, h1, h2, h3, fun o ho => h4 o fun hw => ho ⟨rfl, hw⟩⟩
  · exact .inl (h.other b' hb)
section
variable {P : Program} {f : Fr} {w : World} {T T' : Nat → Prop} {ρ : Rho} {h : Heap} {e : Nat → AV} {a : Act} {o : Oper}
theorem Rew.same {w' : World} {b : Nat} {Wb : Nat → Prop} (hw : Rew w w' b Wb) (hT : T b) : Same T w w' := hw.keeps.same fun b' o _ hh => by rw [hh.1]; exact hT
theorem freeze_notin {rs : List Nat} {q : Nat} (hq : q ∉ rs) : (h.freeze rs) q = h q := by
  induction rs with
  | nil => rfl
  | cons a rs ih =>
    simp only [Heap.freeze]
    rw [if_neg (fun e => hq (by rw [e]; exact List.mem_cons_self))]
    exact ih fun hh => hq (List.mem_cons_of_mem _ hh)
end
end Go.Pe
set_option linter.unusedVariables false
set_option linter.unusedSimpArgs false
namespace Go.Pe
open Go
section
variable {P : Program} {f : Fr} {w : World} {T T' : Nat → Prop} {ρ : Rho} {h : Heap} {e : Nat → AV} {a : Act} {o : Oper}
theorem WInv.kill (k : WInv f w T ρ h) {r : Nat} {x : Row} (hr : h r = some x) : WInv f w T ρ (h.put r .dead) := by
  have old : ∀ q y, (h.put r .dead) q = some y → (q = r ∧ y = .dead) ∨ (q ≠ r ∧ h q = some y) := by
    intro q y hy
    simp only [Heap.put] at hy
    split at hy
    · rename_i e; cases hy; exact .inl ⟨e, rfl⟩
    · rename_i e; exact .inr ⟨e, hy⟩
  have live : ∀ q y, (h.put r .dead) q = some y → y.live = true → h q = some y := by
    intro q y hy hyl
    rcases old q y hy with ⟨_, rfl⟩ | ⟨_, hq⟩
    · cases hyl
    · exact hq
  refine ⟨k.keeps, k.tlt, fun q y hy => ?_, fun q hq => ?_, fun q q' y y' hne hy hy' hyl hyl' => k.sep q q' y y' hne (live q y hy hyl) (live q' y' hy' hyl') hyl hyl', fun q y p b base hy hyl => k.wr q y p b base (live q y hy hyl) hyl, fun b hb => ?_, k.lp, fun q y p b base hq hy hyl => k.own q y p b base hq (live q y hy hyl) hyl, k.t0lt, fun q hq y hy => ?_, k.tab⟩
  · rcases old q y hy with ⟨_, rfl⟩ | ⟨_, hq⟩
    · trivial
    · exact k.rows q y hq
  · simp only [Heap.put] at hq
    split at hq
    · cases hq
    · exact k.dom q hq
  · rcases k.t0 b hb with h1 | ⟨q, hq, hx⟩
    · exact .inl h1
    · refine .inr ⟨q, hq, fun y hy => ?_⟩
      rcases old q y hy with ⟨_, rfl⟩ | ⟨_, hq'⟩
      · rfl
      · exact hx y hq'
  · rcases old q y hy with ⟨_, rfl⟩ | ⟨_, hq'⟩
    · rfl
    · exact k.la q hq y hq'
structure Src (w : World) (T : Nat → Prop) (z : Nat) (new : List (List AV)) (v : Value) (vs : List Value) : Prop where
  len : vs.length = new.length * z
  val : (v = .slice none 0 0 ∧ new = []) ∨ ∃ ad cap, v = .slice (some ad) new.length cap ∧ ∀ j u, vs[j]? = some u → w.cell? (ad.add j) = some u
  el : ∀ j, j < new.length → (new.getD j []).length = z
  rv : ∀ j c, j < new.length → c < z → Rv w T Rho.none ((new.getD j []).getD c .junk) (vs.getD (j * z + c) undef) ∧ (vs.getD (j * z + c) undef).oneCell' = true
theorem div_row {n z i : Nat} (hi : i < n * z) : i / z < n ∧ i % z < z ∧ i = i / z * z + i % z := by
  have hz : 0 < z := by
    rcases Nat.eq_zero_or_pos z with h | h
    · subst h; simp at hi
    · exact h
  refine ⟨Nat.div_lt_of_lt_mul (by rw [Nat.mul_comm]; exact hi), Nat.mod_lt _ hz, ?_⟩
  rw [Nat.mul_comm]
  exact (Nat.div_add_mod i z).symm
theorem Src.at {b base z cap : Nat} {new : List (List AV)} (hl : ∀ j, j < new.length → (new.getD j []).length = z)
    (hc : ∀ j c, j < new.length → c < z → ∃ v, w.cell? ⟨b, base + j * z + c, none⟩ = some v ∧ v.oneCell' = true ∧ Rv w T Rho.none ((new.getD j []).getD c .junk) v) :
    Src w T z new (.slice (some ⟨b, base, none⟩) new.length cap) ((List.range (new.length * z)).map fun i => (w.cell? ⟨b, base + i, none⟩).getD undef) := by
  refine ⟨by simp, .inr ⟨_, _, rfl, fun j u hj => ?_⟩, hl, fun j c hj hcz => ?_⟩
  · rw [List.getElem?_map] at hj
    rcases Nat.lt_or_ge j (new.length * z) with h1 | h1
    · rw [List.getElem?_range h1] at hj
      simp only [Option.map_some, Option.some.injEq] at hj
      obtain ⟨h2, h3, h4⟩ := div_row h1
      obtain ⟨v, h5, h6, h7⟩ := hc (j / z) (j % z) h2 h3
      rw [Nat.add_assoc, ← h4] at h5
      rw [add_at, h5]
      rw [h5] at hj
      rw [← hj]
      rfl
    · rw [List.getElem?_eq_none (by simpa using h1)] at hj
      cases hj
  · have hlt := in_row hj hcz
    obtain ⟨v, h5, h6, h7⟩ := hc j c hj hcz
    have : ((List.range (new.length * z)).map fun i => (w.cell? ⟨b, base + i, none⟩).getD undef).getD (j * z + c) undef = v := by
      rw [List.getD_eq_getElem?_getD, List.getElem?_map, List.getElem?_range hlt]
      rw [Nat.add_assoc] at h5
      simp [h5]
    rw [this]
    exact ⟨h7, h6⟩
end
end Go.Pe
set_option linter.unusedVariables false
set_option linter.unusedSimpArgs false
namespace Go.Pe
open Go
section
variable {P : Program} {f : Fr} {w : World} {T T' : Nat → Prop} {ρ : Rho} {h : Heap} {e : Nat → AV} {a : Act} {o : Oper}
structure Els (w : World) (T : Nat → Prop) (z : Nat) (L : List (List AV)) (vs : List Value) : Prop where
  len : vs.length = L.length * z
  el : ∀ j, j < L.length → (L.getD j []).length = z
  rv : ∀ j c, j < L.length → c < z → Rv w T Rho.none ((L.getD j []).getD c .junk) (vs.getD (j * z + c) undef) ∧ (vs.getD (j * z + c) undef).oneCell' = true
theorem Els.nil (z : Nat) : Els w T z [] [] := ⟨by simp, fun j hj => (by cases hj), fun j c hj => (by cases hj)⟩
theorem getD_append_left' {α : Type} (l m : List α) (i : Nat) (d : α) (h : i < l.length) : (l ++ m).getD i d = l.getD i d := by
  rw [List.getD_eq_getElem?_getD, List.getElem?_append_left h, ← List.getD_eq_getElem?_getD]
theorem getD_append_right' {α : Type} (l m : List α) (i : Nat) (d : α) (h : l.length ≤ i) : (l ++ m).getD i d = m.getD (i - l.length) d := by
  rw [List.getD_eq_getElem?_getD, List.getElem?_append_right h, ← List.getD_eq_getElem?_getD]
theorem Els.append {z : Nat} {L M : List (List AV)} {vs us : List Value} (x : Els w T z L vs) (y : Els w T z M us) : Els w T z (L ++ M) (vs ++ us) := by
  refine ⟨by rw [List.length_append, List.length_append, x.len, y.len, Nat.add_mul], fun j hj => ?_, fun j c hj hc => ?_⟩
  · by_cases h1 : j < L.length
    · rw [getD_append_left' _ _ _ _ h1]; exact x.el j h1
    · rw [getD_append_right' _ _ _ _ (by omega)]; exact y.el _ (by rw [List.length_append] at hj; omega)
  · by_cases h1 : j < L.length
    · have := in_row h1 hc
      rw [getD_append_left' _ _ _ _ h1, getD_append_left' _ _ _ _ (by rw [x.len]; exact this)]
      exact x.rv j c h1 hc
    · have h2 := Nat.mul_le_mul_right z (show L.length ≤ j by omega)
      rw [getD_append_right' _ _ _ _ (by omega), getD_append_right' _ _ _ _ (by rw [x.len]; omega), x.len]
      have := y.rv (j - L.length) c (by rw [List.length_append] at hj; omega) hc
      rw [Nat.sub_mul] at this
      rw [show j * z + c - L.length * z = j * z - L.length * z + c by omega]
      exact this
theorem Els.one {z : Nat} {L : List (List AV)} {vs : List Value} (x : Els w T z L vs) : ∀ u ∈ vs, u.oneCell' = true := by
  intro u hu
  obtain ⟨i, hi, rfl⟩ := List.getElem_of_mem hu
  rw [x.len] at hi
  obtain ⟨h1, h2, h3⟩ := div_row hi
  have := (x.rv _ _ h1 h2).2
  rw [← h3, List.getD_eq_getElem?_getD, List.getElem?_eq_getElem (by rw [x.len]; exact hi)] at this
  exact this
end
end Go.Pe
set_option linter.unusedVariables false
set_option linter.unusedSimpArgs false
namespace Go.Pe
open Go
def isRef : AV → Bool
  | .sl _ _ _ _ | .p _ _ _ => true
  | _ => false
structure J (f : Fr) (w : World) (T : Nat → Prop) (ρ : Rho) (h : Heap) (ρ0 : Rho) (e0 : Nat → AV) (h0 : Heap) (ls : List Nat) (a : Act) : Prop where
  A : WInv f w T ρ h
  env : Env w T ρ0 e0 a
  rows : ∀ r x, h0 r = some x → RowOk w T ρ0 r x
  dom : ∀ r, h0 r = none → ρ0 r = none
  sep : ∀ r r' x x', r ≠ r' → h0 r = some x → h0 r' = some x' → x.live = true → x'.live = true → ∀ p p' b base b' base', ρ0 r = some p → ρ0 r' = some p' → p.loc = some (b, base) → p'.loc = some (b', base') → b ≠ b'
  wr : ∀ r x p b base, h0 r = some x → x.live = true → ρ0 r = some p → p.loc = some (b, base) → f.w0.heap.size ≤ b ∨ ((∀ o, base ≤ o → o < base + p.n * p.z → f.W0 b o) ∧ (x.isAp = true → ∀ o, f.W0 b o))
  own : ∀ r x p b base, r ∉ f.lids → h0 r = some x → x.live = true → ρ0 r = some p → p.loc = some (b, base) → f.w0.heap.size ≤ b
  la : ∀ r ∈ f.lids, ∀ x, h0 r = some x → x.isAp = false
  x : ∀ r r' x x', h r = some x → h0 r' = some x' → x.live = true → x'.live = true → ∀ p p' b base b' base', ρ r = some p → ρ0 r' = some p' → p.loc = some (b, base) → p'.loc = some (b', base') → b ≠ b'
  lp : ∀ r ∈ ls, r ∈ f.lids ∧ ρ0 r = some (f.pl0 r) ∧ ∀ x, h r = some x → x.live = false
  tn : ∀ t, isRef (e0 t) = true ∨ Rv w T Rho.none (e0 t) (a.tmps.getD t undef)
  t0 : ∀ b, f.T0 b → T b ∨ ∃ r ∈ f.lids, r ∉ ls ∧ ∀ x, h r = some x → x.live = false
section
variable {f : Fr} {w : World} {T : Nat → Prop} {ρ ρ0 : Rho} {h h0 : Heap} {e0 : Nat → AV} {ls : List Nat} {a : Act}
theorem J.freeze (j : J f w T ρ h ρ0 e0 h0 ls a) (rs : List Nat) : ∃ T', J f w T' ρ (h.freeze rs) ρ0 e0 h0 ls a ∧ Goes w w T T' ρ ρ ∧ (∀ r ∈ rs, ∀ b, rowBlk h ρ r b → ¬ T' b) := by
  obtain ⟨T', k', g, h1, h2⟩ := j.A.freeze rs
  have less : ∀ b, b < w.heap.size → T' b → T b := g.less
  refine ⟨T', ⟨k', fun t => (j.env t).less less, fun r x hx => ?_, j.dom, j.sep, j.wr, j.own, j.la, fun r r' x x' hx hx' hl hl' => ?_, fun r hr => ?_, fun t => (j.tn t).imp id fun h => h.less less, fun b hb => ?_⟩, g, h1⟩
  · refine (j.rows r x hx).mono (Same.refl _ _) less (fun _ _ h => h) fun p b base hp hl hlv => ⟨rfl, ?_⟩
    rcases h2 b ((j.rows r x hx).inT hlv p b base hp hl) with h3 | ⟨q, hq, y, p', base', hy, hyl, hp', hloc⟩
    · exact h3
    · exact absurd rfl (j.x q r y x hy hx hyl hlv p' p b base' b base hp' hp hloc hl)
  · exact j.x r r' x x' (freeze_live' hx hl).1 hx' hl hl'
  · obtain ⟨h3, h4, h5⟩ := j.lp r hr
    refine ⟨h3, h4, fun x hx => ?_⟩
    cases hl : x.live with
    | false => rfl
    | true => rw [h5 x (freeze_live' hx hl).1] at hl; cases hl
  · rcases j.t0 b hb with h3 | ⟨r, hr, hrl, h4⟩
    · rcases h2 b h3 with h5 | ⟨q, hq, y, p', base', hy, hyl, hp', hloc⟩
      · exact .inl h5
      · by_cases hm : q ∈ f.lids
        · refine .inr ⟨q, hm, fun hql => ?_, fun x hx => ?_⟩
          · rw [(j.lp q hql).2.2 y hy] at hyl; cases hyl
          · cases hl : x.live with
            | false => rfl
            | true => exact absurd hq (freeze_live' hx hl).2
        · exact absurd (j.A.t0lt b hb) (Nat.not_lt.2 (j.A.own q y p' b base' hm hy hyl hp' hloc))
    · refine .inr ⟨r, hr, hrl, fun x hx => ?_⟩
      cases hl : x.live with
      | false => rfl
      | true => rw [h4 x (freeze_live' hx hl).1] at hl; cases hl
theorem J.set (j : J f w T ρ h ρ0 e0 h0 ls a) {t : Nat} {av : AV} (hv : Rv w T Rho.none av (a.tmps.getD t undef)) : J f w T ρ h ρ0 (upd e0 t av) h0 ls a := by
  refine { j with env := fun s => ?_, tn := fun s => ?_ } <;> unfold upd <;> split
  · rename_i e; subst e; exact hv.any
  · exact j.env s
  · rename_i e; subst e; exact .inr hv
  · exact j.tn s
theorem J.setr (j : J f w T ρ h ρ0 e0 h0 ls a) {t : Nat} {av : AV} (hv : Rv w T ρ0 av (a.tmps.getD t undef)) (hi : isRef av = true) : J f w T ρ h ρ0 (upd e0 t av) h0 ls a := by
  refine { j with env := fun s => ?_, tn := fun s => ?_ } <;> unfold upd <;> split
  · rename_i e; subst e; exact hv
  · exact j.env s
  · exact .inl hi
  · exact j.tn s
theorem J.move (j : J f w T ρ h ρ0 e0 h0 ls a) {r : Nat} {y : Row} (hy : h r = some y) (hyl : y.live = true) {q : Nat} (hq : h0 q = none) {x : Row} {p : Pl} (hx : ∀ ρ', (∀ r p, ρ0 r = some p → ρ' r = some p) → ρ' q = some p → RowOk w T ρ' q x) (hxl : x.live = true)
    (hloc : p.loc = none ∨ ∃ py b base base', ρ r = some py ∧ py.loc = some (b, base) ∧ p.loc = some (b, base') ∧ (∀ i, base' ≤ i → i < base' + p.n * p.z → base ≤ i ∧ i < base + py.n * py.z) ∧ (x.isAp = true → y.isAp = true))
    (hown : q ∈ f.lids ∧ q = r ∧ p = f.pl0 q ∧ q ∉ ls ∧ x.isAp = false ∨ q ∉ f.lids ∧ r ∉ f.lids) (ls' : List Nat) (hls : q ∈ f.lids ∧ ls' = q :: ls ∨ ls' = ls ∧ q ∉ f.lids) :
    J f w T ρ (h.put r .dead) (fun s => if s = q then some p else ρ0 s) e0 (h0.put q x) ls' a := by
  have more : ∀ s p', ρ0 s = some p' → (if s = q then some p else ρ0 s) = some p' := by
    intro s p' hs
    split
    · rename_i e
      subst e
      rw [j.dom _ hq] at hs
      cases hs
    · exact hs
  have old0 : ∀ s z, (h0.put q x) s = some z → (s = q ∧ z = x) ∨ (s ≠ q ∧ h0 s = some z) := by
    intro s z hz
    simp only [Heap.put] at hz
    split at hz
    · rename_i e; cases hz; exact .inl ⟨e, rfl⟩
    · rename_i e; exact .inr ⟨e, hz⟩
  have old : ∀ s z, (h.put r .dead) s = some z → z.live = true → s ≠ r ∧ h s = some z := by
    intro s z hz hzl
    simp only [Heap.put] at hz
    split at hz
    · cases hz; cases hzl
    · rename_i e; exact ⟨e, hz⟩
  -- the block of the row that moves
  have blk : ∀ b base', p.loc = some (b, base') → ∃ py base, ρ r = some py ∧ py.loc = some (b, base) := by
    intro b base' hb
    rcases hloc with h1 | ⟨py, b', base, base'', h1, h2, h3, _⟩
    · rw [h1] at hb; cases hb
    · rw [h3] at hb; cases hb; exact ⟨py, base, h1, h2⟩
  refine ⟨j.A.kill hy, fun t => (j.env t).mono (Same.refl _ _) (fun _ _ h => h) more, fun s z hz => ?_, fun s hs => ?_, fun s s' z z' hne hz hz' hl hl' p1 p2 b base b' base' hp1 hp2 hl1 hl2 => ?_, fun s z p1 b base hz hl hp1 hl1 => ?_, fun s z p1 b base hs hz hl hp1 hl1 => ?_, fun s hs z hz => ?_, fun s s' z z' hz hz' hl hl' p1 p2 b base b' base' hp1 hp2 hl1 hl2 => ?_, fun s hs => ?_, j.tn, fun b hb => ?_⟩
  · rcases old0 s z hz with ⟨rfl, rfl⟩ | ⟨hne, hz'⟩
    · exact hx _ more (if_pos rfl)
    · exact (j.rows s z hz').mono (Same.refl _ _) (fun _ _ h => h) more fun p' b base hp hl hlv => ⟨rfl, (j.rows s z hz').inT hlv p' b base hp hl⟩
  · simp only [Heap.put] at hs
    split at hs
    · cases hs
    · rename_i hne
      simp only [hne, if_false]
      exact j.dom s hs
  · rcases old0 s z hz with ⟨rfl, rfl⟩ | ⟨h1, h2⟩
    · rcases old0 s' z' hz' with ⟨rfl, rfl⟩ | ⟨h3, h4⟩
      · exact absurd rfl hne
      · rw [if_pos rfl] at hp1
        cases hp1
        rw [if_neg h3] at hp2
        obtain ⟨py, base2, h5, h6⟩ := blk b base hl1
        exact j.x r s' y z' hy h4 hyl hl' py p2 b base2 b' base' h5 hp2 h6 hl2
    · rcases old0 s' z' hz' with ⟨rfl, rfl⟩ | ⟨h3, h4⟩
      · rw [if_pos rfl] at hp2
        cases hp2
        rw [if_neg h1] at hp1
        obtain ⟨py, base2, h5, h6⟩ := blk b' base' hl2
        exact fun e => j.x r s y z hy h2 hyl hl py p1 b' base2 b base h5 hp1 h6 hl1 e.symm
      · rw [if_neg h1] at hp1
        rw [if_neg h3] at hp2
        exact j.sep s s' z z' hne h2 h4 hl hl' p1 p2 b base b' base' hp1 hp2 hl1 hl2
  · rcases old0 s z hz with ⟨rfl, rfl⟩ | ⟨h1, h2⟩
    · rw [if_pos rfl] at hp1
      cases hp1
      rcases hloc with h3 | ⟨py, b', base2, base3, h3, h4, h5, h6, h7⟩
      · rw [h3] at hl1; cases hl1
      · rw [h5] at hl1
        cases hl1
        rcases j.A.wr r y py b base2 hy hyl h3 h4 with h8 | ⟨h8, h9⟩
        · exact .inl h8
        · exact .inr ⟨fun i hi1 hi2 => h8 i (h6 i hi1 hi2).1 (h6 i hi1 hi2).2, fun hh => h9 (h7 hh)⟩
    · rw [if_neg h1] at hp1
      exact j.wr s z p1 b base h2 hl hp1 hl1
  · rcases old0 s z hz with ⟨rfl, rfl⟩ | ⟨h1, h2⟩
    · rw [if_pos rfl] at hp1
      cases hp1
      obtain ⟨py, base2, h5, h6⟩ := blk b base hl1
      rcases hown with ⟨h7, _⟩ | ⟨_, h7⟩
      · exact absurd h7 hs
      · exact j.A.own r y py b base2 h7 hy hyl h5 h6
    · rw [if_neg h1] at hp1
      exact j.own s z p1 b base hs h2 hl hp1 hl1
  · rcases old0 s z hz with ⟨rfl, rfl⟩ | ⟨h1, h2⟩
    · rcases hown with ⟨_, _, _, _, h7⟩ | ⟨h7, _⟩
      · exact h7
      · exact absurd hs h7
    · exact j.la s hs z h2
  · obtain ⟨h1, h2⟩ := old s z hz hl
    rcases old0 s' z' hz' with ⟨rfl, rfl⟩ | ⟨h3, h4⟩
    · rw [if_pos rfl] at hp2
      cases hp2
      obtain ⟨py, base2, h5, h6⟩ := blk b' base' hl2
      exact j.A.sep s r z y h1 h2 hy hl hyl p1 py b base b' base2 hp1 h5 hl1 h6
    · rw [if_neg h3] at hp2
      exact j.x s s' z z' h2 h4 hl hl' p1 p2 b base b' base' hp1 hp2 hl1 hl2
  · have hold : s ∈ ls → s ∈ f.lids ∧ (if s = q then some p else ρ0 s) = some (f.pl0 s) ∧ ∀ x, (h.put r .dead) s = some x → x.live = false := by
      intro hs
      obtain ⟨h1, h2, h3⟩ := j.lp s hs
      refine ⟨h1, more _ _ h2, fun z hz => ?_⟩
      cases hzl : z.live with
      | false => rfl
      | true => rw [h3 z (old s z hz hzl).2] at hzl; cases hzl
    rcases hls with ⟨h1, rfl⟩ | ⟨rfl, _⟩
    · rcases List.mem_cons.1 hs with rfl | hs'
      · rcases hown with ⟨h7, h8, h9, _⟩ | ⟨h7, _⟩
        · refine ⟨h7, by rw [if_pos rfl, h9], fun z hz => ?_⟩
          cases hzl : z.live with
          | false => rfl
          | true => exact absurd h8 (old s z hz hzl).1
        · exact absurd h1 h7
      · exact hold hs'
    · exact hold hs
  · rcases j.t0 b hb with h1 | ⟨s, h1, h2, h3⟩
    · exact .inl h1
    · refine .inr ⟨s, h1, ?_, fun z hz => ?_⟩
      · rcases hls with ⟨h4, rfl⟩ | ⟨rfl, _⟩
        · intro hs
          rcases List.mem_cons.1 hs with rfl | hs'
          · rcases hown with ⟨_, h8, _⟩ | ⟨h7, _⟩
            · subst h8; rw [h3 y hy] at hyl; cases hyl
            · exact absurd h4 h7
          · exact h2 hs'
        · exact h2
      · cases hzl : z.live with
        | false => rfl
        | true => rw [h3 z (old s z hz hzl).2] at hzl; cases hzl
theorem J.nil (j : J f w T ρ h ρ0 e0 h0 ls a) {q : Nat} (hq : h0 q = none) (hql : q ∉ f.lids) (ap : Bool) (z : Nat) :
    J f w T ρ h (fun s => if s = q then some ⟨z, 0, none⟩ else ρ0 s) e0 (h0.put q (.sl ap z [])) ls a := by
  have more : ∀ s p', ρ0 s = some p' → (if s = q then some ⟨z, 0, none⟩ else ρ0 s) = some p' := by
    intro s p' hs
    split
    · rename_i e
      subst e
      rw [j.dom _ hq] at hs
      cases hs
    · exact hs
  have place : ∀ s y p b base, (h0.put q (.sl ap z [])) s = some y → (if s = q then some ⟨z, 0, none⟩ else ρ0 s) = some p → p.loc = some (b, base) → h0 s = some y ∧ ρ0 s = some p := by
    intro s y p b base hy hp hl
    simp only [Heap.put] at hy
    split at hy
    · rename_i e; rw [if_pos e] at hp; cases hp; cases hl
    · rename_i e; rw [if_neg e] at hp; exact ⟨hy, hp⟩
  refine ⟨j.A, fun t => (j.env t).mono (Same.refl _ _) (fun _ _ h => h) more, fun s y hy => ?_, fun s hs => ?_, fun s s' y y' hne hy hy' hl hl' p1 p2 b base b' base' hp1 hp2 hl1 hl2 => ?_, fun s y p1 b base hy hl hp1 hl1 => ?_, fun s y p1 b base hs hy hl hp1 hl1 => ?_, fun s hs y hy => ?_, fun s s' y y' hy hy' hl hl' p1 p2 b base b' base' hp1 hp2 hl1 hl2 => ?_, fun s hs => ?_, j.tn, j.t0⟩
  · simp only [Heap.put] at hy
    split at hy
    · rename_i e
      cases hy
      subst e
      exact .inl ⟨rfl, trivial, if_pos rfl⟩
    · exact (j.rows s y hy).mono (Same.refl _ _) (fun _ _ h => h) more fun p' b base hp hl hlv => ⟨rfl, (j.rows s y hy).inT hlv p' b base hp hl⟩
  · simp only [Heap.put] at hs
    split at hs
    · cases hs
    · rename_i hne
      simp only [hne, if_false]
      exact j.dom s hs
  · obtain ⟨h1, h2⟩ := place s y p1 b base hy hp1 hl1
    obtain ⟨h3, h4⟩ := place s' y' p2 b' base' hy' hp2 hl2
    exact j.sep s s' y y' hne h1 h3 hl hl' p1 p2 b base b' base' h2 h4 hl1 hl2
  · obtain ⟨h1, h2⟩ := place s y p1 b base hy hp1 hl1
    exact j.wr s y p1 b base h1 hl h2 hl1
  · obtain ⟨h1, h2⟩ := place s y p1 b base hy hp1 hl1
    exact j.own s y p1 b base hs h1 hl h2 hl1
  · simp only [Heap.put] at hy
    split at hy
    · rename_i e; rw [e] at hs; exact absurd hs hql
    · exact j.la s hs y hy
  · obtain ⟨h3, h4⟩ := place s' y' p2 b' base' hy' hp2 hl2
    exact j.x s s' y y' hy h3 hl hl' p1 p2 b base b' base' hp1 h4 hl1 hl2
  · obtain ⟨h1, h2, h3⟩ := j.lp s hs
    exact ⟨h1, more _ _ h2, h3⟩
end
end Go.Pe
set_option linter.unusedVariables false
set_option linter.unusedSimpArgs false
namespace Go.Pe
open Go
section
variable {f : Fr} {w : World} {T : Nat → Prop} {ρ ρ0 : Rho} {h h0 : Heap} {e e0 : Nat → AV} {ls : List Nat} {a : Act}
theorem J.slice (j : J f w T ρ h ρ0 e0 h0 ls a) {t r z o n : Nat} {ap : Bool} {z' : Nat} {es : List (List AV)} (hr : h r = some (.sl ap z' es)) (hv : Rv w T ρ (.sl r z o n) (a.tmps.getD t undef)) (hq : h0 (pid t) = none) (hpl : pid t ∉ f.lids) (hrl : r ∉ f.lids) :
    ∃ ρ0', J f w T ρ (h.put r .dead) ρ0' (upd e0 t (.sl (pid t) z 0 ((es.drop o).take n).length)) (h0.put (pid t) (.sl (ap && decide (o = 0)) z ((es.drop o).take n))) ls a := by
  have ok := j.A.rows r _ hr
  generalize hx : a.tmps.getD t undef = v at hv
  have fin : ∀ {p : Pl} {x : Row} {av : AV}, J f w T ρ (h.put r .dead) (fun s => if s = pid t then some p else ρ0 s) e0 (h0.put (pid t) x) ls a → Rv w T (fun s => if s = pid t then some p else ρ0 s) av v → isRef av = true →
      ∃ ρ0', J f w T ρ (h.put r .dead) ρ0' (upd e0 t av) (h0.put (pid t) x) ls a := by
    intro p x av j' hv' hi
    exact ⟨_, j'.setr (by rw [hx]; exact hv') hi⟩
  cases hv with
  | @sl _ _ _ _ _ m b base cap hρ hn hc hm hs =>
    rcases ok with ⟨_, _, h3⟩ | ⟨b', base', cur, el, h3, h4, h5, h6, h7, h8⟩
    · rw [hρ] at h3; cases h3
    rw [hρ] at h3
    cases h3
    have hl : ((es.drop o).take n).length = n := by rw [List.length_take, List.length_drop]; omega
    have key : ∀ j c, base + o * z + j * z + c = base + (o + j) * z + c := by intro j c; rw [Nat.add_mul]; omega
    have hsz : base + o * z + n * z ≤ cur.size := by
      have := Nat.mul_le_mul_right z hn
      rw [Nat.add_mul] at this
      omega
    rw [hl]
    refine fin (p := ⟨z, n, some (b, base + o * z)⟩) (j.move hr rfl hq (x := .sl (ap && decide (o = 0)) z ((es.drop o).take n)) (p := ⟨z, n, some (b, base + o * z)⟩) (fun ρ' hmore hp => ?_) rfl (.inr ⟨_, b, base, base + o * z, hρ, rfl, rfl, fun i h1 h2 => ⟨by omega, ?_⟩, fun hh => ?_⟩) (.inr ⟨hpl, hrl⟩) ls (.inr ⟨rfl, hpl⟩)) ?_ rfl
    · refine .inr ⟨b, base + o * z, cur, el, by rw [hl]; exact hp, h4, h5, by rw [hl]; exact hsz, fun hh => ?_, ⟨fun j hj => ?_, fun j c hj hc' => ?_⟩⟩
      · simp only [Bool.and_eq_true, decide_eq_true_eq] at hh
        rw [h7 hh.1, hh.2]
        simp
      · rw [hl] at hj
        rw [getD_drop_take _ _ _ _ _ hj]
        exact h8.len _ (by omega)
      · rw [hl] at hj
        rw [getD_drop_take _ _ _ _ _ hj, key]
        exact h8.cell _ c (by omega) hc'
    · have := Nat.mul_le_mul_right z hn
      rw [Nat.add_mul] at this
      simp only at h2 ⊢
      omega
    · simp only [Row.isAp, Bool.and_eq_true] at hh ⊢
      exact hh.1
    · have := Rv.sl (w := w) (T := T) (ρ := fun s => if s = pid t then some ⟨z, n, some (b, base + o * z)⟩ else ρ0 s) (r := pid t) (o := 0) (n := n) (cap := cap) (if_pos rfl) (by omega) hc hm (by
        obtain ⟨cur2, e2, fr2, h9, h10⟩ := hs
        refine ⟨cur2, e2, fr2, h9, ?_⟩
        rw [Nat.add_mul] at h10
        rw [Nat.zero_add]
        omega)
      rw [Nat.zero_mul, Nat.add_zero] at this
      exact this
  | @slz _ _ _ _ m b base off hρ hn =>
    rcases ok with ⟨_, _, h3⟩ | ⟨b', base', cur, el, h3, h4, h5, h6, h7, h8⟩
    · rw [hρ] at h3; cases h3
    rw [hρ] at h3
    cases h3
    rw [List.take_zero]
    refine fin (p := ⟨z, 0, some (b, 0)⟩) (j.move hr rfl hq (x := .sl (ap && decide (o = 0)) z []) (p := ⟨z, 0, some (b, 0)⟩) (fun ρ' hmore hp => ?_) rfl (.inr ⟨_, b, base, 0, hρ, rfl, rfl, fun i h1 h2 => ?_, fun hh => ?_⟩) (.inr ⟨hpl, hrl⟩) ls (.inr ⟨rfl, hpl⟩)) ?_ rfl
    · exact .inr ⟨b, 0, cur, el, hp, h4, h5, by simp, fun _ => rfl, ⟨fun j hj => (by cases hj), fun j c hj => (by cases hj)⟩⟩
    · simp at h2
    · simp only [Row.isAp, Bool.and_eq_true] at hh ⊢
      exact hh.1
    · exact .slz (if_pos rfl) (Nat.le_refl _)
  | slnil hρ =>
    rcases ok with ⟨h1, h2, h3⟩ | ⟨b', base', cur, el, h3, h4, h5, h6, h7, h8⟩
    · subst h1
      rw [List.drop_nil, List.take_nil]
      refine fin (p := ⟨z, 0, none⟩) (j.move hr rfl hq (x := .sl (ap && decide (0 = 0)) z []) (p := ⟨z, 0, none⟩) (fun ρ' hmore hp => .inl ⟨rfl, trivial, hp⟩) rfl (.inl rfl) (.inr ⟨hpl, hrl⟩) ls (.inr ⟨rfl, hpl⟩)) ?_ rfl
      exact .slnil (if_pos rfl)
    · rw [hρ] at h3
      have := congrArg Pl.loc (Option.some.inj h3)
      cases this
theorem J.struct (j : J f w T ρ h ρ0 e0 h0 ls a) {r : Nat} {cs : List AV} (hr : h r = some (.st cs)) (hnr : r ∉ cs.flatMap ref0) {q : Nat} (hq : h0 q = none) (hown : q ∈ f.lids ∧ q = r ∧ q ∉ ls ∨ q ∉ f.lids ∧ r ∉ f.lids) (ls' : List Nat) (hls : q ∈ f.lids ∧ ls' = q :: ls ∨ ls' = ls ∧ q ∉ f.lids) :
    ∃ T' ρ0' b base, J f w T' ρ ((h.freeze (cs.flatMap ref0)).put r .dead) ρ0' e0 (h0.put q (.st (cs.map (tell0 h)))) ls' a ∧ Goes w w T T' ρ ρ ∧ ρ r = some ⟨cs.length, 1, some (b, base)⟩ ∧ ρ0' q = some ⟨cs.length, 1, some (b, base)⟩ := by
  obtain ⟨T', j', g, hfree⟩ := j.freeze (cs.flatMap ref0)
  have hr' : (h.freeze (cs.flatMap ref0)) r = some (.st cs) := by rw [freeze_notin hnr]; exact hr
  obtain ⟨b, base, cur, el, h3, h4, h5, h6, h7⟩ := j'.A.rows r _ hr'
  refine ⟨T', _, b, base, j'.move hr' rfl hq (x := .st (cs.map (tell0 h))) (p := ⟨cs.length, 1, some (b, base)⟩) (fun ρ' hmore hp => ?_) rfl (.inr ⟨_, b, base, base, h3, rfl, rfl, fun i h1 h2 => ⟨h1, h2⟩, fun hh => by cases hh⟩) ?_ ls' hls, g, h3, if_pos rfl⟩
  · refine ⟨b, base, cur, el, by rw [List.length_map]; exact hp, h4, h5, by rw [List.length_map]; exact h6, ⟨fun i hi => ?_, fun i c hi hc => ?_⟩⟩
    · cases i with
      | zero => rfl
      | succ i => simp at hi
    · cases i with
      | succ i => simp at hi
      | zero =>
        rw [List.length_map] at hc
        obtain ⟨v, h8, h9, h10⟩ := h7.cell 0 c (by simp) hc
        refine ⟨v, ?_, h9, ?_⟩
        · simpa only [Nat.zero_mul] using h8
        · show Rv w T' ρ' ((cs.map (tell0 h)).getD c .junk) v
          rw [getD_map_lt (tell0 h) cs c .junk .junk hc]
          refine (tell0_cell (T := T) j.A.rows g.less h9 ?_ fun r' hr2 => hfree r' ?_).any
          · -- the cell as it was ahead of the freezing
            obtain ⟨b2, base2, cur2, el2, k3, k4, k5, k6, k7⟩ := j.A.rows r _ hr
            rw [h3] at k3
            cases k3
            obtain ⟨v2, k8, k9, k10⟩ := k7.cell 0 c (by simp) hc
            rw [h8] at k8
            cases k8
            exact k10
          · exact List.mem_flatMap.2 ⟨_, getD_mem _ hc, hr2⟩
  · rcases hown with ⟨h1, rfl, h2⟩ | h1
    · refine .inl ⟨h1, rfl, ?_, h2, rfl⟩
      have := j.A.lp q h1
      rw [h3] at this
      exact Option.some.inj this
    · exact .inr h1
end
end Go.Pe
set_option linter.unusedVariables false
set_option linter.unusedSimpArgs false
namespace Go.Pe
open Go
section
variable {P : Program} {f : Fr} {w w' : World} {T T' : Nat → Prop} {ρ ρ' : Rho} {h : Heap} {e : Nat → AV} {a : Act} {o : Oper}
theorem Keeps.old {w w' : World} (h : Keeps (fun _ _ => False) w w') : Old w w' := by
  refine ⟨h.os, h.tape, h.output, h.size, fun b hb => ?_⟩
  have := h.same (T := fun _ => False) fun _ _ _ h => h.elim
  exact this.same b hb fun h => h
end
end Go.Pe
set_option linter.unusedVariables false
set_option linter.unusedSimpArgs false
namespace Go.Pe
open Go
theorem Keeps.other {w w' : World} {b : Nat} {Wb : Nat → Prop} (h : Keeps (fun b' i => b' = b ∧ Wb i) w w') {c : Nat} (hc : c < w.heap.size) (hne : c ≠ b) : w'.heap[c]? = w.heap[c]? := by
  rcases h.block c hc with h1 | ⟨d, d', e, fr, h1, h2, h3, h4⟩
  · exact h1
  · rw [h1, h2]
    have : d' = d := by
      apply Array.ext_getElem?
      intro o
      exact h4 o fun hw => hne hw.1
    rw [this]
section
variable {P : Program} {f : Fr} {w w' : World} {T T' : Nat → Prop} {ρ ρ' : Rho} {h : Heap} {e : Nat → AV} {a : Act} {o : Oper}
end
end Go.Pe
set_option linter.unusedVariables false
set_option linter.unusedSimpArgs false
namespace Go.Pe
open Go
abbrev Fns := (Nat → Option PF) × (Nat → Nat)
section
variable (P : Program) (F : Fns) (tabs : List (Nat × List AV))
end
end Go.Pe
set_option linter.unusedVariables false
set_option linter.unusedSimpArgs false
namespace Go.Pe
open Go
def Sim (f : Fr) (nt : Nat) (w : World) (st : St) (a : Act) : Prop := nt ≤ a.tmps.size ∧ a.defers = [] ∧ ∃ T ρ, WInv f w T ρ st.h ∧ Env w T ρ st.env a
section
variable {P : Program} {F : Fns} {f : Fr} {nt : Nat} {w : World} {a : Act}
end
end Go.Pe
set_option linter.unusedVariables false
set_option linter.unusedSimpArgs false
namespace Go.Pe
open Go
def At.tmps : At → List Nat
  | .t n => [n]
  | .c _ => []
theorem flatMap_agree {α β : Type} {f g : α → List β} {l : List α} (h : ∀ x ∈ l, f x = g x) : l.flatMap f = l.flatMap g := by
  induction l with
  | nil => rfl
  | cons x l ih => rw [List.flatMap_cons, List.flatMap_cons, h x List.mem_cons_self, ih fun y hy => h y (List.mem_cons_of_mem _ hy)]
abbrev Comp := AV × List Nat × Option (Nat × Row)
def Comp.app (c : Comp) (h : Heap) : Option (AV × Heap) := match c.2.2 with
  | none => some (c.1, h.freeze c.2.1)
  | some (id, x) => if (h id).isNone then some (c.1, (h.freeze c.2.1).put id x) else none
end Go.Pe
set_option linter.unusedVariables false
set_option linter.unusedSimpArgs false
namespace Go.Pe
open Go
def Hle (h h' : Heap) : Prop := ∀ r x, h r = some x → h' r = some x ∨ h' r = some x.freeze
def Cl (h : Heap) (l : List Nat) : Prop := ∀ r ∈ l, h r ≠ none
theorem Cl.append {h : Heap} {l m : List Nat} : Cl h (l ++ m) ↔ Cl h l ∧ Cl h m := by
  simp only [Cl, List.mem_append]
  exact ⟨fun k => ⟨fun r hr => k r (.inl hr), fun r hr => k r (.inr hr)⟩, fun ⟨k1, k2⟩ r hr => hr.elim (k1 r) (k2 r)⟩
theorem Cl.flatMap {α : Type} {h : Heap} {l : List α} {g : α → List Nat} (k : Cl h (l.flatMap g)) {x : α} (hx : x ∈ l) : Cl h (g x) := fun r hr => k r (List.mem_flatMap.2 ⟨x, hx, hr⟩)
section
variable {h h' : Heap}
theorem freeze_win (o n : Nat) (x : Row) : x.freeze.win o n = x.win o n := by cases x <;> rfl
theorem freeze_at (e : Nat) (x : Row) : x.freeze.at e = x.at e := by cases x <;> rfl
theorem Hle.win (k : Hle h h') {r : Nat} (hr : h r ≠ none) (o n : Nat) : (h' r).bind (Row.win o n) = (h r).bind (Row.win o n) := by
  cases hx : h r with
  | none => exact absurd hx hr
  | some x => rcases k r x hx with h1 | h1 <;> rw [h1] <;> simp [freeze_win]
theorem Hle.at (k : Hle h h') {r : Nat} (hr : h r ≠ none) (e : Nat) : (h' r).bind (Row.at e) = (h r).bind (Row.at e) := by
  cases hx : h r with
  | none => exact absurd hx hr
  | some x => rcases k r x hx with h1 | h1 <;> rw [h1] <;> simp [freeze_at]
theorem Hle.tell0 (k : Hle h h') {v : AV} (hc : Cl h (ref0 v)) : tell0 h' v = tell0 h v := by
  cases v <;> try rfl
  case sl r z o n => simp only [Go.Pe.tell0, k.win (hc r (by simp [ref0]))]
theorem Hle.tellC (k : Hle h h') {v : AV} (hc : Cl h (refC h v)) : tellC h' v = tellC h v ∧ refC h' v = refC h v := by
  cases v
  case p r e o =>
    have hr := k.at (hc r (by simp [refC])) e
    simp only [Go.Pe.tellC, refC, hr]
    refine ⟨?_, trivial⟩
    cases hb : (h r).bind (Row.at e) with
    | none => rfl
    | some cs =>
      simp only
      have : cs.map (Go.Pe.tell0 h') = cs.map (Go.Pe.tell0 h) := List.map_congr_left fun c hcm => k.tell0 fun q hq => hc q (by
        simp only [refC, hb, List.mem_cons, List.mem_flatMap]
        exact .inr ⟨c, hcm, hq⟩)
      rw [this]
  case sl r z o n => exact ⟨k.tell0 (v := .sl r z o n) hc, rfl⟩
  all_goals exact ⟨rfl, rfl⟩
theorem Hle.mapC (k : Hle h h') {cs : List AV} (hc : Cl h (cs.flatMap (refC h))) : cs.map (Go.Pe.tellC h') = cs.map (Go.Pe.tellC h) ∧ cs.flatMap (refC h') = cs.flatMap (refC h) :=
  ⟨List.map_congr_left fun c hm => (k.tellC (hc.flatMap hm)).1, flatMap_agree fun c hm => (k.tellC (hc.flatMap hm)).2⟩
theorem Hle.tell1 (k : Hle h h') {v : AV} (hc : Cl h (ref1 h v)) : tell1 h' v = tell1 h v ∧ ref1 h' v = ref1 h v := by
  cases v
  case agg cs =>
    obtain ⟨h1, h2⟩ := k.mapC (cs := cs) hc
    exact ⟨congrArg AV.agg h1, h2⟩
  case tup cs => exact ⟨rfl, rfl⟩
  all_goals first | exact k.tellC (v := (AV.junk)) hc | exact k.tellC (v := (AV.b _)) hc | exact k.tellC (v := (AV.i _ _)) hc | exact k.tellC (v := (AV.s _)) hc | exact k.tellC (v := (AV.np)) hc | exact k.tellC (v := (AV.ns _)) hc | exact k.tellC (v := (AV.l _ _)) hc | exact k.tellC (v := (AV.tp _ _)) hc | exact k.tellC (v := (AV.sl _ _ _ _)) hc | exact k.tellC (v := (AV.p _ _ _)) hc | exact k.tellC (v := (AV.own _ _ _)) hc | exact k.tellC (v := (AV.ownp _)) hc | exact k.tellC (v := (AV.back _ _)) hc | exact k.tellC (v := (AV.agg _)) hc | exact k.tellC (v := (AV.tup _)) hc
theorem Hle.tell (k : Hle h h') {v : AV} (hc : Cl h (ref h v)) : tell h' v = tell h v ∧ ref h' v = ref h v := by
  cases v
  case tup cs =>
    have h1 : cs.map (Go.Pe.tell1 h') = cs.map (Go.Pe.tell1 h) := List.map_congr_left fun c hm => (k.tell1 (Cl.flatMap hc hm)).1
    have h2 : cs.flatMap (ref1 h') = cs.flatMap (ref1 h) := flatMap_agree fun c hm => (k.tell1 (Cl.flatMap hc hm)).2
    exact ⟨congrArg AV.tup h1, h2⟩
  case back => exact ⟨rfl, rfl⟩
  all_goals first | exact k.tell1 (v := (AV.junk)) hc | exact k.tell1 (v := (AV.b _)) hc | exact k.tell1 (v := (AV.i _ _)) hc | exact k.tell1 (v := (AV.s _)) hc | exact k.tell1 (v := (AV.np)) hc | exact k.tell1 (v := (AV.ns _)) hc | exact k.tell1 (v := (AV.l _ _)) hc | exact k.tell1 (v := (AV.tp _ _)) hc | exact k.tell1 (v := (AV.sl _ _ _ _)) hc | exact k.tell1 (v := (AV.p _ _ _)) hc | exact k.tell1 (v := (AV.own _ _ _)) hc | exact k.tell1 (v := (AV.ownp _)) hc | exact k.tell1 (v := (AV.back _ _)) hc | exact k.tell1 (v := (AV.agg _)) hc | exact k.tell1 (v := (AV.tup _)) hc
theorem ref_cells {v : AV} (hc : Cl h (ref1 h v)) : Cl h (v.cells.flatMap (refC h)) := by
  cases v
  case agg cs => exact hc
  all_goals
    intro r hr
    simp only [AV.cells, List.flatMap_cons, List.flatMap_nil, List.append_nil, List.not_mem_nil] at hr
  all_goals exact hc r hr
theorem Hle.cells (k : Hle h h') {v : AV} (hc : Cl h (ref1 h v)) : v.cells.map (Go.Pe.tellC h') = v.cells.map (Go.Pe.tellC h) := (k.mapC (ref_cells hc)).1
theorem Hle.ptr (k : Hle h h') {v : AV} (hc : Cl h (refC h v)) : ptrAt h' v = ptrAt h v := by
  cases v <;> try rfl
  case p r e o => simp only [ptrAt, k.at (hc r (by simp [refC]))]
theorem ptr_ref {v : AV} (hc : Cl h (ref h v)) : Cl h (refC h v) := by
  cases v
  case agg => intro r hr; simp [refC, ref0] at hr
  case tup => intro r hr; simp [refC, ref0] at hr
  all_goals exact hc
theorem ref_one {v : AV} (hc : Cl h (ref h v)) : Cl h (ref1 h v) := by
  cases v
  case tup => intro r hr; simp [ref1, refC, ref0] at hr
  all_goals exact hc
theorem Hle.ld (k : Hle h h') {v : AV} (hc : Cl h (ref h v)) (ag : Bool) (sz : Nat) : ldV h' ag sz v = ldV h ag sz v := by
  simp only [ldV, k.ptr (ptr_ref hc)]
theorem Hle.bsl (k : Hle h h') {e : Nat → AV} {sz : Nat} : ∀ {ps : List (Nat × At)} {z : List (List AV)}, (∀ p ∈ ps, Cl h (ref h (p.2.ev e))) → bslV e h' sz z ps = bslV e h sz z ps := by
  intro ps
  induction ps with
  | nil => intro z _; rfl
  | cons p ps ih =>
    intro z hc
    obtain ⟨j, x⟩ := p
    have h1 := k.cells (ref_one (hc (j, x) List.mem_cons_self))
    simp only [bslV] at h1 ⊢
    rw [h1]
    split
    · exact ih fun p hp => hc p (List.mem_cons_of_mem _ hp)
    · rfl
theorem Hle.es (k : Hle h h') {v : AV} (hc : Cl h (ref h v)) (z : Nat) : esV h' z v = esV h z v := by
  cases v <;> try rfl
  case sl r z' o n => simp only [esV, k.win (hc r (by simp [ref, ref1, refC, ref0]))]
end
section
variable {f : Fr} {w : World} {T : Nat → Prop} {ρ : Rho} {h : Heap}
end
end Go.Pe
set_option linter.unusedVariables false
set_option linter.unusedSimpArgs false
namespace Go.Pe
open Go
section
variable {P : Program} {F : Fns} {f : Fr} {nt : Nat}
def pick (ps : List POp) (l : List Nat) : List POp := l.map fun i => ps.getD i ⟨none, .mv (.c .junk), none⟩
theorem Sim.old {w w' : World} {st : St} {a : Act} (h : Sim f nt w st a) (ho : Old w w') : Sim f nt w' st a := by
  obtain ⟨h1, h2, T, ρ, k, he⟩ := h
  exact ⟨h1, h2, T, ρ, k.old ho, he.goes (Goes.old ho)⟩
end
end Go.Pe
set_option linter.unusedVariables false
set_option linter.unusedSimpArgs false
namespace Go.Pe
open Go
inductive CK where
  | int (k : IntKind)
  | bool
  | str
  | sl (cs : List CK)
  deriving Inhabited
inductive Fit : CK → AV → Prop
  | int {k n} (h : (Lit.int k n).wf = true) : Fit (.int k) (.i k n)
  | bool {b} : Fit .bool (.b b)
  | str {s : ByteArray} (h : s.size ≤ maxLen) : Fit .str (.s s)
  | sl {cs es} (hl : es.length ≤ maxLen) (hz : ∀ j, j < es.length → (es.getD j []).length = cs.length) (hv : ∀ j c, j < es.length → c < cs.length → Fit (cs.getD c default) ((es.getD j []).getD c .junk)) : Fit (.sl cs) (.l cs.length es)
def fieldsOk (r : TypeId → List CK → Bool) (P : Program) : List Field → Nat → List CK → Bool
  | [], _, cs => cs.isEmpty
  | f :: fs, o, cs => decide (f.offset = o) && decide (P.cellsOf f.type ≤ cs.length) && r f.type (cs.take (P.cellsOf f.type)) && fieldsOk r P fs (o + P.cellsOf f.type) (cs.drop (P.cellsOf f.type))
def tyOk (P : Program) : Nat → TypeId → List CK → Bool
  | 0, _, _ => false
  | n + 1, t, cs => match P.underlying t, cs with
    | some .bool, [.bool] => true
    | some (.int k), [.int k'] => decide (k = k')
    | some .string, [.str] => true
    | some (.slice e), [.sl ds] => decide (P.cellsOf e = ds.length) && decide (0 < ds.length) && tyOk P n e ds
    | some (.struct fs), cs => decide (cs.length = P.cellsOf t) && fieldsOk (tyOk P n) P fs.toList 0 cs
    | _, _ => false
structure CellsRv (w : World) (ks : List CK) (acs : List AV) (cs : List Value) : Prop where
  l1 : acs.length = ks.length
  l2 : cs.length = ks.length
  fit : ∀ c, c < ks.length → Fit (ks.getD c default) (acs.getD c .junk)
  rv : ∀ c, c < ks.length → Rv w (fun _ => False) Rho.none (acs.getD c .junk) (cs.getD c undef) ∧ (cs.getD c undef).oneCell' = true
theorem CellsRv.one {w : World} {k : CK} {x : AV} {v : Value} (h1 : Fit k x) (h2 : Rv w (fun _ => False) Rho.none x v) (h3 : v.oneCell' = true) : CellsRv w [k] [x] [v] := by
  refine ⟨rfl, rfl, fun c hc => ?_, fun c hc => ?_⟩
  · cases c with
    | zero => exact h1
    | succ c => simp at hc
  · cases c with
    | zero => exact ⟨h2, h3⟩
    | succ c => simp at hc
theorem CellsRv.append {w : World} {k1 k2 : List CK} {a1 a2 : List AV} {c1 c2 : List Value} (x : CellsRv w k1 a1 c1) (y : CellsRv w k2 a2 c2) : CellsRv w (k1 ++ k2) (a1 ++ a2) (c1 ++ c2) := by
  have g : ∀ {α : Type} (l m : List α) (i : Nat) (d : α), (l ++ m).getD i d = if i < l.length then l.getD i d else m.getD (i - l.length) d := by
    intro α l m i d
    simp only [List.getD_eq_getElem?_getD, List.getElem?_append]
    split <;> rfl
  refine ⟨by simp [x.l1, y.l1], by simp [x.l2, y.l2], fun c hc => ?_, fun c hc => ?_⟩
  · rw [g, g, x.l1]
    rw [List.length_append] at hc
    split
    · rename_i h; exact x.fit c h
    · exact y.fit _ (by omega)
  · rw [g, g, x.l1, x.l2]
    rw [List.length_append] at hc
    split
    · rename_i h; exact x.rv c h
    · exact y.rv _ (by omega)
section
variable {H : Type} {enc : TypeId × Value → H} {P : Program} {w : World} {base : Nat} {spare : Nat → Bool} {held : Bool}
theorem fields_rv {fuel : Nat} {r : TypeId → List CK → Bool} (ih : ∀ t cs x ks, DataW.trod enc P w base spare held fuel t cs = some x → r t ks = true → ∃ acs, CellsRv w ks acs cs) {cs : List Value} : ∀ (fs : List Field) (o : Nat) (ks : List CK), fieldsOk r P fs o ks = true →
    (∀ f ∈ fs, ∃ y, DataW.trod enc P w base spare held fuel f.type ((cs.drop f.offset).take (P.cellsOf f.type)) = some y) → cs.length = o + ks.length → ∃ acs, CellsRv w ks acs (cs.drop o) := by
  intro fs
  induction fs with
  | nil =>
    intro o ks hf _ hl
    have : ks = [] := by simpa [fieldsOk] using hf
    subst this
    rw [List.drop_of_length_le (by simp at hl; omega)]
    exact ⟨[], rfl, rfl, fun c hc => (by cases hc), fun c hc => (by cases hc)⟩
  | cons f fs ihf =>
    intro o ks hf hy hl
    simp only [fieldsOk, Bool.and_eq_true, decide_eq_true_eq] at hf
    obtain ⟨⟨⟨h1, h2⟩, h3⟩, h4⟩ := hf
    obtain ⟨y, hy1⟩ := hy f List.mem_cons_self
    rw [h1] at hy1
    obtain ⟨a1, r1⟩ := ih _ _ _ _ hy1 h3
    obtain ⟨a2, r2⟩ := ihf _ _ h4 (fun f hf => hy f (List.mem_cons_of_mem _ hf)) (by rw [List.length_drop]; omega)
    have := r1.append r2
    rw [List.take_append_drop] at this
    refine ⟨a1 ++ a2, ?_⟩
    have e : (cs.drop o).take (P.cellsOf f.type) ++ cs.drop (o + P.cellsOf f.type) = cs.drop o := by
      rw [← List.drop_drop, List.take_append_drop]
    rw [e] at this
    exact this
theorem choose_list {α : Type} (d : α) {n : Nat} {Q : Nat → α → Prop} (h : ∀ j, j < n → ∃ x, Q j x) : ∃ l : List α, l.length = n ∧ ∀ j, j < n → Q j (l.getD j d) := by
  induction n with
  | zero => exact ⟨[], rfl, fun j hj => by cases hj⟩
  | succ n ih =>
    obtain ⟨l, h1, h2⟩ := ih fun j hj => h j (by omega)
    obtain ⟨x, hx⟩ := h n (by omega)
    refine ⟨l ++ [x], by simp [h1], fun j hj => ?_⟩
    rcases Nat.lt_or_ge j n with hlt | hge
    · rw [List.getD_eq_getElem?_getD, List.getElem?_append_left (by omega), ← List.getD_eq_getElem?_getD]
      exact h2 j hlt
    · have : j = n := by omega
      subst this
      rw [List.getD_eq_getElem?_getD, List.getElem?_append_right (by omega), h1, Nat.sub_self]
      exact hx
theorem cells?_each {a : Addr} {n : Nat} {l : List Value} (h : w.cells? base a n = some l) : l.length = n ∧ ∀ i, i < n → w.cell? (a.add i) = l[i]? := by
  unfold World.cells? at h
  split at h
  · exact ⟨by simpa using mapM_some_length h, fun i hi => by simpa using mapM_some_get h i i (by simp [hi])⟩
  · cases h
theorem spot_none {a : Addr} {v : Value} (h : w.cell? a = some v) : a.spot = none := by
  unfold World.cell? at h
  split at h
  · cases hs : a.spot with
    | none => rfl
    | some s => rw [hs] at h; simp at h
  · cases h
theorem cell_lt {a : Addr} {v : Value} (h : w.cell? a = some v) : a.block < w.heap.size := by
  unfold World.cell? at h
  split at h
  · rename_i c e fr hc
    exact (Array.getElem?_eq_some_iff.1 hc).1
  · cases h
theorem trod_rv : ∀ (fuel n : Nat) (t : TypeId) (cs : List Value) (x : DataW H × List MemPlace) (ks : List CK), DataW.trod enc P w base spare held fuel t cs = some x → tyOk P n t ks = true → ∃ acs, CellsRv w ks acs cs := by
  intro fuel
  induction fuel with
  | zero => intro n t cs x ks h; simp [DataW.trod] at h
  | succ fuel ih =>
    intro n t cs x ks h hty
    cases n with
    | zero => simp [tyOk] at hty
    | succ n =>
      have h0 := h
      unfold tyOk at hty
      split at hty
      · rename_i hu
        unfold DataW.trod at h
        rw [hu] at h
        split at h <;> simp_all
        exact ⟨_, .one .bool .b rfl⟩
      · rename_i k k' hu
        simp only [decide_eq_true_eq] at hty
        subst hty
        unfold DataW.trod at h
        rw [hu] at h
        split at h <;> simp_all
        obtain ⟨⟨rfl, hw⟩, _⟩ := h
        exact ⟨_, .one (.int hw) .i rfl⟩
      · rename_i hu
        unfold DataW.trod at h
        rw [hu] at h
        split at h <;> simp_all
        exact ⟨_, .one (.str h.1) .s rfl⟩
      · rename_i e ds hu
        simp only [Bool.and_eq_true, decide_eq_true_eq] at hty
        obtain ⟨⟨hz, hpos⟩, hty⟩ := hty
        rcases DataW.trod_slice hu h0 with ⟨rfl, _⟩ | ⟨a, len, cap, elems, rest, m, hm, rfl, _, hb, hl, hc, hlen, hel, _, _⟩
        · exact ⟨[.l ds.length []], .one (.sl (Nat.zero_le _) (fun j hj => by cases hj) (fun j c hj => by cases hj)) .lnil0 rfl⟩
        · have : m = fuel := by omega
          subst this
          rcases Nat.eq_zero_or_pos len with hz0 | hpos0
          · subst hz0
            exact ⟨[.l ds.length []], .one (.sl (Nat.zero_le _) (fun j hj => by cases hj) (fun j c hj => by cases hj)) (.lnil (fun h => by cases h) hc) rfl⟩
          · have each : ∀ i, i < len → ∃ acs, ∃ ci : List Value, CellsRv w ds acs ci ∧ ∀ c, c < ds.length → w.cell? ((a.add (i * ds.length)).add c) = ci[c]? := by
              intro i hi
              have h1 := hel i hi
              rw [hz] at h1
              have h2 : ∃ y, elems[i]? = some y := ⟨elems[i]'(by omega), List.getElem?_eq_getElem (by omega)⟩
              obtain ⟨y, hy⟩ := h2
              rw [hy, Option.bind_eq_some_iff] at h1
              obtain ⟨ci, h3, h4⟩ := h1
              obtain ⟨acs, h5⟩ := ih n e ci y ds h4 hty
              exact ⟨acs, ci, h5, (cells?_each h3).2⟩
            obtain ⟨es, hes, hq⟩ := choose_list (α := List AV) [] each
            have first : ∃ v, w.cell? ((a.add (0 * ds.length)).add 0) = some v := by
              obtain ⟨ci, h1, h2⟩ := hq 0 hpos0
              have h3 := h2 0 hpos
              rw [List.getElem?_eq_getElem (by rw [h1.l2]; exact hpos)] at h3
              exact ⟨_, h3⟩
            obtain ⟨v0, hv0⟩ := first
            have hsp := spot_none hv0
            rw [show (a.add (0 * ds.length)).add 0 = a by simp [Addr.add]] at hsp
            obtain ⟨ab, ao, asp⟩ := a
            simp only at hsp
            subst hsp
            have hlt := cell_lt hv0
            rw [add_at, add_at] at hlt
            have hcell : ∀ j c, j < es.length → c < ds.length → ∃ v, w.cell? ⟨ab, ao + j * ds.length + c, none⟩ = some v ∧ v.oneCell' = true ∧ Rv w (fun _ => False) Rho.none ((es.getD j []).getD c .junk) v := by
              intro j c hj hc'
              obtain ⟨ci, h1, h2⟩ := hq j (by omega)
              have h3 := h2 c hc'
              rw [add_at, add_at] at h3
              have h4 := h1.rv c hc'
              rw [List.getElem?_eq_getElem (by rw [h1.l2]; exact hc')] at h3
              have h5 : ci.getD c undef = ci[c]'(by rw [h1.l2]; exact hc') := by
                rw [List.getD_eq_getElem?_getD, List.getElem?_eq_getElem (by rw [h1.l2]; exact hc')]; rfl
              rw [h5] at h4
              exact ⟨_, h3, h4.2, h4.1⟩
            refine ⟨[.l ds.length es], .one (.sl (by omega) (fun j hj => ?_) (fun j c hj hc' => ?_)) ?_ rfl⟩
            · obtain ⟨ci, h1, h2⟩ := hq j (by omega)
              exact h1.l1
            · obtain ⟨ci, h1, h2⟩ := hq j (by omega)
              exact h1.fit c hc'
            · have := Rv.l (w := w) (T := fun _ => False) (ρ := Rho.none) (z := ds.length) (es := es) (b := ab) (base := ao) (cap := cap) (fun j c => (w.cell? ⟨ab, ao + j * ds.length + c, none⟩).getD undef) (fun h => h) hlt (by omega) hc
                (fun j hj => by
                  obtain ⟨ci, h1, h2⟩ := hq j (by omega)
                  exact h1.l1)
                (fun j c hj hc' => by
                  obtain ⟨v, h1, h2, h3⟩ := hcell j c hj hc'
                  rw [h1]
                  exact ⟨rfl, h2⟩)
                (fun j c hj hc' => by
                  obtain ⟨v, h1, h2, h3⟩ := hcell j c hj hc'
                  rw [h1]
                  exact h3)
              rw [hes] at this
              exact this
      · rename_i ks _ _ fs hu
        simp only [Bool.and_eq_true, decide_eq_true_eq] at hty
        obtain ⟨hl, hty⟩ := hty
        have h1 : cs.length = P.cellsOf t ∧ ∀ f ∈ fs.toList, ∃ y, DataW.trod enc P w base spare held fuel f.type ((cs.drop f.offset).take (P.cellsOf f.type)) = some y := by
          unfold DataW.trod at h
          rw [hu] at h
          simp only at h
          split at h
          · rename_i hcl
            simp only [Option.map_eq_some_iff] at h
            obtain ⟨ys, hys, _⟩ := h
            refine ⟨hcl, fun f hf => ?_⟩
            obtain ⟨i, hi, rfl⟩ := List.getElem_of_mem hf
            have h2 := mapM_some_get hys i _ (List.getElem?_eq_getElem hi)
            have h3 := mapM_some_length hys
            exact ⟨_, h2.trans (List.getElem?_eq_getElem (by omega))⟩
          · cases h
        obtain ⟨acs, h2⟩ := fields_rv (fun t cs x ks => ih n t cs x ks) fs.toList 0 ks hty h1.2 (by omega)
        rw [List.drop_zero] at h2
        exact ⟨acs, h2⟩
      · cases hty
end
end Go.Pe
set_option linter.unusedVariables false
set_option linter.unusedSimpArgs false
namespace Go.Pe
open Go
def isStr (P : Program) (t : TypeId) : Bool := match P.underlying t with
  | some (.struct _) => true
  | _ => false
theorem CellsRv.single {w : World} {ks : List CK} {acs : List AV} {v : Value} (h : CellsRv w ks acs [v]) : Rv w (fun _ => False) Rho.none (acs.getD 0 .junk) v := by
  have h2 := h.l2
  exact (h.rv 0 (by simp at h2; omega)).1
theorem arg_rv {H : Type} {enc : TypeId × Value → H} {P : Program} {w : World} {base b0 : Nat} {spare : Nat → Bool} {held : Bool} {r : Reach} {t : TypeId} {v : Value} {d : DataW H} {ps : List MemPlace} {n : Nat} {ks : List CK}
    (hval : Value.okWide P w r b0 t v) (hd : DataW.Trod enc P w base spare held t v d ps) (hty : tyOk P (n + 1) t ks = true) :
    ∃ acs : List AV, acs.length = ks.length ∧ (∀ c, c < ks.length → Fit (ks.getD c default) (acs.getD c .junk)) ∧ Rv w (fun _ => False) Rho.none (if isStr P t then .agg acs else acs.getD 0 .junk) v := by
  obtain ⟨fuel, hf⟩ := hd
  obtain ⟨acs, h⟩ := trod_rv fuel (n + 1) t _ _ ks hf hty
  refine ⟨acs, h.l1, h.fit, ?_⟩
  unfold tyOk at hty
  unfold isStr
  split at hty
  · rename_i hu
    obtain ⟨b, rfl⟩ := WideShapes.okWide_bool hu hval
    rw [hu]
    exact h.single
  · rename_i k k' hu
    obtain ⟨m, rfl⟩ := WideShapes.okWide_int hu hval
    rw [hu]
    exact h.single
  · rename_i hu
    obtain ⟨m, rfl⟩ := WideShapes.okWide_string hu hval
    rw [hu]
    exact h.single
  · rename_i e ds hu
    obtain ⟨a, len, cap, rfl⟩ := WideShapes.okWide_slice hu hval
    rw [hu]
    exact h.single
  · rename_i ks _ _ fs hu
    obtain ⟨cs, rfl, hcs⟩ := WideShapes.okWide_struct hu hval
    rw [hu]
    have h' : CellsRv w ks acs cs.toList := h
    refine .agg cs (by rw [h'.l1, ← h'.l2]; simp) (fun c hc => ?_) fun c hc => ?_
    · rw [toList_getD]; exact (h'.rv c (by rw [← h'.l1]; exact hc)).2
    · rw [toList_getD]; exact (h'.rv c (by rw [← h'.l1]; exact hc)).1
  · cases hty
theorem Fit.inv_int {k : IntKind} {x : AV} (h : Fit (.int k) x) : ∃ n, x = .i k n ∧ (Lit.int k n).wf = true := by cases h; exact ⟨_, rfl, by assumption⟩
theorem Fit.inv_bool {x : AV} (h : Fit .bool x) : ∃ b, x = .b b := by cases h; exact ⟨_, rfl⟩
theorem Fit.inv_sl {ks : List CK} {x : AV} (h : Fit (.sl ks) x) {α : Type} [Inhabited α] (f : α → List AV) (Q : α → Prop) (hf : ∀ acs : List AV, acs.length = ks.length → (∀ c, c < ks.length → Fit (ks.getD c default) (acs.getD c .junk)) → ∃ a, acs = f a ∧ Q a) :
    ∃ l : List α, x = .l ks.length (l.map f) ∧ l.length ≤ maxLen ∧ ∀ a ∈ l, Q a := by
  cases h with
  | @sl _ es hl hz hv =>
    have each : ∀ j, j < es.length → ∃ a, es.getD j [] = f a ∧ Q a := fun j hj => hf _ (hz j hj) fun c hc => hv j c hj hc
    obtain ⟨l, h1, h2⟩ := choose_list (α := α) default each
    have e : es = l.map f := by
      apply List.ext_getElem (by simp [h1])
      intro j hj hj2
      have := (h2 j hj).1
      rw [List.getD_eq_getElem?_getD, List.getElem?_eq_getElem hj, List.getD_eq_getElem?_getD, List.getElem?_eq_getElem (by omega)] at this
      simpa using this
    refine ⟨l, by rw [← e], by omega, fun a ha => ?_⟩
    obtain ⟨j, hj, rfl⟩ := List.getElem_of_mem ha
    have := (h2 j (by omega)).2
    rw [List.getD_eq_getElem?_getD, List.getElem?_eq_getElem hj] at this
    simpa using this
end Go.Pe
namespace Dg
def vl (B : Int) : List Int → Int
  | [] => 0
  | x :: r => x + B * vl B r
def Dig (B : Int) (l : List Int) : Prop := ∀ x, x ∈ l → 0 ≤ x ∧ x < B
def dg (B : Nat) (n : Nat) : List Int :=
  if h : n = 0 ∨ B < 2 then [] else ((n % B : Nat) : Int) :: dg B (n / B)
termination_by n
decreasing_by exact Nat.div_lt_self (by omega) (by omega)
theorem Dig.getD {B : Int} {l : List Int} (h : Dig B l) (hB : 0 < B) (n : Nat) : 0 ≤ l.getD n 0 ∧ l.getD n 0 < B := by
  rw [List.getD_eq_getElem?_getD]
  rcases Nat.lt_or_ge n l.length with hn | hn
  · rw [List.getElem?_eq_getElem hn]; exact h _ (List.getElem_mem hn)
  · rw [List.getElem?_eq_none hn]; simp; exact hB
theorem Dig.take {B : Int} {l : List Int} (h : Dig B l) (n : Nat) : Dig B (l.take n) := fun x hx => h x (List.mem_of_mem_take hx)
theorem Dig.drop {B : Int} {l : List Int} (h : Dig B l) (n : Nat) : Dig B (l.drop n) := fun x hx => h x (List.mem_of_mem_drop hx)
theorem Dig.set {B : Int} {l : List Int} (h : Dig B l) (n : Nat) {v : Int} (h0 : 0 ≤ v) (h1 : v < B) : Dig B (l.set n v) := by
  intro x hx
  rcases List.mem_or_eq_of_mem_set hx with hx | rfl
  · exact h x hx
  · exact ⟨h0, h1⟩
theorem Dig.nil {B : Int} : Dig B [] := fun x hx => by simp at hx
theorem Dig.cons {B x : Int} {r : List Int} (h0 : 0 ≤ x) (h1 : x < B) (h : Dig B r) : Dig B (x :: r) := by
  intro y hy
  rcases List.mem_cons.1 hy with rfl | hy
  · exact ⟨h0, h1⟩
  · exact h y hy
theorem Dig.append {B : Int} {l m : List Int} (h : Dig B l) (k : Dig B m) : Dig B (l ++ m) := by
  intro y hy
  rcases List.mem_append.1 hy with hy | hy
  · exact h y hy
  · exact k y hy
theorem Dig.replicate {B : Int} (hB : 0 < B) (n : Nat) : Dig B (List.replicate n 0) := by
  intro y hy
  rw [List.mem_replicate] at hy
  omega
def Top (l : List Int) : Prop := l ≠ [] → l.getD (l.length - 1) 0 ≠ 0
theorem Top.nil : Top [] := fun h => absurd rfl h
end Dg
set_option linter.unusedVariables false
set_option linter.unusedSimpArgs false
namespace Go.Pe
theorem wf_i64 {x : Int} (h : (Lit.int .i64 x).wf = true) : -9223372036854775808 ≤ x ∧ x ≤ 9223372036854775807 := by
  simp [Lit.wf, IntKind.min, IntKind.max, IntKind.signed, IntKind.bits] at h
  omega
def D (n : Nat) : List Int := Dg.dg 4294967296 n
def W (l : List Int) : Nat := (Dg.vl 4294967296 (l.map (· % 4294967296))).toNat
def L (n : Nat) : Nat := (D n).length
end Go.Pe
set_option linter.unusedSimpArgs false
namespace Go.Pe
section
variable (F : Nat → Option PF)
def blk (id : Nat) (x : Option (Ex × St)) : Option (Ex × St) := x.map fun p => match p.1 with
  | .exit j => if j = id then (.normal, p.2) else p
  | _ => p
noncomputable def again (x : Option (List AV)) (l o : List (Nat × Nat)) (y : PC) : Option (Ex × List AV) := x.bind fun vs => LP F l o y vs
end
theorem refs (h : Heap) :
    (∀ z es, ref h (.l z es) = []) ∧ (∀ k n, ref h (.i k n) = []) ∧ (∀ x, ref h (.b x) = []) ∧ (∀ x, ref h (.s x) = []) ∧ (∀ z, ref h (.ns z) = []) ∧
    (∀ cs o, ref h (.tp cs o) = []) ∧ ref h .np = [] ∧ (∀ cs, ref h (.agg cs) = cs.flatMap (refC h)) ∧ (∀ cs, ref h (.tup cs) = cs.flatMap (ref1 h)) ∧
    (∀ r z o n, ref h (.sl r z o n) = [r]) ∧ (∀ r z o, ref h (.p r z o) = refC h (.p r z o)) ∧ ref h .junk = [] := by
  refine ⟨?_, ?_, ?_, ?_, ?_, ?_, ?_, ?_, ?_, ?_, ?_, ?_⟩ <;> intros <;> rfl
end Go.Pe
set_option linter.unusedSimpArgs false
namespace Go.Pe
def u (x : Int) : List AV := [.i .u64 x]
def pickV (c x y : AV) (h : Heap) : Option (AV × Heap) := match c with
  | .b q => some (if q then x else y, h)
  | _ => none
def notV (x : AV) (h : Heap) : Option (AV × Heap) := match x with
  | .b q => some (.b (!q), h)
  | _ => none
def fldV (o : Nat) (x : AV) (h : Heap) : Option (AV × Heap) := match x with
  | .p r q c => some (.p r q (c + o), h)
  | .tp cs c => some (.tp cs (c + o), h)
  | _ => none
def convV (k : IntKind) (x : AV) (h : Heap) : Option (AV × Heap) := match x with
  | .i _ n => some (.i k (k.wrap n), h)
  | _ => none
def extV (n : Nat) (x : AV) (h : Heap) : Option (AV × Heap) := match x with
  | .tup vs => (vs[n]?).map fun v => (v, h)
  | _ => none
def fptV (agg : Bool) (sz o : Nat) (x : AV) (h : Heap) : Option (AV × Heap) := match x with
  | .agg cs => (ldC agg sz o cs).map fun v => (v, h)
  | _ => none
def maxV (x y : AV) (h : Heap) : Option (AV × Heap) := match x, y with
  | .i k x, .i _ y => some (.i k (if y > x then y else x), h)
  | _, _ => none
def minV (x y : AV) (h : Heap) : Option (AV × Heap) := match x, y with
  | .i k x, .i _ y => some (.i k (if y < x then y else x), h)
  | _, _ => none
def negV (x : AV) (h : Heap) : Option (AV × Heap) := match x with
  | .i k n => some (.i k (k.wrap (0 - n)), h)
  | _ => none
def nckV (x : AV) (h : Heap) : Option (AV × Heap) := match x with
  | .p r q o => some (.p r q o, h)
  | .tp cs o => some (.tp cs o, h)
  | _ => none
theorem more (c : Nat → List AV → Option AV) :
    (∀ x y e h, PO.ev c (.max x y) e h = maxV (x.ev e) (y.ev e) h) ∧ (∀ x y e h, PO.ev c (.min x y) e h = minV (x.ev e) (y.ev e) h) ∧ (∀ x e h, PO.ev c (.neg x) e h = negV (x.ev e) h) ∧ (∀ x e h, PO.ev c (.nck x) e h = nckV (x.ev e) h) := ⟨fun _ _ _ _ => rfl, fun _ _ _ _ => rfl, fun _ _ _ => rfl, fun _ _ _ => rfl⟩
theorem ops (c : Nat → List AV → Option AV) (e : Nat → AV) (h : Heap) :
    (∀ x, PO.ev c (.mv x) e h = some (x.ev e, h)) ∧
    (∀ x op y, PO.ev c (.bin op x y) e h = (binV op (x.ev e) (y.ev e)).map fun v => (v, h)) ∧ (∀ agg sz x, PO.ev c (.ld agg sz x) e h = (ldV h agg sz (x.ev e)).map fun v => (v, h)) ∧
    (∀ sz x v, PO.ev c (.st sz x v) e h = (stV h sz (x.ev e) (v.ev e)).map fun g => (.junk, g)) ∧ (∀ sz x i, PO.ev c (.idx sz x i) e h = (intV (i.ev e)).bind fun j => (idxV sz (x.ev e) j).map fun v => (v, h)) ∧
    (∀ x, PO.ev c (.len x) e h = (lenV (x.ev e)).map fun (n : Nat) => (.i .i64 (n : Int), h)) ∧ (∀ x y z, PO.ev c (.pick x y z) e h = pickV (x.ev e) (y.ev e) (z.ev e) h) ∧
    (∀ x, PO.ev c (.not x) e h = notV (x.ev e) h) ∧
    (∀ o x, PO.ev c (.fld o x) e h = fldV o (x.ev e) h) ∧ 
    (∀ k x, PO.ev c (.conv k x) e h = convV k (x.ev e) h) ∧ 
    (∀ n x, PO.ev c (.ext n x) e h = extV n (x.ev e) h) ∧ (∀ g s o x, PO.ev c (.fpt g s o x) e h = fptV g s o (x.ev e) h) := by
  refine ⟨?_, ?_, ?_, ?_, ?_, ?_, ?_, ?_, ?_, ?_, ?_, ?_⟩ <;> intros <;> rfl
end Go.Pe
set_option linter.unusedVariables false
namespace Go.Pe
abbrev maxL : Nat := 9223372036854775807
end Go.Pe
set_option linter.unusedVariables false
set_option linter.unusedSimpArgs false
namespace Go.Pe
open Go
theorem maxLen_eq : maxLen = maxL := by decide
abbrev Fits (ks : List CK) (acs : List AV) : Prop := acs.length = ks.length ∧ ∀ c, c < ks.length → Fit (ks.getD c default) (acs.getD c .junk)
theorem Fits.one {k : CK} {acs : List AV} (h : Fits [k] acs) : ∃ x, acs = [x] ∧ Fit k x := by
  obtain ⟨h1, h2⟩ := h
  match acs, h1 with
  | [x], _ => exact ⟨x, rfl, h2 0 (by simp)⟩
theorem Fits.cons {k : CK} {ks : List CK} {acs : List AV} (h : Fits (k :: ks) acs) : ∃ x r, acs = x :: r ∧ Fit k x ∧ Fits ks r := by
  obtain ⟨h1, h2⟩ := h
  match acs, h1 with
  | x :: r, h1 => exact ⟨x, r, rfl, h2 0 (by simp), by simpa using h1, fun c hc => by simpa using h2 (c + 1) (by simpa using hc)⟩
theorem Fits.nil {acs : List AV} (h : Fits [] acs) : acs = [] := List.length_eq_zero_iff.1 h.1
theorem Fits.split {k1 k2 : List CK} {acs : List AV} (h : Fits (k1 ++ k2) acs) : ∃ a b, acs = a ++ b ∧ Fits k1 a ∧ Fits k2 b := by
  obtain ⟨h1, h2⟩ := h
  rw [List.length_append] at h1 h2
  refine ⟨acs.take k1.length, acs.drop k1.length, (List.take_append_drop _ _).symm, ⟨by rw [List.length_take]; omega, fun c hc => ?_⟩, ⟨by rw [List.length_drop]; omega, fun c hc => ?_⟩⟩
  · have := h2 c (by omega)
    rw [List.getD_eq_getElem?_getD, List.getElem?_append_left hc, ← List.getD_eq_getElem?_getD] at this
    rw [show (List.take k1.length acs).getD c AV.junk = acs.getD c AV.junk by rw [List.getD_eq_getElem?_getD, List.getElem?_take_of_lt hc, ← List.getD_eq_getElem?_getD]]
    exact this
  · have := h2 (k1.length + c) (by omega)
    rw [List.getD_eq_getElem?_getD, List.getElem?_append_right (by omega), ← List.getD_eq_getElem?_getD, Nat.add_sub_cancel_left] at this
    rw [show (List.drop k1.length acs).getD c AV.junk = acs.getD (k1.length + c) AV.junk by rw [List.getD_eq_getElem?_getD, List.getElem?_drop, ← List.getD_eq_getElem?_getD]]
    exact this
theorem open_list {ks : List CK} {x : AV} (h : Fit (.sl ks) x) {α : Type} [Inhabited α] (f : α → List AV) (Q : α → Prop) (hf : ∀ acs, Fits ks acs → ∃ a, acs = f a ∧ Q a) : ∃ l : List α, x = .l ks.length (l.map f) ∧ l.length ≤ maxL ∧ ∀ a ∈ l, Q a := by
  obtain ⟨l, h1, h2, h3⟩ := h.inv_sl f Q fun acs h1 h2 => hf acs ⟨h1, h2⟩
  exact ⟨l, h1, by rw [← maxLen_eq]; exact h2, h3⟩
theorem open_int {x : AV} (h : Fit (.int .i64) x) : ∃ n : Int, x = .i .i64 n ∧ -9223372036854775808 ≤ n ∧ n ≤ 9223372036854775807 := by
  obtain ⟨n, rfl, hn⟩ := h.inv_int
  exact ⟨n, rfl, wf_i64 hn⟩
end Go.Pe
set_option linter.unusedVariables false
set_option linter.unusedSimpArgs false
namespace Go.Proofs.Ythkkidbbiodkjaa
open Go.RowKit Go.Pe
def eB (b : Bool) : List AV := [.b b]
theorem sb_of {W : World} {v : Value} {l : List Bool} (h : Rv W (fun _ => False) Rho.none (.l 1 (l.map eB)) v) : ∃ pa cap, v = .slice pa l.length cap ∧ ∀ i : Nat, i < l.length → ∃ b base, pa = some ⟨b, base, none⟩ ∧ b < W.heap.size ∧ W.cell? ⟨b, base + i, none⟩ = some (.bool (l.getD i false)) := by
  generalize he : l.map eB = es at h
  have hl : l.length = es.length := by rw [← he, List.length_map]
  cases h with
  | lnil ha hm => exact ⟨_, _, by rw [hl]; rfl, fun i hi => by rw [hl] at hi; exact absurd hi (Nat.not_lt_zero _)⟩
  | @l _ _ _ b base cap g hT hb hc hm hz hcell hv =>
    refine ⟨some ⟨b, base, none⟩, cap, by rw [hl], fun i hi => ⟨b, base, rfl, hb, ?_⟩⟩
    have h1 := (hcell i 0 (by omega) (by omega)).1
    have h2 := hv i 0 (by omega) (by omega)
    rw [Nat.mul_one, Nat.add_zero] at h1
    have e : es.getD i [] = eB (l.getD i false) := by
      rw [← he, List.getD_eq_getElem?_getD, List.getElem?_map, List.getElem?_eq_getElem hi, List.getD_eq_getElem?_getD, List.getElem?_eq_getElem hi]; rfl
    rw [e] at h2
    have h3 : Rv W (fun _ => False) Rho.none (.b (l.getD i false)) (g i 0) := h2
    generalize g i 0 = z at h1 h3
    cases h3
    exact h1
theorem open_bools {x : AV} (h : Fit (.sl [.bool]) x) : ∃ l : List Bool, x = .l 1 (l.map eB) ∧ l.length ≤ maxL ∧ ∀ a ∈ l, True := open_list h eB (fun _ => True) fun acs ha => by
  obtain ⟨y, rfl, hy⟩ := ha.one
  obtain ⟨b, rfl⟩ := hy.inv_bool
  exact ⟨b, rfl, trivial⟩
end Go.Proofs.Ythkkidbbiodkjaa
set_option linter.unusedVariables false
set_option linter.unusedSimpArgs false
namespace Go.Proofs.Ythkkidbbiodkjaa
open Go.RowKit
set_option maxHeartbeats 6400000 in
theorem metersA_c (n : Int) (hn : n < 0) (pa : Option Addr) (k ca : Nat) (hk : k ≤ 9223372036854775807) (w : World) (fa : Sb w pa k) :
    Calls Try.prog 6 #[.int .i64 n, .slice pa k ca] w fun e w' => e = .returned (.bool true) ∧ Below w.heap.size w w' := by
  have n1 := new_c
  have n2 := bound_err n hn w
  unfold mobj at n1
  go_enter Try.func6, Try.ntmps6
  go_wp2_with (first | (go_at_call 15; with_reducible refine n2.mono ?_; rintro e w' ⟨rfl, hw⟩; obtain rfl := hw.symm) | (go_at_call 7; refine (n1 _).mono ?_; rintro e w' ⟨rfl, rfl⟩))
  go_loopw [7, 8, 9] (fun v7 v8 v9 w' => ∃ (i t r : Nat), v7 = .int .i64 t ∧ v8 = .int .i64 r ∧ v9 = .int .i64 i ∧ i ≤ 200 ∧ t ≤ i ∧ r ≤ i ∧ Met w' w.heap.size t r 0 false ∧ Below w.heap.size w w' ∧ w.heap.size + 1 ≤ w'.heap.size) (fun _ _ v9 _ => 200 - (intOf v9).toNat)
  case atStart =>
    refine ⟨0, 0, 0, rfl, rfl, rfl, by omega, by omega, by omega, ?_, ?_, ?_⟩
    · constructor <;> go_simp
    · exact (Below.refl _ w).alloc (Nat.le_refl _) _
    · simp
  case round =>
    obtain ⟨i, t, r, rfl, rfl, rfl, hi, ht, hr, m1, hb, hs⟩ := hrel
    have e0 : (0 : Int) ≤ (i : Int) := by omega
    by_cases h1 : (i : Int) < (k : Int)
    · by_cases h2 : (i : Int) < 200
      · have w1 : wrap64 ((i : Int) + 1) = (i : Int) + 1 := by rw [wrp (by omega) (by omega)]
        have w2 : wrap64 ((t : Int) + 1) = (t : Int) + 1 := by rw [wrp (by omega) (by omega)]
        have w3 : wrap64 ((r : Int) + 1) = (r : Int) + 1 := by rw [wrp (by omega) (by omega)]
        obtain ⟨b1, o1, q1, rfl, hb1, hc1⟩ := fa i (by omega)
        have g1 := (hb.cell (p := ⟨b1, o1 + i, none⟩) hb1).trans hc1
        have k1 : (0 : Int) ≤ (i : Int) ∧ (i : Int) < (k : Int) := ⟨e0, h1⟩
        cases q1
        · have t1 := refuse_c w.heap.size t r 0 false _ m1
          rw [w3] at t1
          go_wp2_with (go_at_call 13; with_reducible refine t1.mono ?_; rintro e w1 ⟨rfl, rfl⟩)
          go_roundw
          case rel => exact ⟨i + 1, t, r + 1, rfl, rfl, rfl, by omega, by omega, by omega, m1.setR _, hb.setCell (p := ⟨w.heap.size, 1, none⟩) (Nat.le_refl _) _, by simp; omega⟩
          case measure => simp [intOf]; omega
        · have t1 := take_free w.heap.size t r 0 _ m1
          rw [w2] at t1
          go_wp2_with (go_at_call 8; with_reducible refine t1.mono ?_; rintro e w1 ⟨rfl, rfl⟩)
          go_roundw
          case rel => exact ⟨i + 1, t + 1, r, rfl, rfl, rfl, by omega, by omega, by omega, m1.setA _, hb.setCell (p := ⟨w.heap.size, 0, none⟩) (Nat.le_refl _) _, by simp; omega⟩
          case measure => simp [intOf]; omega
      · have c1 := counts_c w.heap.size t r 0 false _ m1
        have c2 := fun k => left_free w.heap.size t r 0 _ (m1.drewN k)
        have c3 := awake_c
        go_wp2_with (first | (go_at_call 9; with_reducible refine c1.mono ?_; rintro e w1 ⟨rfl, k1, rfl⟩) | (go_at_call 14; with_reducible refine (c2 _).mono ?_; rintro e w1 ⟨rfl, rfl⟩) | (go_at_call 10; refine (c3 _).mono ?_; rintro e w3 ⟨rfl, hb3⟩))
        go_ret
        exact ⟨rfl, hb.trans (Below.trans (below_drewN (Below.refl _ _) _) (hb3.mono (by simp; omega)))⟩
    · have c1 := counts_c w.heap.size t r 0 false _ m1
      have c2 := fun k => left_free w.heap.size t r 0 _ (m1.drewN k)
      have c3 := awake_c
      go_wp2_with (first | (go_at_call 9; with_reducible refine c1.mono ?_; rintro e w1 ⟨rfl, k1, rfl⟩) | (go_at_call 14; with_reducible refine (c2 _).mono ?_; rintro e w1 ⟨rfl, rfl⟩) | (go_at_call 10; refine (c3 _).mono ?_; rintro e w3 ⟨rfl, hb3⟩))
      go_ret
      exact ⟨rfl, hb.trans (Below.trans (below_drewN (Below.refl _ _) _) (hb3.mono (by simp; omega)))⟩
set_option maxRecDepth 100000 in
set_option maxHeartbeats 6400000 in
theorem metersB_c (n : Int) (hn : ¬ n < 0) (hn2 : n ≤ 9223372036854775807) (pa : Option Addr) (k ca : Nat) (hk : k ≤ 9223372036854775807) (w : World) (fa : Sb w pa k) :
    Calls Try.prog 6 #[.int .i64 n, .slice pa k ca] w fun e w' => e = .returned (.bool true) ∧ Below w.heap.size w w' := by
  have n2 := bound_c n hn w
  unfold mobj at n2
  go_enter Try.func6, Try.ntmps6
  go_wp2_with (go_at_call 15; with_reducible refine n2.mono ?_; rintro e w' ⟨rfl, rfl⟩)
  go_loopw [7, 8, 9] (fun v7 v8 v9 w' => ∃ (i t r : Nat), v7 = .int .i64 t ∧ v8 = .int .i64 r ∧ v9 = .int .i64 i ∧ i ≤ 200 ∧ t ≤ i ∧ r ≤ i ∧ (t : Int) ≤ n ∧ Met w' w.heap.size t r (n - t) true ∧ Below w.heap.size w w' ∧ w.heap.size + 1 ≤ w'.heap.size) (fun _ _ v9 _ => 200 - (intOf v9).toNat)
  case atStart =>
    refine ⟨0, 0, 0, rfl, rfl, rfl, by omega, by omega, by omega, by omega, ?_, ?_, ?_⟩
    · rw [show n - ((0 : Nat) : Int) = n by omega]
      constructor <;> go_simp
    · exact (Below.refl _ w).alloc (Nat.le_refl _) _
    · simp
  case round =>
    obtain ⟨i, t, r, rfl, rfl, rfl, hi, ht, hr, htn, m1, hb, hs⟩ := hrel
    have e0 : (0 : Int) ≤ (i : Int) := by omega
    by_cases h1 : (i : Int) < (k : Int)
    · by_cases h2 : (i : Int) < 200
      · have w1 : wrap64 ((i : Int) + 1) = (i : Int) + 1 := by rw [wrp (by omega) (by omega)]
        have w2 : wrap64 ((t : Int) + 1) = (t : Int) + 1 := by rw [wrp (by omega) (by omega)]
        have w3 : wrap64 ((r : Int) + 1) = (r : Int) + 1 := by rw [wrp (by omega) (by omega)]
        obtain ⟨b1, o1, q1, rfl, hb1, hc1⟩ := fa i (by omega)
        have g1 := (hb.cell (p := ⟨b1, o1 + i, none⟩) hb1).trans hc1
        have k1 : (0 : Int) ≤ (i : Int) ∧ (i : Int) < (k : Int) := ⟨e0, h1⟩
        cases q1
        · have t1 := refuse_c w.heap.size t r (n - t) true _ m1
          rw [w3] at t1
          go_wp2_with (go_at_call 13; with_reducible refine t1.mono ?_; rintro e w1 ⟨rfl, rfl⟩)
          go_roundw
          case rel => exact ⟨i + 1, t, r + 1, rfl, rfl, rfl, by omega, by omega, by omega, htn, m1.setR _, hb.setCell (p := ⟨w.heap.size, 1, none⟩) (Nat.le_refl _) _, by simp; omega⟩
          case measure => simp [intOf]; omega
        · by_cases h3 : (t : Int) < n
          · have w4 : wrap64 (n - (t : Int) + -1) = n - ((t + 1 : Nat) : Int) := by rw [wrp (by omega) (by omega)]; omega
            have t1 := take_some w.heap.size t r (n - t) _ m1 (by rw [w4]; omega)
            rw [w2, w4] at t1
            generalize hz : n - ((t + 1 : Nat) : Int) = z at t1
            go_wp2_with (go_at_call 8; with_reducible refine t1.mono ?_; rintro e w1 ⟨rfl, rfl⟩)
            go_roundw
            case rel => exact ⟨i + 1, t + 1, r, rfl, rfl, rfl, by omega, by omega, by omega, by omega, by rw [hz]; exact (m1.setL _).setA _, (hb.setCell (p := ⟨w.heap.size, 2, none⟩) (Nat.le_refl _) _).setCell (p := ⟨w.heap.size, 0, none⟩) (Nat.le_refl _) _, by simp; omega⟩
            case measure => simp [intOf]; omega
          · have w4 : wrap64 (n - (t : Int) + -1) = -1 := by rw [wrp (by omega) (by omega)]; omega
            have t1 := take_none w.heap.size t r (n - t) _ m1 (by rw [w4]; omega)
            rw [w3, w4] at t1
            go_wp2_with (go_at_call 8; with_reducible refine t1.mono ?_; rintro e w1 ⟨rfl, rfl⟩)
            go_roundw
            case rel => exact ⟨i + 1, t, r + 1, rfl, rfl, rfl, by omega, by omega, by omega, htn, by rw [show n - (t : Int) = 0 by omega]; exact ((m1.setL _).setL 0).setR _, ((hb.setCell (p := ⟨w.heap.size, 2, none⟩) (Nat.le_refl _) _).setCell (p := ⟨w.heap.size, 2, none⟩) (Nat.le_refl _) _).setCell (p := ⟨w.heap.size, 1, none⟩) (Nat.le_refl _) _, by simp; omega⟩
            case measure => simp [intOf]; omega
      · have w5 : wrap64 (n - (t : Int)) = n - t := by rw [wrp (by omega) (by omega)]
        have c1 := counts_c w.heap.size t r (n - t) true _ m1
        have c2 := fun k => left_some w.heap.size t r (n - t) _ (m1.drewN k)
        have c3 := awake_c
        go_wp2_with (first | (go_at_call 9; with_reducible refine c1.mono ?_; rintro e w1 ⟨rfl, k1, rfl⟩) | (go_at_call 14; with_reducible refine (c2 _).mono ?_; rintro e w1 ⟨rfl, rfl⟩) | (go_at_call 10; refine (c3 _).mono ?_; rintro e w3 ⟨rfl, hb3⟩))
        go_ret
        exact ⟨rfl, hb.trans (Below.trans (below_drewN (Below.refl _ _) _) (hb3.mono (by simp; omega)))⟩
    · have w5 : wrap64 (n - (t : Int)) = n - t := by rw [wrp (by omega) (by omega)]
      have c1 := counts_c w.heap.size t r (n - t) true _ m1
      have c2 := fun k => left_some w.heap.size t r (n - t) _ (m1.drewN k)
      have c3 := awake_c
      go_wp2_with (first | (go_at_call 9; with_reducible refine c1.mono ?_; rintro e w1 ⟨rfl, k1, rfl⟩) | (go_at_call 14; with_reducible refine (c2 _).mono ?_; rintro e w1 ⟨rfl, rfl⟩) | (go_at_call 10; refine (c3 _).mono ?_; rintro e w3 ⟨rfl, hb3⟩))
      go_ret
      exact ⟨rfl, hb.trans (Below.trans (below_drewN (Below.refl _ _) _) (hb3.mono (by simp; omega)))⟩
theorem meters_c (n : Int) (hn2 : n ≤ 9223372036854775807) (pa : Option Addr) (k ca : Nat) (hk : k ≤ 9223372036854775807) (w : World) (fa : Sb w pa k) :
    Calls Try.prog 6 #[.int .i64 n, .slice pa k ca] w fun e w' => e = .returned (.bool true) ∧ Below w.heap.size w w' := by
  by_cases hn : n < 0
  · exact metersA_c n hn pa k ca hk w fa
  · exact metersB_c n hn hn2 pa k ca hk w fa
end Go.Proofs.Ythkkidbbiodkjaa
set_option linter.unusedVariables false
set_option linter.unusedSimpArgs false
namespace Go.Proofs.Ythkkidbbiodkjaa.limitMeters
open Go.Pe
open Go.ChangeShapes Go.WideShapes Go.ChangeAt Go.RowKit
theorem own : ownKnob Try.prog.godebug = none := by kernel_rfl
theorem laidOut : laidOutB Try.prog = true := by kernel_rfl
set_option maxRecDepth 100000 in
theorem lifted (os : Os) (started : os.Started) (H : Type) (enc : TypeId × Value → H) :
    ReturnsInHanded {} Try.checked os 6 .any (Rows.limitMetersSpec.pre6 enc Try.prog Try.f6 Rows.limitMetersRow.domain false) (Rows.limitMetersSpec.post enc Try.prog Try.f6 false true false false) := by
  refine returnsInHanded_of_change_sized (C := Try.checked) own started (by kernel_rfl) Try.func6
    (ChangeSpec.witness6 (enc := enc) (C := Try.checked) false ⟨#[], #[.int .i64 0, .slice none 0 0], []⟩ 8 (by kernel_rfl) (by kernel_rfl) (by kernel_rfl) (by kernel_rfl)) ?_
  intro W base args ds gs before hval0 hW hcnd hsz0 _
  have hval : ∀ (j : Nat) t v, Try.f6.params[j]? = some t → args[j]? = some v → Value.okWide Try.prog W .any base t v := hval0
  have hW' := hW
  obtain ⟨p, q, hA0, hV, rfl, hfz, hnd⟩ := hW
  have hA : DataW.TrodAll enc Try.prog W 0 (fun _ => true) true Try.f6.params.toList args.toList ds p := hA0
  rw [Try.params6] at hA hval
  obtain ⟨v0, vs0, d0, ds0, pl0, ql0, hargs, rfl, rfl, h0, r0⟩ := trodAll_cons hA
  obtain ⟨v1, vs1, d1, ds1, pl1, ql1, rfl, rfl, rfl, h1, r1⟩ := trodAll_cons r0
  obtain ⟨rfl, rfl, rfl⟩ := trodAll_nil r1
  obtain rfl : args = #[v0, v1] := by cases args; simp_all
  obtain ⟨rfl, rfl⟩ := trodVars_none hV
  have lt0 : ∀ x ∈ pl0, x.block < W.heap.size := by obtain ⟨m, hm⟩ := h0; exact DataW.trod_lt m _ _ _ hm
  obtain ⟨acs0, la0, fa0, rv0⟩ := arg_rv (n := 12) (ks := [.int .i64]) (hval 0 3 v0 rfl rfl) h0 (by kernel_rfl)
  rw [show isStr Try.prog 3 = false by kernel_rfl] at rv0
  have lt1 : ∀ x ∈ pl1, x.block < W.heap.size := by obtain ⟨m, hm⟩ := h1; exact DataW.trod_lt m _ _ _ hm
  obtain ⟨acs1, la1, fa1, rv1⟩ := arg_rv (n := 12) (ks := [.sl [.bool]]) (hval 1 22 v1 rfl rfl) h1 (by kernel_rfl)
  rw [show isStr Try.prog 22 = false by kernel_rfl] at rv1
  obtain ⟨y0, rfl, fy0⟩ := Fits.one ⟨la0, fa0⟩
  obtain ⟨x0, rfl, ok0⟩ := open_int fy0
  have rv0' : Rv W (fun _ => False) Rho.none (.i .i64 x0) v0 := rv0
  obtain rfl : v0 = .int .i64 x0 := by cases rv0'; rfl
  obtain ⟨y1, rfl, fy1⟩ := Fits.one ⟨la1, fa1⟩
  obtain ⟨x1, rfl, ok1, _⟩ := open_bools fy1
  obtain ⟨pa1, cap1, rfl, sb1⟩ := sb_of rv1
  clear hA0 hval0 hsz0
  refine (meters_c x0 ok0.2 pa1 x1.length cap1 ok1 W (fun i hi => by obtain ⟨b, base, h1, h2, h3⟩ := sb1 i hi; exact ⟨b, base, _, h1, h2, h3⟩)).mono fun e W' ⟨he, bel⟩ => ?_
  subst he
  exact ⟨_, rfl, _, _, _, [], _, [], hW', trodAll_mk1 (shut_bool Try.underlying4 _), (trodAll_cons_mk (Below.trod laidOut (by kernel_rfl) (of_decide_eq_true (by kernel_rfl)) h0 bel lt0) (trodAll_cons_mk (Below.trod laidOut (by kernel_rfl) (of_decide_eq_true (by kernel_rfl)) h1 bel lt1) trodAll_mk0)), rfl, bel.frame _, fun h => by cases h⟩
theorem over : Rows.limitMetersRow.holds Try.pinned (OpenSpec.ofChange Rows.limitMetersSpec) :=
  OpenClaim.holds_of_wide 6 Try.f6 rfl rfl rfl rfl rfl rfl rfl ⟨rfl, rfl, rfl, rfl, rfl⟩ rfl rfl rfl rfl rfl (by kernel_rfl) Try.func6 (by kernel_rfl)
    (of_decide_eq_true (by kernel_rfl)) (by unfold Func.isWrapper; first | (rw [if_pos (by decide +kernel)]; kernel_rfl) | (rw [if_neg (by decide +kernel)]; exact ⟨rfl, rfl⟩))
    (fun os started H enc _ => lifted os started H enc)
theorem proved : Rows.LimitMetersSaid := over
#print axioms proved
end Go.Proofs.Ythkkidbbiodkjaa.limitMeters
namespace Go.Proofs.Ythkkidbbiodkjaa
theorem limitMeters_holds : Rows.LimitMetersSaid := limitMeters.proved
end Go.Proofs.Ythkkidbbiodkjaa
