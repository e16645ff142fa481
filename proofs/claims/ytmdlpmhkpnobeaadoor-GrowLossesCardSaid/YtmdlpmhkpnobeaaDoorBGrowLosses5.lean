/- Proved: It shows the loss of any numbers. No conditions. -/
import Derived.Test.YtmdlpmhkpnobeaaDoorBGrowLosses4
import Derived.Laws.IdiomStrings
import Derived.Orders
import Derived.Deep.LoopGhost
import Derived.Laws.RangeAny
import Derived.Test.YtmdlpmhkpnobeaaDoorChecked
import Derived.KernelRfl
import Derived.ChangeArms
import Derived.DataReads
import Derived.WideShapes
import Derived.Below
import Derived.Test.YtmdlpmhkpnobeaaDoorRows
import Derived.WalkKit
import Derived.ProofKit
import Derived.OpenShut
import Derived.ShutString
import Derived.ChangeOld
import Derived.SizedLaws
import Derived.Test.YtmdlpmhkpnobeaaDoorCards
import Derived.Test.YtmdlpmhkpnobeaaDoorTie
import Derived.LaidMore
import Derived.Lay
import Derived.SevenTiedAt
import Derived.Stop.Joined
import Derived.Handed
import Derived.LaidLaws
set_option linter.unusedVariables false
set_option linter.unusedSimpArgs false
set_option linter.unusedVariables false
set_option linter.unusedSimpArgs false
namespace Go.Pe
open Go
section
variable {P : Program} {f : Fr} {w : World} {T : Nat → Prop} {ρ : Rho} {h : Heap} {e : Nat → AV} {a : Act} {o : Oper}
theorem scut_opt (k : WInv f w T ρ h) (he : Env w T ρ e a) {hi : Option Operand} {hi' : Option At} {x : AV} {l : Option Int} {av : AV}
    (hv : (match hi' with | none => scutV x l none | some y => (intV (y.ev e)).bind fun u => scutV x l (some u)) = some av) (hm : mo2 f.tabs hi hi' = true) : ∃ u, scutV x l u = some av ∧ ((hi.map a.eval = none ∧ u = none) ∨ ∃ q n, hi.map a.eval = some (.int q n) ∧ u = some n) := by
  cases hi with
  | none =>
    cases hi' with
    | none => exact ⟨none, hv, .inl ⟨rfl, rfl⟩⟩
    | some y => cases hm
  | some x =>
    cases hi' with
    | none => cases hm
    | some y =>
      simp only [Option.bind_eq_some_iff] at hv
      obtain ⟨u, h1, h2⟩ := hv
      obtain ⟨q, hq⟩ := intV_i h1 (ma_rv k he hm)
      exact ⟨some u, h2, .inr ⟨q, u, by simp [hq], rfl⟩⟩
theorem op_scut (k : WInv f w T ρ h) (he : Env w T ρ e a) {x : Operand} {x' : At} {lo hi : Option Operand} {lo' hi' : Option At} {t : TypeId} {av : AV} {h' : Heap} (call : Call) (ho : o.op = .slice t x lo hi none) (hu : P.underlying t = some .string)
    (h1 : ma f.tabs x x' = true) (hlo : mo2 f.tabs lo lo' = true) (hhi : mo2 f.tabs hi hi' = true)
    (hv : PO.ev call (.scut x' lo' hi') e h = some (av, h')) : h' = h ∧ ∃ v, Gives P o a w v ∧ Rv w T ρ av v := by
  have r1 := ma_rv k he h1
  simp only [PO.ev, Option.map_eq_some_iff] at hv
  obtain ⟨c, hc, hcv⟩ := hv
  cases hcv
  obtain ⟨u, hs, hu2⟩ := scut_opt k he hc hhi
  unfold scutV at hs
  split at hs
  · rename_i y l hq hl
    split at hs
    · rename_i hcond
      cases hs
      rw [hq] at r1
      have hL := opt_l k he hlo hl
      have hL' : (lo.map a.eval = none ∧ l = 0) ∨ ∃ q, lo.map a.eval = some (.int q l) := by
        rcases hL with ⟨g1, _, g3⟩ | g
        · exact .inl ⟨g1, g3⟩
        · exact .inr g
      have hU : (hi.map a.eval = none ∧ (none : Option Value) = none ∧ u.getD (y.size : Int) = (y.size : Int)) ∨ ∃ q, hi.map a.eval = some (.int q (u.getD (y.size : Int))) := by
        rcases hu2 with ⟨g1, rfl⟩ | ⟨q, n, g1, rfl⟩
        · exact .inl ⟨g1, rfl, rfl⟩
        · exact .inr ⟨q, g1⟩
      have hb := run_bounds (P := P) (w := w) (isS := false) (len := y.size) (cap := y.size) hL' hU (.inl ⟨rfl, rfl⟩) hcond.1 hcond.2.1 hcond.2.2 (Int.le_refl _)
      refine ⟨rfl, _, ?_, .s⟩
      simp only [Gives, execOp, ho, inv_s r1, Instr.sliceAt, Instr.slice, Sem.run_bind, run_underlying hu w, Result.andThen_ok, Option.map_none, Option.isSome_none, Bool.false_eq_true, if_false, Sem.run_pure, hb]
    · cases hs
  · cases hs
theorem op_aidx (k : WInv f w T ρ h) (he : Env w T ρ e a) {x y : Operand} {x' y' : At} {t el : TypeId} {n sz : Nat} {ag : Bool} {av : AV} {h' : Heap} (call : Call) (ho : o.op = .index t x y) (hu : P.underlying t = some (.array n el)) (hsz : szT P el = some sz) (hag : aggT P el = some ag)
    (h1 : ma f.tabs x x' = true) (h2 : ma f.tabs y y' = true) (hv : PO.ev call (.aidx ag n sz x' y') e h = some (av, h')) : h' = h ∧ ∃ v, Gives P o a w v ∧ Rv w T ρ av v := by
  have r1 := ma_rv k he h1
  have r2 := ma_rv k he h2
  simp only [PO.ev] at hv
  split at hv
  · rename_i cs j hq hj
    split at hv
    · rename_i hcond
      simp only [Option.map_eq_some_iff] at hv
      obtain ⟨c, hc, hcv⟩ := hv
      cases hcv
      obtain ⟨q, hy⟩ := intV_i hj r2
      rw [hq] at r1
      generalize hx : a.eval x = v at r1
      cases r1 with
      | agg us hl hone hu2 =>
        obtain ⟨v, h3, h4⟩ := part_rv hag hsz hl hone hu2 hc
        refine ⟨rfl, v, ?_, h4⟩
        simp only [Gives, execOp, ho, hx, hy, Instr.index, asIntOf, Sem.run_bind, Sem.run_pure, Result.andThen_ok, run_underlying hu w, if_pos hcond, run_sizeOf' hsz, h3]
    · cases hv
  · cases hv
theorem bytesL_length (s : ByteArray) : (bytesL s).length = s.size := by unfold bytesL; rw [List.length_map, Array.length_toList]; rfl
theorem bytesL_getD (s : ByteArray) (j : Nat) (hj : j < s.data.size) : (bytesL s).getD j [] = [.i .u8 (s.data[j].toNat : Int)] := by
  unfold bytesL
  rw [List.getD_eq_getElem?_getD, List.getElem?_map, Array.getElem?_toList, Array.getElem?_eq_getElem hj]
  rfl
theorem dget (y : ByteArray) (j : Nat) (hj : j < y.data.size) : y.data.getD j 0 = y.data[j] := by rw [Array.getD_eq_getD_getElem?, Array.getElem?_eq_getElem hj]; rfl
theorem op_s2b (k : WInv f w T ρ h) (he : Env w T ρ e a) {x : Operand} {x' : At} {s d el : TypeId} {av : AV} {h' : Heap} (call : Call) (ho : o.op = .convert s d x) (hs : P.underlying s = some .string) (hd : P.underlying d = some (.slice el)) (hel : P.underlying el = some (.int .u8)) (h1 : ma f.tabs x x' = true)
    (hv : PO.ev call (.s2b x') e h = some (av, h')) : Turns P f o a w T ρ av h' := by
  have r1 := ma_rv k he h1
  simp only [PO.ev] at hv
  split at hv
  · rename_i y hq
    split at hv
    · rename_i hcond
      cases hv
      rw [hq] at r1
      have hr := run_bytes_of_string (P := P) w s d el y hs hd hel
      have hold : Old w (w.drew.alloc (.cells (bytesRow y (grownCap w y.size 0 el)) el ((bytesRow y (grownCap w y.size 0 el)).size, (bytesRow y (grownCap w y.size 0 el)).size + 1))) := (Old.drew w).trans (Old.alloc _ _)
      refine ⟨.slice (some ⟨w.heap.size, 0, none⟩) y.size (grownCap w y.size 0 el), _, T, ρ, .inl ?_, k.old hold, ⟨hold.same T, fun _ _ h => h, fun _ _ h => h⟩, ?_⟩
      · simp only [execOp, ho, inv_s r1, Sem.run_bind, hr, Result.andThen_ok, Sem.run_pure]
      · have hnt : ¬ T w.heap.size := fun ht => Nat.lt_irrefl _ (k.tlt _ ht)
        have key := Rv.l (w := w.drew.alloc (.cells (bytesRow y (grownCap w y.size 0 el)) el ((bytesRow y (grownCap w y.size 0 el)).size, (bytesRow y (grownCap w y.size 0 el)).size + 1))) (T := T) (ρ := ρ) (z := 1) (es := bytesL y) (b := w.heap.size) (base := 0) (cap := grownCap w y.size 0 el)
          (fun j _ => .int .u8 ((y.data.getD j 0).toNat : Int)) hnt (by show w.heap.size < (w.heap.push _).size; rw [Array.size_push]; exact Nat.lt_succ_self _) (by rw [bytesL_length]; exact grownCap_ge ..) (grownCap_le_maxLen _ _ _ _ (by simp only [maxLen]; omega))
          (fun j hj => by rw [bytesL_length] at hj; rw [bytesL_getD y j hj]; rfl)
          (fun j c hj hc => by
            rw [bytesL_length] at hj
            have hc0 : c = 0 := by omega
            subst hc0
            refine ⟨?_, rfl⟩
            have e1 := World.cell?_alloc_mark w.drew (bytesRow y (grownCap w y.size 0 el)) el ((bytesRow y (grownCap w y.size 0 el)).size, (bytesRow y (grownCap w y.size 0 el)).size + 1) (0 + j * 1 + 0)
            have e2 : w.drew.heap.size = w.heap.size := rfl
            rw [e2] at e1
            rw [e1, show 0 + j * 1 + 0 = j by omega, bytesRow_at y _ j hj]
            rw [dget y j hj])
          (fun j c hj hc => by
            rw [bytesL_length] at hj
            have hc0 : c = 0 := by omega
            subst hc0
            have hj' : j < y.data.size := hj
            rw [bytesL_getD y j hj']
            rw [dget y j hj']
            exact .i)
        rw [bytesL_length] at key
        exact key
    · cases hv
  · cases hv
end
end Go.Pe
set_option linter.unusedVariables false
set_option linter.unusedSimpArgs false
namespace Go.Pe
open Go
abbrev Fns := (Nat → Option PF) × (Nat → Nat)
def zeroOk (P : Program) (t : TypeId) (z : List AV) : Bool := match P.info? t with
  | some i => match i.zero with
    | some zv => mvs zv.cells.toList z
    | none => false
  | none => false
theorem zeroOk_spec {P : Program} {t : TypeId} {z : List AV} (h : zeroOk P t z = true) : ∃ i zv, P.info? t = some i ∧ i.zero = some zv ∧ mvs zv.cells.toList z = true := by
  unfold zeroOk at h
  split at h
  · rename_i i hi
    split at h
    · rename_i zv hz; exact ⟨i, zv, hi, hz, h⟩
    · cases h
  · cases h
def elT (P : Program) (t : TypeId) : Option TypeId := match P.underlying t with
  | some (.slice el) => some el
  | _ => none
theorem elT_spec {P : Program} {t el : TypeId} (h : elT P t = some el) : P.underlying t = some (.slice el) := by
  unfold elT at h
  split at h
  · rename_i e he; cases h; exact he
  · cases h
def intT (P : Program) (t : TypeId) : Option IntKind := match P.underlying t with
  | some (.int k) => some k
  | _ => none
theorem intT_spec {P : Program} {t : TypeId} {k : IntKind} (h : intT P t = some k) : P.underlying t = some (.int k) := by
  unfold intT at h
  split at h
  · rename_i e he; cases h; exact he
  · cases h
def isBoolT (P : Program) (t : TypeId) : Bool := match P.underlying t with
  | some .bool => true
  | _ => false
theorem isBoolT_spec {P : Program} {t : TypeId} (h : isBoolT P t = true) : P.underlying t = some .bool := by
  unfold isBoolT at h
  split at h
  · rename_i he; exact he
  · cases h
def isStrT (P : Program) (t : TypeId) : Bool := match P.underlying t with
  | some .string => true
  | _ => false
theorem isStrT_spec {P : Program} {t : TypeId} (h : isStrT P t = true) : P.underlying t = some .string := by
  unfold isStrT at h
  split at h
  · rename_i he; exact he
  · cases h
def strT (P : Program) (t : TypeId) : Option (Array Field) := match P.underlying t with
  | some (.struct fs) => some fs
  | _ => none
theorem strT_spec {P : Program} {t : TypeId} {fs : Array Field} (h : strT P t = some fs) : P.underlying t = some (.struct fs) := by
  unfold strT at h
  split at h
  · rename_i e he; cases h; exact he
  · cases h
def arrT (P : Program) (t : TypeId) : Option (Nat × TypeId) := match P.underlying t with
  | some (.array n el) => some (n, el)
  | _ => none
theorem arrT_spec {P : Program} {t el : TypeId} {n : Nat} (h : arrT P t = some (n, el)) : P.underlying t = some (.array n el) := by
  unfold arrT at h
  split at h
  · rename_i a b he; cases h; exact he
  · cases h
def elOk (P : Program) (t : TypeId) (sz : Nat) (bytes : Option Nat) (z : Option (List AV)) : Bool := match elT P t with
  | some el => match P.info? el with
    | some i => decide (i.size = sz) && decide (0 < sz) && (match bytes with | some b => decide (i.bytes = b) && decide (0 < b) | none => true) && (match i.zero with
      | some zv => (match z with | some z => mvs zv.cells.toList z && decide (z.length = sz) | none => decide (zv.cells.size = sz))
      | none => false)
    | none => false
  | none => false
theorem elOk_spec {P : Program} {t : TypeId} {sz : Nat} {bytes : Option Nat} {z : Option (List AV)} (h : elOk P t sz bytes z = true) :
    ∃ el i zv, P.underlying t = some (.slice el) ∧ P.info? el = some i ∧ i.zero = some zv ∧ i.size = sz ∧ 0 < sz ∧ (∀ b, bytes = some b → i.bytes = b ∧ 0 < b) ∧ (∀ y, z = some y → mvs zv.cells.toList y = true ∧ y.length = sz) ∧ (z = none → zv.cells.size = sz) := by
  unfold elOk at h
  split at h
  · rename_i el hel
    split at h
    · rename_i i hi
      simp only [Bool.and_eq_true, decide_eq_true_eq] at h
      obtain ⟨⟨⟨h1, h2⟩, h3⟩, h4⟩ := h
      split at h4
      · rename_i zv hz
        refine ⟨el, i, zv, elT_spec hel, hi, hz, h1, h2, fun b hb => ?_, fun y hy => ?_, fun hn => ?_⟩
        · subst hb; simpa using h3
        · subst hy; simpa using h4
        · subst hn; simpa using h4
      · cases h4
    · cases h
  · cases h
section
variable (P : Program) (F : Fns) (tabs : List (Nat × List AV))
def mCall (g : Nat) (ys : List At) (lent : List Nat) (c : Go.Call) : Bool :=
  (match c.callee with | .value (.func g') => g' == F.2 g | _ => false) && mas tabs c.args.toList ys && bodied P (F.2 g) && decide (ys.length = arOf P (F.2 g)) && (match F.1 g with | some p => decide (p.lent = lent) && p.res.all fun x => decide (x.2 ≤ 1) | none => false)
def bi1 (b : Builtin) (c : Go.Call) : Bool := (match c.callee with | .builtin b' => decide (b' = b) | _ => false)
def mop : PO → Op → Bool
  | .mv y, .move x | .mv y, .assign x => ma tabs x y
  | .pick x' y' z', .pick x y z => ma tabs x x' && ma tabs y y' && ma tabs z z'
  | .box _ sz y, .box _ x => decide (0 < sz) && ma tabs x y
  | .alloc _ z, .alloc t => zeroOk P t z
  | .build z ps, .build t parts => zeroOk P t z && (match strT P t with
    | some fs => (fs.toList.all fun x => (szT P x.type).isSome) && mfields P tabs (placeS P fs) parts.toList ps
    | none => match arrT P t with
      | some (_, el) => (match szT P el with
        | some sz => mfields P tabs (fun i => some (i * sz, sz)) parts.toList ps
        | none => false)
      | none => false)
  | .bsl _ sz z n ps, .buildSlice t n' parts => decide (n' = n) && decide (n * sz ≤ 16777216) && elOk P t sz none (some z) && mparts tabs parts.toList ps
  | .ld ag sz y, .load t x => decide (aggT P t = some ag) && decide (szT P t = some sz) && ma tabs x y
  | .st sz x' y', .store t x y => decide (szT P t = some sz) && decide (0 < sz) && ma tabs x x' && ma tabs y y'
  | .nck y, .nilCheck x => ma tabs x y
  | .bin op x' y', .binOp op' _ x y _ => decide (op' = op) && ma tabs x x' && ma tabs y y'
  | .eqb ng x' y', .binOp op t x y _ => decide (op = if ng then .neq else .eql) && isBoolT P t && ma tabs x x' && ma tabs y y'
  | .eqs ng n x' y', .binOp op t x y _ => decide (op = if ng then .neq else .eql) && eqsOk P t n && ma tabs x x' && ma tabs y y'
  | .not y, .unOp .not _ x => ma tabs x y
  | .neg y, .unOp .neg _ x => ma tabs x y
  | .conv q y, .convert s d x => (intT P s).isSome && decide (intT P d = some q) && ma tabs x y
  | .b2s y, .convert s d x => (match elT P s with | some el => decide (intT P el = some .u8) | none => false) && isStrT P d && ma tabs x y
  | .mk _ sz bytes z y, .makeSlice t x x2 => (match x2, x with | .tmp i, .tmp j => i == j | .const (.int k n), .const (.int k' n') => decide (k = k' ∧ n = n') | _, _ => false) && elOk P t sz (some bytes) (some z) && ma tabs x y
  | .cut z y lo' hi' mx', .slice t x lo hi mx => (match elT P t with | some el => decide (szT P el = some z) | none => false) && ma tabs x y && mo2 tabs lo lo' && mo2 tabs hi hi' && mo2 tabs mx mx' && (mx.isNone || hi.isSome)
  | .fld d y, .fieldAddr t x i => (match strT P t with | some fs => (match fs[i]? with | some fl => decide (fl.offset = d) && (match szT P fl.type with | some (_ + 1) => true | _ => false) | none => false) | none => false) && ma tabs x y
  | .idx z x' y', .indexAddr t x y => (match elT P t with | some el => decide (szT P el = some z) | none => false) && ma tabs x x' && ma tabs y y'
  | .idxa n z x' y', .indexAddr t x y => (match arrT P t with | some (n', el) => decide (n' = n) && decide (szT P el = some z) | none => false) && ma tabs x x' && ma tabs y y'
  | .sidx x' y', .index t x y => isStrT P t && ma tabs x x' && ma tabs y y'
  | .ext n y, .extract x n' => decide (n' = n) && ma tabs x y
  | .fpt ag sz d y, .field t x i => (match strT P t with | some fs => (match fs[i]? with | some fl => decide (fl.offset = d) && decide (szT P fl.type = some sz) && decide (aggT P fl.type = some ag) | none => false) | none => false) && ma tabs x y
  | .len y, .call c => bi1 .len c && (match c.args.toList, c.argTypes.toList with | [x], [t] => (elT P t).isSome && ma tabs x y | _, _ => false)
  | .slen y, .call c => bi1 .len c && (match c.args.toList, c.argTypes.toList with | [x], [t] => isStrT P t && ma tabs x y | _, _ => false)
  | .min x' y', .call c => bi1 .min c && (match c.args.toList with | [x, y] => ma tabs x x' && ma tabs y y' | _ => false)
  | .max x' y', .call c => bi1 .max c && (match c.args.toList with | [x, y] => ma tabs x x' && ma tabs y y' | _ => false)
  | .app _ sz bytes x' y', .call c => bi1 .append c && (match c.args.toList, c.argTypes.toList with | [x, y], [t, t'] => decide (t' = t) && elOk P t sz (some bytes) none && ma tabs x x' && ma tabs y y' | _, _ => false)
  | .copy sz x' y', .call c => bi1 .copy c && (match c.args.toList, c.argTypes.toList with | [x, y], [t, t'] => elOk P t sz none none && ma tabs x x' && ma tabs y y' | _, _ => false)
  | .call g ys, .call c => mCall P F tabs g ys [] c
  | .callo g ys _, .call c => mCall P F tabs g ys [] c
  | .calln g ys li id, .call c => mCall P F tabs g ys [li + 1000] c && decide (li < ys.length) && decide (ys.length ≤ 1000) && (match F.1 g with | some p => decide (p.res.length ≤ 100) | none => false)
  | .callw g ys li, .call c => mCall P F tabs g ys [li] c && decide (li < 1000) && decide (li < ys.length) && (match F.1 g with | some p => decide (p.res.length ≤ 100) | none => false)
  | .s2b y, .convert s d x => isStrT P s && (match elT P d with | some el => decide (intT P el = some .u8) | none => false) && ma tabs x y
  | .scut y lo' hi', .slice t x lo hi mx => isStrT P t && ma tabs x y && mo2 tabs lo lo' && mo2 tabs hi hi' && mx.isNone
  | .aidx ag n z x' y', .index t x y => (match arrT P t with | some (n', el) => decide (n' = n) && decide (szT P el = some z) && decide (aggT P el = some ag) | none => false) && ma tabs x x' && ma tabs y y'
  | _, _ => false
end
end Go.Pe
set_option linter.unusedVariables false
set_option linter.unusedSimpArgs false
namespace Go.Pe
open Go
section
variable {P : Program} {F : Fns} {f : Fr} {w : World} {T : Nat → Prop} {ρ : Rho} {h : Heap} {e : Nat → AV} {a : Act} {o : Oper}
theorem bi1_spec {b : Builtin} {c : Go.Call} (h : bi1 b c = true) : c.callee = .builtin b := by
  unfold bi1 at h
  split at h
  · rename_i b' hb; simp only [decide_eq_true_eq] at h; rw [hb, h]
  · cases h
theorem arr1 {α : Type} {x : Array α} {a : α} (h : x.toList = [a]) : x = #[a] := by cases x; simp at h; simp [h]
theorem arr2 {α : Type} {x : Array α} {a b : α} (h : x.toList = [a, b]) : x = #[a, b] := by cases x; simp at h; simp [h]
theorem mCall_spec {tabs : List (Nat × List AV)} {g : Nat} {ys : List At} {lent : List Nat} {c : Go.Call} (h : mCall P F tabs g ys lent c = true) :
    c.callee = .value (.func (F.2 g)) ∧ mas tabs c.args.toList ys = true ∧ bodied P (F.2 g) = true ∧ ys.length = arOf P (F.2 g) ∧ ∃ p, F.1 g = some p ∧ p.lent = lent ∧ ∀ x ∈ p.res, x.2 ≤ 1 := by
  unfold mCall at h
  simp only [Bool.and_eq_true] at h
  obtain ⟨⟨⟨⟨h1, h2⟩, h3⟩, h5⟩, h4⟩ := h
  refine ⟨?_, h2, h3, of_decide_eq_true h5, ?_⟩
  · split at h1
    · rename_i g' hg; simp only [beq_iff_eq] at h1; rw [hg, h1]
    · cases h1
  · split at h4
    · rename_i p hp
      simp only [Bool.and_eq_true, decide_eq_true_eq, List.all_eq_true] at h4
      exact ⟨p, hp, h4.1, h4.2⟩
    · cases h4
theorem op_sound (k : WInv f w T ρ h) (he : Env w T ρ e a) {p : PO} {call : Call} {av : AV} {h' : Heap} (hm : mop P F f.tabs p o.op = true) (hc : ∀ g p xs r, F.1 g = some p → xs.length = arOf P (F.2 g) → call g xs = some r → CallOk P (F.2 g) p.res p.lent f.tabs xs r)
    (hv : p.ev call e h = some (av, h')) : Goes1 P f o a w T ρ av h' := by
  generalize hop : o.op = op at hm
  unfold mop at hm
  split at hm <;> try simp only [Bool.and_eq_true, decide_eq_true_eq, Bool.or_eq_true] at hm
  · cases hv
    exact goes1_of_gives k ⟨rfl, op_move k he (.inl hop) hm⟩
  · cases hv
    exact goes1_of_gives k ⟨rfl, op_move k he (.inr hop) hm⟩
  · exact goes1_of_gives k (op_pick k he call hop hm.1.1 hm.1.2 hm.2 hv)
  · exact (op_box k he call hop hm.1 hm.2 hv).goes1
  · obtain ⟨i, zv, h1, h2, h3⟩ := zeroOk_spec hm
    exact (op_alloc k call hop h1 h2 h3 hv).goes1
  · obtain ⟨i, zv, h1, h2, h3⟩ := zeroOk_spec hm.1
    obtain ⟨_, hm⟩ := hm
    split at hm
    · rename_i fs hfs
      simp only [Bool.and_eq_true, List.all_eq_true] at hm
      exact goes1_of_gives k (op_build k he call hop h1 h2 h3 hm.2 (.inl ⟨fs, strT_spec hfs, hm.1, rfl⟩) hv)
    · split at hm
      · rename_i n el hel
        split at hm
        · rename_i sz hsz
          exact goes1_of_gives k (op_build k he call hop h1 h2 h3 hm (.inr ⟨n, el, sz, arrT_spec hel, hsz, rfl⟩) hv)
        · cases hm
      · cases hm
  · obtain ⟨⟨⟨rfl, h1⟩, h2⟩, h3⟩ := hm
    obtain ⟨el, i, zv, a1, a2, a3, a4, a5, a6, a7, a8⟩ := elOk_spec h2
    exact (op_bsl k he call hop a1 a2 a3 a4 a5 h1 (a7 _ rfl).1 (a7 _ rfl).2 h3 hv).goes1
  · exact goes1_of_gives k (op_ld k he call hop hm.1.1 hm.1.2 hm.2 hv)
  · exact (op_st k he call hop hm.1.1.1 hm.1.1.2 hm.1.2 hm.2 hv).goes1
  · exact goes1_of_gives k (op_nck k he call hop hm hv)
  · obtain ⟨⟨rfl, h1⟩, h2⟩ := hm
    exact goes1_of_gives k (op_bin k he call hop h1 h2 hv)
  · obtain ⟨⟨⟨rfl, h0⟩, h1⟩, h2⟩ := hm
    exact goes1_of_gives k (op_eqb k he call hop (isBoolT_spec h0) h1 h2 hv)
  · obtain ⟨⟨⟨rfl, h0⟩, h1⟩, h2⟩ := hm
    exact goes1_of_gives k (op_eqs k he call hop h0 h1 h2 hv)
  · exact goes1_of_gives k (op_not k he call hop hm hv)
  · exact goes1_of_gives k (op_neg k he call hop hm hv)
  · obtain ⟨⟨h1, h2⟩, h3⟩ := hm
    obtain ⟨q', hq'⟩ := Option.isSome_iff_exists.1 h1
    exact goes1_of_gives k (op_conv k he call hop (intT_spec hq') (intT_spec h2) h3 hv)
  · obtain ⟨⟨h1, h2⟩, h3⟩ := hm
    split at h1
    · rename_i el hel
      simp only [decide_eq_true_eq] at h1
      exact goes1_of_gives k (op_b2s k he call hop (elT_spec hel) (intT_spec h1) (isStrT_spec h2) h3 hv)
    · cases h1
  · obtain ⟨⟨h1, h2⟩, h3⟩ := hm
    obtain ⟨el, i, zv, a1, a2, a3, a4, a5, a6, a7, a8⟩ := elOk_spec h2
    split at h1
    · simp only [beq_iff_eq] at h1
      subst h1
      exact (op_mk k he call hop a1 a2 a3 a4 a5 (a6 _ rfl).1 (a6 _ rfl).2 (a7 _ rfl).1 (a7 _ rfl).2 h3 hv).goes1
    · simp only [decide_eq_true_eq] at h1
      obtain ⟨rfl, rfl⟩ := h1
      exact (op_mk k he call hop a1 a2 a3 a4 a5 (a6 _ rfl).1 (a6 _ rfl).2 (a7 _ rfl).1 (a7 _ rfl).2 h3 hv).goes1
    · cases h1
  · obtain ⟨⟨⟨⟨⟨h1, h2⟩, h3⟩, h4⟩, h5⟩, h6⟩ := hm
    split at h1
    · rename_i el hel
      simp only [decide_eq_true_eq] at h1
      refine goes1_of_gives k (op_cut k he call hop (elT_spec hel) h1 h2 h3 h4 h5 ?_ hv)
      rcases h6 with h6 | h6
      · exact .inl (by simpa using h6)
      · exact .inr (Option.isSome_iff_exists.1 h6)
    · cases h1
  · obtain ⟨h1, h2⟩ := hm
    split at h1
    · rename_i fs hfs
      split at h1
      · rename_i fl hfl
        simp only [Bool.and_eq_true, decide_eq_true_eq] at h1
        obtain ⟨h3, h4⟩ := h1
        split at h4
        · rename_i m hm
          exact goes1_of_gives k (op_fld k he call hop (strT_spec hfs) hfl h3 hm h2 hv)
        · cases h4
      · cases h1
    · cases h1
  · obtain ⟨⟨h1, h2⟩, h3⟩ := hm
    split at h1
    · rename_i el hel
      simp only [decide_eq_true_eq] at h1
      exact goes1_of_gives k (op_idx k he call hop (elT_spec hel) h1 h2 h3 hv)
    · cases h1
  · obtain ⟨⟨h1, h2⟩, h3⟩ := hm
    split at h1
    · rename_i n' el hel
      simp only [Bool.and_eq_true, decide_eq_true_eq] at h1
      obtain ⟨rfl, h1⟩ := h1
      exact goes1_of_gives k (op_idxa k he call hop (arrT_spec hel) h1 h2 h3 hv)
    · cases h1
  · exact goes1_of_gives k (op_sidx k he call hop (isStrT_spec hm.1.1) hm.1.2 hm.2 hv)
  · obtain ⟨rfl, h1⟩ := hm
    exact goes1_of_gives k (op_ext k he call hop h1 hv)
  · obtain ⟨h1, h2⟩ := hm
    split at h1
    · rename_i fs hfs
      split at h1
      · rename_i fl hfl
        simp only [Bool.and_eq_true, decide_eq_true_eq] at h1
        exact goes1_of_gives k (op_fpt k he call hop (strT_spec hfs) hfl h1.1.1 h1.1.2 h1.2 h2 hv)
      · cases h1
    · cases h1
  · obtain ⟨h1, h2⟩ := hm
    split at h2
    · rename_i x t hx ht
      simp only [Bool.and_eq_true] at h2
      obtain ⟨el, hel⟩ := Option.isSome_iff_exists.1 h2.1
      exact goes1_of_gives k (op_len k he call hop (bi1_spec h1) (arr1 hx) (arr1 ht) (elT_spec hel) h2.2 hv)
    · cases h2
  · obtain ⟨h1, h2⟩ := hm
    split at h2
    · rename_i x t hx ht
      simp only [Bool.and_eq_true] at h2
      exact goes1_of_gives k (op_slen k he call hop (bi1_spec h1) (arr1 hx) (arr1 ht) (isStrT_spec h2.1) h2.2 hv)
    · cases h2
  · obtain ⟨h1, h2⟩ := hm
    split at h2
    · rename_i x y hx
      simp only [Bool.and_eq_true] at h2
      exact goes1_of_gives k (op_min k he call hop (bi1_spec h1) (arr2 hx) h2.1 h2.2 hv)
    · cases h2
  · obtain ⟨h1, h2⟩ := hm
    split at h2
    · rename_i x y hx
      simp only [Bool.and_eq_true] at h2
      exact goes1_of_gives k (op_max k he call hop (bi1_spec h1) (arr2 hx) h2.1 h2.2 hv)
    · cases h2
  · obtain ⟨h1, h2⟩ := hm
    split at h2
    · rename_i x y t t' hx ht
      simp only [Bool.and_eq_true, decide_eq_true_eq] at h2
      obtain ⟨⟨⟨rfl, h3⟩, h4⟩, h5⟩ := h2
      obtain ⟨el, i, zv, a1, a2, a3, a4, a5, a6, a7, a8⟩ := elOk_spec h3
      exact (op_app k he call hop (bi1_spec h1) (arr2 hx) (arr2 ht) a1 a2 a3 a4 (a6 _ rfl).1 (a8 rfl) a5 (a6 _ rfl).2 h4 h5 hv).goes1
    · cases h2
  · obtain ⟨h1, h2⟩ := hm
    split at h2
    · rename_i x y t t' hx ht
      simp only [Bool.and_eq_true, decide_eq_true_eq] at h2
      obtain ⟨⟨h3, h4⟩, h5⟩ := h2
      obtain ⟨el, i, zv, a1, a2, a3, a4, a5, a6, a7, a8⟩ := elOk_spec h3
      exact (op_copy k he call hop (bi1_spec h1) (arr2 hx) (arr2 ht) a1 a2 a4 h4 h5 hv).goes1
    · cases h2
  · obtain ⟨h1, h2, h3, har, p, h4, h5, h6⟩ := mCall_spec hm
    exact op_call k he call hop h1 h2 h3 h6 (fun xs r hl hr => by rw [← h5]; exact hc _ p xs r h4 (hl.trans har) hr) hv
  · obtain ⟨h1, h2, h3, har, p, h4, h5, h6⟩ := mCall_spec hm
    exact op_callo k he call hop h1 h2 h3 h6 (fun xs r hl hr => by rw [← h5]; exact hc _ p xs r h4 (hl.trans har) hr) hv
  · obtain ⟨⟨⟨hm, h7⟩, h9⟩, h8⟩ := hm
    obtain ⟨h1, h2, h3, har, p, h4, h5, h6⟩ := mCall_spec hm
    rw [h4] at h8
    exact op_calln k he call hop h1 h2 h3 h9 h7 h6 (by simpa using h8) (fun xs r hl hr => by rw [← h5]; exact hc _ p xs r h4 (hl.trans har) hr) hv
  · obtain ⟨⟨⟨hm, h9⟩, h7⟩, h8⟩ := hm
    obtain ⟨h1, h2, h3, har, p, h4, h5, h6⟩ := mCall_spec hm
    rw [h4] at h8
    exact op_callw k he call hop h1 h2 h3 h9 h7 h6 (by simpa using h8) (fun xs r hl hr => by rw [← h5]; exact hc _ p xs r h4 (hl.trans har) hr) hv
  · obtain ⟨⟨h1, h2⟩, h3⟩ := hm
    split at h2
    · rename_i el hel
      simp only [decide_eq_true_eq] at h2
      exact (op_s2b k he call hop (isStrT_spec h1) (elT_spec hel) (intT_spec h2) h3 hv).goes1
    · cases h2
  · obtain ⟨⟨⟨⟨h1, h2⟩, h3⟩, h4⟩, h5⟩ := hm
    have h6 := Option.isNone_iff_eq_none.1 h5
    subst h6
    exact goes1_of_gives k (op_scut k he call hop (isStrT_spec h1) h2 h3 h4 hv)
  · obtain ⟨⟨h1, h2⟩, h3⟩ := hm
    split at h1
    · rename_i n' el hel
      simp only [Bool.and_eq_true, decide_eq_true_eq] at h1
      obtain ⟨⟨rfl, h4⟩, h5⟩ := h1
      exact goes1_of_gives k (op_aidx k he call hop (arrT_spec hel) h4 h5 h2 h3 hv)
    · cases h1
  · cases hm
end
end Go.Pe
set_option linter.unusedVariables false
set_option linter.unusedSimpArgs false
namespace Go.Pe
open Go
def Sim (f : Fr) (nt : Nat) (w : World) (st : St) (a : Act) : Prop := nt ≤ a.tmps.size ∧ a.defers = [] ∧ ∃ T ρ, WInv f w T ρ st.h ∧ Env w T ρ st.env a
def CallsOk (P : Program) (F : Fns) (tabs : List (Nat × List AV)) (call : Call) : Prop := ∀ g p xs r, F.1 g = some p → xs.length = arOf P (F.2 g) → call g xs = some r → CallOk P (F.2 g) p.res p.lent tabs xs r
section
variable {P : Program} {F : Fns} {f : Fr} {nt : Nat} {w : World} {a : Act}
theorem put_env {T : Nat → Prop} {ρ : Rho} {e : Nat → AV} {av : AV} {v : Value} {d : Option Nat} (he : Env w T ρ e a) (hv : Rv w T ρ av v) (hd : ∀ t, d = some t → t < a.tmps.size) : Env w T ρ (setD e d av) (a.put d v) := by
  cases d with
  | none => exact he
  | some t =>
    intro s
    show Rv w T ρ (upd e t av s) ((a.tmps.setIfInBounds t v).getD s undef)
    unfold upd
    have hlt := hd t rfl
    split
    · rename_i hs
      subst hs
      have : (a.tmps.setIfInBounds s v).getD s undef = v := by simp [hlt]
      rw [this]; exact hv
    · rename_i hs
      have : (a.tmps.setIfInBounds t v).getD s undef = a.tmps.getD s undef := by
        have h2 : ¬ t = s := fun h => hs h.symm
        simp [Array.getElem?_setIfInBounds, h2]
      rw [this]; exact he s
theorem put_size (a : Act) (d : Option Nat) (v : Value) : (a.put d v).tmps.size = a.tmps.size := by cases d <;> simp [Act.put]
theorem put_defers (a : Act) (d : Option Nat) (v : Value) : (a.put d v).defers = a.defers := by cases d <;> rfl
def mpo (P : Program) (F : Fns) (tabs : List (Nat × List AV)) (nt : Nat) (ops : Array Oper) (o : Oper) (p : POp) : Bool :=
  decide (o.dst = p.dst) && (match p.dst with | some d => decide (d < nt) | none => true) && (match o.guard, p.guard with
    | none, none => true
    | some (g, q), some (t, q') => q == q' && decide ((ops[g]?).bind (·.dst) = some t)
    | _, _ => false) && mop P F tabs p.op o.op
theorem wanted_of {ops : Array Oper} {o : Oper} {p : POp} {st : St} {tabs : List (Nat × List AV)} (hs : Sim f nt w st a) (hm : mpo P F tabs nt ops o p = true) {call : Call} {st' : St} (hv : p.ev call st = some st') :
    (Region.wanted o (yielded ops a.tmps) = true ∧ (p.op.ev call st.env st.h).map (fun q => (⟨setD st.env p.dst q.1, q.2⟩ : St)) = some st') ∨ (Region.wanted o (yielded ops a.tmps) = false ∧ st' = ⟨setD st.env p.dst (.tup []), st.h⟩) := by
  simp only [mpo, Bool.and_eq_true] at hm
  obtain ⟨⟨⟨h1, h2⟩, h3⟩, h4⟩ := hm
  unfold POp.ev at hv
  split at h3
  · rename_i h5 h6
    rw [h6] at hv
    refine .inl ⟨?_, hv⟩
    unfold Region.wanted
    rw [h5]
  · rename_i g q t q' h5 h6
    rw [h6] at hv
    simp only [Bool.and_eq_true, beq_iff_eq, decide_eq_true_eq] at h3
    obtain ⟨rfl, h3⟩ := h3
    simp only at hv
    have main : ∀ z, st.env t = .b z → yielded ops a.tmps g = some z := by
      intro z hz
      obtain ⟨_, _, T, ρ, k, he⟩ := hs
      have := he t
      rw [hz] at this
      have hb := inv_b this
      have hy : yielded ops a.tmps g = some z := by
        unfold yielded
        rw [h3]
        show (match (some t).bind (fun x => a.tmps[x]?) with | some (.bool b) => some b | _ => none) = some z
        have : a.tmps[t]? = some (.bool z) := by
          cases hx : a.tmps[t]? with
          | none => simp [hx, undef] at hb
          | some y => simp [hx] at hb; rw [hb]
        simp only [Option.bind_some, this]
      exact hy
    have none_ : st.env t = .tup [] → yielded ops a.tmps g = none := by
      intro hz
      obtain ⟨_, _, T, ρ, k, he⟩ := hs
      have := he t
      rw [hz] at this
      generalize hu : a.tmps.getD t undef = v at this
      cases this with
      | tup vs hl _ =>
        have hv0 : vs = #[] := Array.eq_empty_of_size_eq_zero hl
        subst hv0
        unfold yielded
        rw [h3]
        show (match (some t).bind (fun x => a.tmps[x]?) with | some (.bool b) => some b | _ => none) = none
        simp only [Option.bind_some]
        cases hx : a.tmps[t]? with
        | none => rfl
        | some y =>
          simp [hx] at hu
          rw [hu]
    unfold Region.wanted
    rw [h5]
    simp only
    generalize hav : st.env t = av at hv main none_
    cases av <;> simp only [AV.yes] at hv <;> try (cases hv; done)
    case b z =>
      rw [main z rfl]
      by_cases hzq : z = q
      · subst hzq
        simp only [beq_self_eq_true] at hv
        exact .inl ⟨by simp, hv⟩
      · rw [show (z == q) = false by simpa using hzq] at hv
        cases hv
        exact .inr ⟨by simpa using hzq, rfl⟩
    case tup cs =>
      cases cs with
      | nil =>
        cases hv
        rw [none_ rfl]
        exact .inr ⟨rfl, rfl⟩
      | cons => cases hv
  · cases h3
theorem op_sim {ops : Array Oper} {o : Oper} {p : POp} {st st' : St} (hs : Sim f nt w st a) (hm : mpo P F f.tabs nt ops o p = true) {call : Call} (hc : CallsOk P F f.tabs call) (hv : p.ev call st = some st')
    (K : Act → World → Prop) (Q : Exit → Act → World → Prop) (hK : ∀ a' w', Sim f nt w' st' a' → K a' w') : if Region.wanted o (yielded ops a.tmps) = true then o.wp P a w K Q else K (a.put o.dst undef) w := by
  have hw := wanted_of hs hm hv
  simp only [mpo, Bool.and_eq_true, decide_eq_true_eq] at hm
  obtain ⟨⟨⟨h1, h2⟩, h3⟩, h4⟩ := hm
  obtain ⟨hsz, hdf, T, ρ, k, he⟩ := hs
  have hd : ∀ t, p.dst = some t → t < a.tmps.size := by
    intro t ht
    rw [ht] at h2
    simp only [decide_eq_true_eq] at h2
    omega
  rcases hw with ⟨hw, hv⟩ | ⟨hw, rfl⟩
  · rw [if_pos hw]
    simp only [Option.map_eq_some_iff] at hv
    obtain ⟨⟨av, h'⟩, hv2, rfl⟩ := hv
    refine op_sound k he h4 hc hv2 K Q fun v w' T' ρ' k' g r => hK _ _ ?_
    rw [h1]
    exact ⟨by rw [put_size]; exact hsz, (put_defers _ _ _).trans hdf, T', ρ', k', put_env (he.goes g) r hd⟩
  · rw [if_neg (by simp [hw])]
    refine hK _ _ ?_
    rw [h1]
    exact ⟨by rw [put_size]; exact hsz, (put_defers _ _ _).trans hdf, T, ρ, k, put_env he (.tup #[] rfl fun c hc => by cases hc) hd⟩
theorem wp_ex {o : Oper} {K : Act → World → Prop} (h : o.wp P a w K fun _ _ _ => False) : ∃ a' w', K a' w' := by
  unfold Oper.wp at h
  generalize (execOp a.eval o).run P w = r at h
  have hlets : LetsOut (fun _ _ _ => False) → False := fun ⟨_, _, h⟩ => h
  cases r with
  | ok n w' =>
    cases n <;> simp only [Oper.upon] at h
    case value => exact ⟨_, _, h⟩
    case skip => exact ⟨_, _, h⟩
    case defer => exact ⟨_, _, h⟩
    case enter f args =>
      obtain ⟨e, w'', fr, h1, _⟩ := h []
      cases e with
      | returned v => exact ⟨_, _, h1⟩
      | panicked => exact h1.elim
      | outgrown => exact (hlets h1).elim
    case row r args =>
      obtain ⟨v, w'', h1, _⟩ := h default []
      exact ⟨_, _, h1⟩
  | halt x w' =>
    cases x <;> simp only [Oper.upon] at h
def Real (f : Fr) (nt : Nat) (st : St) : Prop := ∃ w a, Sim f nt w st a
theorem Real.step {ops : Array Oper} {o : Oper} {p : POp} {st st' : St} (hr : Real f nt st) (hm : mpo P F f.tabs nt ops o p = true) {call : Call} (hc : CallsOk P F f.tabs call) (hv : p.ev call st = some st') : Real f nt st' := by
  obtain ⟨w, a, hs⟩ := hr
  have := op_sim hs hm hc hv (fun a' w' => Sim f nt w' st' a') (fun _ _ _ => False) fun _ _ h => h
  split at this
  · obtain ⟨a', w', h⟩ := wp_ex this
    exact ⟨w', a', h⟩
  · exact ⟨_, _, this⟩
def mposL (P : Program) (F : Fns) (tabs : List (Nat × List AV)) (nt : Nat) (ops : Array Oper) : List Oper → List POp → Bool
  | [], [] => true
  | o :: os, p :: ps => mpo P F tabs nt ops o p && mposL P F tabs nt ops os ps
  | _, _ => false
theorem mposL_get {tabs : List (Nat × List AV)} {ops : Array Oper} : ∀ {os : List Oper} {ps : List POp}, mposL P F tabs nt ops os ps = true → os.length = ps.length ∧ ∀ (i : Nat) o p, os[i]? = some o → ps[i]? = some p → mpo P F tabs nt ops o p = true := by
  intro os
  induction os with
  | nil => intro ps h; cases ps with
    | nil => exact ⟨rfl, fun i o p h => by simp at h⟩
    | cons => cases h
  | cons o os ih =>
    intro ps h
    cases ps with
    | nil => cases h
    | cons p ps =>
      simp only [mposL, Bool.and_eq_true] at h
      obtain ⟨h1, h2⟩ := ih h.2
      refine ⟨by simp [h1], fun i o' p' ho hp => ?_⟩
      cases i with
      | zero => simp at ho hp; subst ho; subst hp; exact h.1
      | succ i => simp at ho hp; exact h2 i o' p' ho hp
theorem ops_sim {ops : Array Oper} {ps : List POp} (hm : mposL P F f.tabs nt ops ops.toList ps = true) {call : Call} (hc : CallsOk P F f.tabs call) (Q : Exit → Act → World → Prop) {stf : St} (hQ : ∀ a w, Sim f nt w stf a → Q .normal a w) :
    ∀ (n k : Nat) (w : World) (a : Act) (st : St), k + n = ps.length → Sim f nt w st a → evs call (ps.drop k) st = some stf → wpOps P ops Q (List.range' k n) a w := by
  obtain ⟨hl, hg⟩ := mposL_get hm
  intro n
  induction n with
  | zero =>
    intro k w a st hk hs hv
    rw [List.drop_of_length_le (by omega)] at hv
    cases hv
    exact hQ a w hs
  | succ n ih =>
    intro k w a st hk hs hv
    have hlt : k < ps.length := by omega
    rw [List.drop_eq_getElem_cons hlt] at hv
    simp only [evs, Option.bind_eq_some_iff] at hv
    obtain ⟨st1, h1, h2⟩ := hv
    have hkl : k < ops.toList.length := by omega
    have ho : ops[k]? = some ops.toList[k] := by
      rw [← Array.getElem?_toList]; exact List.getElem?_eq_getElem hkl
    have hmk := hg k _ _ (List.getElem?_eq_getElem hkl) (List.getElem?_eq_getElem hlt)
    rw [List.range'_succ]
    simp only [wpOps, ho]
    have := op_sim hs hmk hc h1 (wpOps P ops Q (List.range' (k + 1) n)) Q fun a' w' h => ih (k + 1) w' a' st1 (by omega) h h2
    split at this
    · rename_i hw; rw [if_pos hw]; exact .inl this
    · rename_i hw; rw [if_neg hw]; exact this
theorem region_seq {ops : Array Oper} {ps : List POp} {id : Nat} (hm : mposL P F f.tabs nt ops ops.toList ps = true) {call : Call} (hc : CallsOk P F f.tabs call) (Q : Exit → Act → World → Prop) {st stf : St} (hQ : ∀ a w, Sim f nt w stf a → Q .normal a w)
    (hs : Sim f nt w st a) (hv : evs call ps st = some stf) : (Code.region id ops false).wp P Q a w := by
  refine wp_region ?_
  rw [List.range_eq_range']
  have hl := (mposL_get hm).1
  exact ops_sim hm hc Q hQ ops.size 0 w a st (by rw [← hl]; simp) hs hv
end
end Go.Pe
set_option linter.unusedVariables false
set_option linter.unusedSimpArgs false
namespace Go.Pe
open Go
def At.tmps : At → List Nat
  | .t n => [n]
  | .c _ => []
def PO.ats : PO → List At
  | .mv x | .box _ _ x | .ld _ _ x | .nck x | .not x | .neg x | .conv _ x | .b2s x | .mk _ _ _ _ x | .fld _ x | .ext _ x | .fpt _ _ _ x | .len x | .slen x | .s2b x => [x]
  | .pick c x y => [c, x, y]
  | .alloc _ _ => []
  | .build _ ps => ps.map fun p => p.2.2
  | .bsl _ _ _ _ ps => ps.map fun p => p.2
  | .st _ x v => [x, v]
  | .bin _ x y | .eqb _ x y | .eqs _ _ x y | .idx _ x y | .idxa _ _ x y | .sidx x y | .min x y | .max x y | .app _ _ _ x y | .copy _ x y | .aidx _ _ _ x y => [x, y]
  | .cut _ x lo hi mx => x :: (lo.toList ++ hi.toList ++ mx.toList)
  | .scut x lo hi => x :: (lo.toList ++ hi.toList)
  | .call _ xs | .callw _ xs _ | .callo _ xs _ | .calln _ xs _ _ => xs
def PO.reads (o : PO) : List Nat := o.ats.flatMap At.tmps
theorem At.agree {e e' : Nat → AV} {x : At} (h : ∀ t ∈ x.tmps, e t = e' t) : x.ev e = x.ev e' := by
  cases x with
  | t n => exact h n (by simp [At.tmps])
  | c v => rfl
theorem map_agree {e e' : Nat → AV} {xs : List At} (h : ∀ x ∈ xs, x.ev e = x.ev e') : xs.map (At.ev e) = xs.map (At.ev e') := List.map_congr_left h
theorem buildV_agree {e e' : Nat → AV} : ∀ {ps : List (Nat × Nat × At)} {z : List AV}, (∀ p ∈ ps, p.2.2.ev e = p.2.2.ev e') → buildV e z ps = buildV e' z ps := by
  intro ps
  induction ps with
  | nil => intro z _; rfl
  | cons p ps ih =>
    intro z h
    obtain ⟨off, sz, x⟩ := p
    have h1 : x.ev e = x.ev e' := h (off, sz, x) List.mem_cons_self
    simp only [buildV, h1]
    split
    · exact ih fun p hp => h p (List.mem_cons_of_mem _ hp)
    · rfl
theorem bslV_agree {e e' : Nat → AV} {h : Heap} {sz : Nat} : ∀ {ps : List (Nat × At)} {z : List (List AV)}, (∀ p ∈ ps, p.2.ev e = p.2.ev e') → bslV e h sz z ps = bslV e' h sz z ps := by
  intro ps
  induction ps with
  | nil => intro z _; rfl
  | cons p ps ih =>
    intro z h
    obtain ⟨j, x⟩ := p
    have h1 : x.ev e = x.ev e' := h (j, x) List.mem_cons_self
    simp only [bslV, h1]
    split
    · exact ih fun p hp => h p (List.mem_cons_of_mem _ hp)
    · rfl
theorem optI_agree {e e' : Nat → AV} {d : Option Int} {x : Option At} (h : ∀ y ∈ x.toList, y.ev e = y.ev e') : optI e d x = optI e' d x := by
  cases x with
  | none => rfl
  | some y => simp only [optI, h y (by simp)]
theorem flatMap_agree {α β : Type} {f g : α → List β} {l : List α} (h : ∀ x ∈ l, f x = g x) : l.flatMap f = l.flatMap g := by
  induction l with
  | nil => rfl
  | cons x l ih => rw [List.flatMap_cons, List.flatMap_cons, h x List.mem_cons_self, ih fun y hy => h y (List.mem_cons_of_mem _ hy)]
theorem PO.agree (call : Call) (o : PO) {e e' : Nat → AV} (h : Heap) (hx : ∀ t ∈ o.reads, e t = e' t) : o.ev call e h = o.ev call e' h := by
  have ha : ∀ x ∈ o.ats, x.ev e = x.ev e' := fun x hm => At.agree fun t ht => hx t (List.mem_flatMap.2 ⟨x, hm, ht⟩)
  cases o <;> simp only [PO.ats, List.mem_cons, List.not_mem_nil, or_false, forall_eq_or_imp, forall_eq, List.mem_map, List.mem_append, Option.mem_toList] at ha <;> simp only [PO.ev]
  case mv => rw [ha]
  case pick => rw [ha.1, ha.2.1, ha.2.2]
  case box => rw [ha]
  case build z ps => rw [buildV_agree fun p hp => ha _ ⟨p, hp, rfl⟩]
  case bsl id sz z n ps => rw [bslV_agree fun p hp => ha _ ⟨p, hp, rfl⟩, flatMap_agree fun p hp => (show ref1 h (p.2.ev e) = ref1 h (p.2.ev e') by rw [ha _ ⟨p, hp, rfl⟩])]
  case ld => rw [ha]
  case st => rw [ha.1, ha.2]
  case nck => rw [ha]
  case bin => rw [ha.1, ha.2]
  case eqb => rw [ha.1, ha.2]
  case eqs => rw [ha.1, ha.2]
  case not => rw [ha]
  case neg => rw [ha]
  case conv => rw [ha]
  case b2s => rw [ha]
  case mk => rw [ha]
  case cut sz x lo hi mx =>
    have h1 : optI e (some 0) lo = optI e' (some 0) lo := optI_agree fun y hy => ha.2 y (.inl (.inl (by simpa using hy)))
    have h2 : ∀ d, optI e d hi = optI e' d hi := fun d => optI_agree fun y hy => ha.2 y (.inl (.inr (by simpa using hy)))
    have h3 : ∀ d, optI e d mx = optI e' d mx := fun d => optI_agree fun y hy => ha.2 y (.inr (by simpa using hy))
    simp only [ha.1, h1, h2, h3]
  case scut x lo hi =>
    have h1 : optI e (some 0) lo = optI e' (some 0) lo := optI_agree fun y hy => ha.2 y (.inl (by simpa using hy))
    rw [ha.1, h1]
    cases hi with
    | none => rfl
    | some y => simp only [ha.2 y (.inr rfl)]
  case fld => rw [ha]
  case idx => rw [ha.1, ha.2]
  case idxa => rw [ha.1, ha.2]
  case sidx => rw [ha.1, ha.2]
  case ext => rw [ha]
  case fpt => rw [ha]
  case len => rw [ha]
  case slen => rw [ha]
  case min => rw [ha.1, ha.2]
  case max => rw [ha.1, ha.2]
  case app => rw [ha.1, ha.2]
  case copy => rw [ha.1, ha.2]
  case call => rw [map_agree ha]
  case callw => rw [map_agree ha]
  case calln => rw [map_agree ha]
  case callo => rw [map_agree ha]
  case s2b => rw [ha]
  case aidx => rw [ha.1, ha.2]
def PO.kind : PO → Nat
  | .ld _ _ _ | .b2s _ | .call _ _ | .callo _ _ _ | .alloc _ _ | .box _ _ _ | .bsl _ _ _ _ _ | .mk _ _ _ _ _ => 1
  | .st _ _ _ | .app _ _ _ _ _ | .copy _ _ _ | .callw _ _ _ | .calln _ _ _ _ => 2
  | _ => 0
theorem PO.pure (call : Call) (o : PO) (hk : o.kind = 0) (e : Nat → AV) (h : Heap) : o.ev call e h = (o.ev call e Heap.none).map fun p => (p.1, h) := by
  cases o <;> simp [PO.kind] at hk <;> simp only [PO.ev, Option.map_map, Function.comp_def, Option.map_some, Option.map_none]
  case pick => split <;> rfl
  case nck => split <;> rfl
  case not => split <;> rfl
  case neg => split <;> rfl
  case conv => split <;> rfl
  case cut sz x lo hi mx =>
    cases optI e (some 0) lo with
    | none => rfl
    | some l =>
      simp only [Option.bind_some]
      cases optI e ((lenV (x.ev e)).map fun (n : Nat) => (n : Int)) hi with
      | none => rfl
      | some u =>
        simp only [Option.bind_some]
        cases optI e (some u) mx with
        | none => rfl
        | some m =>
          simp only [Option.bind_some]
          split
          · rw [Option.map_map]; rfl
          · rfl
  case fld => split <;> rfl
  case idx sz x i =>
    cases intV (i.ev e) with
    | none => rfl
    | some j => simp only [Option.bind_some, Option.map_map]; rfl
  case idxa => (repeat' split) <;> rfl
  case sidx => (repeat' split) <;> rfl
  case ext => split <;> first | rfl | (rw [Option.map_map]; rfl)
  case fpt => split <;> first | rfl | (rw [Option.map_map]; rfl)
  case slen => split <;> rfl
  case min => split <;> rfl
  case max => split <;> rfl
  case s2b => (repeat' split) <;> rfl
  case aidx =>
    split
    · split
      · rw [Option.map_map]; rfl
      · rfl
    · rfl
abbrev Comp := AV × List Nat × Option (Nat × Row)
def Comp.app (c : Comp) (h : Heap) : Option (AV × Heap) := match c.2.2 with
  | none => some (c.1, h.freeze c.2.1)
  | some (id, x) => if (h id).isNone then some (c.1, (h.freeze c.2.1).put id x) else none
def compO (refs : List Nat) (id : Nat) : AV → Option Comp
  | .own ap z es => some (.sl id z 0 es.length, refs, some (id, .sl ap z es))
  | .l z [] => some (.l z [], refs, none)
  | .tup [.own ap z es, v] => some (.tup [.sl id z 0 es.length, demote v], refs, some (id, .sl ap z es))
  | _ => none
def PO.comp (call : Call) (o : PO) (e : Nat → AV) (h : Heap) : Option Comp := match o with
  | .ld agg sz x => (ldV h agg sz (x.ev e)).map fun v => (v, [], none)
  | .b2s x => ((esV h 1 (x.ev e)).bind byteNs).map fun ns => (.s (bytesS ns), [], none)
  | .call f xs => (call f ((xs.map (At.ev e)).map (tell h))).map fun r => (demoteT r, if r.scalar then [] else (xs.map (At.ev e)).flatMap (ref h), none)
  | .callo f xs id => (call f ((xs.map (At.ev e)).map (tell h))).bind (compO ((xs.map (At.ev e)).flatMap (ref h)) id)
  | .alloc id z => some (.p id 0 0, [], some (id, .st z))
  | .box id sz x => if (x.ev e).cells.length = sz then some (.p id 0 0, [], some (id, .st (x.ev e).cells)) else none
  | .bsl id sz z n ps => (bslV e h sz (List.replicate n z) ps).map fun es => (.sl id sz 0 n, ps.flatMap fun p => ref1 h (p.2.ev e), some (id, .sl true sz es))
  | .mk id sz bytes z l => match l.ev e with
    | .i .i64 n => if 0 ≤ n ∧ n.toNat * bytes ≤ 281474976710656 then some (.sl id sz 0 n.toNat, [], some (id, .sl true sz (List.replicate n.toNat z))) else none
    | _ => none
  | o => (o.ev call e Heap.none).map fun p => (p.1, [], none)
theorem ownR_comp (h : Heap) (refs : List Nat) (id : Nat) (r : AV) : ownR h refs id r = (compO refs id r).bind fun c => c.app h := by
  unfold ownR
  split
  · rfl
  · rfl
  · rfl
  · rename_i n1 n2 n3
    unfold compO
    split
    · exact absurd rfl (n1 _ _ _)
    · exact absurd rfl (n2 _)
    · exact absurd rfl (n3 _ _ _ _)
    · rfl
theorem PO.comp_ev (call : Call) (o : PO) (hk : o.kind ≤ 1) (e : Nat → AV) (h : Heap) : o.ev call e h = (o.comp call e h).bind fun c => c.app h := by
  by_cases h0 : o.kind = 0
  · rw [PO.pure call o h0]
    have : o.comp call e h = (o.ev call e Heap.none).map fun p => (p.1, [], none) := by cases o <;> first | rfl | simp [PO.kind] at h0
    rw [this]
    cases o.ev call e Heap.none <;> rfl
  · cases o <;> simp [PO.kind] at h0 hk <;> simp only [PO.ev, PO.comp]
    case box id sz x =>
      by_cases h1 : (x.ev e).cells.length = sz
      · rw [if_pos h1]
        simp only [Option.bind_some, Comp.app, h1, true_and]
        rfl
      · rw [if_neg h1, if_neg fun h => h1 h.1]; rfl
    case alloc => rfl
    case bsl id sz z n ps =>
      cases bslV e h sz (List.replicate n z) ps with
      | none => simp
      | some es => rfl
    case ld => cases ldV h _ _ (At.ev e _) <;> rfl
    case b2s x => cases (esV h 1 (x.ev e)).bind byteNs <;> rfl
    case mk id sz bytes z l =>
      have key : ∀ x : AV, (match x with
          | .i .i64 n => if 0 ≤ n ∧ n.toNat * bytes ≤ 281474976710656 ∧ (h id).isNone then some (AV.sl id sz 0 n.toNat, h.put id (.sl true sz (List.replicate n.toNat z))) else none
          | _ => none) = (match x with
          | .i .i64 n => if 0 ≤ n ∧ n.toNat * bytes ≤ 281474976710656 then some ((.sl id sz 0 n.toNat, [], some (id, .sl true sz (List.replicate n.toNat z))) : Comp) else none
          | _ => none).bind fun (c : Comp) => c.app h := by
        intro x
        split
        · rename_i n
          by_cases h1 : 0 ≤ n ∧ n.toNat * bytes ≤ 281474976710656
          · simp only [if_pos h1, Option.bind_some, Comp.app, h1.1, h1.2, true_and]
            rfl
          · rw [if_neg h1, if_neg fun h => h1 ⟨h.1, h.2.1⟩]; rfl
        · rename_i hn
          first
            | rfl
            | split
              · rename_i n; exact absurd rfl (hn n)
              · rfl
      exact key _
    case callo f xs id =>
      simp only [callO]
      cases call f ((xs.map (At.ev e)).map (tell h)) with
      | none => rfl
      | some r =>
        simp only [Option.bind_some]
        exact ownR_comp h _ id r
    case call f xs =>
      simp only [callV]
      cases call f ((xs.map (At.ev e)).map (tell h)) with
      | none => rfl
      | some r =>
        simp only [Option.map_some, Option.bind_some, Comp.app]
        by_cases hs : r.scalar = true
        · simp only [hs, if_true]; rfl
        · simp only [hs]; rfl
end Go.Pe
set_option linter.unusedVariables false
set_option linter.unusedSimpArgs false
namespace Go.Pe
open Go
def Hle (h h' : Heap) : Prop := ∀ r x, h r = some x → h' r = some x ∨ h' r = some x.freeze
def Cl (h : Heap) (l : List Nat) : Prop := ∀ r ∈ l, h r ≠ none
theorem Cl.append {h : Heap} {l m : List Nat} : Cl h (l ++ m) ↔ Cl h l ∧ Cl h m := by
  simp only [Cl, List.mem_append]
  exact ⟨fun k => ⟨fun r hr => k r (.inl hr), fun r hr => k r (.inr hr)⟩, fun ⟨k1, k2⟩ r hr => hr.elim (k1 r) (k2 r)⟩
theorem Cl.flatMap {α : Type} {h : Heap} {l : List α} {g : α → List Nat} (k : Cl h (l.flatMap g)) {x : α} (hx : x ∈ l) : Cl h (g x) := fun r hr => k r (List.mem_flatMap.2 ⟨x, hx, hr⟩)
section
variable {h h' : Heap}
theorem freeze_win (o n : Nat) (x : Row) : x.freeze.win o n = x.win o n := by cases x <;> rfl
theorem freeze_at (e : Nat) (x : Row) : x.freeze.at e = x.at e := by cases x <;> rfl
theorem Hle.win (k : Hle h h') {r : Nat} (hr : h r ≠ none) (o n : Nat) : (h' r).bind (Row.win o n) = (h r).bind (Row.win o n) := by
  cases hx : h r with
  | none => exact absurd hx hr
  | some x => rcases k r x hx with h1 | h1 <;> rw [h1] <;> simp [freeze_win]
theorem Hle.at (k : Hle h h') {r : Nat} (hr : h r ≠ none) (e : Nat) : (h' r).bind (Row.at e) = (h r).bind (Row.at e) := by
  cases hx : h r with
  | none => exact absurd hx hr
  | some x => rcases k r x hx with h1 | h1 <;> rw [h1] <;> simp [freeze_at]
theorem Hle.tell0 (k : Hle h h') {v : AV} (hc : Cl h (ref0 v)) : tell0 h' v = tell0 h v := by
  cases v <;> try rfl
  case sl r z o n => simp only [Go.Pe.tell0, k.win (hc r (by simp [ref0]))]
theorem Hle.tellC (k : Hle h h') {v : AV} (hc : Cl h (refC h v)) : tellC h' v = tellC h v ∧ refC h' v = refC h v := by
  cases v
  case p r e o =>
    have hr := k.at (hc r (by simp [refC])) e
    simp only [Go.Pe.tellC, refC, hr]
    refine ⟨?_, trivial⟩
    cases hb : (h r).bind (Row.at e) with
    | none => rfl
    | some cs =>
      simp only
      have : cs.map (Go.Pe.tell0 h') = cs.map (Go.Pe.tell0 h) := List.map_congr_left fun c hcm => k.tell0 fun q hq => hc q (by
        simp only [refC, hb, List.mem_cons, List.mem_flatMap]
        exact .inr ⟨c, hcm, hq⟩)
      rw [this]
  case sl r z o n => exact ⟨k.tell0 (v := .sl r z o n) hc, rfl⟩
  all_goals exact ⟨rfl, rfl⟩
theorem Hle.mapC (k : Hle h h') {cs : List AV} (hc : Cl h (cs.flatMap (refC h))) : cs.map (Go.Pe.tellC h') = cs.map (Go.Pe.tellC h) ∧ cs.flatMap (refC h') = cs.flatMap (refC h) :=
  ⟨List.map_congr_left fun c hm => (k.tellC (hc.flatMap hm)).1, flatMap_agree fun c hm => (k.tellC (hc.flatMap hm)).2⟩
theorem Hle.tell1 (k : Hle h h') {v : AV} (hc : Cl h (ref1 h v)) : tell1 h' v = tell1 h v ∧ ref1 h' v = ref1 h v := by
  cases v
  case agg cs =>
    obtain ⟨h1, h2⟩ := k.mapC (cs := cs) hc
    exact ⟨congrArg AV.agg h1, h2⟩
  case tup cs => exact ⟨rfl, rfl⟩
  all_goals first | exact k.tellC (v := (AV.junk)) hc | exact k.tellC (v := (AV.b _)) hc | exact k.tellC (v := (AV.i _ _)) hc | exact k.tellC (v := (AV.s _)) hc | exact k.tellC (v := (AV.np)) hc | exact k.tellC (v := (AV.ns _)) hc | exact k.tellC (v := (AV.l _ _)) hc | exact k.tellC (v := (AV.tp _ _)) hc | exact k.tellC (v := (AV.sl _ _ _ _)) hc | exact k.tellC (v := (AV.p _ _ _)) hc | exact k.tellC (v := (AV.own _ _ _)) hc | exact k.tellC (v := (AV.ownp _)) hc | exact k.tellC (v := (AV.back _ _)) hc | exact k.tellC (v := (AV.agg _)) hc | exact k.tellC (v := (AV.tup _)) hc
theorem Hle.tell (k : Hle h h') {v : AV} (hc : Cl h (ref h v)) : tell h' v = tell h v ∧ ref h' v = ref h v := by
  cases v
  case tup cs =>
    have h1 : cs.map (Go.Pe.tell1 h') = cs.map (Go.Pe.tell1 h) := List.map_congr_left fun c hm => (k.tell1 (Cl.flatMap hc hm)).1
    have h2 : cs.flatMap (ref1 h') = cs.flatMap (ref1 h) := flatMap_agree fun c hm => (k.tell1 (Cl.flatMap hc hm)).2
    exact ⟨congrArg AV.tup h1, h2⟩
  case back => exact ⟨rfl, rfl⟩
  all_goals first | exact k.tell1 (v := (AV.junk)) hc | exact k.tell1 (v := (AV.b _)) hc | exact k.tell1 (v := (AV.i _ _)) hc | exact k.tell1 (v := (AV.s _)) hc | exact k.tell1 (v := (AV.np)) hc | exact k.tell1 (v := (AV.ns _)) hc | exact k.tell1 (v := (AV.l _ _)) hc | exact k.tell1 (v := (AV.tp _ _)) hc | exact k.tell1 (v := (AV.sl _ _ _ _)) hc | exact k.tell1 (v := (AV.p _ _ _)) hc | exact k.tell1 (v := (AV.own _ _ _)) hc | exact k.tell1 (v := (AV.ownp _)) hc | exact k.tell1 (v := (AV.back _ _)) hc | exact k.tell1 (v := (AV.agg _)) hc | exact k.tell1 (v := (AV.tup _)) hc
theorem ref_cells {v : AV} (hc : Cl h (ref1 h v)) : Cl h (v.cells.flatMap (refC h)) := by
  cases v
  case agg cs => exact hc
  all_goals
    intro r hr
    simp only [AV.cells, List.flatMap_cons, List.flatMap_nil, List.append_nil, List.not_mem_nil] at hr
  all_goals exact hc r hr
theorem Hle.cells (k : Hle h h') {v : AV} (hc : Cl h (ref1 h v)) : v.cells.map (Go.Pe.tellC h') = v.cells.map (Go.Pe.tellC h) := (k.mapC (ref_cells hc)).1
theorem Hle.ptr (k : Hle h h') {v : AV} (hc : Cl h (refC h v)) : ptrAt h' v = ptrAt h v := by
  cases v <;> try rfl
  case p r e o => simp only [ptrAt, k.at (hc r (by simp [refC]))]
theorem ptr_ref {v : AV} (hc : Cl h (ref h v)) : Cl h (refC h v) := by
  cases v
  case agg => intro r hr; simp [refC, ref0] at hr
  case tup => intro r hr; simp [refC, ref0] at hr
  all_goals exact hc
theorem ref_one {v : AV} (hc : Cl h (ref h v)) : Cl h (ref1 h v) := by
  cases v
  case tup => intro r hr; simp [ref1, refC, ref0] at hr
  all_goals exact hc
theorem Hle.ld (k : Hle h h') {v : AV} (hc : Cl h (ref h v)) (ag : Bool) (sz : Nat) : ldV h' ag sz v = ldV h ag sz v := by
  simp only [ldV, k.ptr (ptr_ref hc)]
theorem Hle.bsl (k : Hle h h') {e : Nat → AV} {sz : Nat} : ∀ {ps : List (Nat × At)} {z : List (List AV)}, (∀ p ∈ ps, Cl h (ref h (p.2.ev e))) → bslV e h' sz z ps = bslV e h sz z ps := by
  intro ps
  induction ps with
  | nil => intro z _; rfl
  | cons p ps ih =>
    intro z hc
    obtain ⟨j, x⟩ := p
    have h1 := k.cells (ref_one (hc (j, x) List.mem_cons_self))
    simp only [bslV] at h1 ⊢
    rw [h1]
    split
    · exact ih fun p hp => hc p (List.mem_cons_of_mem _ hp)
    · rfl
theorem Hle.es (k : Hle h h') {v : AV} (hc : Cl h (ref h v)) (z : Nat) : esV h' z v = esV h z v := by
  cases v <;> try rfl
  case sl r z' o n => simp only [esV, k.win (hc r (by simp [ref, ref1, refC, ref0]))]
theorem PO.comp_le (call : Call) (o : PO) {e : Nat → AV} (k : Hle h h') (hc : ∀ x ∈ o.ats, Cl h (ref h (x.ev e))) : o.comp call e h' = o.comp call e h := by
  cases o <;> try rfl
  case ld ag sz x => simp only [PO.comp, k.ld (hc x (by simp [PO.ats]))]
  case b2s x => simp only [PO.comp, k.es (hc x (by simp [PO.ats]))]
  case bsl id sz z n ps =>
    have h1 : ∀ p ∈ ps, Cl h (ref h (p.2.ev e)) := fun p hp => hc _ (List.mem_map.2 ⟨p, hp, rfl⟩)
    simp only [PO.comp]
    rw [k.bsl h1, flatMap_agree fun p hp => (k.tell1 (ref_one (h1 p hp))).2]
  case callo f xs id =>
    have h1 : (xs.map (At.ev e)).map (Go.Pe.tell h') = (xs.map (At.ev e)).map (Go.Pe.tell h) := List.map_congr_left fun v hv => by
      obtain ⟨x, hx, rfl⟩ := List.mem_map.1 hv
      exact (k.tell (hc x hx)).1
    have h2 : (xs.map (At.ev e)).flatMap (ref h') = (xs.map (At.ev e)).flatMap (ref h) := flatMap_agree fun v hv => by
      obtain ⟨x, hx, rfl⟩ := List.mem_map.1 hv
      exact (k.tell (hc x hx)).2
    simp only [PO.comp, h1, h2]
  case call f xs =>
    have h1 : (xs.map (At.ev e)).map (Go.Pe.tell h') = (xs.map (At.ev e)).map (Go.Pe.tell h) := List.map_congr_left fun v hv => by
      obtain ⟨x, hx, rfl⟩ := List.mem_map.1 hv
      exact (k.tell (hc x hx)).1
    have h2 : (xs.map (At.ev e)).flatMap (ref h') = (xs.map (At.ev e)).flatMap (ref h) := flatMap_agree fun v hv => by
      obtain ⟨x, hx, rfl⟩ := List.mem_map.1 hv
      exact (k.tell (hc x hx)).2
    simp only [PO.comp, h1, h2]
theorem comp_cl (call : Call) (o : PO) {e : Nat → AV} (hc : ∀ x ∈ o.ats, Cl h (ref h (x.ev e))) {c : Comp} (hv : o.comp call e h = some c) : Cl h c.2.1 := by
  have nil : Cl h [] := fun r hr => by cases hr
  cases o <;> simp only [PO.comp, Option.map_eq_some_iff] at hv
  case callo f xs id =>
    simp only [Option.bind_eq_some_iff] at hv
    obtain ⟨v, _, hv⟩ := hv
    have : c.2.1 = (xs.map (At.ev e)).flatMap (ref h) := by
      unfold compO at hv
      split at hv <;> cases hv <;> rfl
    rw [this]
    intro r hr
    obtain ⟨u, hu, hr⟩ := List.mem_flatMap.1 hr
    obtain ⟨x, hx, rfl⟩ := List.mem_map.1 hu
    exact hc x hx r hr
  case bsl id sz z n ps =>
    obtain ⟨es, _, rfl⟩ := hv
    intro r hr
    obtain ⟨p, hp, hr⟩ := List.mem_flatMap.1 hr
    exact ref_one (hc _ (List.mem_map.2 ⟨p, hp, rfl⟩)) r hr
  case call f xs =>
    obtain ⟨v, _, rfl⟩ := hv
    simp only
    split
    · exact nil
    · intro r hr
      obtain ⟨u, hu, hr⟩ := List.mem_flatMap.1 hr
      obtain ⟨x, hx, rfl⟩ := List.mem_map.1 hu
      exact hc x hx r hr
  case alloc => cases hv; exact nil
  case box =>
    split at hv
    · cases hv; exact nil
    · cases hv
  case mk =>
    split at hv
    · split at hv
      · cases hv; exact nil
      · cases hv
    · cases hv
  all_goals
    obtain ⟨_, _, rfl⟩ := hv
    exact nil
end
section
variable {f : Fr} {w : World} {T : Nat → Prop} {ρ : Rho} {h : Heap}
theorem rv_ref0 (hd : ∀ r, h r = none → ρ r = none) {av : AV} {v : Value} (k : Rv w T ρ av v) : Cl h (ref0 av) := by
  intro r hr hn
  cases k with
  | sl hρ => simp only [ref0, List.mem_singleton] at hr; subst hr; rw [hd _ hn] at hρ; cases hρ
  | slz hρ => simp only [ref0, List.mem_singleton] at hr; subst hr; rw [hd _ hn] at hρ; cases hρ
  | slnil hρ => simp only [ref0, List.mem_singleton] at hr; subst hr; rw [hd _ hn] at hρ; cases hρ
  | _ => simp [ref0] at hr
theorem rv_ref0n {av : AV} {v : Value} (k : Rv w T Rho.none av v) : ref0 av = [] := by
  cases k with
  | sl hρ => cases hρ
  | slz hρ => cases hρ
  | slnil hρ => cases hρ
  | _ => rfl
theorem row_ref0 (hd : ∀ r, h r = none → ρ r = none) {r : Nat} {x : Row} (ok : RowOk w T ρ r x) {e : Nat} {cs : List AV} (hx : x.at e = some cs) : Cl h (cs.flatMap ref0) := by
  intro q hq
  obtain ⟨c, hc, hq⟩ := List.mem_flatMap.1 hq
  obtain ⟨j, hj, rfl⟩ := List.getElem_of_mem hc
  have elems : ∀ {b base z : Nat} {es : List (List AV)}, RowAt w b base z es (Rv w T Rho.none) → es[e]? = some cs → h q ≠ none := by
    intro b base z es hr he
    have hlt : e < es.length := (List.getElem?_eq_some_iff.1 he).1
    have hg : es.getD e [] = cs := by rw [List.getD_eq_getElem?_getD, he]; rfl
    have hl := hr.len e hlt
    rw [hg] at hl
    obtain ⟨v, _, _, h3⟩ := hr.cell e j hlt (by omega)
    rw [hg] at h3
    have : cs.getD j .junk = cs[j] := by simp [hj]
    rw [this] at h3
    rw [rv_ref0n h3] at hq
    cases hq
  have strs : ∀ {b base : Nat} {ds : List AV}, RowAt w b base ds.length [ds] (Rv w T ρ) → (if e = 0 then some ds else none) = some cs → h q ≠ none := by
    intro b base ds hr he
    split at he
    · cases he
      obtain ⟨v, _, _, h3⟩ := hr.cell 0 j (by simp) hj
      have : ([cs].getD 0 []).getD j AV.junk = cs[j] := by simp [hj]
      rw [this] at h3
      exact rv_ref0 hd h3 q hq
    · cases he
  cases x with
  | sl ap z es =>
    rcases ok with ⟨h1, _, _⟩ | ⟨_, _, _, _, _, _, _, _, _, h6⟩
    · subst h1; simp [Row.at] at hx
    · exact elems h6 hx
  | fsl z es =>
    rcases ok with ⟨h1, _⟩ | ⟨_, _, _, _, _, h6⟩
    · subst h1; simp [Row.at] at hx
    · exact elems h6 hx
  | st ds =>
    obtain ⟨_, _, _, _, _, _, _, _, h6⟩ := ok
    exact strs h6 hx
  | fst ds =>
    obtain ⟨_, _, _, _, _, h6⟩ := ok
    exact strs h6 hx
  | dead => simp [Row.at] at hx
theorem rv_refC (hd : ∀ r, h r = none → ρ r = none) (hrows : ∀ r x, h r = some x → RowOk w T ρ r x) {av : AV} {v : Value} (k : Rv w T ρ av v) : Cl h (refC h av) := by
  by_cases hp : ∃ r e o, av = .p r e o
  · obtain ⟨r, e, o, rfl⟩ := hp
    intro q hq
    simp only [refC, List.mem_cons] at hq
    rcases hq with rfl | hq
    · intro hn
      cases k with
      | p hρ => rw [hd _ hn] at hρ; cases hρ
    · cases hx : h r with
      | none => rw [hx] at hq; simp at hq
      | some x =>
        rw [hx] at hq
        simp only [Option.bind_some] at hq
        cases hcs : x.at e with
        | none => rw [hcs] at hq; simp at hq
        | some cs =>
          rw [hcs] at hq
          exact row_ref0 hd (hrows r x hx) hcs q hq
  · have : refC h av = ref0 av := by cases av <;> first | rfl | exact absurd ⟨_, _, _, rfl⟩ hp
    rw [this]
    exact rv_ref0 hd k
theorem rv_ref1 (hd : ∀ r, h r = none → ρ r = none) (hrows : ∀ r x, h r = some x → RowOk w T ρ r x) {av : AV} {v : Value} (k : Rv w T ρ av v) : Cl h (ref1 h av) := by
  by_cases ha : ∃ cs, av = .agg cs
  · obtain ⟨cs, rfl⟩ := ha
    cases k with
    | agg vs hl h1 hv =>
      intro q hq
      obtain ⟨c, hc, hq⟩ := List.mem_flatMap.1 hq
      obtain ⟨j, hj, rfl⟩ := List.getElem_of_mem hc
      have := hv j hj
      have e : cs.getD j .junk = cs[j] := by simp [hj]
      rw [e] at this
      exact rv_refC hd hrows this q hq
  · have : ref1 h av = refC h av := by cases av <;> first | rfl | exact absurd ⟨_, rfl⟩ ha
    rw [this]
    exact rv_refC hd hrows k
theorem rv_ref (hd : ∀ r, h r = none → ρ r = none) (hrows : ∀ r x, h r = some x → RowOk w T ρ r x) {av : AV} {v : Value} (k : Rv w T ρ av v) : Cl h (ref h av) := by
  by_cases ha : ∃ cs, av = .tup cs
  · obtain ⟨cs, rfl⟩ := ha
    cases k with
    | tup vs hl hv =>
      intro q hq
      obtain ⟨c, hc, hq⟩ := List.mem_flatMap.1 hq
      obtain ⟨j, hj, rfl⟩ := List.getElem_of_mem hc
      have := hv j hj
      have e : cs.getD j .junk = cs[j] := by simp [hj]
      rw [e] at this
      exact rv_ref1 hd hrows this q hq
  · have : ref h av = ref1 h av := by cases av <;> first | rfl | exact absurd ⟨_, rfl⟩ ha
    rw [this]
    exact rv_ref1 hd hrows k
end
end Go.Pe
set_option linter.unusedVariables false
set_option linter.unusedSimpArgs false
namespace Go.Pe
open Go
def POp.reads (p : POp) : List Nat := p.op.reads ++ (match p.guard with | some (t, _) => [t] | none => [])
def POp.comp (call : Call) (p : POp) (e : Nat → AV) (h : Heap) : Option Comp := match p.guard with
  | none => p.op.comp call e h
  | some (t, q) => match (e t).yes q with
    | some true => p.op.comp call e h
    | some false => some (.tup [], [], none)
    | none => none
theorem POp.comp_ev (call : Call) (p : POp) (hk : p.op.kind ≤ 1) (st : St) : p.ev call st = (p.comp call st.env st.h).bind fun c => (c.app st.h).map fun q => ⟨setD st.env p.dst q.1, q.2⟩ := by
  unfold POp.ev POp.comp
  cases p.guard with
  | none =>
    simp only [PO.comp_ev call p.op hk, Option.map_bind]
    rfl
  | some g =>
    obtain ⟨t, q⟩ := g
    simp only
    cases (st.env t).yes q with
    | none => rfl
    | some z =>
      cases z
      · rfl
      · simp only [PO.comp_ev call p.op hk, Option.map_bind]
        rfl
theorem POp.agree (call : Call) (p : POp) {e e' : Nat → AV} (h : Heap) (hx : ∀ t ∈ p.reads, e t = e' t) : p.comp call e h = p.comp call e' h := by
  have h1 : p.op.comp call e h = p.op.comp call e' h := by
    have hr : ∀ t ∈ p.op.reads, e t = e' t := fun t ht => hx t (List.mem_append.2 (.inl ht))
    have ha : ∀ x ∈ p.op.ats, x.ev e = x.ev e' := fun x hm => At.agree fun t ht => hr t (List.mem_flatMap.2 ⟨x, hm, ht⟩)
    have hp := PO.agree call p.op Heap.none hr
    generalize p.op = o at ha hp
    cases o <;> simp only [PO.comp] <;> simp only [PO.ats, List.mem_cons, List.not_mem_nil, or_false, forall_eq_or_imp, forall_eq, List.mem_map] at ha <;> try rw [hp]
    case ld => rw [ha]
    case b2s => rw [ha]
    case call => rw [map_agree ha]
    case callo => rw [map_agree ha]
    case box => rw [ha]
    case mk => rw [ha]
    case bsl id sz z n ps => rw [bslV_agree fun p hp => ha _ ⟨p, hp, rfl⟩, flatMap_agree fun p hp => (show ref1 h (p.2.ev e) = ref1 h (p.2.ev e') by rw [ha _ ⟨p, hp, rfl⟩])]
  unfold POp.comp
  cases hg : p.guard with
  | none => exact h1
  | some g =>
    obtain ⟨t, q⟩ := g
    have : e t = e' t := hx t (by simp [POp.reads, hg])
    simp only [this, h1]
theorem setD_comm {e : Nat → AV} {d d' : Option Nat} (u v : AV) (h : ∀ t, d = some t → d' ≠ some t) : setD (setD e d u) d' v = setD (setD e d' v) d u := by
  cases d with
  | none => rfl
  | some t =>
    cases d' with
    | none => rfl
    | some t' =>
      have hne : t ≠ t' := fun e => h t rfl (by rw [e])
      funext s
      simp only [setD, upd]
      by_cases h1 : s = t
      · subst h1; simp [hne]
      · simp [h1]
theorem setD_at {e : Nat → AV} {d : Option Nat} {v : AV} {t : Nat} (h : d ≠ some t) : setD e d v t = e t := by
  cases d with
  | none => rfl
  | some s => simp only [setD, upd]; rw [if_neg fun e => h (by rw [e])]
def envApart (x y : POp) : Bool := (match x.dst with | some d => !y.reads.contains d && decide (y.dst ≠ some d) | none => true) && (match y.dst with | some d => !x.reads.contains d | none => true)
theorem envApart_spec {x y : POp} (h : envApart x y = true) : (∀ t ∈ y.reads, x.dst ≠ some t) ∧ (∀ t ∈ x.reads, y.dst ≠ some t) ∧ (∀ t, x.dst = some t → y.dst ≠ some t) := by
  simp only [envApart, Bool.and_eq_true] at h
  obtain ⟨h1, h2⟩ := h
  refine ⟨fun t ht hd => ?_, fun t ht hd => ?_, fun t hd => ?_⟩
  · rw [hd] at h1; simp at h1; exact h1.1 ht
  · rw [hd] at h2; simp at h2; exact h2 ht
  · rw [hd] at h1; simp at h1; exact h1.2
theorem freeze_get (h : Heap) (l : List Nat) (q : Nat) : (h.freeze l) q = if q ∈ l then (h q).map Row.freeze else h q := by
  induction l with
  | nil => rfl
  | cons r l ih =>
    simp only [Heap.freeze]
    by_cases h1 : q = r
    · subst h1
      simp only [if_true, List.mem_cons, true_or]
      rw [ih]
      split
      · cases h q with
        | none => rfl
        | some x => cases x <;> rfl
      · rfl
    · simp only [h1, if_false, List.mem_cons, false_or]
      exact ih
theorem Comp.app_le {c : Comp} {h h' : Heap} {v : AV} (hv : c.app h = some (v, h')) : v = c.1 ∧ Hle h h' ∧ (∀ q, h' q = none → h q = none) ∧ ∀ id x, c.2.2 = some (id, x) → h id = none := by
  obtain ⟨u, A, p⟩ := c
  cases p with
  | none =>
    simp only [Comp.app] at hv
    cases hv
    refine ⟨rfl, fun r x hx => ?_, fun q hq => freeze_none.1 hq, fun id x h => by cases h⟩
    rw [freeze_get, hx]
    split
    · exact .inr rfl
    · exact .inl rfl
  | some p =>
    obtain ⟨id, y⟩ := p
    simp only [Comp.app] at hv
    split at hv
    · rename_i hid
      cases hv
      have hid' : h id = none := by simpa using hid
      refine ⟨rfl, fun r x hx => ?_, fun q hq => ?_, fun id x h => by cases h; exact hid'⟩
      · have hne : r ≠ id := fun e => by rw [e, hid'] at hx; cases hx
        simp only [Heap.put, if_neg hne, freeze_get, hx]
        split
        · exact .inr rfl
        · exact .inl rfl
      · simp only [Heap.put] at hq
        split at hq
        · cases hq
        · exact freeze_none.1 hq
    · cases hv
theorem app_comm {c d : Comp} {h h1 h2 : Heap} {u v : AV} (hc : c.app h = some (u, h1)) (hd : d.app h1 = some (v, h2)) (cc : Cl h c.2.1) (cd : Cl h d.2.1) (hne : ∀ i x j y, c.2.2 = some (i, x) → d.2.2 = some (j, y) → i ≠ j) :
    ∃ h3, d.app h = some (v, h3) ∧ c.app h3 = some (u, h2) := by
  obtain ⟨_, _, n1, m1⟩ := Comp.app_le hc
  obtain ⟨_, _, _, m2⟩ := Comp.app_le hd
  obtain ⟨a, A, p⟩ := c
  obtain ⟨b, B, q⟩ := d
  have idn : ∀ {i : Nat} {l : List Nat}, h i = none → Cl h l → i ∉ l := fun hi hl hm => hl _ hm hi
  have ff : ∀ r, ((h.freeze A).freeze B) r = ((h.freeze B).freeze A) r := by
    intro r
    simp only [freeze_get]
    cases h r with
    | none => by_cases h1 : r ∈ A <;> by_cases h2 : r ∈ B <;> simp [h1, h2]
    | some x => by_cases h1 : r ∈ A <;> by_cases h2 : r ∈ B <;> simp [h1, h2]
  cases p with
  | none =>
    simp only [Comp.app] at hc
    cases hc
    cases q with
    | none =>
      simp only [Comp.app] at hd
      cases hd
      refine ⟨_, rfl, ?_⟩
      simp only [Comp.app]
      rw [funext ff]
    | some q =>
      obtain ⟨j, y⟩ := q
      have hj : h j = none := n1 j (m2 j y rfl)
      simp only [Comp.app] at hd
      split at hd
      · cases hd
        refine ⟨(h.freeze B).put j y, by simp [Comp.app, hj], ?_⟩
        simp only [Comp.app]
        have : ((h.freeze B).put j y).freeze A = ((h.freeze A).freeze B).put j y := by
          funext r
          simp only [freeze_get, Heap.put]
          by_cases h1 : r = j
          · subst h1; simp [idn hj cc]
          · have := ff r
            simp only [freeze_get] at this
            simp only [h1, if_false]
            exact this.symm
        rw [this]
      · cases hd
  | some p =>
    obtain ⟨i, x⟩ := p
    have hi : h i = none := m1 i x rfl
    simp only [Comp.app] at hc
    split at hc
    · cases hc
      cases q with
      | none =>
        simp only [Comp.app] at hd
        cases hd
        refine ⟨_, rfl, ?_⟩
        have h3 : (h.freeze B) i = none := freeze_none.2 hi
        simp only [Comp.app, h3, Option.isNone_none, if_true]
        have : ((h.freeze A).put i x).freeze B = ((h.freeze B).freeze A).put i x := by
          funext r
          simp only [freeze_get, Heap.put]
          by_cases h1 : r = i
          · subst h1; simp [idn hi cd]
          · have := ff r
            simp only [freeze_get] at this
            simp only [h1, if_false]
            exact this
        rw [this]
      | some q =>
        obtain ⟨j, y⟩ := q
        have hij := hne i x j y rfl rfl
        have hj : h j = none := n1 j (m2 j y rfl)
        simp only [Comp.app] at hd
        split at hd
        · cases hd
          refine ⟨(h.freeze B).put j y, by simp [Comp.app, hj], ?_⟩
          have h3 : ((h.freeze B).put j y) i = none := by simp only [Heap.put, if_neg hij]; exact freeze_none.2 hi
          simp only [Comp.app, h3, Option.isNone_none, if_true]
          have : ((((h.freeze A).put i x).freeze B).put j y) = (((h.freeze B).put j y).freeze A).put i x := by
            funext r
            simp only [freeze_get, Heap.put]
            by_cases h1 : r = i
            · subst h1; simp [idn hi cd, hij]
            · by_cases h2 : r = j
              · subst h2; simp [h1, idn hj cc]
              · have := ff r
                simp only [freeze_get] at this
                simp only [h1, h2, if_false]
                exact this
          rw [this]
        · cases hd
    · cases hc
def noRef : AV → Bool
  | .sl _ _ _ _ | .p _ _ _ | .tup _ => false
  | .agg cs => cs.all fun c => match c with | .sl _ _ _ _ | .p _ _ _ => false | _ => true
  | _ => true
theorem noRef_cl {v : AV} (h : Heap) (hn : noRef v = true) : Cl h (ref h v) := by
  have : ref h v = [] := by
    cases v <;> first | rfl | (simp [noRef] at hn; done) | skip
    rename_i cs
    show cs.flatMap (refC h) = []
    simp only [noRef, List.all_eq_true] at hn
    rw [List.flatMap_eq_nil_iff]
    intro c hc
    have := hn c hc
    cases c <;> first | rfl | (simp at this; done)
  rw [this]
  intro r hr
  cases hr
def PO.okc (o : PO) : Bool := o.ats.all fun x => match x with | .c v => noRef v | .t _ => true
theorem Real.closed {f : Fr} {nt : Nat} {st : St} (hr : Real f nt st) {o : PO} (ho : o.okc = true) : ∀ x ∈ o.ats, Cl st.h (ref st.h (x.ev st.env)) := by
  intro x hx
  simp only [PO.okc, List.all_eq_true] at ho
  have := ho x hx
  obtain ⟨w, a, _, _, T, ρ, k, he⟩ := hr
  cases x with
  | c v => exact noRef_cl _ this
  | t n => exact rv_ref k.dom k.rows (he n)
def PO.newId : PO → Option Nat
  | .alloc id _ | .box id _ _ | .bsl id _ _ _ _ | .mk id _ _ _ _ | .callo _ _ id => some id
  | _ => none
theorem comp_id (call : Call) (p : POp) {e : Nat → AV} {h : Heap} {c : Comp} (hv : p.comp call e h = some c) {i : Nat} {x : Row} (hi : c.2.2 = some (i, x)) : p.op.newId = some i := by
  have key : p.op.comp call e h = some c → p.op.newId = some i := by
    intro hv
    generalize p.op = o at hv
    cases o <;> simp only [PO.comp, Option.map_eq_some_iff] at hv
    case alloc => cases hv; cases hi; rfl
    case callo =>
      simp only [Option.bind_eq_some_iff] at hv
      obtain ⟨v, _, hv⟩ := hv
      unfold compO at hv
      split at hv <;> cases hv <;> cases hi <;> rfl
    case box => split at hv <;> cases hv; cases hi; rfl
    case bsl => obtain ⟨_, _, rfl⟩ := hv; cases hi; rfl
    case mk =>
      split at hv
      · split at hv
        · cases hv; cases hi; rfl
        · cases hv
      · cases hv
    all_goals
      obtain ⟨_, _, rfl⟩ := hv
      cases hi
  unfold POp.comp at hv
  split at hv
  · exact key hv
  · split at hv
    · exact key hv
    · cases hv; cases hi
    · cases hv
theorem swap_grow {call : Call} {x y : POp} {st s1 s2 : St} (hx : x.op.kind ≤ 1) (hy : y.op.kind ≤ 1) (hap : envApart x y = true) (cx : ∀ z ∈ x.op.ats, Cl st.h (ref st.h (z.ev st.env))) (cy : ∀ z ∈ y.op.ats, Cl st.h (ref st.h (z.ev st.env)))
    (hid : ∀ i, x.op.newId = some i → y.op.newId ≠ some i) (h1 : x.ev call st = some s1) (h2 : y.ev call s1 = some s2) : ∃ s3, y.ev call st = some s3 ∧ x.ev call s3 = some s2 := by
  obtain ⟨a1, a2, a3⟩ := envApart_spec hap
  rw [POp.comp_ev call x hx] at h1
  simp only [Option.bind_eq_some_iff, Option.map_eq_some_iff] at h1
  obtain ⟨c, hc, ⟨u, g1⟩, hg1, rfl⟩ := h1
  rw [POp.comp_ev call y hy] at h2
  simp only [Option.bind_eq_some_iff, Option.map_eq_some_iff] at h2
  obtain ⟨d, hd, ⟨v, g2⟩, hg2, rfl⟩ := h2
  obtain ⟨hu, le1, _, _⟩ := Comp.app_le hg1
  have compLe : ∀ (p : POp) {h h' : Heap} (e : Nat → AV), Hle h h' → (∀ z ∈ p.op.ats, Cl h (ref h (z.ev e))) → p.comp call e h' = p.comp call e h := by
    intro p h h' e hle hcl
    unfold POp.comp
    simp only [PO.comp_le call p.op hle hcl]
  have hd' : y.comp call st.env st.h = some d := by
    rw [← compLe y st.env le1 cy, ← hd]
    refine POp.agree call y g1 fun t ht => ?_
    exact (setD_at (a1 t ht)).symm
  have clc : ∀ (p : POp) {c : Comp}, (∀ z ∈ p.op.ats, Cl st.h (ref st.h (z.ev st.env))) → p.comp call st.env st.h = some c → Cl st.h c.2.1 := by
    intro p c hcl hv
    unfold POp.comp at hv
    split at hv
    · exact comp_cl call p.op hcl hv
    · split at hv
      · exact comp_cl call p.op hcl hv
      · cases hv; intro r hr; cases hr
      · cases hv
  obtain ⟨g3, b1, b2⟩ := app_comm hg1 hg2 (clc x cx hc) (clc y cy hd') fun i _ j _ hi hj e => hid i (comp_id call x hc hi) (by rw [e]; exact comp_id call y hd' hj)
  obtain ⟨_, le3, _, _⟩ := Comp.app_le b1
  refine ⟨⟨setD st.env y.dst v, g3⟩, ?_, ?_⟩
  · rw [POp.comp_ev call y hy, hd']
    simp only [Option.bind_some, b1, Option.map_some]
  · rw [POp.comp_ev call x hx]
    have hc' : x.comp call (setD st.env y.dst v) g3 = some c := by
      rw [← hc, ← compLe x st.env le3 cx]
      exact POp.agree call x g3 fun t ht => setD_at (a2 t ht)
    simp only [hc', Option.bind_some, b2, Option.map_some]
    rw [setD_comm u v a3]
end Go.Pe
set_option linter.unusedVariables false
set_option linter.unusedSimpArgs false
namespace Go.Pe
open Go
theorem POp.ev_at {call : Call} {p : POp} {e : Nat → AV} {h : Heap} {s : St} (hv : p.ev call ⟨e, h⟩ = some s) :
    ∃ v h', s = ⟨setD e p.dst v, h'⟩ ∧ ∀ e', (∀ t ∈ p.reads, e t = e' t) → p.ev call ⟨e', h⟩ = some ⟨setD e' p.dst v, h'⟩ := by
  unfold POp.ev at hv ⊢
  cases hg : p.guard with
  | none =>
    simp only [hg, Option.map_eq_some_iff] at hv
    obtain ⟨⟨v, h'⟩, hv, rfl⟩ := hv
    refine ⟨v, h', rfl, fun e' ha => ?_⟩
    rw [← PO.agree call p.op h fun t ht => ha t (by simp [POp.reads, ht])]
    simp only [hv, Option.map_some]
  | some g =>
    obtain ⟨t, q⟩ := g
    simp only [hg] at hv
    have ht : t ∈ p.reads := by simp [POp.reads, hg]
    split at hv
    · rename_i hz
      simp only [Option.map_eq_some_iff] at hv
      obtain ⟨⟨v, h'⟩, hv, rfl⟩ := hv
      refine ⟨v, h', rfl, fun e' ha => ?_⟩
      simp only [← ha t ht, hz]
      rw [← PO.agree call p.op h fun t ht => ha t (by simp [POp.reads, ht])]
      simp only [hv, Option.map_some]
    · rename_i hz
      cases hv
      refine ⟨.tup [], h, rfl, fun e' ha => ?_⟩
      simp only [← ha t ht, hz]
    · cases hv
theorem POp.pure_at {call : Call} {p : POp} (hk : p.op.kind = 0) {e : Nat → AV} {h : Heap} {s : St} (hv : p.ev call ⟨e, h⟩ = some s) :
    ∃ v, s = ⟨setD e p.dst v, h⟩ ∧ ∀ e' h', (∀ t ∈ p.reads, e t = e' t) → p.ev call ⟨e', h'⟩ = some ⟨setD e' p.dst v, h'⟩ := by
  unfold POp.ev at hv ⊢
  have op : ∀ {v : AV} {h1 : Heap}, p.op.ev call e h = some (v, h1) → h1 = h ∧ ∀ e' h', (∀ t ∈ p.reads, e t = e' t) → p.op.ev call e' h' = some (v, h') := by
    intro v h1 hv
    rw [PO.pure call p.op hk, Option.map_eq_some_iff] at hv
    obtain ⟨q, hq, hv⟩ := hv
    cases hv
    refine ⟨rfl, fun e' h' ha => ?_⟩
    rw [PO.pure call p.op hk, ← PO.agree call p.op Heap.none fun t ht => ha t (by simp [POp.reads, ht]), hq]
    rfl
  cases hg : p.guard with
  | none =>
    simp only [hg, Option.map_eq_some_iff] at hv
    obtain ⟨⟨v, h1⟩, hv, rfl⟩ := hv
    obtain ⟨rfl, h2⟩ := op hv
    exact ⟨v, rfl, fun e' h' ha => by simp only [h2 e' h' ha, Option.map_some]⟩
  | some g =>
    obtain ⟨t, q⟩ := g
    simp only [hg] at hv
    have ht : t ∈ p.reads := by simp [POp.reads, hg]
    split at hv
    · rename_i hz
      simp only [Option.map_eq_some_iff] at hv
      obtain ⟨⟨v, h1⟩, hv, rfl⟩ := hv
      obtain ⟨rfl, h2⟩ := op hv
      exact ⟨v, rfl, fun e' h' ha => by simp only [← ha t ht, hz, h2 e' h' ha, Option.map_some]⟩
    · rename_i hz
      cases hv
      exact ⟨.tup [], rfl, fun e' h' ha => by simp only [← ha t ht, hz]⟩
    · cases hv
theorem swap_pure1 {call : Call} {x y : POp} {st s1 s2 : St} (hx : x.op.kind = 0) (hap : envApart x y = true) (h1 : x.ev call st = some s1) (h2 : y.ev call s1 = some s2) : ∃ s3, y.ev call st = some s3 ∧ x.ev call s3 = some s2 := by
  obtain ⟨a1, a2, a3⟩ := envApart_spec hap
  obtain ⟨u, rfl, hu⟩ := POp.pure_at hx h1
  obtain ⟨v, h', rfl, hv⟩ := POp.ev_at h2
  refine ⟨_, hv st.env fun t ht => setD_at (a1 t ht), ?_⟩
  rw [hu _ h' fun t ht => (setD_at (a2 t ht)).symm, setD_comm u v a3]
theorem swap_pure2 {call : Call} {x y : POp} {st s1 s2 : St} (hy : y.op.kind = 0) (hap : envApart x y = true) (h1 : x.ev call st = some s1) (h2 : y.ev call s1 = some s2) : ∃ s3, y.ev call st = some s3 ∧ x.ev call s3 = some s2 := by
  obtain ⟨a1, a2, a3⟩ := envApart_spec hap
  obtain ⟨u, h', rfl, hu⟩ := POp.ev_at h1
  obtain ⟨v, rfl, hv⟩ := POp.pure_at hy h2
  refine ⟨_, hv st.env st.h fun t ht => setD_at (a1 t ht), ?_⟩
  rw [hu _ fun t ht => (setD_at (a2 t ht)).symm, setD_comm u v a3]
theorem st_ld {h h' : Heap} {sz : Nat} {s l v : AV} (hs : stV h sz s v = some h') (ha : apartV s l = true) (ag : Bool) (z : Nat) : ldV h' ag z l = ldV h ag z l := by
  cases s <;> simp only [stV] at hs <;> try (cases hs; done)
  rename_i r e o
  cases l <;> simp only [apartV] at ha <;> try (cases ha; done)
  · rfl
  · rename_i q e2 o2
    have hne : q ≠ r := fun e => by subst e; simp at ha
    have key : (h' q).bind (Row.at e2) = (h q).bind (Row.at e2) := by
      split at hs
      · split at hs
        · cases hs
          simp only [Heap.put, if_neg hne, freeze_get]
          split
          · cases h q <;> simp [freeze_at]
          · rfl
        · cases hs
      · split at hs
        · cases hs
          simp only [Heap.put, if_neg hne]
        · cases hs
      · cases hs
    simp only [ldV, ptrAt, key]
def ldP (p : POp) : Option Nat := match p.op, p.guard with
  | .ld _ _ (.t l), none => some l
  | _, _ => none
def stP (p : POp) : Option Nat := match p.op, p.guard with
  | .st _ (.t s) _, none => some s
  | _, _ => none
theorem ldP_spec {p : POp} {l : Nat} (h : ldP p = some l) : ∃ ag sz, p.op = .ld ag sz (.t l) ∧ p.guard = none := by
  unfold ldP at h
  split at h
  · rename_i ag sz l' h1 h2; cases h; exact ⟨_, _, h1, h2⟩
  · cases h
theorem stP_spec {p : POp} {s : Nat} (h : stP p = some s) : ∃ sz v, p.op = .st sz (.t s) v ∧ p.guard = none := by
  unfold stP at h
  split at h
  · rename_i ag sz l' h1 h2; cases h; exact ⟨_, _, h1, h2⟩
  · cases h
theorem swap_ldst {call : Call} {x y : POp} {st s1 s2 : St} {l s : Nat} (hx : ldP x = some l) (hy : stP y = some s) (hap : envApart x y = true) (ha : apartV (st.env s) (st.env l) = true) (h1 : x.ev call st = some s1) (h2 : y.ev call s1 = some s2) : ∃ s3, y.ev call st = some s3 ∧ x.ev call s3 = some s2 := by
  obtain ⟨a1, a2, a3⟩ := envApart_spec hap
  obtain ⟨ag, sz, hxo, hxg⟩ := ldP_spec hx
  obtain ⟨sz', v, hyo, hyg⟩ := stP_spec hy
  have h1' := h1
  simp only [POp.ev, hxg, hxo, PO.ev, Option.map_map, Option.map_eq_some_iff] at h1'
  obtain ⟨u, hu, rfl⟩ := h1'
  obtain ⟨v2, h', rfl, hv⟩ := POp.ev_at h2
  have h3 := hv st.env fun t ht => setD_at (a1 t ht)
  refine ⟨_, h3, ?_⟩
  have h4 := h3
  simp only [POp.ev, hyg, hyo, PO.ev, Option.map_map, Option.map_eq_some_iff] at h4
  obtain ⟨g, hg, h4⟩ := h4
  have hg' : g = h' := congrArg St.h h4
  subst hg'
  have e1 : setD st.env y.dst v2 l = st.env l := setD_at (a2 l (by simp [POp.reads, hxo, PO.reads, PO.ats, At.tmps]))
  simp only [POp.ev, hxg, hxo, PO.ev, At.ev] at hu hg ⊢
  rw [e1, st_ld hg ha, hu]
  simp only [Option.map_some]
  rw [setD_comm u v2 a3]
theorem swap_stld {call : Call} {x y : POp} {st s1 s2 : St} {l s : Nat} (hx : stP x = some s) (hy : ldP y = some l) (hap : envApart x y = true) (ha : apartV (st.env s) (st.env l) = true) (h1 : x.ev call st = some s1) (h2 : y.ev call s1 = some s2) : ∃ s3, y.ev call st = some s3 ∧ x.ev call s3 = some s2 := by
  obtain ⟨a1, a2, a3⟩ := envApart_spec hap
  obtain ⟨ag, sz, hyo, hyg⟩ := ldP_spec hy
  obtain ⟨sz', v, hxo, hxg⟩ := stP_spec hx
  obtain ⟨u, h', rfl, hu⟩ := POp.ev_at h1
  have h3 := h1
  simp only [POp.ev, hxg, hxo, PO.ev, Option.map_map, Option.map_eq_some_iff] at h3
  obtain ⟨g, hg, h3⟩ := h3
  have hg' : g = h' := congrArg St.h h3
  subst hg'
  simp only [POp.ev, hyg, hyo, PO.ev, Option.map_map, Option.map_eq_some_iff] at h2
  obtain ⟨v2, hv2, rfl⟩ := h2
  have e1 : setD st.env x.dst u l = st.env l := setD_at (a1 l (by simp [POp.reads, hyo, PO.reads, PO.ats, At.tmps]))
  simp only [At.ev] at hv2 hg
  rw [e1, st_ld hg ha] at hv2
  refine ⟨⟨setD st.env y.dst v2, st.h⟩, ?_, ?_⟩
  · simp only [POp.ev, hyg, hyo, PO.ev, At.ev, hv2, Option.map_some]
  · rw [hu _ fun t ht => (setD_at (a2 t ht)).symm]
    exact congrArg some (congrArg (fun e => St.mk e g) (setD_comm u v2 a3).symm)
def comm (chk : List (Nat × Nat)) (x y : POp) : Bool := envApart x y && (x.op.kind == 0 || y.op.kind == 0 ||
  (decide (x.op.kind ≤ 1) && decide (y.op.kind ≤ 1) && x.op.okc && y.op.okc && (match x.op.newId with | some i => decide (y.op.newId ≠ some i) | none => true)) ||
  (match ldP x, stP y with | some l, some s => chk.contains (s, l) | _, _ => false) || (match stP x, ldP y with | some s, some l => chk.contains (s, l) | _, _ => false))
def ptrT (p : POp) : Option Nat := match ldP p with
  | some l => some l
  | none => stP p
theorem swap {f : Fr} {nt : Nat} {call : Call} {chk : List (Nat × Nat)} {x y : POp} {st s1 s2 : St} (hr : Real f nt st) (hc : comm chk x y = true)
    (ha : ∀ s l, (s, l) ∈ chk → (ptrT x = some s ∧ ptrT y = some l ∨ ptrT x = some l ∧ ptrT y = some s) → apartV (st.env s) (st.env l) = true)
    (h1 : x.ev call st = some s1) (h2 : y.ev call s1 = some s2) : ∃ s3, y.ev call st = some s3 ∧ x.ev call s3 = some s2 := by
  simp only [comm, Bool.and_eq_true, Bool.or_eq_true, beq_iff_eq, decide_eq_true_eq] at hc
  obtain ⟨hap, hc⟩ := hc
  have pl : ∀ {p : POp} {l : Nat}, ldP p = some l → ptrT p = some l := fun h => by unfold ptrT; rw [h]
  have ps : ∀ {p : POp} {s : Nat}, stP p = some s → ptrT p = some s := fun {p s} h => by
    obtain ⟨sz, v, h1, h2⟩ := stP_spec h
    have : ldP p = none := by unfold ldP; rw [h1]
    unfold ptrT; rw [this]; exact h
  rcases hc with ((((hc | hc) | hc) | hc) | hc)
  · exact swap_pure1 hc hap h1 h2
  · exact swap_pure2 hc hap h1 h2
  · obtain ⟨⟨⟨⟨k1, k2⟩, k3⟩, k4⟩, k5⟩ := hc
    refine swap_grow k1 k2 hap (hr.closed k3) (hr.closed k4) (fun i hi => ?_) h1 h2
    rw [hi] at k5
    simpa using k5
  · split at hc
    · rename_i l s hl hs
      simp only [List.contains_iff_mem] at hc
      exact swap_ldst hl hs hap (ha s l hc (.inr ⟨pl hl, ps hs⟩)) h1 h2
    · cases hc
  · split at hc
    · rename_i s l hs hl
      simp only [List.contains_iff_mem] at hc
      exact swap_stld hs hl hap (ha s l hc (.inl ⟨ps hs, pl hl⟩)) h1 h2
    · cases hc
theorem ptrT_reads {p : POp} {t : Nat} (h : ptrT p = some t) : t ∈ p.reads := by
  unfold ptrT at h
  split at h
  · rename_i l hl
    cases h
    obtain ⟨ag, sz, h1, h2⟩ := ldP_spec hl
    simp [POp.reads, h1, PO.reads, PO.ats, At.tmps]
  · obtain ⟨sz, v, h1, h2⟩ := stP_spec h
    simp [POp.reads, h1, PO.reads, PO.ats, At.tmps]
def wfL : List POp → Bool
  | [] => true
  | p :: l => (match ptrT p with | some t => (p :: l).all fun q => decide (q.dst ≠ some t) | none => true) && wfL l
theorem wfL_sub {l m : List POp} (h : l.Sublist m) : wfL m = true → wfL l = true := by
  induction h with
  | slnil => exact fun h => h
  | cons p h ih =>
    intro hm
    simp only [wfL, Bool.and_eq_true] at hm
    exact ih hm.2
  | cons_cons p h ih =>
    intro hm
    simp only [wfL, Bool.and_eq_true] at hm ⊢
    refine ⟨?_, ih hm.2⟩
    split
    · rename_i t ht
      rw [ht] at hm
      simp only [List.all_eq_true, List.mem_cons] at hm ⊢
      intro q hq
      exact hm.1 q (hq.imp id (h.subset ·))
    · rfl
theorem evs_env {call : Call} {t : Nat} : ∀ {l : List POp} {st stf : St}, evs call l st = some stf → (∀ p ∈ l, p.dst ≠ some t) → stf.env t = st.env t := by
  intro l
  induction l with
  | nil => intro st stf h _; cases h; rfl
  | cons p l ih =>
    intro st stf h hd
    simp only [evs, Option.bind_eq_some_iff] at h
    obtain ⟨s1, h1, h2⟩ := h
    obtain ⟨v, h', rfl, _⟩ := POp.ev_at h1
    rw [ih h2 fun p hp => hd p (List.mem_cons_of_mem _ hp)]
    exact setD_at (hd p List.mem_cons_self)
theorem apartL_mem {e : Nat → AV} : ∀ {chk : List (Nat × Nat)}, apartL e chk = true → ∀ s l, (s, l) ∈ chk → apartV (e s) (e l) = true
  | [], _, s, l, h => by cases h
  | (s', l') :: r, h, s, l, hm => by
    simp only [apartL, Bool.and_eq_true] at h
    rcases List.mem_cons.1 hm with e | hm
    · cases e; exact h.1
    · exact apartL_mem h.2 s l hm
theorem move_front {f : Fr} {nt : Nat} {call : Call} {chk : List (Nat × Nat)} {y : POp} {post : List POp} : ∀ {pre : List POp} {st stf : St}, (∀ p ∈ pre, ∀ st st', Real f nt st → p.ev call st = some st' → Real f nt st') →
    Real f nt st → wfL (pre ++ y :: post) = true → (∀ x ∈ pre, comm chk x y = true) → apartL stf.env chk = true → evs call (pre ++ y :: post) st = some stf → evs call (y :: (pre ++ post)) st = some stf := by
  intro pre
  induction pre with
  | nil => intro st stf _ _ _ _ _ h; exact h
  | cons x pre ih =>
    intro st stf hstep hr hwf hcm hap hev
    have hev0 := hev
    simp only [List.cons_append, evs, Option.bind_eq_some_iff] at hev
    obtain ⟨s1, h1, h2⟩ := hev
    have hr1 := hstep x List.mem_cons_self _ _ hr h1
    have h3 := ih (fun p hp => hstep p (List.mem_cons_of_mem _ hp)) hr1 (wfL_sub (List.sublist_cons_self _ _) hwf) (fun z hz => hcm z (List.mem_cons_of_mem _ hz)) hap h2
    simp only [evs, Option.bind_eq_some_iff] at h3
    obtain ⟨s2, h4, h5⟩ := h3
    have hxy := hcm x List.mem_cons_self
    -- pointers are as they are at the end
    have px : ∀ t, ptrT x = some t → stf.env t = st.env t := by
      intro t ht
      refine evs_env hev0 fun p hp => ?_
      simp only [List.cons_append, wfL, ht, Bool.and_eq_true, List.all_eq_true, decide_eq_true_eq] at hwf
      exact hwf.1 p hp
    have py : ∀ t, ptrT y = some t → stf.env t = st.env t := by
      intro t ht
      refine evs_env hev0 fun p hp => ?_
      rcases List.mem_append.1 hp with hp | hp
      · have := hcm p hp
        simp only [comm, Bool.and_eq_true] at this
        exact (envApart_spec this.1).1 t (ptrT_reads ht)
      · have := wfL_sub (List.sublist_append_right (x :: pre) (y :: post)) hwf
        simp only [wfL, ht, Bool.and_eq_true, List.all_eq_true, decide_eq_true_eq] at this
        exact this.1 p hp
    obtain ⟨s3, h6, h7⟩ := swap hr hxy (fun s l hm hh => by
      have := apartL_mem hap s l hm
      rcases hh with ⟨e1, e2⟩ | ⟨e1, e2⟩
      · rwa [px _ e1, py _ e2] at this
      · rwa [py _ e2, px _ e1] at this) h1 h4
    simp only [evs, List.cons_append, h6, h7, Option.bind_some]
    exact h5
end Go.Pe
set_option linter.unusedVariables false
set_option linter.unusedSimpArgs false
namespace Go.Pe
open Go
def preds (o : Oper) : List Nat := (o.after.toList.filter (Region.binds .any)).map (·.on)
def maskOf (M : List Nat) (ps : List Nat) : Nat := ps.foldl (fun m p => m ||| (1 <<< p) ||| M.getD p 0) 0
def ancs (os : List Oper) : List Nat := os.foldl (fun M o => M ++ [maskOf M (preds o)]) []
theorem maskOf_bit {M : List Nat} {j : Nat} : ∀ {ps : List Nat} {m : Nat}, (ps.foldl (fun m p => m ||| (1 <<< p) ||| M.getD p 0) m).testBit j = true → m.testBit j = true ∨ ∃ p ∈ ps, p = j ∨ (M.getD p 0).testBit j = true := by
  intro ps
  induction ps with
  | nil => intro m h; exact .inl h
  | cons p ps ih =>
    intro m h
    rcases ih h with h | ⟨q, hq, h⟩
    · rw [Nat.testBit_or, Nat.testBit_or, Bool.or_eq_true, Bool.or_eq_true] at h
      rcases h with ((h | h) | h)
      · exact .inl h
      · rw [Nat.one_shiftLeft, Nat.testBit_two_pow] at h
        exact .inr ⟨p, List.mem_cons_self, .inl (of_decide_eq_true h)⟩
      · exact .inr ⟨p, List.mem_cons_self, .inr h⟩
    · exact .inr ⟨q, List.mem_cons_of_mem _ hq, h⟩
def drawOk (chk : List (Nat × Nat)) (os : List Oper) (ps : List POp) : Bool :=
  wfL ps && (List.range os.length).all fun i => match os[i]?, ps[i]? with
    | some o, some p => (preds o).all (fun q => decide (q < i)) && decide ((ancs os).getD i 0 = maskOf (ancs os) (preds o)) && (List.range i).all fun j => ((ancs os).getD i 0).testBit j || (match ps[j]? with | some x => comm chk x p | none => false)
    | _, _ => false
theorem drawOk_spec {chk : List (Nat × Nat)} {os : List Oper} {ps : List POp} (h : drawOk chk os ps = true) : wfL ps = true ∧ ∀ (i : Nat) o p, os[i]? = some o → ps[i]? = some p → (∀ q ∈ preds o, q < i) ∧ (ancs os).getD i 0 = maskOf (ancs os) (preds o) ∧ ∀ (j : Nat) x, j < i → ps[j]? = some x → ((ancs os).getD i 0).testBit j = true ∨ comm chk x p = true := by
  simp only [drawOk, Bool.and_eq_true, List.all_eq_true, List.mem_range] at h
  refine ⟨h.1, fun i o p ho hp => ?_⟩
  have := h.2 i (List.getElem?_eq_some_iff.1 ho).1
  rw [ho, hp] at this
  simp only [Bool.and_eq_true, List.all_eq_true, decide_eq_true_eq, List.mem_range, Bool.or_eq_true] at this
  refine ⟨this.1.1, this.1.2, fun j x hj hx => ?_⟩
  have := this.2 j hj
  rw [hx] at this
  exact this
section
variable {P : Program} {F : Fns} {f : Fr} {nt : Nat}
def DownC (ops : Array Oper) (listed : Array Bool) : Prop := ∀ (i : Nat) o, ops[i]? = some o → listed.getD i true = true → ∀ q ∈ preds o, listed.getD q false = true
theorem anc_listed {ops : Array Oper} {listed : Array Bool} (hd : DownC ops listed) (hM : ∀ (i : Nat) o, ops[i]? = some o → (∀ q ∈ preds o, q < i) ∧ (ancs ops.toList).getD i 0 = maskOf (ancs ops.toList) (preds o)) : ∀ (n i : Nat) o, i ≤ n → ops[i]? = some o → (∀ q ∈ preds o, listed.getD q false = true) → ∀ j, ((ancs ops.toList).getD i 0).testBit j = true → listed.getD j false = true := by
  intro n
  induction n with
  | zero =>
    intro i o hi ho hp j hj
    obtain ⟨h1, h2⟩ := hM i o ho
    rw [h2] at hj
    rcases maskOf_bit hj with h | ⟨p, hp', h⟩
    · simp at h
    · have := h1 p hp'; omega
  | succ n ih =>
    intro i o hi ho hp j hj
    obtain ⟨h1, h2⟩ := hM i o ho
    rw [h2] at hj
    rcases maskOf_bit hj with h | ⟨p, hp', h⟩
    · simp at h
    · rcases h with rfl | h
      · exact hp _ hp'
      · have hlt := h1 p hp'
        have hps : p < ops.size := Nat.lt_trans hlt (Array.getElem?_eq_some_iff.1 ho).1
        have hpo : ops[p]? = some ops[p] := Array.getElem?_eq_getElem hps
        refine ih p _ (by omega) hpo (fun q hq => hd p _ hpo ?_ q hq) j h
        have := hp p hp'
        rcases Nat.lt_or_ge p listed.size with h' | h'
        · simp [h'] at this ⊢; exact this
        · simp [h'] at this
def pick (ps : List POp) (l : List Nat) : List POp := l.map fun i => ps.getD i ⟨none, .mv (.c .junk), none⟩
theorem pick_sublist {ps : List POp} : ∀ {l : List Nat} (k : Nat), l.Sublist (List.range' k (ps.length - k)) → k ≤ ps.length → (pick ps l).Sublist (ps.drop k) := by
  intro l k h hk
  have : ps.drop k = pick ps (List.range' k (ps.length - k)) := by
    apply List.ext_getElem?
    intro i
    simp only [pick, List.getElem?_map, List.getElem?_drop, List.getElem?_range']
    by_cases hi : i < ps.length - k
    · simp [hi, List.getD_eq_getElem?_getD, List.getElem?_eq_getElem (show k + i < ps.length by omega)]
    · simp [hi, List.getElem?_eq_none (show ps.length ≤ k + i by omega)]
  rw [this]
  exact h.map _
theorem region_any {ops : Array Oper} {ps : List POp} {chk : List (Nat × Nat)} (hm : mposL P F f.tabs nt ops ops.toList ps = true) (hdr : drawOk chk ops.toList ps = true) {call : Call} (hc : CallsOk P F f.tabs call) (Q : Exit → Act → World → Prop) {stf : St} (hQ : ∀ a w, Sim f nt w stf a → Q .normal a w) (hchk : apartL stf.env chk = true) :
    ∀ (fuel : Nat) (rest : List Nat) (listed : Array Bool) (st : St) (a : Act) (w : World), rest.length = fuel → rest.Sublist (List.range ps.length) → listed.size = ops.size → (∀ i, i < ps.length → (i ∈ rest ↔ listed.getD i true = false)) → DownC ops listed → Sim f nt w st a → evs call (pick ps rest) st = some stf →
      wpAny P .any ops Q fuel listed a w := by
  obtain ⟨hl, hg⟩ := mposL_get hm
  obtain ⟨hwf, hok⟩ := drawOk_spec hdr
  have hsz : ops.size = ps.length := by rw [← hl]; simp
  have hgo : ∀ i, i < ps.length → ∃ o p, ops[i]? = some o ∧ ops.toList[i]? = some o ∧ ps[i]? = some p ∧ ps.getD i ⟨none, .mv (.c .junk), none⟩ = p ∧ mpo P F f.tabs nt ops o p = true := by
    intro i hi
    have h1 : ps[i]? = some ps[i] := List.getElem?_eq_getElem hi
    have h2 : i < ops.toList.length := by rw [hl]; exact hi
    have h3 : ops.toList[i]? = some ops.toList[i] := List.getElem?_eq_getElem h2
    exact ⟨_, _, by rw [← Array.getElem?_toList]; exact h3, h3, h1, by simp [hi], hg i _ _ h3 h1⟩
  have hM : ∀ (i : Nat) o, ops[i]? = some o → (∀ q ∈ preds o, q < i) ∧ (ancs ops.toList).getD i 0 = maskOf (ancs ops.toList) (preds o) := by
    intro i o ho
    have hi : i < ps.length := by rw [← hsz]; exact (Array.getElem?_eq_some_iff.1 ho).1
    obtain ⟨o', p, h1, h2, h3, h4, h5⟩ := hgo i hi
    rw [ho] at h1
    cases h1
    obtain ⟨a1, a2, a3⟩ := hok i o p h2 h3
    exact ⟨a1, a2⟩
  intro fuel
  induction fuel with
  | zero =>
    intro rest listed st a w hlen hsub hls hmem hdn hs hev
    have hnil : rest = [] := List.eq_nil_of_length_eq_zero hlen
    subst hnil
    cases hev
    refine ⟨?_, hQ a w hs⟩
    rw [List.eq_nil_iff_forall_not_mem]
    intro i hi
    obtain ⟨h0, o, ho, _⟩ := mem_ready.1 hi
    have hi' : i < ps.length := by rw [← hsz]; exact (Array.getElem?_eq_some_iff.1 ho).1
    have := (hmem i hi').2 h0
    cases this
  | succ fuel ih =>
    intro rest listed st a w hlen hsub hls hmem hdn hs hev
    refine ⟨fun hn => ?_, fun i hi => ?_⟩
    · -- the first that is left may come up
      exfalso
      cases rest with
      | nil => simp at hlen
      | cons i rest =>
        have hi' : i < ps.length := List.mem_range.1 (hsub.subset List.mem_cons_self)
        have h0 := (hmem i hi').1 List.mem_cons_self
        obtain ⟨o, p, h1, h2, h3, h4, h5⟩ := hgo i hi'
        have hord : ∀ q, q < i → q ∉ rest := by
          intro q hq hqr
          have hs2 : (i :: rest).Pairwise (· < ·) := List.Pairwise.sublist hsub List.pairwise_lt_range
          have := (List.pairwise_cons.1 hs2).1 q hqr
          omega
        have : i ∈ Region.ready .any ops listed := by
          refine mem_ready.2 ⟨h0, o, h1, fun e he hb => ?_⟩
          have hq : e.on ∈ preds o := List.mem_map.2 ⟨e, List.mem_filter.2 ⟨by simpa using he, hb⟩, rfl⟩
          have hlt := (hM i o h1).1 _ hq
          have hne : ¬ e.on ∈ i :: rest := by
            intro h
            rcases List.mem_cons.1 h with h | h
            · omega
            · exact hord _ hlt h
          have := fun h => hne ((hmem e.on (by omega)).2 h)
          have hls' : e.on < listed.size := by omega
          simp [hls'] at this ⊢
          exact this
        rw [hn] at this
        cases this
    · obtain ⟨h0, o, ho, hall⟩ := mem_ready.1 hi
      have hi' : i < ps.length := by rw [← hsz]; exact (Array.getElem?_eq_some_iff.1 ho).1
      obtain ⟨o', p, h1, h2, h3, h4, h5⟩ := hgo i hi'
      rw [ho] at h1
      cases h1
      have hpred : ∀ q ∈ preds o, listed.getD q false = true := by
        intro q hq
        obtain ⟨e, he, rfl⟩ := List.mem_map.1 hq
        obtain ⟨h6, h7⟩ := List.mem_filter.1 he
        exact hall e (by simpa using h6) h7
      obtain ⟨pre, post, rfl⟩ := List.append_of_mem ((hmem i hi').2 h0)
      have hpair : (pre ++ i :: post).Pairwise (· < ·) := List.Pairwise.sublist hsub List.pairwise_lt_range
      have hev2 : evs call (pick ps pre ++ p :: pick ps post) st = some stf := by
        have : pick ps (pre ++ i :: post) = pick ps pre ++ p :: pick ps post := by simp only [pick, List.map_append, List.map_cons, h4]
        rw [← this]; exact hev
      have hsub2 : (pick ps pre ++ p :: pick ps post).Sublist ps := by
        have : pick ps (pre ++ i :: post) = pick ps pre ++ p :: pick ps post := by simp only [pick, List.map_append, List.map_cons, h4]
        rw [← this]
        have := pick_sublist (ps := ps) (l := pre ++ i :: post) 0 (by rw [Nat.sub_zero, ← List.range_eq_range']; exact hsub) (Nat.zero_le _)
        simpa using this
      have hfront := move_front (f := f) (nt := nt) (call := call) (chk := chk) (y := p) (post := pick ps post) (pre := pick ps pre) (st := st) (stf := stf)
        (fun q hq s s' hr hv => by
          obtain ⟨j, hj, rfl⟩ := List.mem_map.1 hq
          have hj' : j < ps.length := List.mem_range.1 (hsub.subset (List.mem_append.2 (.inl hj)))
          obtain ⟨o2, p2, _, _, _, b4, b5⟩ := hgo j hj'
          rw [b4] at hv
          exact hr.step b5 hc hv)
        ⟨w, a, hs⟩ (wfL_sub hsub2 hwf)
        (fun x hx => by
          obtain ⟨j, hj, rfl⟩ := List.mem_map.1 hx
          have hj' : j < ps.length := List.mem_range.1 (hsub.subset (List.mem_append.2 (.inl hj)))
          have hji : j < i := (List.pairwise_append.1 hpair).2.2 j hj i List.mem_cons_self
          obtain ⟨o2, p2, _, _, b3, b4, b5⟩ := hgo j hj'
          rw [b4]
          rcases (hok i o p h2 h3).2.2 j p2 hji b3 with h | h
          · exfalso
            have h6 := anc_listed hdn hM i i o (Nat.le_refl _) ho hpred j h
            have h7 := (hmem j hj').1 (List.mem_append.2 (.inl hj))
            have hls' : j < listed.size := by omega
            simp [hls'] at h6 h7
            rw [h6] at h7
            cases h7
          · exact h)
        hchk hev2
      simp only [evs, Option.bind_eq_some_iff] at hfront
      obtain ⟨s1, h6, h7⟩ := hfront
      have hnext : ∀ a' w', Sim f nt w' s1 a' → wpAny P .any ops Q fuel (listed.setIfInBounds i true) a' w' := by
        intro a' w' hs'
        have hni : i ∉ pre ∧ i ∉ post := by
          obtain ⟨q1, q2, q3⟩ := List.pairwise_append.1 hpair
          refine ⟨fun h => ?_, fun h => ?_⟩
          · exact absurd (q3 i h i List.mem_cons_self) (Nat.lt_irrefl _)
          · exact absurd ((List.pairwise_cons.1 q2).1 i h) (Nat.lt_irrefl _)
        refine ih (pre ++ post) _ s1 a' w' ?_ (List.Sublist.trans ?_ hsub) (by simp [hls]) (fun j hj => ?_) (fun j oj hoj hlj q hq => ?_) hs' ?_
        · simp at hlen ⊢; omega
        · exact List.Sublist.append_left (List.sublist_cons_self _ _) _
        · by_cases hji : j = i
          · subst hji
            have : j < listed.size := by omega
            simp [this, hni]
          · rw [getD_set_ne true (fun h => hji h.symm), ← hmem j hj]
            simp [hji]
        · by_cases hji : j = i
          · subst hji
            rw [hoj] at ho
            cases ho
            exact getD_set_true (hpred q hq)
          · rw [getD_set_ne true (fun h => hji h.symm)] at hlj
            exact getD_set_true (hdn j oj hoj hlj q hq)
        · have : pick ps (pre ++ post) = pick ps pre ++ pick ps post := by simp only [pick, List.map_append]
          rw [this]; exact h7
      have := op_sim hs h5 hc h6 (wpAny P .any ops Q fuel (listed.setIfInBounds i true)) Q hnext
      unfold wpOp
      rw [ho]
      simp only
      split at this
      · rename_i hw; rw [if_pos hw]; exact .inl this
      · rename_i hw; rw [if_neg hw]; exact this
theorem Sim.old {w w' : World} {st : St} {a : Act} (h : Sim f nt w st a) (ho : Old w w') : Sim f nt w' st a := by
  obtain ⟨h1, h2, T, ρ, k, he⟩ := h
  exact ⟨h1, h2, T, ρ, k.old ho, he.goes (Goes.old ho)⟩
theorem region_draw {ops : Array Oper} {ps : List POp} {chk : List (Nat × Nat)} {id : Nat} (hmo : P.follows .mixedOrders = true) (hm : mposL P F f.tabs nt ops ops.toList ps = true) (hdr : drawOk chk ops.toList ps = true) {call : Call} (hc : CallsOk P F f.tabs call) (Q : Exit → Act → World → Prop) {st stf : St} {w : World} {a : Act}
    (hQ : ∀ a w, Sim f nt w stf a → Q .normal a w) (hchk : apartL stf.env chk = true) (hs : Sim f nt w st a) (hv : evs call ps st = some stf) : (Code.region id ops true).wp P Q a w := by
  have hl := (mposL_get hm).1
  have hsz : ops.size = ps.length := by rw [← hl]; simp
  refine wp_region_any hmo ?_
  refine region_any hm hdr hc Q hQ hchk ops.size (List.range ps.length) _ st a _ (by simp [hsz]) (List.Sublist.refl _) (by simp) (fun i hi => ?_) (fun i o ho hl q hq => ?_) (hs.old (Old.drew w)) ?_
  · have : i < ops.size := by omega
    simp [hi, this]
  · have : i < ops.size := (Array.getElem?_eq_some_iff.1 ho).1
    simp [this] at hl
  · have : pick ps (List.range ps.length) = ps := by
      apply List.ext_getElem?
      intro i
      simp only [pick, List.getElem?_map]
      by_cases hi : i < ps.length
      · simp [hi]
      · simp [hi, List.getElem?_eq_none (show ps.length ≤ i by omega)]
    rw [this]; exact hv
end
end Go.Pe
set_option linter.unusedVariables false
set_option linter.unusedSimpArgs false
namespace Go.Pe
open Go
def opIs (o : Oper) (d : Nat) (g : Option (Nat × Bool)) : Bool := decide (o.dst = some d) && decide (o.guard = g)
def oMv (o : Oper) (d s : Nat) (g : Option (Nat × Bool)) : Bool := opIs o d g && (match o.op with | .move (.tmp k) | .assign (.tmp k) => k == s | _ => false)
def oRange (P : Program) (o : Oper) (d s : Nat) : Bool := opIs o d none && (match o.op with | .range t (.tmp k) => k == s && (match P.underlying t with | some .string => true | _ => false) | _ => false)
def oNext (o : Oper) (d s : Nat) : Bool := opIs o d none && (match o.op with | .next (.tmp k) true => k == s | _ => false)
def oExt (o : Oper) (d s n : Nat) : Bool := opIs o d none && (match o.op with | .extract (.tmp k) m => k == s && m == n | _ => false)
def oBin (o : Oper) (b : BinOp) (d s : Nat) (n : Int) (g : Option (Nat × Bool)) : Bool := opIs o d g && (match o.op with | .binOp b' _ (.tmp k) (.const (.int .i32 m)) _ => decide (b' = b) && k == s && decide (m = n) | _ => false)
def oPick (o : Oper) (d c s : Nat) : Bool := opIs o d none && (match o.op with | .pick (.tmp k) (.const (.bool true)) (.tmp m) => k == c && m == s | _ => false)
def digO (P : Program) : List Oper → List Oper → List Oper → List Oper → Bool
  | [p1, p2], [q1, q2], [r1, r2], [s1, s2, s3, s4, s5, s6] => oMv p1 13 0 none && oRange P p2 14 13 && oNext q1 15 14 && oExt q2 16 15 0 && oExt r1 17 15 2 && oMv r2 5 17 none
    && oMv s1 18 5 none && oBin s2 .lss 19 18 48 none && oMv s3 20 19 none && oMv s4 21 5 (some (2, false)) && oBin s5 .gtr 22 21 57 (some (2, false)) && oPick s6 23 20 22
  | _, _, _, _ => false
def digM (P : Program) : Code → Option Code
  | .seq (.region _ o3 false) (.block b0 (.loop (.seq (.region _ o4 false) (.seq (.cond (.tmp 16) .skip (.exit b1)) (.block _ (.seq (.region _ o5 false) (.seq (.region _ o6 false) (.cond (.tmp 23) y .skip)))))))) =>
    if b0 == b1 && digO P o3.toList o4.toList o5.toList o6.toList then some y else none
  | _ => none
section
variable {P : Program} {a : Act} {w : World}
theorem opIs_spec {o : Oper} {d : Nat} {g : Option (Nat × Bool)} (h : opIs o d g = true) : o.dst = some d ∧ o.guard = g := by simpa [opIs] using h
theorem oMv_run {o : Oper} {d s : Nat} {g : Option (Nat × Bool)} (h : oMv o d s g = true) : (o.dst = some d ∧ o.guard = g) ∧ ∀ (a : Act) (w : World), (execOp a.eval o).run P w = .ok (.value (a.tmps.getD s undef)) w := by
  simp only [oMv, Bool.and_eq_true] at h
  refine ⟨opIs_spec h.1, fun a w => ?_⟩
  have h2 := h.2
  split at h2
  · rename_i k ho; simp only [beq_iff_eq] at h2; subst h2; simp [execOp, ho, Act.eval]
  · rename_i k ho; simp only [beq_iff_eq] at h2; subst h2; simp [execOp, ho, Act.eval]
  · cases h2
theorem oRange_run {o : Oper} {d s : Nat} (h : oRange P o d s = true) : (o.dst = some d ∧ o.guard = none) ∧ ∀ (a : Act) (w : World) (x : ByteArray), a.tmps.getD s undef = .string x → (execOp a.eval o).run P w = .ok (.value (.pointer (some ⟨w.heap.size, 0, none⟩))) (w.iter x 0) := by
  simp only [oRange, Bool.and_eq_true] at h
  refine ⟨opIs_spec h.1, fun a w x hx => ?_⟩
  have h2 := h.2
  split at h2
  · rename_i t k ho
    simp only [Bool.and_eq_true, beq_iff_eq] at h2
    obtain ⟨rfl, h2⟩ := h2
    split at h2
    · rename_i hu
      have hx' : a.eval (.tmp k) = .string x := hx
      simp only [execOp, ho, hx', Sem.run_bind, run_range_string w t x hu, Result.andThen_ok, Sem.run_pure]
    · cases h2
  · cases h2
theorem oNext_run {o : Oper} {d s : Nat} (h : oNext o d s = true) : (o.dst = some d ∧ o.guard = none) ∧ ∀ (a : Act) (w : World) (x : ByteArray) (pos : Nat), a.tmps.getD s undef = .pointer (some ⟨w.heap.size, 0, none⟩) →
    (∀ hp : pos < x.size, (execOp a.eval o).run P (w.iter x pos) = .ok (.value (.tuple #[.bool true, .int .i64 pos, .int .i32 (Utf8.decode x pos).1])) (w.iter x (pos + (Utf8.decode x pos).2))) ∧ (¬ pos < x.size → (execOp a.eval o).run P (w.iter x pos) = .ok (.value (.tuple #[.bool false])) (w.iter x pos)) := by
  simp only [oNext, Bool.and_eq_true] at h
  refine ⟨opIs_spec h.1, fun a w x pos hx => ?_⟩
  have h2 := h.2
  split at h2
  · rename_i k ho
    simp only [beq_iff_eq] at h2
    subst h2
    have hx' : a.eval (.tmp k) = .pointer (some ⟨w.heap.size, 0, none⟩) := hx
    refine ⟨fun hp => ?_, fun hp => ?_⟩
    · simp only [execOp, ho, hx', Sem.run_bind, run_next_any w x pos _ hp, Result.andThen_ok, Sem.run_pure]
    · simp only [execOp, ho, hx', Sem.run_bind, run_next_end w x pos _ hp, Result.andThen_ok, Sem.run_pure]
  · cases h2
theorem oExt_run {o : Oper} {d s n : Nat} (h : oExt o d s n = true) : (o.dst = some d ∧ o.guard = none) ∧ ∀ (a : Act) (w : World) (vs : Array Value) (v : Value), a.tmps.getD s undef = .tuple vs → vs[n]? = some v → (execOp a.eval o).run P w = .ok (.value v) w := by
  simp only [oExt, Bool.and_eq_true] at h
  refine ⟨opIs_spec h.1, fun a w vs v hx hv => ?_⟩
  have h2 := h.2
  split at h2
  · rename_i k m ho
    simp only [Bool.and_eq_true, beq_iff_eq] at h2
    obtain ⟨rfl, rfl⟩ := h2
    have hx' : a.eval (.tmp k) = .tuple vs := hx
    simp [execOp, ho, hx', Instr.extract, hv]
  · cases h2
theorem oBin_run {o : Oper} {b : BinOp} {d s : Nat} {n : Int} {g : Option (Nat × Bool)} (h : oBin o b d s n g = true) : (o.dst = some d ∧ o.guard = g) ∧ ∀ (a : Act) (w : World) (c : Int), a.tmps.getD s undef = .int .i32 c →
    (b = .lss → (execOp a.eval o).run P w = .ok (.value (.bool (decide (c < n)))) w) ∧ (b = .gtr → (execOp a.eval o).run P w = .ok (.value (.bool (decide (n < c)))) w) := by
  simp only [oBin, Bool.and_eq_true] at h
  refine ⟨opIs_spec h.1, fun a w c hx => ?_⟩
  have h2 := h.2
  split at h2
  · rename_i b' t k m t' ho
    simp only [Bool.and_eq_true, beq_iff_eq, decide_eq_true_eq] at h2
    obtain ⟨⟨rfl, rfl⟩, rfl⟩ := h2
    have hx' : a.eval (.tmp k) = .int .i32 c := hx
    have e2 : a.eval (.const (.int .i32 m)) = .int .i32 m := rfl
    refine ⟨fun hb => ?_, fun hb => ?_⟩
    · subst hb
      obtain ⟨v, h3, h4⟩ := run_binI (P := P) (w := w) (T := fun _ => False) (ρ := Rho.none) (t := t) (op := .lss) (q := .i32) (x := c) (y := m) rfl ⟨by decide, by decide⟩
      rw [inv_b h4] at h3
      simp only [execOp, ho, hx', e2, eqG, Sem.run_bind, Sem.run_pure, Result.andThen_ok, h3]
    · subst hb
      obtain ⟨v, h3, h4⟩ := run_binI (P := P) (w := w) (T := fun _ => False) (ρ := Rho.none) (t := t) (op := .gtr) (q := .i32) (x := c) (y := m) rfl ⟨by decide, by decide⟩
      rw [inv_b h4] at h3
      simp only [execOp, ho, hx', e2, eqG, Sem.run_bind, Sem.run_pure, Result.andThen_ok, h3]
  · cases h2
theorem oPick_run {o : Oper} {d c s : Nat} (h : oPick o d c s = true) : (o.dst = some d ∧ o.guard = none) ∧ ∀ (a : Act) (w : World) (z : Bool), a.tmps.getD c undef = .bool z → (execOp a.eval o).run P w = .ok (.value (if z then .bool true else a.tmps.getD s undef)) w := by
  simp only [oPick, Bool.and_eq_true] at h
  refine ⟨opIs_spec h.1, fun a w z hx => ?_⟩
  have h2 := h.2
  split at h2
  · rename_i k m ho
    simp only [Bool.and_eq_true, beq_iff_eq] at h2
    obtain ⟨rfl, rfl⟩ := h2
    have hx' : a.eval (.tmp k) = .bool z := hx
    simp only [execOp, ho, hx', asBool]
    cases z <;> simp [Act.eval]
  · cases h2
variable {ops : Array Oper} {Q : Exit → Act → World → Prop} {i : Nat} {rest : List Nat} {o : Oper} {v : Value} {w' : World}
theorem ops1 (ho : ops[i]? = some o) {d : Nat} (hd : o.dst = some d ∧ o.guard = none) (hr : (execOp a.eval o).run P w = .ok (.value v) w') (h : wpOps P ops Q rest (a.put (some d) v) w') : wpOps P ops Q (i :: rest) a w := by
  simp only [wpOps, ho, Region.wanted, hd.2, if_true]
  refine .inl ?_
  unfold Oper.wp
  rw [hr]
  show wpOps P ops Q rest (a.put o.dst v) w'
  rw [hd.1]
  exact h
theorem yield_at {g d : Nat} {z : Bool} (hg : (ops[g]?).bind (·.dst) = some d) (hz : a.tmps.getD d undef = .bool z) : yielded ops a.tmps g = some z := by
  unfold yielded
  rw [hg]
  show (match (some d).bind (fun x => a.tmps[x]?) with | some (.bool b) => some b | _ => none) = some z
  have : a.tmps[d]? = some (.bool z) := by
    cases hx : a.tmps[d]? with
    | none => simp [hx, undef] at hz
    | some y => simp [hx] at hz; rw [hz]
  simp only [Option.bind_some, this]
theorem ops2 (ho : ops[i]? = some o) {d g : Nat} {q : Bool} (hd : o.dst = some d ∧ o.guard = some (g, q)) (hy : yielded ops a.tmps g = some q) (hr : (execOp a.eval o).run P w = .ok (.value v) w') (h : wpOps P ops Q rest (a.put (some d) v) w') : wpOps P ops Q (i :: rest) a w := by
  simp only [wpOps, ho, Region.wanted, hd.2, hy, beq_self_eq_true, if_true]
  refine .inl ?_
  unfold Oper.wp
  rw [hr]
  show wpOps P ops Q rest (a.put o.dst v) w'
  rw [hd.1]
  exact h
theorem ops3 (ho : ops[i]? = some o) {d g : Nat} {q z : Bool} (hd : o.dst = some d ∧ o.guard = some (g, q)) (hy : yielded ops a.tmps g = some z) (hz : z ≠ q) (h : wpOps P ops Q rest (a.put (some d) undef) w) : wpOps P ops Q (i :: rest) a w := by
  have : (some z == some q) = false := by simpa using hz
  simp only [wpOps, ho, Region.wanted, hd.2, hy, this, Bool.false_eq_true, if_false, hd.1]
  exact h
theorem put_at {d t : Nat} (hd : d < a.tmps.size) : (a.put (some d) v).tmps.getD t undef = if t = d then v else a.tmps.getD t undef := by
  show (a.tmps.setIfInBounds d v).getD t undef = _
  by_cases h : t = d
  · subst h; simp [hd]
  · have h2 : ¬ d = t := fun e => h e.symm
    simp [Array.getElem?_setIfInBounds, h2, h]
def AE (a a' : Act) : Prop := a'.tmps.size = a.tmps.size ∧ a'.defers = a.defers ∧ ∀ t, t ∉ digT → a'.tmps.getD t undef = a.tmps.getD t undef
theorem AE.refl (a : Act) : AE a a := ⟨rfl, rfl, fun _ _ => rfl⟩
theorem AE.put {a' : Act} (h : AE a a') (hs : 24 ≤ a.tmps.size) {d : Nat} (hd : d ∈ digT) (v : Value) : AE a (a'.put (some d) v) := by
  have hlt : d < a'.tmps.size := by
    rw [h.1]
    have : ∀ x ∈ digT, x < 24 := by decide
    exact Nat.lt_of_lt_of_le (this d hd) hs
  refine ⟨by rw [← h.1]; simp [Act.put], h.2.1, fun t ht => ?_⟩
  have hne : ¬ t = d := by
    intro e
    subst e
    exact ht hd
  rw [put_at hlt, if_neg hne, h.2.2 t ht]
theorem digit_of (s : ByteArray) (pos : Nat) (h : pos < s.size) : (48 ≤ (Utf8.decode s pos).1 ∧ (Utf8.decode s pos).1 ≤ 57 → (Utf8.decode s pos).2 = 1 ∧ 48 ≤ (s[pos]'h).toNat ∧ (s[pos]'h).toNat ≤ 57) ∧ (¬ (48 ≤ (Utf8.decode s pos).1 ∧ (Utf8.decode s pos).1 ≤ 57) → ¬ (48 ≤ (s[pos]'h).toNat ∧ (s[pos]'h).toNat ≤ 57)) := by
  rcases Nat.lt_or_ge (s[pos]'h).toNat 128 with h1 | h1
  · rw [decode_ascii s pos h h1]
    exact ⟨fun g => ⟨rfl, g⟩, fun g => g⟩
  · have := decode_high s pos h h1
    exact ⟨fun g => by omega, fun g => by omega⟩
theorem digsB_iff (s : ByteArray) : digsB s = true ↔ ∀ i (h : i < s.size), 48 ≤ (s[i]'h).toNat ∧ (s[i]'h).toNat ≤ 57 := by
  unfold digsB
  simp only [List.all_eq_true, Bool.and_eq_true, decide_eq_true_eq]
  constructor
  · intro h i hi
    exact h _ (by
      have : i < s.data.toList.length := by rw [Array.length_toList]; exact hi
      have := List.getElem_mem this
      rwa [Array.getElem_toList] at this)
  · intro h b hb
    obtain ⟨i, hi, rfl⟩ := List.getElem_of_mem hb
    rw [Array.getElem_toList]
    exact h i (by rw [Array.length_toList] at hi; exact hi)
theorem arrL {α : Type} {x : Array α} {l : List α} (h : x.toList = l) : x = l.toArray := by subst h; simp
theorem old_iter (w : World) (s : ByteArray) (pos : Nat) : Old w (w.iter s pos) := Old.alloc w _
theorem digs_wp {c y : Code} (hm : digM P c = some y) {s : ByteArray} (hx : a.tmps.getD 0 undef = .string s) (hs : 24 ≤ a.tmps.size) {Q : Exit → Act → World → Prop}
    (h1 : digsB s = true → ∀ a' w', Old w w' → AE a a' → Q .normal a' w')
    (h2 : digsB s = false → ∀ a' w', Old w w' → AE a a' → y.wp P (fun e a w => e = .ret ∧ Q .ret a w) a' w') : c.wp P Q a w := by
  unfold digM at hm
  split at hm
  · rename_i i3 o3 b0 i4 o4 b1 ib i5 o5 i6 o6 y'
    split at hm
    · rename_i hd
      cases hm
      simp only [Bool.and_eq_true, beq_iff_eq] at hd
      obtain ⟨rfl, hd⟩ := hd
      unfold digO at hd
      split at hd
      · rename_i p1 p2 q1 q2 r1 r2 s1 s2 s3 s4 s5 s6 e3 e4 e5 e6
        simp only [Bool.and_eq_true] at hd
        obtain ⟨⟨⟨⟨⟨⟨⟨⟨⟨⟨⟨m1, m2⟩, m3⟩, m4⟩, m5⟩, m6⟩, m7⟩, m8⟩, m9⟩, m10⟩, m11⟩, m12⟩ := hd
        have m1 := oMv_run (P := P) m1
        have m2 := oRange_run m2
        have m3 := oNext_run (P := P) m3
        have m4 := oExt_run (P := P) m4
        have m5 := oExt_run (P := P) m5
        have m6 := oMv_run (P := P) m6
        have m7 := oMv_run (P := P) m7
        have m8 := oBin_run (P := P) m8
        have m9 := oMv_run (P := P) m9
        have m10 := oMv_run (P := P) m10
        have m11 := oBin_run (P := P) m11
        have m12 := oPick_run (P := P) m12
        have e3 := arrL e3
        have e4 := arrL e4
        have e5 := arrL e5
        have e6 := arrL e6
        subst e3 e4 e5 e6
        have lt : ∀ {a' : Act} (h : AE a a') (d : Nat), d < 24 → d < a'.tmps.size := fun h d hd => by rw [h.1]; exact Nat.lt_of_lt_of_le hd hs
        have aA := (AE.refl a).put hs (show 13 ∈ digT by decide) (.string s)
        have aB := aA.put hs (show 14 ∈ digT by decide) (.pointer (some ⟨w.heap.size, 0, none⟩))
        refine wp_seq (wp_region ?_)
        show wpOps P [p1, p2].toArray _ [0, 1] a w
        refine ops1 rfl m1.1 (m1.2 a w) ?_
        rw [hx]
        refine ops1 rfl m2.1 (m2.2 _ w s ?_) ?_
        · rw [put_at (lt (AE.refl a) 13 (by decide)), if_pos rfl]
        simp only [wpOps]
        refine wp_block ?_
        refine wp_loop_ghost (fun j a' w' => ∃ pos, j + pos = s.size ∧ w' = w.iter s pos ∧ AE a a' ∧ a'.tmps.getD 14 undef = .pointer (some ⟨w.heap.size, 0, none⟩) ∧ ∀ i (h : i < s.size), i < pos → 48 ≤ (s[i]'h).toNat ∧ (s[i]'h).toNat ≤ 57) s.size
          ⟨0, rfl, rfl, aB, by rw [put_at (lt aA 14 (by decide)), if_pos rfl], fun i h hi => by omega⟩ ?_
        rintro j a' w' ⟨pos, hj, rfl, hae, h14, hdig⟩
        refine wp_seq (wp_region ?_)
        show wpOps P [q1, q2].toArray _ [0, 1] a' _
        by_cases hp : pos < s.size
        · refine ops1 rfl m3.1 ((m3.2 a' w s pos h14).1 hp) ?_
          have a1 := hae.put hs (show 15 ∈ digT by decide) (.tuple #[.bool true, .int .i64 pos, .int .i32 (Utf8.decode s pos).1])
          have g15 : (a'.put (some 15) (.tuple #[.bool true, .int .i64 pos, .int .i32 (Utf8.decode s pos).1])).tmps.getD 15 undef = .tuple #[.bool true, .int .i64 pos, .int .i32 (Utf8.decode s pos).1] := by rw [put_at (lt hae 15 (by decide)), if_pos rfl]
          have g14 : (a'.put (some 15) (.tuple #[.bool true, .int .i64 pos, .int .i32 (Utf8.decode s pos).1])).tmps.getD 14 undef = .pointer (some ⟨w.heap.size, 0, none⟩) := by rw [put_at (lt hae 15 (by decide)), if_neg (by decide), h14]
          generalize a'.put (some 15) (.tuple #[.bool true, .int .i64 pos, .int .i32 (Utf8.decode s pos).1]) = b1 at a1 g15 g14
          refine ops1 rfl m4.1 (m4.2 _ _ _ (.bool true) g15 rfl) ?_
          have a2 := a1.put hs (show 16 ∈ digT by decide) (.bool true)
          have k15 : (b1.put (some 16) (.bool true)).tmps.getD 15 undef = .tuple #[.bool true, .int .i64 pos, .int .i32 (Utf8.decode s pos).1] := by rw [put_at (lt a1 16 (by decide)), if_neg (by decide), g15]
          have k14 : (b1.put (some 16) (.bool true)).tmps.getD 14 undef = .pointer (some ⟨w.heap.size, 0, none⟩) := by rw [put_at (lt a1 16 (by decide)), if_neg (by decide), g14]
          have k16 : (b1.put (some 16) (.bool true)).tmps.getD 16 undef = .bool true := by rw [put_at (lt a1 16 (by decide)), if_pos rfl]
          generalize b1.put (some 16) (.bool true) = b2 at a2 k15 k14 k16
          simp only [wpOps]
          refine wp_seq (wp_cond (show Act.eval b2 (.tmp 16) = .bool true from k16) (wp_skip ?_))
          refine wp_block ?_
          refine wp_seq (wp_region ?_)
          show wpOps P [r1, r2].toArray _ [0, 1] b2 _
          refine ops1 rfl m5.1 (m5.2 _ _ _ (.int .i32 (Utf8.decode s pos).1) k15 rfl) ?_
          have a3 := a2.put hs (show 17 ∈ digT by decide) (.int .i32 (Utf8.decode s pos).1)
          have l17 : (b2.put (some 17) (.int .i32 (Utf8.decode s pos).1)).tmps.getD 17 undef = .int .i32 (Utf8.decode s pos).1 := by rw [put_at (lt a2 17 (by decide)), if_pos rfl]
          have l14 : (b2.put (some 17) (.int .i32 (Utf8.decode s pos).1)).tmps.getD 14 undef = .pointer (some ⟨w.heap.size, 0, none⟩) := by rw [put_at (lt a2 17 (by decide)), if_neg (by decide), k14]
          generalize b2.put (some 17) (.int .i32 (Utf8.decode s pos).1) = b3 at a3 l17 l14
          refine ops1 rfl m6.1 (m6.2 _ _) ?_
          rw [l17]
          have a4 := a3.put hs (show 5 ∈ digT by decide) (.int .i32 (Utf8.decode s pos).1)
          have n5 : (b3.put (some 5) (.int .i32 (Utf8.decode s pos).1)).tmps.getD 5 undef = .int .i32 (Utf8.decode s pos).1 := by rw [put_at (lt a3 5 (by decide)), if_pos rfl]
          have n14 : (b3.put (some 5) (.int .i32 (Utf8.decode s pos).1)).tmps.getD 14 undef = .pointer (some ⟨w.heap.size, 0, none⟩) := by rw [put_at (lt a3 5 (by decide)), if_neg (by decide), l14]
          generalize b3.put (some 5) (.int .i32 (Utf8.decode s pos).1) = b4 at a4 n5 n14
          simp only [wpOps]
          refine wp_seq (wp_region ?_)
          show wpOps P [s1, s2, s3, s4, s5, s6].toArray _ [0, 1, 2, 3, 4, 5] b4 _
          refine ops1 rfl m7.1 (m7.2 _ _) ?_
          rw [n5]
          have a5 := a4.put hs (show 18 ∈ digT by decide) (.int .i32 (Utf8.decode s pos).1)
          have q5 : (b4.put (some 18) (.int .i32 (Utf8.decode s pos).1)).tmps.getD 5 undef = .int .i32 (Utf8.decode s pos).1 := by rw [put_at (lt a4 18 (by decide)), if_neg (by decide), n5]
          have q18 : (b4.put (some 18) (.int .i32 (Utf8.decode s pos).1)).tmps.getD 18 undef = .int .i32 (Utf8.decode s pos).1 := by rw [put_at (lt a4 18 (by decide)), if_pos rfl]
          have q14 : (b4.put (some 18) (.int .i32 (Utf8.decode s pos).1)).tmps.getD 14 undef = .pointer (some ⟨w.heap.size, 0, none⟩) := by rw [put_at (lt a4 18 (by decide)), if_neg (by decide), n14]
          generalize b4.put (some 18) (.int .i32 (Utf8.decode s pos).1) = b5 at a5 q5 q18 q14
          refine ops1 rfl m8.1 ((m8.2 _ _ _ q18).1 rfl) ?_
          generalize hz : decide (((Utf8.decode s pos).1 : Int) < 48) = z
          have a6 := a5.put hs (show 19 ∈ digT by decide) (.bool z)
          have t5 : (b5.put (some 19) (.bool z)).tmps.getD 5 undef = .int .i32 (Utf8.decode s pos).1 := by rw [put_at (lt a5 19 (by decide)), if_neg (by decide), q5]
          have t19 : (b5.put (some 19) (.bool z)).tmps.getD 19 undef = .bool z := by rw [put_at (lt a5 19 (by decide)), if_pos rfl]
          have t14 : (b5.put (some 19) (.bool z)).tmps.getD 14 undef = .pointer (some ⟨w.heap.size, 0, none⟩) := by rw [put_at (lt a5 19 (by decide)), if_neg (by decide), q14]
          generalize b5.put (some 19) (.bool z) = b6 at a6 t5 t19 t14
          refine ops1 rfl m9.1 (m9.2 _ _) ?_
          rw [t19]
          have a7 := a6.put hs (show 20 ∈ digT by decide) (.bool z)
          have u5 : (b6.put (some 20) (.bool z)).tmps.getD 5 undef = .int .i32 (Utf8.decode s pos).1 := by rw [put_at (lt a6 20 (by decide)), if_neg (by decide), t5]
          have u20 : (b6.put (some 20) (.bool z)).tmps.getD 20 undef = .bool z := by rw [put_at (lt a6 20 (by decide)), if_pos rfl]
          have u14 : (b6.put (some 20) (.bool z)).tmps.getD 14 undef = .pointer (some ⟨w.heap.size, 0, none⟩) := by rw [put_at (lt a6 20 (by decide)), if_neg (by decide), t14]
          generalize b6.put (some 20) (.bool z) = b7 at a7 u5 u20 u14
          have hdst : ([s1, s2, s3, s4, s5, s6].toArray[2]?).bind (·.dst) = some 20 := m9.1.1
          have hc48 := hz
          have nodig : ¬ (48 ≤ (Utf8.decode s pos).1 ∧ (Utf8.decode s pos).1 ≤ 57) → digsB s = false := by
            intro hn
            cases hb : digsB s with
            | false => rfl
            | true => exact absurd ((digsB_iff s).1 hb pos hp) ((digit_of s pos hp).2 hn)
          cases z with
          | true =>
            refine ops3 (z := true) rfl m10.1 (yield_at hdst u20) (by decide) ?_
            have a8 := a7.put hs (show 21 ∈ digT by decide) undef
            have v20 : (b7.put (some 21) undef).tmps.getD 20 undef = .bool true := by rw [put_at (lt a7 21 (by decide)), if_neg (by decide), u20]
            generalize b7.put (some 21) undef = b8 at a8 v20
            refine ops3 (z := true) rfl m11.1 (yield_at hdst v20) (by decide) ?_
            have a9 := a8.put hs (show 22 ∈ digT by decide) undef
            have x20 : (b8.put (some 22) undef).tmps.getD 20 undef = .bool true := by rw [put_at (lt a8 22 (by decide)), if_neg (by decide), v20]
            generalize b8.put (some 22) undef = b9 at a9 x20
            refine ops1 rfl m12.1 (m12.2 _ _ _ x20) ?_
            simp only [if_true]
            have a10 := a9.put hs (show 23 ∈ digT by decide) (.bool true)
            have y23 : (b9.put (some 23) (.bool true)).tmps.getD 23 undef = .bool true := by rw [put_at (lt a9 23 (by decide)), if_pos rfl]
            generalize b9.put (some 23) (.bool true) = b10 at a10 y23
            simp only [wpOps]
            refine wp_cond (show Act.eval b10 (.tmp 23) = .bool true from y23) ?_
            show y.wp P _ _ _
            refine wp_mono (h2 (nodig (by have := of_decide_eq_true hc48; omega)) _ _ (old_iter w s _) a10) ?_
            rintro e a3 w3 ⟨rfl, hq⟩
            exact hq
          | false =>
            have hlow : 48 ≤ (Utf8.decode s pos).1 := by have := of_decide_eq_false hc48; omega
            refine ops2 rfl m10.1 (yield_at hdst u20) (m10.2 _ _) ?_
            rw [u5]
            have a8 := a7.put hs (show 21 ∈ digT by decide) (.int .i32 (Utf8.decode s pos).1)
            have v20 : (b7.put (some 21) (.int .i32 (Utf8.decode s pos).1)).tmps.getD 20 undef = .bool false := by rw [put_at (lt a7 21 (by decide)), if_neg (by decide), u20]
            have v21 : (b7.put (some 21) (.int .i32 (Utf8.decode s pos).1)).tmps.getD 21 undef = .int .i32 (Utf8.decode s pos).1 := by rw [put_at (lt a7 21 (by decide)), if_pos rfl]
            have v14 : (b7.put (some 21) (.int .i32 (Utf8.decode s pos).1)).tmps.getD 14 undef = .pointer (some ⟨w.heap.size, 0, none⟩) := by rw [put_at (lt a7 21 (by decide)), if_neg (by decide), u14]
            generalize b7.put (some 21) (.int .i32 (Utf8.decode s pos).1) = b8 at a8 v20 v21 v14
            refine ops2 rfl m11.1 (yield_at hdst v20) ((m11.2 _ _ _ v21).2 rfl) ?_
            generalize hz2 : decide (57 < ((Utf8.decode s pos).1 : Int)) = z2
            have a9 := a8.put hs (show 22 ∈ digT by decide) (.bool z2)
            have x20 : (b8.put (some 22) (.bool z2)).tmps.getD 20 undef = .bool false := by rw [put_at (lt a8 22 (by decide)), if_neg (by decide), v20]
            have x22 : (b8.put (some 22) (.bool z2)).tmps.getD 22 undef = .bool z2 := by rw [put_at (lt a8 22 (by decide)), if_pos rfl]
            have x14 : (b8.put (some 22) (.bool z2)).tmps.getD 14 undef = .pointer (some ⟨w.heap.size, 0, none⟩) := by rw [put_at (lt a8 22 (by decide)), if_neg (by decide), v14]
            generalize b8.put (some 22) (.bool z2) = b9 at a9 x20 x22 x14
            refine ops1 rfl m12.1 (m12.2 _ _ _ x20) ?_
            simp only [Bool.false_eq_true, if_false]
            rw [x22]
            have a10 := a9.put hs (show 23 ∈ digT by decide) (.bool z2)
            have y23 : (b9.put (some 23) (.bool z2)).tmps.getD 23 undef = .bool z2 := by rw [put_at (lt a9 23 (by decide)), if_pos rfl]
            have y14 : (b9.put (some 23) (.bool z2)).tmps.getD 14 undef = .pointer (some ⟨w.heap.size, 0, none⟩) := by rw [put_at (lt a9 23 (by decide)), if_neg (by decide), x14]
            generalize b9.put (some 23) (.bool z2) = b10 at a10 y23 y14
            simp only [wpOps]
            refine wp_cond (show Act.eval b10 (.tmp 23) = .bool z2 from y23) ?_
            cases z2 with
            | true =>
              have hc2 := of_decide_eq_true hz2
              show y.wp P _ _ _
              refine wp_mono (h2 (nodig (by omega)) _ _ (old_iter w s _) a10) ?_
              rintro e a3 w3 ⟨rfl, hq⟩
              exact hq
            | false =>
              have hc2 := of_decide_eq_false hz2
              have hdg := (digit_of s pos hp).1 ⟨hlow, by omega⟩
              show (Code.skip).wp P _ _ _
              refine wp_skip ?_
              refine ⟨j - 1, by omega, pos + 1, by omega, by rw [hdg.1], a10, y14, fun i h hi => ?_⟩
              rcases Nat.lt_or_ge i pos with h3 | h3
              · exact hdig i h h3
              · have : i = pos := by omega
                subst this
                exact hdg.2
        · refine ops1 rfl m3.1 ((m3.2 a' w s pos h14).2 hp) ?_
          have a1 := hae.put hs (show 15 ∈ digT by decide) (.tuple #[.bool false])
          refine ops1 rfl m4.1 (m4.2 _ _ _ (.bool false) (by rw [put_at (lt hae 15 (by decide)), if_pos rfl]) rfl) ?_
          have a2 := a1.put hs (show 16 ∈ digT by decide) (.bool false)
          have k16 := put_at (a := a'.put (some 15) (.tuple #[.bool false])) (v := .bool false) (d := 16) (t := 16) (lt a1 16 (by decide))
          rw [if_pos rfl] at k16
          simp only [wpOps]
          refine wp_seq (wp_cond (show Act.eval _ (.tmp 16) = .bool false from k16) (wp_exit ?_))
          have hall : digsB s = true := (digsB_iff s).2 fun i h => hdig i h (by omega)
          show if b0 = b0 then Q .normal _ _ else _
          rw [if_pos rfl]
          exact h1 hall _ _ (old_iter w s _) a2
      · cases hd
    · cases hm
  · cases hm
end
end Go.Pe
set_option linter.unusedVariables false
set_option linter.unusedSimpArgs false
namespace Go.Pe
open Go
def nodB : List Nat → Bool
  | [] => true
  | x :: l => !l.contains x && nodB l
theorem nodB_spec : ∀ {l : List Nat}, nodB l = true → l.Nodup
  | [], _ => List.nodup_nil
  | x :: l, h => by
    simp only [nodB, Bool.and_eq_true, Bool.not_eq_true', List.contains_eq_mem, decide_eq_false_iff_not] at h
    exact List.nodup_cons.2 ⟨h.1, nodB_spec h.2⟩
def listOk (lids : List Nat) (l : List (Nat × Nat)) : Bool := okL lids [] l && nodB (l.map idOf)
def toExit : Ex → Exit
  | .normal => .normal
  | .exit i => .exit i
  | .ret => .ret
def mt (P : Program) (F : Fns) (tabs : List (Nat × List AV)) (lids : List Nat) (nt : Nat) : PC → Code → Bool
  | .skip, .skip => true
  | .reg chk ps, .region _ ops draw => mposL P F tabs nt ops ops.toList ps && (!draw || drawOk chk ops.toList ps)
  | .seq x y, .seq c d => mt P F tabs lids nt x c && mt P F tabs lids nt y d
  | .cond b x y, .cond b' c d => ma tabs b' b && mt P F tabs lids nt x c && mt P F tabs lids nt y d
  | .block i x, .block j c => i == j && mt P F tabs lids nt x c
  | .loop live out x, .loop c => listOk lids live && listOk lids out && mt P F tabs lids nt x c
  | .join out x, c => listOk lids out && mt P F tabs lids nt x c
  | .exit i, .exit j => i == j
  | .ret, .ret => true
  | .digs y, c => decide (24 ≤ nt) && (match digM P c with | some d => mt P F tabs lids nt y d | none => false)
  | _, _ => false
section
variable {P : Program} {F : Fns} {f : Fr} {nt : Nat}
theorem canon_sim {w : World} {st : St} {a : Act} (hs : Sim f nt w st a) {l : List (Nat × Nat)} (hl : listOk f.lids l = true) {vs : List AV} (hp : pack st.env [] st.h l = some vs) : Sim f nt w (un l vs) a := by
  simp only [listOk, Bool.and_eq_true] at hl
  obtain ⟨h1, h2, T, ρ, k, he⟩ := hs
  obtain ⟨T', ρ', k', e', _⟩ := canon k he hl.1 (nodB_spec hl.2) hp
  exact ⟨h1, h2, T', ρ', k', e'⟩
def LoopsOk (P : Program) (F : Fns) (f : Fr) (nt : Nat) (lp : List (Nat × Nat) → List (Nat × Nat) → PC → List AV → Option (Ex × List AV)) : Prop :=
  ∀ live out x c vs ex outs, listOk f.lids live = true → listOk f.lids out = true → mt P F f.tabs f.lids nt x c = true → lp live out x vs = some (ex, outs) →
    ∀ (w : World) (a : Act) (Q : Exit → Act → World → Prop), Sim f nt w (un live vs) a → (∀ a' w', Sim f nt w' (un out outs) a' → Q (toExit ex) a' w') → (Code.loop c).wp P Q a w
theorem pc_sound (hmo : P.follows .mixedOrders = true) {call : Call} (hc : CallsOk P F f.tabs call) {lp : List (Nat × Nat) → List (Nat × Nat) → PC → List AV → Option (Ex × List AV)} (hlp : LoopsOk P F f nt lp) :
    ∀ (x : PC) (c : Code), mt P F f.tabs f.lids nt x c = true → ∀ (st : St) (ex : Ex) (st' : St), PC.ev call lp x st = some (ex, st') →
      ∀ (w : World) (a : Act) (Q : Exit → Act → World → Prop), Sim f nt w st a → (∀ a' w', Sim f nt w' st' a' → Q (toExit ex) a' w') → c.wp P Q a w := by
  intro x
  induction x with
  | skip =>
    intro c hm st ex st' hv w a Q hs hQ
    cases c <;> simp only [mt] at hm <;> try (cases hm; done)
    simp only [PC.ev] at hv
    cases hv
    exact wp_skip (hQ a w hs)
  | ret =>
    intro c hm st ex st' hv w a Q hs hQ
    cases c <;> simp only [mt] at hm <;> try (cases hm; done)
    simp only [PC.ev] at hv
    cases hv
    exact wp_ret (hQ a w hs)
  | exit i =>
    intro c hm st ex st' hv w a Q hs hQ
    cases c <;> simp only [mt] at hm <;> try (cases hm; done)
    simp only [beq_iff_eq] at hm
    subst hm
    simp only [PC.ev] at hv
    cases hv
    exact wp_exit (hQ a w hs)
  | reg chk ps =>
    intro c hm st ex st' hv w a Q hs hQ
    cases c <;> simp only [mt] at hm <;> try (cases hm; done)
    rename_i id ops draw
    simp only [Bool.and_eq_true, Bool.or_eq_true, Bool.not_eq_true'] at hm
    simp only [PC.ev, Option.bind_eq_some_iff] at hv
    obtain ⟨s1, h1, h2⟩ := hv
    split at h2
    · rename_i hap
      cases h2
      cases draw with
      | false => exact region_seq hm.1 hc Q (fun a w hs => hQ a w hs) hs h1
      | true => exact region_draw hmo hm.1 (by simpa using hm.2) hc Q (fun a w hs => hQ a w hs) hap hs h1
    · cases h2
  | seq x y hx hy =>
    intro c hm st ex st' hv w a Q hs hQ
    cases c <;> simp only [mt] at hm <;> try (cases hm; done)
    simp only [Bool.and_eq_true] at hm
    simp only [PC.ev, Option.bind_eq_some_iff] at hv
    obtain ⟨⟨e1, s1⟩, h1, h2⟩ := hv
    refine wp_seq (hx _ hm.1 st e1 s1 h1 w a _ hs fun a' w' hs' => ?_)
    cases e1 with
    | normal => exact hy _ hm.2 s1 ex st' h2 w' a' Q hs' hQ
    | exit i => cases h2; exact hQ a' w' hs'
    | ret => cases h2; exact hQ a' w' hs'
  | cond b x y hx hy =>
    intro c hm st ex st' hv w a Q hs hQ
    cases c <;> simp only [mt] at hm <;> try (cases hm; done)
    simp only [Bool.and_eq_true] at hm
    obtain ⟨⟨hb, hmx⟩, hmy⟩ := hm
    simp only [PC.ev] at hv
    split at hv
    · rename_i q hq
      have hs0 := hs
      obtain ⟨_, _, T, ρ, k, he⟩ := hs0
      have := ma_rv k he hb
      rw [hq] at this
      refine wp_cond (inv_b this) ?_
      cases q with
      | true => exact hx _ hmx st ex st' hv w a Q hs hQ
      | false => exact hy _ hmy st ex st' hv w a Q hs hQ
    · cases hv
  | block i x hx =>
    intro c hm st ex st' hv w a Q hs hQ
    cases c <;> simp only [mt] at hm <;> try (cases hm; done)
    simp only [Bool.and_eq_true, beq_iff_eq] at hm
    obtain ⟨rfl, hm⟩ := hm
    simp only [PC.ev, Option.map_eq_some_iff] at hv
    obtain ⟨⟨e1, s1⟩, h1, h2⟩ := hv
    refine wp_block (hx _ hm st e1 s1 h1 w a _ hs fun a' w' hs' => ?_)
    cases e1 with
    | normal => cases h2; exact hQ a' w' hs'
    | ret => cases h2; exact hQ a' w' hs'
    | exit j =>
      show if j = i then Q .normal a' w' else Q (.exit j) a' w'
      simp only at h2
      split at h2
      · rename_i hj; rw [if_pos hj]; cases h2; exact hQ a' w' hs'
      · rename_i hj; rw [if_neg hj]; cases h2; exact hQ a' w' hs'
  | loop live out x hx =>
    intro c hm st ex st' hv w a Q hs hQ
    cases c <;> simp only [mt] at hm <;> try (cases hm; done)
    simp only [Bool.and_eq_true] at hm
    obtain ⟨⟨hl, ho⟩, hm⟩ := hm
    simp only [PC.ev, Option.bind_eq_some_iff, Option.map_eq_some_iff] at hv
    obtain ⟨vs, h1, ⟨e1, outs⟩, h2, h3⟩ := hv
    cases h3
    exact hlp live out x _ vs e1 outs hl ho hm h2 w a Q (canon_sim hs hl h1) hQ
  | join out x hx =>
    intro c hm st ex st' hv w a Q hs hQ
    simp only [mt, Bool.and_eq_true] at hm
    simp only [PC.ev, Option.bind_eq_some_iff, Option.map_eq_some_iff] at hv
    obtain ⟨⟨e1, s1⟩, h1, vs, h2, h3⟩ := hv
    cases h3
    exact hx c hm.2 st e1 s1 h1 w a Q hs fun a' w' hs' => hQ a' w' (canon_sim hs' hm.1 h2)
  | digs y hy =>
    intro c hm st ex st' hv w a Q hs hQ
    simp only [mt, Bool.and_eq_true, decide_eq_true_eq] at hm
    obtain ⟨hnt, hm⟩ := hm
    split at hm
    · rename_i d hd
      simp only [PC.ev] at hv
      split at hv
      · rename_i s hst
        have hs0 := hs
        obtain ⟨hsz, hdf, T, ρ, k, he⟩ := hs0
        have h0 := he 0
        rw [hst] at h0
        have hsim : ∀ a' w', Old w w' → AE a a' → Sim f nt w' ⟨junkE digT st.env, st.h⟩ a' := by
          intro a' w' ho hae
          have := hs.old ho
          obtain ⟨g1, g2, T', ρ', k', e'⟩ := this
          refine ⟨by rw [hae.1]; exact g1, by rw [hae.2.1]; exact g2, T', ρ', k', fun t => ?_⟩
          show Rv w' T' ρ' (if t ∈ digT then .junk else st.env t) _
          split
          · exact .junk
          · rename_i ht
            rw [hae.2.2 t ht]
            exact e' t
        refine digs_wp hd (inv_s h0) (Nat.le_trans hnt hsz) (fun hb a' w' ho hae => ?_) fun hb a' w' ho hae => ?_
        · rw [if_pos hb] at hv
          cases hv
          exact hQ a' w' (hsim a' w' ho hae)
        · rw [if_neg (by simp [hb])] at hv
          simp only [Option.bind_eq_some_iff] at hv
          obtain ⟨⟨e1, s1⟩, h1, h2⟩ := hv
          cases e1 with
          | ret =>
            cases h2
            exact hy _ hm _ _ _ h1 w' a' _ (hsim a' w' ho hae) fun a3 w3 hs3 => ⟨rfl, hQ a3 w3 hs3⟩
          | normal => cases h2
          | exit i => cases h2
      · cases hv
    · cases hm
theorem loops_ok (hmo : P.follows .mixedOrders = true) {call : Call} (hc : CallsOk P F f.tabs call) : ∀ n k, k ≤ n → LoopsOk P F f nt (loopF call k) := by
  intro n
  induction n with
  | zero =>
    intro k hk live out x c vs ex outs _ _ _ hv
    have : k = 0 := by omega
    subst this
    cases hv
  | succ n ih =>
    intro k hk live out x c vs ex outs hl ho hm hv w a Q hs hQ
    refine wp_loop_ghost (fun j a w => j ≤ k ∧ ∃ vs, loopF call j live out x vs = some (ex, outs) ∧ Sim f nt w (un live vs) a) k ⟨Nat.le_refl _, vs, hv, hs⟩ ?_
    rintro j a w ⟨hj, vs, hv, hs⟩
    cases j with
    | zero => cases hv
    | succ j =>
      simp only [loopF, Option.bind_eq_some_iff] at hv
      obtain ⟨⟨e1, s1⟩, h1, h2⟩ := hv
      refine pc_sound hmo hc (ih j (by omega)) x c hm (un live vs) e1 s1 h1 w a _ hs fun a' w' hs' => ?_
      cases e1 with
      | normal =>
        simp only [round, Option.bind_eq_some_iff] at h2
        obtain ⟨vs', h3, h4⟩ := h2
        exact ⟨j, Nat.lt_succ_self j, by omega, vs', h4, canon_sim hs' hl h3⟩
      | exit i =>
        simp only [round, Option.map_eq_some_iff] at h2
        obtain ⟨vs', h3, h4⟩ := h2
        cases h4
        exact hQ a' w' (canon_sim hs' ho h3)
      | ret =>
        simp only [round, Option.map_eq_some_iff] at h2
        obtain ⟨vs', h3, h4⟩ := h2
        cases h4
        exact hQ a' w' (canon_sim hs' ho h3)
end
end Go.Pe
set_option linter.unusedVariables false
set_option linter.unusedSimpArgs false
namespace Go.Pe
open Go
def mres (P : Program) : List ResultVar → List (PR × Nat) → Bool
  | [], [] => true
  | .tmp t :: l, (.tmp t', _) :: m => t == t' && mres P l m
  | .cell t ty :: l, (.cell t' ag sz, _) :: m => t == t' && decide (aggT P ty = some ag) && decide (szT P ty = some sz) && mres P l m
  | _, _ => false
def fnOk (P : Program) (F : Fns) (tabs : List (Nat × List AV)) (f : Nat) (p : PF) : Bool := match P.funcs[F.2 f]? with
  | some fn => match fn.body with
    | some c => mt P F tabs (p.lent.map lid) fn.ntmps p.body c && mres P fn.results.toList p.res && listOk (p.lent.map lid) (resL p.res p.lent)
    | none => false
  | none => false
section
variable {P : Program} {F : Fns} {f : Fr} {nt : Nat} {w : World} {T : Nat → Prop} {ρ : Rho} {h : Heap} {e : Nat → AV} {a : Act}
def resOne (P : Program) (tmps : Array Value) : ResultVar → Sem Value
  | .tmp t => pure (tmps.getD t undef)
  | .cell a t => do loadVar t (← asAddr (tmps.getD a undef))
theorem res_run (k : WInv f w T ρ h) (he : Env w T ρ e a) : ∀ {l : List ResultVar} {m : List (PR × Nat)} {rs : List AV}, mres P l m = true → resV ⟨e, h⟩ m = some rs →
    ∃ vs : List Value, (l.mapM (resOne P a.tmps)).run P w = .ok vs w ∧ vs.length = l.length ∧ l.length = m.length ∧ rs.length = m.length ∧ ∀ j, j < rs.length → Rv w T ρ (rs.getD j .junk) (vs.getD j undef) := by
  intro l
  induction l with
  | nil =>
    intro m rs hm hr
    cases m with
    | nil => cases hr; exact ⟨[], rfl, rfl, rfl, rfl, fun j hj => by cases hj⟩
    | cons => cases hm
  | cons x l ih =>
    intro m rs hm hr
    cases m with
    | nil => cases x <;> cases hm
    | cons y m =>
      obtain ⟨pr, q⟩ := y
      simp only [resV, Option.bind_eq_some_iff, Option.map_eq_some_iff] at hr
      obtain ⟨v, h1, rs', h2, rfl⟩ := hr
      have one : (∃ u, (resOne P a.tmps x).run P w = .ok u w ∧ Rv w T ρ v u) ∧ mres P l m = true := by
        cases x with
        | tmp t =>
          cases pr with
          | cell => cases hm
          | tmp t' =>
            simp only [mres, Bool.and_eq_true, beq_iff_eq] at hm
            obtain ⟨rfl, hm⟩ := hm
            cases h1
            exact ⟨⟨_, rfl, he t⟩, hm⟩
        | cell t ty =>
          cases pr with
          | tmp => cases hm
          | cell t' ag sz =>
            simp only [mres, Bool.and_eq_true, beq_iff_eq, decide_eq_true_eq] at hm
            obtain ⟨⟨⟨rfl, h3⟩, h4⟩, hm⟩ := hm
            refine ⟨?_, hm⟩
            simp only [PR.ev, ldV, Option.bind_eq_some_iff] at h1
            obtain ⟨⟨cs, i⟩, hp, hc⟩ := h1
            obtain ⟨b, base, hx, hcell⟩ := ptr_cells k (he t) hp
            obtain ⟨u, h5, h6, _⟩ := load_var h3 h4 hcell hc
            have hx' : a.tmps.getD t undef = .pointer (some ⟨b, base + i, none⟩) := hx
            exact ⟨u, by simp only [resOne, hx', asAddr]; simpa using h5, h6⟩
      obtain ⟨⟨u, h3, h4⟩, hm'⟩ := one
      obtain ⟨vs, h5, h6, h7, h8, h9⟩ := ih hm' h2
      refine ⟨u :: vs, ?_, by simp [h6], by simp [h7], by simp [h8], fun j hj => ?_⟩
      · simp [h3, h5]
      · cases j with
        | zero => exact h4
        | succ j => exact h9 j (by simpa using hj)
theorem results_run (k : WInv f w T ρ h) (he : Env w T ρ e a) {fn : Func} {m : List (PR × Nat)} {rs : List AV} (hm : mres P fn.results.toList m = true) (hr : resV ⟨e, h⟩ m = some rs) :
    ∃ vs : Array Value, (results fn a.tmps).run P w = .ok (oneR vs) w ∧ vs.size = m.length ∧ rs.length = m.length ∧ ∀ j, j < rs.length → Rv w T ρ (rs.getD j .junk) (vs.getD j undef) := by
  obtain ⟨vs, h1, h2, h3, h4, h5⟩ := res_run k he hm hr
  refine ⟨vs.toArray, ?_, by simp [h2, h3], h4, fun j hj => by simpa [List.getD_eq_getElem?_getD] using h5 j hj⟩
  have e1 : results fn a.tmps = (fn.results.mapM (resOne P a.tmps) >>= fun vs => pure (oneR vs)) := rfl
  have e2 : fn.results.mapM (resOne P a.tmps) = List.toArray <$> fn.results.toList.mapM (resOne P a.tmps) := by
    rw [← List.mapM_toArray]
  rw [e1, e2]
  simp [h1]
theorem envL_get : ∀ (l : List AV) (k t : Nat), envL k l t = if k ≤ t then l.getD (t - k) .junk else .junk := by
  intro l
  induction l with
  | nil => intro k t; simp [envL]
  | cons x l ih =>
    intro k t
    simp only [envL, upd, ih]
    by_cases h1 : t = k
    · subst h1; simp
    · simp only [h1, if_false]
      by_cases h2 : k + 1 ≤ t
      · rw [if_pos h2, if_pos (by omega), show t - k = (t - (k + 1)) + 1 by omega]; rfl
      · rw [if_neg h2, if_neg (by omega)]
theorem pack_length {e : Nat → AV} : ∀ {l : List (Nat × Nat)} {ls : List Nat} {h : Heap} {vs : List AV}, pack e ls h l = some vs → vs.length = l.length := by
  intro l
  induction l with
  | nil => intro ls h vs hp; cases hp; rfl
  | cons p l ih =>
    intro ls h vs hp
    obtain ⟨t, q⟩ := p
    match q with
    | 0 =>
      simp only [pack, Option.map_eq_some_iff] at hp
      obtain ⟨us, h1, rfl⟩ := hp
      simp [ih h1]
    | 1 =>
      simp only [pack, Option.bind_eq_some_iff, Option.map_eq_some_iff] at hp
      obtain ⟨q, _, us, h1, rfl⟩ := hp
      simp [ih h1]
    | 2 =>
      simp only [pack, Option.bind_eq_some_iff, Option.map_eq_some_iff] at hp
      obtain ⟨q, _, us, h1, rfl⟩ := hp
      simp [ih h1]
    | 3 =>
      simp only [pack, Option.bind_eq_some_iff, Option.map_eq_some_iff] at hp
      obtain ⟨q, _, us, h1, rfl⟩ := hp
      simp [ih h1]
    | 4 =>
      simp only [pack, Option.bind_eq_some_iff, Option.map_eq_some_iff] at hp
      obtain ⟨q, _, us, h1, rfl⟩ := hp
      simp [ih h1]
    | 5 =>
      simp only [pack, Option.bind_eq_some_iff, Option.map_eq_some_iff] at hp
      obtain ⟨q, _, us, h1, rfl⟩ := hp
      simp [ih h1]
    | n + 6 =>
      simp only [pack, Option.bind_eq_some_iff, Option.map_eq_some_iff] at hp
      obtain ⟨q, _, us, h1, rfl⟩ := hp
      simp [ih h1]
theorem fn_sound (hmo : P.follows .mixedOrders = true) {tabs : List (Nat × List AV)} {g : Nat} {p : PF} (hf : fnOk P F tabs g p = true) {call : Call} (hc : CallsOk P F tabs call) {n : Nat} {xs : List AV} {r : AV}
    (hv : (p.body.ev call (loopF call n) (un (parN p.lent 0 xs) xs)).bind (finE p) = some r) : CallOk P (F.2 g) p.res p.lent tabs xs r := by
  intro fr ρ vs ht hl hsz hw he
  unfold fnOk at hf
  cases hfn : P.funcs[F.2 g]? with
  | none => rw [hfn] at hf; cases hf
  | some fn =>
    rw [hfn] at hf
    simp only at hf
    cases hb : fn.body with
    | none => rw [hb] at hf; cases hf
    | some c =>
      rw [hb] at hf
      simp only [Bool.and_eq_true] at hf
      obtain ⟨⟨h1, h2⟩, h3⟩ := hf
      subst ht
      rw [← hl] at h1 h3
      simp only [Option.bind_eq_some_iff] at hv
      obtain ⟨⟨ex, st⟩, h4, h5⟩ := hv
      refine calls_of_wp hfn hb ?_
      have hs : Sim fr fn.ntmps fr.w0 (un (parN p.lent 0 xs) xs) { tmps := vs ++ Array.replicate (fn.ntmps - vs.size) undef, defers := [] } := by
        refine ⟨by simp; omega, rfl, fr.T0, ρ, hw, fun t => ?_⟩
        have := he t
        have e1 : (vs ++ Array.replicate (fn.ntmps - vs.size) undef).getD t undef = vs.getD t undef := by
          by_cases h : t < vs.size
          · simp [Array.getElem?_append, h]
          · simp only [Array.getD_eq_getD_getElem?, Array.getElem?_append, h, if_false]
            rw [Array.getElem?_eq_none (show vs.size ≤ t by omega)]
            cases hq : (Array.replicate (fn.ntmps - vs.size) undef)[t - vs.size]? with
            | none => rfl
            | some u =>
              have := Array.getElem?_eq_some_iff.1 hq
              obtain ⟨h6, h7⟩ := this
              simp at h7
              simp [← h7]
        rw [e1]
        exact this
      refine pc_sound hmo hc (loops_ok hmo hc n n (Nat.le_refl _)) p.body c h1 _ ex st h4 fr.w0 _ _ hs fun a' w' hs' => ?_
      have fine : finE p (.ret, st) = some r → a'.defers = [] ∧ ∃ v, (results fn a'.tmps).run P w' = .ok v w' ∧ ∃ out vals T' ρ', Ending.returned v = .returned (oneR vals) ∧ vals.size = p.res.length ∧ out.length = (resL p.res p.lent).length ∧ r = retV p.lent out ∧
          WInv fr w' T' ρ' (un (resL p.res p.lent) out).h ∧ Env w' T' ρ' (un (resL p.res p.lent) out).env ⟨vals, []⟩ ∧ Flat w' T' (un (resL p.res p.lent) out).env ⟨vals, []⟩ := by
        intro h5
        obtain ⟨_, hd, T, ρ1, k, he1⟩ := hs'
        refine ⟨hd, ?_⟩
        simp only [finE, fin, Option.bind_eq_some_iff, Option.map_eq_some_iff] at h5
        obtain ⟨rs, h6, out, h7, rfl⟩ := h5
        obtain ⟨vals, h8, h9, h10, h11⟩ := results_run k he1 h2 h6
        have he2 : Env w' T ρ1 (envL 0 rs) ⟨vals, []⟩ := by
          intro t
          rw [envL_get]
          simp only [Nat.zero_le, if_true, Nat.sub_zero]
          by_cases h12 : t < rs.length
          · exact h11 t h12
          · rw [List.getD_eq_getElem?_getD, List.getElem?_eq_none (by omega)]; exact .junk
        simp only [listOk, Bool.and_eq_true] at h3
        obtain ⟨T', ρ', k', e', fl⟩ := canon k he2 h3.1 (nodB_spec h3.2) h7
        exact ⟨oneR vals, h8, out, vals, T', ρ', rfl, h9, pack_length h7, rfl, k', e', fl⟩
      cases ex with
      | exit i => cases h5
      | normal => exact fine h5
      | ret => exact fine h5
theorem runF_okE (hmo : P.follows .mixedOrders = true) {tabs : List (Nat × List AV)} {G : Nat → Option PF} (hF : ∀ g p, F.1 g = some p → (fnOk P F tabs g p = true ∧ G g = some p) ∨ ∀ xs r, xs.length = arOf P (F.2 g) → R G g xs = some r → CallOk P (F.2 g) p.res p.lent tabs xs r) : ∀ k, CallsOk P F tabs (runF G k) := by
  intro k
  induction k with
  | zero => intro g p xs r _ _ hv; cases hv
  | succ k ih =>
    intro g p xs r hp har hv
    rcases hF g p hp with ⟨h1, h2⟩ | h1
    · simp only [runF, h2, Option.bind_some] at hv
      exact fn_sound hmo h1 ih hv
    · exact h1 xs r har ((R_some G).2 ⟨k + 1, hv⟩)
theorem runF_ok (hmo : P.follows .mixedOrders = true) {tabs : List (Nat × List AV)} {G : Nat → Option PF} (hF : ∀ g p, F.1 g = some p → fnOk P F tabs g p = true ∧ G g = some p) : ∀ k, CallsOk P F tabs (runF G k) := runF_okE hmo fun g p hp => .inl (hF g p hp)
theorem R_ok (hmo : P.follows .mixedOrders = true) {tabs : List (Nat × List AV)} {G : Nat → Option PF} (hF : ∀ g p, F.1 g = some p → fnOk P F tabs g p = true ∧ G g = some p) : CallsOk P F tabs (R G) := by
  intro g p xs r hp har hv
  obtain ⟨k, hk⟩ := (R_some G).1 hv
  exact runF_ok hmo hF k g p xs r hp har hk
end
end Go.Pe
namespace Go.Pe
open Go Go.Proofs
set_option maxRecDepth 100000
def tabs0 : List (Nat × List AV) := [(0, tab0)]
def FD : Nat → Option PF
  | 14 => some p14
  | 29 => some p29
  | 31 => some p31
  | 38 => some p38
  | 39 => some p39
  | 40 => some p40
  | 43 => some p43
  | 47 => some p47
  | 54 => some p54
  | 55 => some p55
  | 56 => some p56
  | 57 => some p57
  | 63 => some p63
  | 64 => some p64
  | 65 => some p65
  | 66 => some p66
  | 68 => some p68
  | 71 => some p71
  | 72 => some p72
  | 73 => some p73
  | 74 => some p74
  | 75 => some p75
  | 76 => some p76
  | 77 => some p77
  | 79 => some p79
  | 80 => some p80
  | 81 => some p81
  | 82 => some p82
  | 83 => some p83
  | 86 => some p86
  | 87 => some p87
  | 88 => some p88
  | 89 => some p89
  | 90 => some p90
  | 91 => some p91
  | 92 => some p92
  | 94 => some p94
  | 95 => some p95
  | 96 => some p96
  | 97 => some p97
  | 106 => some p106
  | 107 => some p107
  | 108 => some p108
  | 109 => some p109
  | 110 => some p110
  | 111 => some p111
  | 112 => some p112
  | 113 => some p113
  | 114 => some p114
  | 115 => some p115
  | 116 => some p116
  | 117 => some p117
  | 118 => some p118
  | 119 => some p119
  | 120 => some p120
  | 122 => some p122
  | 127 => some p127
  | 128 => some p128
  | 129 => some p129
  | 130 => some p130
  | 131 => some p131
  | 137 => some p137
  | 138 => some p138
  | 139 => some p139
  | 140 => some p140
  | 141 => some p141
  | 144 => some p144
  | 162 => some p162
  | 167 => some p167
  | 168 => some p168
  | 170 => some p170
  | 171 => some p171
  | 172 => some p172
  | 173 => some p173
  | 214 => some p214
  | 215 => some p215
  | 216 => some p216
  | 217 => some p217
  | 218 => some p218
  | 219 => some p219
  | 238 => some p238
  | 239 => some p239
  | 240 => some p240
  | 241 => some p241
  | 242 => some p242
  | 254 => some p254
  | 255 => some p255
  | 256 => some p256
  | 257 => some p257
  | 258 => some p258
  | 261 => some p261
  | 262 => some p262
  | 285 => some p285
  | _ => none
def nuD : Nat → Nat
  | 14 => 33
  | 29 => 13
  | 31 => 26
  | 38 => 40
  | 39 => 66
  | 40 => 57
  | 43 => 61
  | 47 => 60
  | 54 => 24
  | 55 => 25
  | 56 => 18
  | 57 => 16
  | 63 => 35
  | 64 => 53
  | 65 => 45
  | 66 => 46
  | 68 => 14
  | 71 => 69
  | 72 => 72
  | 73 => 30
  | 74 => 28
  | 75 => 43
  | 76 => 44
  | 77 => 47
  | 79 => 38
  | 80 => 76
  | 81 => 54
  | 82 => 29
  | 83 => 34
  | 86 => 68
  | 87 => 63
  | 88 => 58
  | 89 => 89
  | 90 => 64
  | 91 => 56
  | 92 => 48
  | 94 => 27
  | 95 => 41
  | 96 => 42
  | 97 => 12
  | 106 => 55
  | 107 => 79
  | 108 => 80
  | 109 => 81
  | 110 => 82
  | 111 => 83
  | 112 => 84
  | 113 => 85
  | 114 => 49
  | 115 => 70
  | 116 => 71
  | 117 => 73
  | 118 => 59
  | 119 => 78
  | 120 => 77
  | 122 => 67
  | 127 => 90
  | 128 => 91
  | 129 => 88
  | 130 => 86
  | 131 => 87
  | 137 => 92
  | 138 => 93
  | 139 => 94
  | 140 => 95
  | 141 => 96
  | 144 => 4
  | 162 => 17
  | 167 => 5
  | 168 => 6
  | 170 => 8
  | 171 => 9
  | 172 => 10
  | 173 => 11
  | 214 => 15
  | 215 => 19
  | 216 => 20
  | 217 => 21
  | 218 => 22
  | 219 => 23
  | 238 => 31
  | 239 => 32
  | 240 => 36
  | 241 => 37
  | 242 => 39
  | 254 => 50
  | 255 => 51
  | 256 => 52
  | 257 => 62
  | 258 => 65
  | 261 => 74
  | 262 => 75
  | 285 => 49
  | _ => 0
theorem M14 : fnOk Tryd.prog (FD, nuD) tabs0 14 p14 = true := by kernel_rfl
theorem M29 : fnOk Tryd.prog (FD, nuD) tabs0 29 p29 = true := by kernel_rfl
theorem M31 : fnOk Tryd.prog (FD, nuD) tabs0 31 p31 = true := by kernel_rfl
theorem M38 : fnOk Tryd.prog (FD, nuD) tabs0 38 p38 = true := by kernel_rfl
theorem M39 : fnOk Tryd.prog (FD, nuD) tabs0 39 p39 = true := by kernel_rfl
theorem M40 : fnOk Tryd.prog (FD, nuD) tabs0 40 p40 = true := by kernel_rfl
theorem M43 : fnOk Tryd.prog (FD, nuD) tabs0 43 p43 = true := by kernel_rfl
theorem M47 : fnOk Tryd.prog (FD, nuD) tabs0 47 p47 = true := by kernel_rfl
theorem M54 : fnOk Tryd.prog (FD, nuD) tabs0 54 p54 = true := by kernel_rfl
theorem M55 : fnOk Tryd.prog (FD, nuD) tabs0 55 p55 = true := by kernel_rfl
theorem M56 : fnOk Tryd.prog (FD, nuD) tabs0 56 p56 = true := by kernel_rfl
theorem M57 : fnOk Tryd.prog (FD, nuD) tabs0 57 p57 = true := by kernel_rfl
theorem M63 : fnOk Tryd.prog (FD, nuD) tabs0 63 p63 = true := by kernel_rfl
theorem M64 : fnOk Tryd.prog (FD, nuD) tabs0 64 p64 = true := by kernel_rfl
theorem M65 : fnOk Tryd.prog (FD, nuD) tabs0 65 p65 = true := by kernel_rfl
theorem M66 : fnOk Tryd.prog (FD, nuD) tabs0 66 p66 = true := by kernel_rfl
theorem M68 : fnOk Tryd.prog (FD, nuD) tabs0 68 p68 = true := by kernel_rfl
theorem M71 : fnOk Tryd.prog (FD, nuD) tabs0 71 p71 = true := by kernel_rfl
theorem M72 : fnOk Tryd.prog (FD, nuD) tabs0 72 p72 = true := by kernel_rfl
theorem M73 : fnOk Tryd.prog (FD, nuD) tabs0 73 p73 = true := by kernel_rfl
theorem M74 : fnOk Tryd.prog (FD, nuD) tabs0 74 p74 = true := by kernel_rfl
theorem M75 : fnOk Tryd.prog (FD, nuD) tabs0 75 p75 = true := by kernel_rfl
theorem M76 : fnOk Tryd.prog (FD, nuD) tabs0 76 p76 = true := by kernel_rfl
theorem M77 : fnOk Tryd.prog (FD, nuD) tabs0 77 p77 = true := by kernel_rfl
theorem M79 : fnOk Tryd.prog (FD, nuD) tabs0 79 p79 = true := by kernel_rfl
theorem M80 : fnOk Tryd.prog (FD, nuD) tabs0 80 p80 = true := by kernel_rfl
theorem M81 : fnOk Tryd.prog (FD, nuD) tabs0 81 p81 = true := by kernel_rfl
theorem M82 : fnOk Tryd.prog (FD, nuD) tabs0 82 p82 = true := by kernel_rfl
theorem M83 : fnOk Tryd.prog (FD, nuD) tabs0 83 p83 = true := by kernel_rfl
theorem M86 : fnOk Tryd.prog (FD, nuD) tabs0 86 p86 = true := by kernel_rfl
theorem M87 : fnOk Tryd.prog (FD, nuD) tabs0 87 p87 = true := by kernel_rfl
theorem M88 : fnOk Tryd.prog (FD, nuD) tabs0 88 p88 = true := by kernel_rfl
theorem M89 : fnOk Tryd.prog (FD, nuD) tabs0 89 p89 = true := by kernel_rfl
theorem M90 : fnOk Tryd.prog (FD, nuD) tabs0 90 p90 = true := by kernel_rfl
theorem M91 : fnOk Tryd.prog (FD, nuD) tabs0 91 p91 = true := by kernel_rfl
theorem M92 : fnOk Tryd.prog (FD, nuD) tabs0 92 p92 = true := by kernel_rfl
theorem M94 : fnOk Tryd.prog (FD, nuD) tabs0 94 p94 = true := by kernel_rfl
theorem M95 : fnOk Tryd.prog (FD, nuD) tabs0 95 p95 = true := by kernel_rfl
theorem M96 : fnOk Tryd.prog (FD, nuD) tabs0 96 p96 = true := by kernel_rfl
theorem M97 : fnOk Tryd.prog (FD, nuD) tabs0 97 p97 = true := by kernel_rfl
theorem M106 : fnOk Tryd.prog (FD, nuD) tabs0 106 p106 = true := by kernel_rfl
theorem M107 : fnOk Tryd.prog (FD, nuD) tabs0 107 p107 = true := by kernel_rfl
theorem M108 : fnOk Tryd.prog (FD, nuD) tabs0 108 p108 = true := by kernel_rfl
theorem M109 : fnOk Tryd.prog (FD, nuD) tabs0 109 p109 = true := by kernel_rfl
theorem M110 : fnOk Tryd.prog (FD, nuD) tabs0 110 p110 = true := by kernel_rfl
theorem M111 : fnOk Tryd.prog (FD, nuD) tabs0 111 p111 = true := by kernel_rfl
theorem M112 : fnOk Tryd.prog (FD, nuD) tabs0 112 p112 = true := by kernel_rfl
theorem M113 : fnOk Tryd.prog (FD, nuD) tabs0 113 p113 = true := by kernel_rfl
theorem M114 : fnOk Tryd.prog (FD, nuD) tabs0 114 p114 = true := by kernel_rfl
theorem M115 : fnOk Tryd.prog (FD, nuD) tabs0 115 p115 = true := by kernel_rfl
theorem M116 : fnOk Tryd.prog (FD, nuD) tabs0 116 p116 = true := by kernel_rfl
theorem M117 : fnOk Tryd.prog (FD, nuD) tabs0 117 p117 = true := by kernel_rfl
theorem M118 : fnOk Tryd.prog (FD, nuD) tabs0 118 p118 = true := by kernel_rfl
theorem M119 : fnOk Tryd.prog (FD, nuD) tabs0 119 p119 = true := by kernel_rfl
theorem M120 : fnOk Tryd.prog (FD, nuD) tabs0 120 p120 = true := by kernel_rfl
theorem M122 : fnOk Tryd.prog (FD, nuD) tabs0 122 p122 = true := by kernel_rfl
theorem M127 : fnOk Tryd.prog (FD, nuD) tabs0 127 p127 = true := by kernel_rfl
theorem M128 : fnOk Tryd.prog (FD, nuD) tabs0 128 p128 = true := by kernel_rfl
theorem M129 : fnOk Tryd.prog (FD, nuD) tabs0 129 p129 = true := by kernel_rfl
theorem M130 : fnOk Tryd.prog (FD, nuD) tabs0 130 p130 = true := by kernel_rfl
theorem M131 : fnOk Tryd.prog (FD, nuD) tabs0 131 p131 = true := by kernel_rfl
theorem M137 : fnOk Tryd.prog (FD, nuD) tabs0 137 p137 = true := by kernel_rfl
theorem M138 : fnOk Tryd.prog (FD, nuD) tabs0 138 p138 = true := by kernel_rfl
theorem M139 : fnOk Tryd.prog (FD, nuD) tabs0 139 p139 = true := by kernel_rfl
theorem M140 : fnOk Tryd.prog (FD, nuD) tabs0 140 p140 = true := by kernel_rfl
theorem M141 : fnOk Tryd.prog (FD, nuD) tabs0 141 p141 = true := by kernel_rfl
theorem M144 : fnOk Tryd.prog (FD, nuD) tabs0 144 p144 = true := by kernel_rfl
theorem M162 : fnOk Tryd.prog (FD, nuD) tabs0 162 p162 = true := by kernel_rfl
theorem M167 : fnOk Tryd.prog (FD, nuD) tabs0 167 p167 = true := by kernel_rfl
theorem M168 : fnOk Tryd.prog (FD, nuD) tabs0 168 p168 = true := by kernel_rfl
theorem M170 : fnOk Tryd.prog (FD, nuD) tabs0 170 p170 = true := by kernel_rfl
theorem M171 : fnOk Tryd.prog (FD, nuD) tabs0 171 p171 = true := by kernel_rfl
theorem M172 : fnOk Tryd.prog (FD, nuD) tabs0 172 p172 = true := by kernel_rfl
theorem M173 : fnOk Tryd.prog (FD, nuD) tabs0 173 p173 = true := by kernel_rfl
theorem M214 : fnOk Tryd.prog (FD, nuD) tabs0 214 p214 = true := by kernel_rfl
theorem M215 : fnOk Tryd.prog (FD, nuD) tabs0 215 p215 = true := by kernel_rfl
theorem M216 : fnOk Tryd.prog (FD, nuD) tabs0 216 p216 = true := by kernel_rfl
theorem M217 : fnOk Tryd.prog (FD, nuD) tabs0 217 p217 = true := by kernel_rfl
theorem M218 : fnOk Tryd.prog (FD, nuD) tabs0 218 p218 = true := by kernel_rfl
theorem M219 : fnOk Tryd.prog (FD, nuD) tabs0 219 p219 = true := by kernel_rfl
theorem M238 : fnOk Tryd.prog (FD, nuD) tabs0 238 p238 = true := by kernel_rfl
theorem M239 : fnOk Tryd.prog (FD, nuD) tabs0 239 p239 = true := by kernel_rfl
theorem M240 : fnOk Tryd.prog (FD, nuD) tabs0 240 p240 = true := by kernel_rfl
theorem M241 : fnOk Tryd.prog (FD, nuD) tabs0 241 p241 = true := by kernel_rfl
theorem M242 : fnOk Tryd.prog (FD, nuD) tabs0 242 p242 = true := by kernel_rfl
theorem M254 : fnOk Tryd.prog (FD, nuD) tabs0 254 p254 = true := by kernel_rfl
theorem M255 : fnOk Tryd.prog (FD, nuD) tabs0 255 p255 = true := by kernel_rfl
theorem M256 : fnOk Tryd.prog (FD, nuD) tabs0 256 p256 = true := by kernel_rfl
theorem M257 : fnOk Tryd.prog (FD, nuD) tabs0 257 p257 = true := by kernel_rfl
theorem M258 : fnOk Tryd.prog (FD, nuD) tabs0 258 p258 = true := by kernel_rfl
theorem M261 : fnOk Tryd.prog (FD, nuD) tabs0 261 p261 = true := by kernel_rfl
theorem M262 : fnOk Tryd.prog (FD, nuD) tabs0 262 p262 = true := by kernel_rfl
theorem M285 : fnOk Tryd.prog (FD, nuD) tabs0 285 p285 = true := by kernel_rfl
theorem FD_ok (g : Nat) (p : PF) (h : FD g = some p) : fnOk Tryd.prog (FD, nuD) tabs0 g p = true ∧ FF g = some p := by
  unfold FD at h
  split at h
  · cases h; exact ⟨M14, rfl⟩
  · cases h; exact ⟨M29, rfl⟩
  · cases h; exact ⟨M31, rfl⟩
  · cases h; exact ⟨M38, rfl⟩
  · cases h; exact ⟨M39, rfl⟩
  · cases h; exact ⟨M40, rfl⟩
  · cases h; exact ⟨M43, rfl⟩
  · cases h; exact ⟨M47, rfl⟩
  · cases h; exact ⟨M54, rfl⟩
  · cases h; exact ⟨M55, rfl⟩
  · cases h; exact ⟨M56, rfl⟩
  · cases h; exact ⟨M57, rfl⟩
  · cases h; exact ⟨M63, rfl⟩
  · cases h; exact ⟨M64, rfl⟩
  · cases h; exact ⟨M65, rfl⟩
  · cases h; exact ⟨M66, rfl⟩
  · cases h; exact ⟨M68, rfl⟩
  · cases h; exact ⟨M71, rfl⟩
  · cases h; exact ⟨M72, rfl⟩
  · cases h; exact ⟨M73, rfl⟩
  · cases h; exact ⟨M74, rfl⟩
  · cases h; exact ⟨M75, rfl⟩
  · cases h; exact ⟨M76, rfl⟩
  · cases h; exact ⟨M77, rfl⟩
  · cases h; exact ⟨M79, rfl⟩
  · cases h; exact ⟨M80, rfl⟩
  · cases h; exact ⟨M81, rfl⟩
  · cases h; exact ⟨M82, rfl⟩
  · cases h; exact ⟨M83, rfl⟩
  · cases h; exact ⟨M86, rfl⟩
  · cases h; exact ⟨M87, rfl⟩
  · cases h; exact ⟨M88, rfl⟩
  · cases h; exact ⟨M89, rfl⟩
  · cases h; exact ⟨M90, rfl⟩
  · cases h; exact ⟨M91, rfl⟩
  · cases h; exact ⟨M92, rfl⟩
  · cases h; exact ⟨M94, rfl⟩
  · cases h; exact ⟨M95, rfl⟩
  · cases h; exact ⟨M96, rfl⟩
  · cases h; exact ⟨M97, rfl⟩
  · cases h; exact ⟨M106, rfl⟩
  · cases h; exact ⟨M107, rfl⟩
  · cases h; exact ⟨M108, rfl⟩
  · cases h; exact ⟨M109, rfl⟩
  · cases h; exact ⟨M110, rfl⟩
  · cases h; exact ⟨M111, rfl⟩
  · cases h; exact ⟨M112, rfl⟩
  · cases h; exact ⟨M113, rfl⟩
  · cases h; exact ⟨M114, rfl⟩
  · cases h; exact ⟨M115, rfl⟩
  · cases h; exact ⟨M116, rfl⟩
  · cases h; exact ⟨M117, rfl⟩
  · cases h; exact ⟨M118, rfl⟩
  · cases h; exact ⟨M119, rfl⟩
  · cases h; exact ⟨M120, rfl⟩
  · cases h; exact ⟨M122, rfl⟩
  · cases h; exact ⟨M127, rfl⟩
  · cases h; exact ⟨M128, rfl⟩
  · cases h; exact ⟨M129, rfl⟩
  · cases h; exact ⟨M130, rfl⟩
  · cases h; exact ⟨M131, rfl⟩
  · cases h; exact ⟨M137, rfl⟩
  · cases h; exact ⟨M138, rfl⟩
  · cases h; exact ⟨M139, rfl⟩
  · cases h; exact ⟨M140, rfl⟩
  · cases h; exact ⟨M141, rfl⟩
  · cases h; exact ⟨M144, rfl⟩
  · cases h; exact ⟨M162, rfl⟩
  · cases h; exact ⟨M167, rfl⟩
  · cases h; exact ⟨M168, rfl⟩
  · cases h; exact ⟨M170, rfl⟩
  · cases h; exact ⟨M171, rfl⟩
  · cases h; exact ⟨M172, rfl⟩
  · cases h; exact ⟨M173, rfl⟩
  · cases h; exact ⟨M214, rfl⟩
  · cases h; exact ⟨M215, rfl⟩
  · cases h; exact ⟨M216, rfl⟩
  · cases h; exact ⟨M217, rfl⟩
  · cases h; exact ⟨M218, rfl⟩
  · cases h; exact ⟨M219, rfl⟩
  · cases h; exact ⟨M238, rfl⟩
  · cases h; exact ⟨M239, rfl⟩
  · cases h; exact ⟨M240, rfl⟩
  · cases h; exact ⟨M241, rfl⟩
  · cases h; exact ⟨M242, rfl⟩
  · cases h; exact ⟨M254, rfl⟩
  · cases h; exact ⟨M255, rfl⟩
  · cases h; exact ⟨M256, rfl⟩
  · cases h; exact ⟨M257, rfl⟩
  · cases h; exact ⟨M258, rfl⟩
  · cases h; exact ⟨M261, rfl⟩
  · cases h; exact ⟨M262, rfl⟩
  · cases h; exact ⟨M285, rfl⟩
  · cases h
theorem followsD : Tryd.prog.follows .mixedOrders = true := by kernel_rfl
theorem callsD : CallsOk Tryd.prog (FD, nuD) tabs0 (R FF) := R_ok followsD FD_ok
end Go.Pe
set_option linter.unusedVariables false
set_option linter.unusedSimpArgs false
namespace Go.Pe
open Go
inductive CK where
  | int (k : IntKind)
  | bool
  | str
  | sl (cs : List CK)
  deriving Inhabited
inductive Fit : CK → AV → Prop
  | int {k n} (h : (Lit.int k n).wf = true) : Fit (.int k) (.i k n)
  | bool {b} : Fit .bool (.b b)
  | str {s : ByteArray} (h : s.size ≤ maxLen) : Fit .str (.s s)
  | sl {cs es} (hl : es.length ≤ maxLen) (hz : ∀ j, j < es.length → (es.getD j []).length = cs.length) (hv : ∀ j c, j < es.length → c < cs.length → Fit (cs.getD c default) ((es.getD j []).getD c .junk)) : Fit (.sl cs) (.l cs.length es)
def fieldsOk (r : TypeId → List CK → Bool) (P : Program) : List Field → Nat → List CK → Bool
  | [], _, cs => cs.isEmpty
  | f :: fs, o, cs => decide (f.offset = o) && decide (P.cellsOf f.type ≤ cs.length) && r f.type (cs.take (P.cellsOf f.type)) && fieldsOk r P fs (o + P.cellsOf f.type) (cs.drop (P.cellsOf f.type))
def tyOk (P : Program) : Nat → TypeId → List CK → Bool
  | 0, _, _ => false
  | n + 1, t, cs => match P.underlying t, cs with
    | some .bool, [.bool] => true
    | some (.int k), [.int k'] => decide (k = k')
    | some .string, [.str] => true
    | some (.slice e), [.sl ds] => decide (P.cellsOf e = ds.length) && decide (0 < ds.length) && tyOk P n e ds
    | some (.struct fs), cs => decide (cs.length = P.cellsOf t) && fieldsOk (tyOk P n) P fs.toList 0 cs
    | _, _ => false
structure CellsRv (w : World) (ks : List CK) (acs : List AV) (cs : List Value) : Prop where
  l1 : acs.length = ks.length
  l2 : cs.length = ks.length
  fit : ∀ c, c < ks.length → Fit (ks.getD c default) (acs.getD c .junk)
  rv : ∀ c, c < ks.length → Rv w (fun _ => False) Rho.none (acs.getD c .junk) (cs.getD c undef) ∧ (cs.getD c undef).oneCell' = true
theorem CellsRv.one {w : World} {k : CK} {x : AV} {v : Value} (h1 : Fit k x) (h2 : Rv w (fun _ => False) Rho.none x v) (h3 : v.oneCell' = true) : CellsRv w [k] [x] [v] := by
  refine ⟨rfl, rfl, fun c hc => ?_, fun c hc => ?_⟩
  · cases c with
    | zero => exact h1
    | succ c => simp at hc
  · cases c with
    | zero => exact ⟨h2, h3⟩
    | succ c => simp at hc
theorem CellsRv.append {w : World} {k1 k2 : List CK} {a1 a2 : List AV} {c1 c2 : List Value} (x : CellsRv w k1 a1 c1) (y : CellsRv w k2 a2 c2) : CellsRv w (k1 ++ k2) (a1 ++ a2) (c1 ++ c2) := by
  have g : ∀ {α : Type} (l m : List α) (i : Nat) (d : α), (l ++ m).getD i d = if i < l.length then l.getD i d else m.getD (i - l.length) d := by
    intro α l m i d
    simp only [List.getD_eq_getElem?_getD, List.getElem?_append]
    split <;> rfl
  refine ⟨by simp [x.l1, y.l1], by simp [x.l2, y.l2], fun c hc => ?_, fun c hc => ?_⟩
  · rw [g, g, x.l1]
    rw [List.length_append] at hc
    split
    · rename_i h; exact x.fit c h
    · exact y.fit _ (by omega)
  · rw [g, g, x.l1, x.l2]
    rw [List.length_append] at hc
    split
    · rename_i h; exact x.rv c h
    · exact y.rv _ (by omega)
section
variable {H : Type} {enc : TypeId × Value → H} {P : Program} {w : World} {base : Nat} {spare : Nat → Bool} {held : Bool}
theorem fields_rv {fuel : Nat} {r : TypeId → List CK → Bool} (ih : ∀ t cs x ks, DataW.trod enc P w base spare held fuel t cs = some x → r t ks = true → ∃ acs, CellsRv w ks acs cs) {cs : List Value} : ∀ (fs : List Field) (o : Nat) (ks : List CK), fieldsOk r P fs o ks = true →
    (∀ f ∈ fs, ∃ y, DataW.trod enc P w base spare held fuel f.type ((cs.drop f.offset).take (P.cellsOf f.type)) = some y) → cs.length = o + ks.length → ∃ acs, CellsRv w ks acs (cs.drop o) := by
  intro fs
  induction fs with
  | nil =>
    intro o ks hf _ hl
    have : ks = [] := by simpa [fieldsOk] using hf
    subst this
    rw [List.drop_of_length_le (by simp at hl; omega)]
    exact ⟨[], rfl, rfl, fun c hc => (by cases hc), fun c hc => (by cases hc)⟩
  | cons f fs ihf =>
    intro o ks hf hy hl
    simp only [fieldsOk, Bool.and_eq_true, decide_eq_true_eq] at hf
    obtain ⟨⟨⟨h1, h2⟩, h3⟩, h4⟩ := hf
    obtain ⟨y, hy1⟩ := hy f List.mem_cons_self
    rw [h1] at hy1
    obtain ⟨a1, r1⟩ := ih _ _ _ _ hy1 h3
    obtain ⟨a2, r2⟩ := ihf _ _ h4 (fun f hf => hy f (List.mem_cons_of_mem _ hf)) (by rw [List.length_drop]; omega)
    have := r1.append r2
    rw [List.take_append_drop] at this
    refine ⟨a1 ++ a2, ?_⟩
    have e : (cs.drop o).take (P.cellsOf f.type) ++ cs.drop (o + P.cellsOf f.type) = cs.drop o := by
      rw [← List.drop_drop, List.take_append_drop]
    rw [e] at this
    exact this
theorem choose_list {α : Type} (d : α) {n : Nat} {Q : Nat → α → Prop} (h : ∀ j, j < n → ∃ x, Q j x) : ∃ l : List α, l.length = n ∧ ∀ j, j < n → Q j (l.getD j d) := by
  induction n with
  | zero => exact ⟨[], rfl, fun j hj => by cases hj⟩
  | succ n ih =>
    obtain ⟨l, h1, h2⟩ := ih fun j hj => h j (by omega)
    obtain ⟨x, hx⟩ := h n (by omega)
    refine ⟨l ++ [x], by simp [h1], fun j hj => ?_⟩
    rcases Nat.lt_or_ge j n with hlt | hge
    · rw [List.getD_eq_getElem?_getD, List.getElem?_append_left (by omega), ← List.getD_eq_getElem?_getD]
      exact h2 j hlt
    · have : j = n := by omega
      subst this
      rw [List.getD_eq_getElem?_getD, List.getElem?_append_right (by omega), h1, Nat.sub_self]
      exact hx
theorem cells?_each {a : Addr} {n : Nat} {l : List Value} (h : w.cells? base a n = some l) : l.length = n ∧ ∀ i, i < n → w.cell? (a.add i) = l[i]? := by
  unfold World.cells? at h
  split at h
  · exact ⟨by simpa using mapM_some_length h, fun i hi => by simpa using mapM_some_get h i i (by simp [hi])⟩
  · cases h
theorem spot_none {a : Addr} {v : Value} (h : w.cell? a = some v) : a.spot = none := by
  unfold World.cell? at h
  split at h
  · cases hs : a.spot with
    | none => rfl
    | some s => rw [hs] at h; simp at h
  · cases h
theorem cell_lt {a : Addr} {v : Value} (h : w.cell? a = some v) : a.block < w.heap.size := by
  unfold World.cell? at h
  split at h
  · rename_i c e fr hc
    exact (Array.getElem?_eq_some_iff.1 hc).1
  · cases h
theorem trod_rv : ∀ (fuel n : Nat) (t : TypeId) (cs : List Value) (x : DataW H × List MemPlace) (ks : List CK), DataW.trod enc P w base spare held fuel t cs = some x → tyOk P n t ks = true → ∃ acs, CellsRv w ks acs cs := by
  intro fuel
  induction fuel with
  | zero => intro n t cs x ks h; simp [DataW.trod] at h
  | succ fuel ih =>
    intro n t cs x ks h hty
    cases n with
    | zero => simp [tyOk] at hty
    | succ n =>
      have h0 := h
      unfold tyOk at hty
      split at hty
      · rename_i hu
        unfold DataW.trod at h
        rw [hu] at h
        split at h <;> simp_all
        exact ⟨_, .one .bool .b rfl⟩
      · rename_i k k' hu
        simp only [decide_eq_true_eq] at hty
        subst hty
        unfold DataW.trod at h
        rw [hu] at h
        split at h <;> simp_all
        obtain ⟨⟨rfl, hw⟩, _⟩ := h
        exact ⟨_, .one (.int hw) .i rfl⟩
      · rename_i hu
        unfold DataW.trod at h
        rw [hu] at h
        split at h <;> simp_all
        exact ⟨_, .one (.str h.1) .s rfl⟩
      · rename_i e ds hu
        simp only [Bool.and_eq_true, decide_eq_true_eq] at hty
        obtain ⟨⟨hz, hpos⟩, hty⟩ := hty
        rcases DataW.trod_slice hu h0 with ⟨rfl, _⟩ | ⟨a, len, cap, elems, rest, m, hm, rfl, _, hb, hl, hc, hlen, hel, _, _⟩
        · exact ⟨[.l ds.length []], .one (.sl (Nat.zero_le _) (fun j hj => by cases hj) (fun j c hj => by cases hj)) .lnil0 rfl⟩
        · have : m = fuel := by omega
          subst this
          rcases Nat.eq_zero_or_pos len with hz0 | hpos0
          · subst hz0
            exact ⟨[.l ds.length []], .one (.sl (Nat.zero_le _) (fun j hj => by cases hj) (fun j c hj => by cases hj)) (.lnil (fun h => by cases h) hc) rfl⟩
          · have each : ∀ i, i < len → ∃ acs, ∃ ci : List Value, CellsRv w ds acs ci ∧ ∀ c, c < ds.length → w.cell? ((a.add (i * ds.length)).add c) = ci[c]? := by
              intro i hi
              have h1 := hel i hi
              rw [hz] at h1
              have h2 : ∃ y, elems[i]? = some y := ⟨elems[i]'(by omega), List.getElem?_eq_getElem (by omega)⟩
              obtain ⟨y, hy⟩ := h2
              rw [hy, Option.bind_eq_some_iff] at h1
              obtain ⟨ci, h3, h4⟩ := h1
              obtain ⟨acs, h5⟩ := ih n e ci y ds h4 hty
              exact ⟨acs, ci, h5, (cells?_each h3).2⟩
            obtain ⟨es, hes, hq⟩ := choose_list (α := List AV) [] each
            have first : ∃ v, w.cell? ((a.add (0 * ds.length)).add 0) = some v := by
              obtain ⟨ci, h1, h2⟩ := hq 0 hpos0
              have h3 := h2 0 hpos
              rw [List.getElem?_eq_getElem (by rw [h1.l2]; exact hpos)] at h3
              exact ⟨_, h3⟩
            obtain ⟨v0, hv0⟩ := first
            have hsp := spot_none hv0
            rw [show (a.add (0 * ds.length)).add 0 = a by simp [Addr.add]] at hsp
            obtain ⟨ab, ao, asp⟩ := a
            simp only at hsp
            subst hsp
            have hlt := cell_lt hv0
            rw [add_at, add_at] at hlt
            have hcell : ∀ j c, j < es.length → c < ds.length → ∃ v, w.cell? ⟨ab, ao + j * ds.length + c, none⟩ = some v ∧ v.oneCell' = true ∧ Rv w (fun _ => False) Rho.none ((es.getD j []).getD c .junk) v := by
              intro j c hj hc'
              obtain ⟨ci, h1, h2⟩ := hq j (by omega)
              have h3 := h2 c hc'
              rw [add_at, add_at] at h3
              have h4 := h1.rv c hc'
              rw [List.getElem?_eq_getElem (by rw [h1.l2]; exact hc')] at h3
              have h5 : ci.getD c undef = ci[c]'(by rw [h1.l2]; exact hc') := by
                rw [List.getD_eq_getElem?_getD, List.getElem?_eq_getElem (by rw [h1.l2]; exact hc')]; rfl
              rw [h5] at h4
              exact ⟨_, h3, h4.2, h4.1⟩
            refine ⟨[.l ds.length es], .one (.sl (by omega) (fun j hj => ?_) (fun j c hj hc' => ?_)) ?_ rfl⟩
            · obtain ⟨ci, h1, h2⟩ := hq j (by omega)
              exact h1.l1
            · obtain ⟨ci, h1, h2⟩ := hq j (by omega)
              exact h1.fit c hc'
            · have := Rv.l (w := w) (T := fun _ => False) (ρ := Rho.none) (z := ds.length) (es := es) (b := ab) (base := ao) (cap := cap) (fun j c => (w.cell? ⟨ab, ao + j * ds.length + c, none⟩).getD undef) (fun h => h) hlt (by omega) hc
                (fun j hj => by
                  obtain ⟨ci, h1, h2⟩ := hq j (by omega)
                  exact h1.l1)
                (fun j c hj hc' => by
                  obtain ⟨v, h1, h2, h3⟩ := hcell j c hj hc'
                  rw [h1]
                  exact ⟨rfl, h2⟩)
                (fun j c hj hc' => by
                  obtain ⟨v, h1, h2, h3⟩ := hcell j c hj hc'
                  rw [h1]
                  exact h3)
              rw [hes] at this
              exact this
      · rename_i ks _ _ fs hu
        simp only [Bool.and_eq_true, decide_eq_true_eq] at hty
        obtain ⟨hl, hty⟩ := hty
        have h1 : cs.length = P.cellsOf t ∧ ∀ f ∈ fs.toList, ∃ y, DataW.trod enc P w base spare held fuel f.type ((cs.drop f.offset).take (P.cellsOf f.type)) = some y := by
          unfold DataW.trod at h
          rw [hu] at h
          simp only at h
          split at h
          · rename_i hcl
            simp only [Option.map_eq_some_iff] at h
            obtain ⟨ys, hys, _⟩ := h
            refine ⟨hcl, fun f hf => ?_⟩
            obtain ⟨i, hi, rfl⟩ := List.getElem_of_mem hf
            have h2 := mapM_some_get hys i _ (List.getElem?_eq_getElem hi)
            have h3 := mapM_some_length hys
            exact ⟨_, h2.trans (List.getElem?_eq_getElem (by omega))⟩
          · cases h
        obtain ⟨acs, h2⟩ := fields_rv (fun t cs x ks => ih n t cs x ks) fs.toList 0 ks hty h1.2 (by omega)
        rw [List.drop_zero] at h2
        exact ⟨acs, h2⟩
      · cases hty
end
end Go.Pe
set_option linter.unusedVariables false
set_option linter.unusedSimpArgs false
namespace Go.Pe
open Go
theorem Old.below {w w' : World} (h : Old w w') : RowKit.Below w.heap.size w w' := ⟨h.os, h.tape, h.output, h.size, h.block⟩
theorem law_calls {P : Program} {F : Fns} {C : Call} {tabs : List (Nat × List AV)} (hC : CallsOk P F tabs C) {g : Nat} {p : PF} (hg : F.1 g = some p) (hl : p.lent = []) (hk : ∀ x ∈ p.res, x.2 ≤ 1) {xs : List AV} {r : AV} (har : xs.length = arOf P (F.2 g)) (hr : C g xs = some r) {w : World} {vs : Array Value}
    (ht : ∀ q ∈ tabs, Rv w (fun _ => False) Rho.none (.tp q.2 0) (.pointer (some ⟨q.1, 0, none⟩))) (hvl : vs.size = xs.length) (hx : ∀ j, j < xs.length → Rv w (fun _ => False) Rho.none (xs.getD j .junk) (vs.getD j undef)) :
    Calls P (F.2 g) vs w fun e w' => ∃ v, e = .returned v ∧ Old w w' ∧ Rv w' (fun _ => False) Rho.none (demoteT r) v := by
  have hc := hC g p xs r hg har hr
  rw [hl] at hc
  have k : WInv ⟨w, fun _ _ => False, fun _ => False, [], fun _ => ⟨0, 0, none⟩, tabs, fun _ => False, fun _ h => (by cases h), fun _ h => h.elim⟩ w (fun _ => False) Rho.none Heap.none :=
    ⟨Keeps.refl _ _, fun b hb => hb.elim, fun _ _ h => (by cases h), fun _ _ => rfl, fun _ _ _ _ _ h => (by cases h), fun _ _ _ _ _ h => (by cases h), fun b hb => hb.elim, fun _ h => (by cases h), fun _ _ _ _ _ _ h => (by cases h), fun b hb => hb.elim, fun _ h => (by cases h), ht⟩
  exact call_told k hk hc hvl hx
theorem law_true {P : Program} {F : Fns} {C : Call} {tabs : List (Nat × List AV)} (hC : CallsOk P F tabs C) {g : Nat} {p : PF} (hg : F.1 g = some p) (hl : p.lent = []) (hk : ∀ x ∈ p.res, x.2 ≤ 1) {xs : List AV} (har : xs.length = arOf P (F.2 g)) (hr : C g xs = some (.b true)) {w : World} {vs : Array Value}
    (ht : ∀ q ∈ tabs, Rv w (fun _ => False) Rho.none (.tp q.2 0) (.pointer (some ⟨q.1, 0, none⟩))) (hvl : vs.size = xs.length) (hx : ∀ j, j < xs.length → Rv w (fun _ => False) Rho.none (xs.getD j .junk) (vs.getD j undef)) :
    Calls P (F.2 g) vs w fun e w' => e = .returned (.bool true) ∧ RowKit.Below w.heap.size w w' := by
  refine (law_calls hC hg hl hk har hr ht hvl hx).mono fun e w' hh => ?_
  obtain ⟨v, rfl, ho, hv⟩ := hh
  have h2 : Rv w' (fun _ => False) Rho.none (.b true) v := hv
  cases h2
  exact ⟨rfl, ho.below⟩
def isStr (P : Program) (t : TypeId) : Bool := match P.underlying t with
  | some (.struct _) => true
  | _ => false
theorem CellsRv.single {w : World} {ks : List CK} {acs : List AV} {v : Value} (h : CellsRv w ks acs [v]) : Rv w (fun _ => False) Rho.none (acs.getD 0 .junk) v := by
  have h2 := h.l2
  exact (h.rv 0 (by simp at h2; omega)).1
theorem arg_rv {H : Type} {enc : TypeId × Value → H} {P : Program} {w : World} {base b0 : Nat} {spare : Nat → Bool} {held : Bool} {r : Reach} {t : TypeId} {v : Value} {d : DataW H} {ps : List MemPlace} {n : Nat} {ks : List CK}
    (hval : Value.okWide P w r b0 t v) (hd : DataW.Trod enc P w base spare held t v d ps) (hty : tyOk P (n + 1) t ks = true) :
    ∃ acs : List AV, acs.length = ks.length ∧ (∀ c, c < ks.length → Fit (ks.getD c default) (acs.getD c .junk)) ∧ Rv w (fun _ => False) Rho.none (if isStr P t then .agg acs else acs.getD 0 .junk) v := by
  obtain ⟨fuel, hf⟩ := hd
  obtain ⟨acs, h⟩ := trod_rv fuel (n + 1) t _ _ ks hf hty
  refine ⟨acs, h.l1, h.fit, ?_⟩
  unfold tyOk at hty
  unfold isStr
  split at hty
  · rename_i hu
    obtain ⟨b, rfl⟩ := WideShapes.okWide_bool hu hval
    rw [hu]
    exact h.single
  · rename_i k k' hu
    obtain ⟨m, rfl⟩ := WideShapes.okWide_int hu hval
    rw [hu]
    exact h.single
  · rename_i hu
    obtain ⟨m, rfl⟩ := WideShapes.okWide_string hu hval
    rw [hu]
    exact h.single
  · rename_i e ds hu
    obtain ⟨a, len, cap, rfl⟩ := WideShapes.okWide_slice hu hval
    rw [hu]
    exact h.single
  · rename_i ks _ _ fs hu
    obtain ⟨cs, rfl, hcs⟩ := WideShapes.okWide_struct hu hval
    rw [hu]
    have h' : CellsRv w ks acs cs.toList := h
    refine .agg cs (by rw [h'.l1, ← h'.l2]; simp) (fun c hc => ?_) fun c hc => ?_
    · rw [toList_getD]; exact (h'.rv c (by rw [← h'.l1]; exact hc)).2
    · rw [toList_getD]; exact (h'.rv c (by rw [← h'.l1]; exact hc)).1
  · cases hty
theorem Fit.inv_int {k : IntKind} {x : AV} (h : Fit (.int k) x) : ∃ n, x = .i k n ∧ (Lit.int k n).wf = true := by cases h; exact ⟨_, rfl, by assumption⟩
theorem Fit.inv_bool {x : AV} (h : Fit .bool x) : ∃ b, x = .b b := by cases h; exact ⟨_, rfl⟩
theorem Fit.inv_sl {ks : List CK} {x : AV} (h : Fit (.sl ks) x) {α : Type} [Inhabited α] (f : α → List AV) (Q : α → Prop) (hf : ∀ acs : List AV, acs.length = ks.length → (∀ c, c < ks.length → Fit (ks.getD c default) (acs.getD c .junk)) → ∃ a, acs = f a ∧ Q a) :
    ∃ l : List α, x = .l ks.length (l.map f) ∧ l.length ≤ maxLen ∧ ∀ a ∈ l, Q a := by
  cases h with
  | @sl _ es hl hz hv =>
    have each : ∀ j, j < es.length → ∃ a, es.getD j [] = f a ∧ Q a := fun j hj => hf _ (hz j hj) fun c hc => hv j c hj hc
    obtain ⟨l, h1, h2⟩ := choose_list (α := α) default each
    have e : es = l.map f := by
      apply List.ext_getElem (by simp [h1])
      intro j hj hj2
      have := (h2 j hj).1
      rw [List.getD_eq_getElem?_getD, List.getElem?_eq_getElem hj, List.getD_eq_getElem?_getD, List.getElem?_eq_getElem (by omega)] at this
      simpa using this
    refine ⟨l, by rw [← e], by omega, fun a ha => ?_⟩
    obtain ⟨j, hj, rfl⟩ := List.getElem_of_mem ha
    have := (h2 j (by omega)).2
    rw [List.getD_eq_getElem?_getD, List.getElem?_eq_getElem hj] at this
    simpa using this
end Go.Pe
set_option linter.unusedVariables false
set_option linter.unusedSimpArgs false
namespace Go.Pe
open Go
theorem maxLen_eq : maxLen = maxL := by decide
abbrev Fits (ks : List CK) (acs : List AV) : Prop := acs.length = ks.length ∧ ∀ c, c < ks.length → Fit (ks.getD c default) (acs.getD c .junk)
theorem Fits.one {k : CK} {acs : List AV} (h : Fits [k] acs) : ∃ x, acs = [x] ∧ Fit k x := by
  obtain ⟨h1, h2⟩ := h
  match acs, h1 with
  | [x], _ => exact ⟨x, rfl, h2 0 (by simp)⟩
theorem Fits.cons {k : CK} {ks : List CK} {acs : List AV} (h : Fits (k :: ks) acs) : ∃ x r, acs = x :: r ∧ Fit k x ∧ Fits ks r := by
  obtain ⟨h1, h2⟩ := h
  match acs, h1 with
  | x :: r, h1 => exact ⟨x, r, rfl, h2 0 (by simp), by simpa using h1, fun c hc => by simpa using h2 (c + 1) (by simpa using hc)⟩
theorem Fits.nil {acs : List AV} (h : Fits [] acs) : acs = [] := List.length_eq_zero_iff.1 h.1
theorem Fits.split {k1 k2 : List CK} {acs : List AV} (h : Fits (k1 ++ k2) acs) : ∃ a b, acs = a ++ b ∧ Fits k1 a ∧ Fits k2 b := by
  obtain ⟨h1, h2⟩ := h
  rw [List.length_append] at h1 h2
  refine ⟨acs.take k1.length, acs.drop k1.length, (List.take_append_drop _ _).symm, ⟨by rw [List.length_take]; omega, fun c hc => ?_⟩, ⟨by rw [List.length_drop]; omega, fun c hc => ?_⟩⟩
  · have := h2 c (by omega)
    rw [List.getD_eq_getElem?_getD, List.getElem?_append_left hc, ← List.getD_eq_getElem?_getD] at this
    rw [show (List.take k1.length acs).getD c AV.junk = acs.getD c AV.junk by rw [List.getD_eq_getElem?_getD, List.getElem?_take_of_lt hc, ← List.getD_eq_getElem?_getD]]
    exact this
  · have := h2 (k1.length + c) (by omega)
    rw [List.getD_eq_getElem?_getD, List.getElem?_append_right (by omega), ← List.getD_eq_getElem?_getD, Nat.add_sub_cancel_left] at this
    rw [show (List.drop k1.length acs).getD c AV.junk = acs.getD (k1.length + c) AV.junk by rw [List.getD_eq_getElem?_getD, List.getElem?_drop, ← List.getD_eq_getElem?_getD]]
    exact this
theorem open_list {ks : List CK} {x : AV} (h : Fit (.sl ks) x) {α : Type} [Inhabited α] (f : α → List AV) (Q : α → Prop) (hf : ∀ acs, Fits ks acs → ∃ a, acs = f a ∧ Q a) : ∃ l : List α, x = .l ks.length (l.map f) ∧ l.length ≤ maxL ∧ ∀ a ∈ l, Q a := by
  obtain ⟨l, h1, h2, h3⟩ := h.inv_sl f Q fun acs h1 h2 => hf acs ⟨h1, h2⟩
  exact ⟨l, h1, by rw [← maxLen_eq]; exact h2, h3⟩
def kN : CK := .sl [.int .u64]
theorem open_N {x : AV} (h : Fit kN x) : ∃ l : List Int, x = .l 1 (l.map u) ∧ U l ∧ l.length ≤ maxL := by
  obtain ⟨l, h1, h2, h3⟩ := open_list h u (fun x => 0 ≤ x ∧ x ≤ 18446744073709551615) fun acs ha => by
    obtain ⟨y, rfl, hy⟩ := ha.one
    obtain ⟨n, rfl, hn⟩ := hy.inv_int
    exact ⟨n, rfl, wf_u64 hn⟩
  exact ⟨l, h1, h3, h2⟩
end Go.Pe
set_option linter.unusedVariables false
set_option linter.unusedSimpArgs false
namespace Go.Pe
open Go
def kQ : List CK := [.bool, kN, kN]
theorem open_Q {acs : List AV} (h : Fits kQ acs) : ∃ x, acs = eQ x ∧ OkQ x := by
  obtain ⟨a, r, rfl, h1, h⟩ := h.cons
  obtain ⟨b, r, rfl, h2, h⟩ := h.cons
  obtain ⟨c, rfl, h3⟩ := h.one
  obtain ⟨q, rfl⟩ := h1.inv_bool
  obtain ⟨l, rfl, g1, g2⟩ := open_N h2
  obtain ⟨d, rfl, g3, g4⟩ := open_N h3
  exact ⟨(q, l, d), rfl, ⟨g1, g2⟩, g3, g4⟩
theorem open_LQ {x : AV} (h : Fit (.sl kQ) x) : ∃ l : List RQt, x = .l 3 (l.map eQ) ∧ l.length ≤ maxL ∧ ∀ a ∈ l, OkQ a := open_list h eQ OkQ fun acs ha => open_Q ha
end Go.Pe
namespace Go.Proofs.YtmdlpmhkpnobeaaDoor.growLosses
open Go.Pe
open Go.ChangeShapes Go.WideShapes Go.ChangeAt Go.RowKit
set_option linter.unusedVariables false
theorem own : ownKnob Tryd.prog.godebug = none := by kernel_rfl
theorem laidOut : laidOutB Tryd.prog = true := by kernel_rfl
def laid : List (String × DataW Unit) := [("math/bits.deBruijn64tab", Rows.laid_math_bits_deBruijn64tab)]
def tz : List Int := tab0.map fun | .i _ n => n | _ => 0
theorem tab_rv {W : World} (h : laidMetH Tryd.prog laid W) : Rv W (fun _ => False) Rho.none (.tp tab0 0) (.pointer (some ⟨0, 0, none⟩)) := by
  rw [MakeChecks.laidMetH_plain _ _ _ (by kernel_rfl)] at h
  obtain ⟨ps, ⟨g, t, cs, fuel, p, q, hg, ht, hv, hd, _, _⟩, _, _⟩ := h
  obtain rfl := Option.some.inj ((show Tryd.prog.globalNamed "math/bits.deBruijn64tab" = some 0 by kernel_rfl).symm.trans hg)
  obtain rfl := Option.some.inj ((show (Tryd.prog.globals[0]?).map (·.type) = some 136 by kernel_rfl).symm.trans ht)
  obtain ⟨xs, m, _, ex, _, hl, hel⟩ := DataW.trod_array Tryd.underlying136 hd
  have cE : Tryd.prog.cellsOf 5 = 1 := by kernel_rfl
  have hlen : tz.length = 64 := by decide
  have e0 : (xs.map (·.1)) = tz.map fun n => .lit (.int .u8 n) := (DataW.agg.inj (Prod.mk.inj ex).1).symm
  have cell : ∀ r, r < 64 → W.cell? ⟨0, r, none⟩ = some (.int .u8 (tz.getD r 0)) := by
    intro r hr
    have hE := hel r hr
    rw [cE, Nat.mul_one, List.getElem?_eq_getElem (by omega)] at hE
    obtain ⟨z, e1, e2, _⟩ := DataW.trod_int Tryd.underlying5 hE
    have e4 : (xs.map (·.1))[r]? = (tz.map fun n => (DataW.lit (.int .u8 n) : DataW Unit))[r]? := by rw [e0]
    rw [List.getElem?_map, List.getElem?_map, List.getElem?_eq_getElem (by omega : r < xs.length), List.getElem?_eq_getElem (by omega : r < tz.length), e2] at e4
    have hz : z = tz.getD r 0 := by
      simp only [Option.map_some, Option.some.injEq, DataW.lit.injEq, Lit.int.injEq, true_and] at e4
      rw [e4, List.getD, List.getElem?_eq_getElem (by omega : r < tz.length)]; rfl
    rw [World.var?_cell hg hv r, ← hz]
    have : cs.toList[r]? = some (.int .u8 z) := by
      have h0 : ((cs.toList.drop r).take 1)[0]? = some (.int .u8 z) := by rw [e1]; rfl
      simpa using h0
    simpa using this
  have hb : 0 < W.heap.size := by
    have h0 := cell 0 (by decide)
    rcases Nat.lt_or_ge 0 W.heap.size with h | h
    · exact h
    · unfold World.cell? at h0; rw [Array.getElem?_eq_none h] at h0; cases h0
  refine Rv.tp (o := 0) (base := 0) (fun c => .int .u8 (tz.getD c 0)) (fun h => h) hb (fun c hc => ?_) fun c hc => ?_
  · rw [Nat.zero_add]; exact ⟨cell c hc, rfl⟩
  · have e : tab0 = tz.map (AV.i .u8) := rfl
    have hc' : c < tz.length := by rw [hlen]; exact hc
    rw [e, List.getD_eq_getElem?_getD, List.getElem?_map, List.getD_eq_getElem?_getD, List.getElem?_eq_getElem hc']
    exact Rv.i
set_option maxRecDepth 100000 in
theorem lifted (os : Os) (started : os.Started) (H : Type) (enc : TypeId × Value → H) :
    ReturnsInHanded {} Tryd.checked os 4 .any (fun w args => (Rows.growLossesSpec.pre enc Tryd.prog Tryd.f4 Rows.growLossesRow.domain false w args ∧ laidMetH Tryd.prog laid w) ∧ sizedMet enc Tryd.prog Tryd.f4 (OpenSpec.ofChange Rows.growLossesSpec) false w args) (Rows.growLossesSpec.post enc Tryd.prog Tryd.f4 false true false false) := by
  refine returnsInHanded_of_change_and (C := Tryd.checked) (X := fun w _ => laidMetH Tryd.prog laid w) (fun _ _ _ hh h => h.of_heap hh) own started (by kernel_rfl) Tryd.func4
    (ChangeSpec.witness_shaped (enc := enc) (C := Tryd.checked) (os := os) (X := fun w _ => laidMetH Tryd.prog laid w) false (World.laidAll Tryd.prog os laid) #[.slice none 0 0] 8 (World.laidAll_os _ _ _)
      (World.shaped_of_ZipB (by kernel_rfl) (by kernel_rfl)) (by kernel_rfl) (by kernel_rfl) (by kernel_rfl) (by rw [MakeChecks.laidMetH_plain _ _ _ (by kernel_rfl)]; exact laidMet_laidAll _ (by kernel_rfl) (by kernel_rfl))) ?_
  intro W base args ds gs before hval0 hW hcnd hsz0 hL _
  have hval : ∀ (j : Nat) t v, Tryd.f4.params[j]? = some t → args[j]? = some v → Value.okWide Tryd.prog W .any base t v := hval0
  have hW' := hW
  obtain ⟨p, q, hA0, hV, rfl, hfz, hnd⟩ := hW
  have hA : DataW.TrodAll enc Tryd.prog W 0 (fun _ => true) true Tryd.f4.params.toList args.toList ds p := hA0
  rw [Tryd.params4] at hA hval
  obtain ⟨v0, vs0, d0, ds0, pl0, ql0, hargs, rfl, rfl, h0, r0⟩ := trodAll_cons hA
  obtain ⟨rfl, rfl, rfl⟩ := trodAll_nil r0
  obtain rfl : args = #[v0] := by cases args; simp_all
  obtain ⟨rfl, rfl⟩ := trodVars_none hV
  have lt0 : ∀ x ∈ pl0, x.block < W.heap.size := by obtain ⟨m, hm⟩ := h0; exact DataW.trod_lt m _ _ _ hm
  obtain ⟨acs0, la0, fa0, rv0⟩ := arg_rv (n := 12) (ks := [.sl kQ]) (hval 0 23 v0 rfl rfl) h0 (by kernel_rfl)
  rw [show isStr Tryd.prog 23 = false by kernel_rfl] at rv0
  obtain ⟨y0, rfl, fy0⟩ := Fits.one ⟨la0, fa0⟩
  obtain ⟨x0, rfl, ok0⟩ := open_LQ fy0
  clear hA0 hval0 hsz0
  have hlaw := law_GrowLosses x0 ok0
  have hx : ∀ j, j < 1 → Rv W (fun _ => False) Rho.none ([AV.l 3 (x0.map eQ)].getD j .junk) (#[v0].getD j undef) := by
    intro j hj
    match j, hj with
    | 0, _ => exact rv0
  refine (law_true (F := (FD, nuD)) callsD (g := 144) (p := p144) rfl rfl (by decide) (by kernel_rfl) hlaw (w := W) (vs := #[v0]) (fun q hq => by obtain rfl := List.mem_singleton.1 hq; exact tab_rv hL) rfl hx).mono fun e W' ⟨he, bel⟩ => ?_
  subst he
  exact ⟨_, rfl, _, _, _, [], _, [], hW', trodAll_mk1 (shut_bool Tryd.underlying4 _), (trodAll_cons_mk (Below.trod laidOut (by kernel_rfl) (of_decide_eq_true (by kernel_rfl)) h0 bel lt0) trodAll_mk0), rfl, bel.frame _, fun h => by cases h⟩
theorem over : Rows.growLossesRow.holds Tryd.pinned (OpenSpec.ofChange Rows.growLossesSpec) :=
  OpenClaim.holds_of_wide 4 Tryd.f4 rfl rfl rfl rfl rfl rfl rfl ⟨rfl, rfl, rfl, rfl, rfl⟩ rfl rfl rfl rfl rfl (by kernel_rfl) Tryd.func4 (by kernel_rfl)
    (of_decide_eq_true (by kernel_rfl)) (by unfold Func.isWrapper; first | (rw [if_pos (by decide +kernel)]; kernel_rfl) | (rw [if_neg (by decide +kernel)]; exact ⟨rfl, rfl⟩))
    (fun os started H enc _ => lifted os started H enc)
theorem proved : Rows.GrowLossesCardSaid :=
  Claim7.holds_tied_plain_at .later [] [.data] true (true, "29609df87e41c80542653e6faa708e5941954dcd0b246c33437d1c03eae6bab7") false over (fun _ h => by cases h) (by kernel_rfl) (fun _ h => by cases h) growLosses_row_tie rfl ⟨rfl, rfl⟩ (by kernel_rfl) rfl
    (fun f fn hf hfn => by
      obtain rfl : f = 4 := Option.some.inj ((show Tryd.prog.funcNamed "dendron/dendronlaw26.GrowLosses" = some 4 by kernel_rfl).symm.trans hf) |>.symm
      obtain rfl : fn = Tryd.f4 := (Option.some.inj (Tryd.func4.symm.trans hfn)).symm
      exact ⟨by kernel_rfl, fun j t ht => by
        rw [Tryd.params4] at ht
        have hm : t ∈ [23] := by simpa using Array.mem_of_getElem? ht
        have hall : ([23].all fun u => !Tryd.prog.wantsStandIn u) = true := by kernel_rfl
        exact (show Tryd.prog.wantsStandIn t = false by simpa using List.all_eq_true.1 hall t hm)⟩)
    (by kernel_rfl)
#print axioms proved
end Go.Proofs.YtmdlpmhkpnobeaaDoor.growLosses
namespace Go.Proofs.YtmdlpmhkpnobeaaDoor
theorem growLosses_holds : Rows.GrowLossesCardSaid := growLosses.proved
end Go.Proofs.YtmdlpmhkpnobeaaDoor
