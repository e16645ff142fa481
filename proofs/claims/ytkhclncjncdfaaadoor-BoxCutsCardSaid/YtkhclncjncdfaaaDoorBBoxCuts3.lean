/- Part 3 of the texts of BoxCuts: words, the machine's side of functions (written by a program), plain lemmas. -/
import Derived.Test.YtkhclncjncdfaaaDoorBBoxCuts2
import Derived.Great.BuildSlice
import Derived.Laws.BytesString
import Derived.Orders
import Derived.Deep.LoopGhost
set_option linter.unusedVariables false
set_option linter.unusedSimpArgs false
set_option linter.unusedVariables false
set_option linter.unusedSimpArgs false
namespace Go.Pe
open Go
def Turns (P : Program) (f : Fr) (o : Oper) (a : Act) (w : World) (T : Nat → Prop) (ρ : Rho) (av : AV) (h' : Heap) : Prop :=
  ∃ v w' T' ρ', ((execOp a.eval o).run P w = .ok (.value v) w' ∨ ((execOp a.eval o).run P w = .ok .skip w' ∧ v = undef)) ∧ WInv f w' T' ρ' h' ∧ Goes w w' T T' ρ ρ' ∧ Rv w' T' ρ' av v
section
variable {P : Program} {f : Fr} {w : World} {T : Nat → Prop} {ρ : Rho} {h : Heap} {e : Nat → AV} {a : Act} {o : Oper}
theorem cell_new (w : World) (c : Array Value) (t : TypeId) (i : Nat) : (w.alloc (.cells c t)).cell? ⟨w.heap.size, i, none⟩ = c[i]? := World.cell?_alloc_new w c t i
theorem new_st (k : WInv f w T ρ h) {id : Nat} (hid : h id = none) {cs : List AV} {vs : Array Value} {t : TypeId} (hl : vs.size = cs.length)
    (hv : ∀ c, c < cs.length → Rv w T ρ (cs.getD c .junk) (vs.getD c undef) ∧ (vs.getD c undef).oneCell' = true) :
    ∃ T' ρ', WInv f (w.alloc (.cells vs t)) T' ρ' (h.put id (.st cs)) ∧ Goes w (w.alloc (.cells vs t)) T T' ρ ρ' ∧ Rv (w.alloc (.cells vs t)) T' ρ' (.p id 0 0) (.pointer (some ⟨w.heap.size, 0, none⟩)) := by
  have ho := Old.alloc w (.cells vs t)
  obtain ⟨k', g⟩ := k.new ho hid (x := .st cs) (z := cs.length) (n := 1) (base := 0) (b := w.heap.size) (by simp) (Nat.le_refl _) (by simp) (fun T' ρ' ht hless hmore hρ => by
    refine ⟨w.heap.size, 0, vs, t, hρ, ht, heap_alloc_new w _, by omega, ⟨fun j hj => ?_, fun j c hj hc => ?_⟩⟩
    · cases j with
      | zero => rfl
      | succ j => simp at hj
    · cases j with
      | zero =>
        have h1 : vs[c]? = some (vs.getD c undef) := by
          have : c < vs.size := by omega
          simp [this]
        refine ⟨vs.getD c undef, ?_, (hv c hc).2, (hv c hc).1.mono (ho.same T) hless hmore⟩
        rw [Nat.zero_mul, Nat.add_zero, Nat.zero_add, cell_new, h1]
      | succ j => simp at hj)
  refine ⟨_, _, k', g, ?_⟩
  have := Rv.p (w := w.alloc (.cells vs t)) (T := fun a => T a ∨ a = w.heap.size) (ρ := fun r => if r = id then some ⟨cs.length, 1, some (w.heap.size, 0)⟩ else ρ r) (e := 0) (o := 0) (if_pos rfl)
  simpa using this
theorem op_alloc (k : WInv f w T ρ h) {t : TypeId} {i : TypeInfo} {zv : Value} {id : Nat} {z : List AV} {av : AV} {h' : Heap} (call : Call) (ho : o.op = .alloc t) (hi : P.info? t = some i) (hz : i.zero = some zv) (hm : mvs zv.cells.toList z = true)
    (hv : PO.ev call (.alloc id z) e h = some (av, h')) : Turns P f o a w T ρ av h' := by
  simp only [PO.ev] at hv
  split at hv
  · rename_i hid
    cases hv
    obtain ⟨h1, h2⟩ := mvs_rv (w := w) (T := T) (ρ := ρ) hm
    obtain ⟨T', ρ', k', g, r⟩ := new_st (t := t) k (by simpa using hid) (cs := z) (vs := zv.cells) (by rw [← h1]; simp) fun c hc => by rw [toList_getD]; exact h2 c hc
    refine ⟨_, _, T', ρ', .inl ?_, k', g, r⟩
    simp [execOp, ho, Instr.alloc, run_zeroValue hi hz, newVar, newRow]
  · cases hv
theorem cells_rv {x : AV} {v : Value} (r : Rv w T ρ x v) (hp0 : 0 < x.cells.length) : v.cells.size = x.cells.length ∧ ∀ c, c < x.cells.length → Rv w T ρ (x.cells.getD c .junk) (v.cells.getD c undef) ∧ (v.cells.getD c undef).oneCell' = true := by
  have one : ∀ {y : AV} {u : Value}, Rv w T ρ y u → y.cells = [y] → u.cells = #[u] → u.oneCell' = true → u.cells.size = y.cells.length ∧ ∀ c, c < y.cells.length → Rv w T ρ (y.cells.getD c .junk) (u.cells.getD c undef) ∧ (u.cells.getD c undef).oneCell' = true := by
    intro y u hr h1 h2 h3
    rw [h1, h2]
    refine ⟨rfl, fun c hc => ?_⟩
    cases c with
    | zero => exact ⟨hr, h3⟩
    | succ c => simp at hc
  cases r with
  | agg vs hl h1 hv => exact ⟨hl, fun c hc => ⟨hv c hc, h1 c hc⟩⟩
  | junk => simp [AV.cells] at hp0
  | tup => simp [AV.cells] at hp0
  | b => exact one .b rfl rfl rfl
  | i => exact one .i rfl rfl rfl
  | s => exact one .s rfl rfl rfl
  | np => exact one .np rfl rfl rfl
  | ns => exact one .ns rfl rfl rfl
  | lnil ha hm => exact one (.lnil ha hm) rfl rfl rfl
  | l g hT hb hc hm hz hcell hv => exact one (.l g hT hb hc hm hz hcell hv) rfl rfl rfl
  | tp g hT hb hcell hv => exact one (.tp g hT hb hcell hv) rfl rfl rfl
  | sl hr hn hc hm hs => exact one (.sl hr hn hc hm hs) rfl rfl rfl
  | slz hr hn => exact one (.slz hr hn) rfl rfl rfl
  | slnil hr => exact one (.slnil hr) rfl rfl rfl
  | p hr => exact one (.p hr) rfl rfl rfl
theorem op_box (k : WInv f w T ρ h) (he : Env w T ρ e a) {t : TypeId} {x : Operand} {x' : At} {id sz : Nat} {av : AV} {h' : Heap} (call : Call) (ho : o.op = .box t x) (hsz : 0 < sz) (h1 : ma f.tabs x x' = true)
    (hv : PO.ev call (.box id sz x') e h = some (av, h')) : Turns P f o a w T ρ av h' := by
  have r1 := ma_rv k he h1
  simp only [PO.ev] at hv
  split at hv
  · rename_i hid
    cases hv
    obtain ⟨h2, h3⟩ := cells_rv r1 (by omega)
    obtain ⟨T', ρ', k', g, r⟩ := new_st (t := t) k (by simpa using hid.2) (cs := (x'.ev e).cells) (vs := (a.eval x).cells) h2 h3
    refine ⟨_, _, T', ρ', .inl ?_, k', g, r⟩
    simp [execOp, ho, Instr.box, newVar, newRow]
  · cases hv
theorem new_sl (k : WInv f w T ρ h) {w' : World} (ho : Old w w') {id : Nat} (hid : h id = none) {z : Nat} {es : List (List AV)} {cur : Array Value} {t : TypeId} {b : Nat} (hb : w.heap.size ≤ b) (hcur : w'.heap[b]? = some (Obj.cells cur t (0, 0))) (hsz : es.length * z ≤ cur.size) {cap : Nat} (hcap : es.length ≤ cap) (hm : cap ≤ maxLen) (hcs : cap * z ≤ cur.size)
    (hl : ∀ j, j < es.length → (es.getD j []).length = z) (hv : ∀ j c, j < es.length → c < z → Rv w T Rho.none ((es.getD j []).getD c .junk) (cur.getD (j * z + c) undef) ∧ (cur.getD (j * z + c) undef).oneCell' = true) :
    ∃ T' ρ', WInv f w' T' ρ' (h.put id (.sl true z es)) ∧ Goes w w' T T' ρ ρ' ∧ Rv w' T' ρ' (.sl id z 0 es.length) (.slice (some ⟨b, 0, none⟩) es.length cap) := by
  have hlt := lt_of_cells hcur
  obtain ⟨k', g⟩ := k.new ho hid (x := .sl true z es) (z := z) (n := es.length) (base := 0) (b := b) (by omega) hb hlt (fun T' ρ' ht hless hmore hρ => by
    refine .inr ⟨b, 0, cur, t, hρ, ht, hcur, by omega, fun _ => rfl, ⟨hl, fun j c hj hc => ?_⟩⟩
    have hlt2 : j * z + c < cur.size := by
      have := Nat.mul_le_mul_right z (show j + 1 ≤ es.length by omega)
      rw [Nat.add_mul] at this
      omega
    have h1 : cur[j * z + c]? = some (cur.getD (j * z + c) undef) := by simp [hlt2]
    refine ⟨cur.getD (j * z + c) undef, ?_, (hv j c hj hc).2, (hv j c hj hc).1.mono (ho.same T) hless fun _ _ h => h⟩
    simp only [World.cell?, hcur, Nat.zero_add]
    exact h1)
  refine ⟨_, _, k', g, ?_⟩
  have := Rv.sl (w := w') (T := fun a => T a ∨ a = b) (ρ := fun r => if r = id then some ⟨z, es.length, some (b, 0)⟩ else ρ r) (r := id) (o := 0) (n := es.length) (cap := cap) (if_pos rfl) (by omega) hcap hm ⟨cur, t, (0, 0), hcur, by rw [Nat.zero_add, Nat.zero_add]; exact hcs⟩
  simpa using this
theorem getD_replicate {α : Type} (n : Nat) (x d : α) (j : Nat) (hj : j < n) : (List.replicate n x).getD j d = x := by
  rw [List.getD_eq_getElem?_getD, List.getElem?_replicate, if_pos hj]; rfl
theorem made_getD (z : Array Value) (n j c : Nat) (hc : c < z.size) (hj : j * z.size + c < n) : (madeCells z n).getD (j * z.size + c) undef = z.getD c undef := by
  unfold madeCells
  have h0 : (j * z.size + c) % z.size = c := by rw [Nat.mul_comm, Nat.mul_add_mod, Nat.mod_eq_of_lt hc]
  have h1 : ((Array.range n).map (fun i => z[i % z.size]!))[j * z.size + c]? = some (z[c]!) := by
    rw [Array.getElem?_map, Array.getElem?_range]
    simp [hj, h0]
  rw [show ((Array.range n).map (fun i => z[i % z.size]!)).getD (j * z.size + c) undef = z[c]! by
    rw [← Array.getElem?_eq_some_iff.1 h1 |>.2]
    simp [hj]]
  simp [hc]
theorem op_mk (k : WInv f w T ρ h) (he : Env w T ρ e a) {t el : TypeId} {i : TypeInfo} {zv : Value} {x : Operand} {x' : At} {id sz bytes : Nat} {z : List AV} {av : AV} {h' : Heap} (call : Call) (ho : o.op = .makeSlice t x x) (hu : P.underlying t = some (.slice el)) (hi : P.info? el = some i) (hz : i.zero = some zv)
    (hsz : i.size = sz) (hpos : 0 < sz) (hby : i.bytes = bytes) (hbp : 0 < bytes) (hm : mvs zv.cells.toList z = true) (hzl : z.length = sz) (h1 : ma f.tabs x x' = true)
    (hv : PO.ev call (.mk id sz bytes z x') e h = some (av, h')) : Turns P f o a w T ρ av h' := by
  have r1 := ma_rv k he h1
  simp only [PO.ev] at hv
  split at hv
  · rename_i n hq
    split at hv
    · rename_i hcond
      obtain ⟨g0, g1, hid⟩ := hcond
      cases hv
      rw [hq] at r1
      obtain ⟨h2, h3⟩ := mvs_rv (w := w) (T := T) (ρ := Rho.none) hm
      have hzs : zv.cells.size = sz := by rw [← hzl, ← h2]; simp
      have hnb : (i.bytes : Int) * n ≤ 281474976710656 := by
        rw [hby]
        have : ((n.toNat * bytes : Nat) : Int) ≤ 281474976710656 := Int.ofNat_le.2 g1
        rw [Int.natCast_mul, Int.toNat_of_nonneg g0, Int.mul_comm] at this
        exact this
      have hn63 : n.toNat ≤ 281474976710656 := Nat.le_trans (Nat.le_mul_of_pos_right _ hbp) g1
      have hr := run_make (P := P) w t el i zv hu hi hz .i64 .i64 n n g0 (Int.le_refl _) hnb (by omega)
      rw [hsz] at hr
      have hcurs : (madeCells zv.cells (n.toNat * sz)).size = n.toNat * sz := size_madeCells _ _
      obtain ⟨T', ρ', k', g, r⟩ := new_sl (w' := w.alloc (.cells (madeCells zv.cells (n.toNat * sz)) el)) (t := el) k (Old.alloc w _) (by simpa using hid) (z := sz) (es := List.replicate n.toNat z) (Nat.le_refl _) (heap_alloc_new w _) (by rw [List.length_replicate, hcurs]; exact Nat.le_refl _) (cap := n.toNat) (by rw [List.length_replicate]; exact Nat.le_refl _) (by simp only [maxLen]; omega) (by rw [hcurs]; exact Nat.le_refl _)
        (fun j hj => by rw [List.length_replicate] at hj; rw [getD_replicate _ _ _ _ hj]; exact hzl)
        (fun j c hj hc => by
          rw [List.length_replicate] at hj
          rw [getD_replicate _ _ _ _ hj]
          have hlt : j * sz + c < n.toNat * sz := by
            have := Nat.mul_le_mul_right sz (show j + 1 ≤ n.toNat by omega)
            rw [Nat.add_mul] at this
            omega
          have := made_getD zv.cells (n.toNat * sz) j c (by omega) (by rw [hzs]; exact hlt)
          rw [hzs] at this
          rw [this, toList_getD]
          exact h3 c (by omega))
      rw [List.length_replicate] at r
      refine ⟨_, _, T', ρ', .inl ?_, k', g, r⟩
      simp only [execOp, ho, inv_i r1, Sem.run_bind, hr, Result.andThen_ok, Sem.run_pure]
    · cases hv
  · cases hv
end
end Go.Pe
set_option linter.unusedVariables false
set_option linter.unusedSimpArgs false
namespace Go.Pe
open Go
def mparts (tabs : List (Nat × List AV)) : List (Nat × Operand) → List (Nat × At) → Bool
  | [], [] => true
  | (i, x) :: l, (j, y) :: m => i == j && ma tabs x y && mparts tabs l m
  | _, _ => false
def laid (off : Nat) (vs : Array Value) (C : Array Value) : Array Value := vs.zipIdx.foldl (fun cs (c, j) => cs.setIfInBounds (off + j) c) C
theorem laid_list (off : Nat) : ∀ (l : List Value) (k : Nat) (C : Array Value),
    ((l.zipIdx k).foldl (fun cs (p : Value × Nat) => cs.setIfInBounds (off + p.2) p.1) C).size = C.size ∧
    ∀ m, ((l.zipIdx k).foldl (fun cs (p : Value × Nat) => cs.setIfInBounds (off + p.2) p.1) C)[m]? = if off + k ≤ m ∧ m < off + k + l.length ∧ m < C.size then l[m - (off + k)]? else C[m]?
  | [], k, C => ⟨rfl, fun m => by simp; intro h1 h2; omega⟩
  | v :: l, k, C => by
    obtain ⟨h1, h2⟩ := laid_list off l (k + 1) (C.setIfInBounds (off + k) v)
    simp only [List.zipIdx_cons, List.foldl_cons]
    refine ⟨by rw [h1]; simp, fun m => ?_⟩
    rw [h2]
    simp only [Array.size_setIfInBounds, List.length_cons]
    by_cases hm : m = off + k
    · subst hm
      rw [if_neg (by omega)]
      by_cases hs : off + k < C.size
      · rw [if_pos (by omega), Array.getElem?_setIfInBounds_self_of_lt hs]
        simp
      · rw [if_neg (by omega), Array.getElem?_eq_none (by simp; omega), Array.getElem?_eq_none (by omega)]
    · by_cases hin : off + (k + 1) ≤ m ∧ m < off + (k + 1) + l.length ∧ m < C.size
      · rw [if_pos hin, if_pos (by omega), show m - (off + k) = (m - (off + (k + 1))) + 1 by omega, List.getElem?_cons_succ]
      · rw [if_neg hin, if_neg (by omega), Array.getElem?_setIfInBounds_ne (by omega)]
theorem laid_get (off : Nat) (vs C : Array Value) : (laid off vs C).size = C.size ∧ ∀ m, (laid off vs C)[m]? = if off ≤ m ∧ m < off + vs.size ∧ m < C.size then vs[m - off]? else C[m]? := by
  have h := laid_list off vs.toList 0 C
  have e : laid off vs C = ((vs.toList.zipIdx 0).foldl (fun cs (p : Value × Nat) => cs.setIfInBounds (off + p.2) p.1) C) := by
    unfold laid
    rw [← Array.foldl_toList]
    rw [Array.toList_zipIdx]
  rw [e]
  refine ⟨h.1, fun m => ?_⟩
  rw [h.2 m]
  simp
theorem fill_cons (place : Nat → Option (Nat × Nat)) (C : Array Value) (i : Nat) (v : Value) (rest : List (Nat × Value)) {off sz : Nat} (hp : place i = some (off, sz)) (h1 : v.cells.size = sz) (h2 : off + sz ≤ C.size) :
    Instr.fill place C ((i, v) :: rest) = Instr.fill place (laid off v.cells C) rest := by
  simp only [Instr.fill, hp, h1, laid]
  rw [if_neg]
  simp only [ne_eq, not_true_eq_false, decide_false, Bool.false_or, decide_eq_true_eq, Bool.or_eq_true, false_or]
  omega
section
variable {P : Program} {f : Fr} {w : World} {T T' : Nat → Prop} {ρ : Rho} {h : Heap} {e : Nat → AV} {a : Act} {o : Oper}
structure Good (w : World) (T : Nat → Prop) (n z : Nat) (L : List (List AV)) (C : Array Value) : Prop where
  len : L.length = n
  size : C.size = n * z
  el : ∀ j, j < n → (L.getD j []).length = z
  rv : ∀ j c, j < n → c < z → Rv w T Rho.none ((L.getD j []).getD c .junk) (C.getD (j * z + c) undef) ∧ (C.getD (j * z + c) undef).oneCell' = true
theorem getD_of {C : Array Value} {m : Nat} {v : Value} (h : C[m]? = some v) : C.getD m undef = v := by
  have := (Array.getElem?_eq_some_iff.1 h)
  simp [this.1, this.2]
theorem in_row {n z j c : Nat} (hj : j < n) (hc : c < z) : j * z + c < n * z := by
  have := Nat.mul_le_mul_right z (show j + 1 ≤ n by omega)
  rw [Nat.add_mul] at this
  omega
theorem other_row {z i j c : Nat} (hne : i ≠ j) (hc : c < z) : ¬ (i * z ≤ j * z + c ∧ j * z + c < i * z + z) := by
  rintro ⟨h1, h2⟩
  rcases Nat.lt_or_gt_of_ne hne with h3 | h3
  · have := Nat.mul_le_mul_right z (show i + 1 ≤ j by omega)
    rw [Nat.add_mul] at this
    omega
  · have := Nat.mul_le_mul_right z (show j + 1 ≤ i by omega)
    rw [Nat.add_mul] at this
    omega
theorem getD_set_same {α : Type} {L : List α} {j : Nat} (x d : α) (h : j < L.length) : (L.set j x).getD j d = x := by
  rw [List.getD_eq_getElem?_getD, List.getElem?_set_self h]; rfl
theorem getD_set_other {α : Type} {L : List α} {i j : Nat} (x d : α) (h : i ≠ j) : (L.set i x).getD j d = L.getD j d := by
  rw [List.getD_eq_getElem?_getD, List.getElem?_set_ne h, ← List.getD_eq_getElem?_getD]
theorem Good.part {n z : Nat} {L : List (List AV)} {C : Array Value} (g : Good w T n z L C) {j : Nat} (hj : j < n) {cs : List AV} {vs : Array Value} (hl : vs.size = z) (hc : cs.length = z) (hv : ∀ c, c < z → Rv w T Rho.none (cs.getD c .junk) (vs.getD c undef) ∧ (vs.getD c undef).oneCell' = true) :
    Good w T n z (L.set j cs) (laid (j * z) vs C) := by
  obtain ⟨h1, h2⟩ := laid_get (j * z) vs C
  refine ⟨by rw [List.length_set]; exact g.len, h1.trans g.size, fun i hi => ?_, fun i c hi hc' => ?_⟩
  · by_cases hij : j = i
    · subst hij
      rw [getD_set_same _ _ (by rw [g.len]; exact hj)]
      exact hc
    · rw [getD_set_other _ _ hij]
      exact g.el i hi
  · have hlt := in_row hi hc'
    by_cases hij : j = i
    · subst hij
      rw [getD_set_same _ _ (by rw [g.len]; exact hj)]
      have : (laid (j * z) vs C)[j * z + c]? = some (vs.getD c undef) := by
        rw [h2, if_pos (by rw [g.size]; omega), Nat.add_sub_cancel_left]
        have : c < vs.size := by omega
        simp [this]
      rw [getD_of this]
      exact hv c hc'
    · rw [getD_set_other _ _ hij]
      have : (laid (j * z) vs C)[i * z + c]? = some (C.getD (i * z + c) undef) := by
        rw [h2, if_neg (fun hh => other_row hij hc' ⟨hh.1, by omega⟩)]
        have : i * z + c < C.size := by rw [g.size]; exact hlt
        simp [this]
      rw [getD_of this]
      exact g.rv i c hi hc'
theorem bsl_fill (k : WInv f w T ρ h) (he : Env w T ρ e a) (hless : ∀ b, b < w.heap.size → T' b → T b) {n z : Nat} (hz : 0 < z) : ∀ (parts : List (Nat × Operand)) (ps : List (Nat × At)) (L : List (List AV)) (C : Array Value) {L' : List (List AV)},
    mparts f.tabs parts ps = true → (∀ p ∈ ps, ∀ r ∈ ref1 h (p.2.ev e), ∀ b, rowBlk h ρ r b → ¬ T' b) → Good w T' n z L C → bslV e h z L ps = some L' →
    ∃ C', Instr.fill (fun i => some (i * z, z)) C (parts.map fun p => (p.1, a.eval p.2)) = some C' ∧ Good w T' n z L' C'
  | [], [], L, C, L', _, _, g, hb => by
    simp only [bslV, Option.some.injEq] at hb
    subst hb
    exact ⟨C, rfl, g⟩
  | (i, x) :: parts, (j, y) :: ps, L, C, L', hm, hr, g, hb => by
    simp only [mparts, Bool.and_eq_true, beq_iff_eq] at hm
    obtain ⟨⟨rfl, hm1⟩, hm2⟩ := hm
    simp only [bslV] at hb
    split at hb
    · rename_i hcond
      obtain ⟨c1, c2⟩ := hcond
      have r1 := ma_rv k he hm1
      obtain ⟨h2, h3⟩ := cells_rv r1 (by omega)
      rw [g.len] at c2
      have g' := g.part c2 (vs := (a.eval x).cells) (cs := (y.ev e).cells.map (tellC h)) (by omega) (by rw [List.length_map]; exact c1) fun c hc => by
        rw [getD_map_lt (tellC h) _ c .junk .junk (by omega)]
        obtain ⟨h4, h5⟩ := h3 c (by omega)
        refine ⟨tellC_rv k.rows hless h4 (fun r hr' => hr _ List.mem_cons_self r ?_) (one_of_cell h4 h5).1 (one_of_cell h4 h5).2, h5⟩
        have hmem : (y.ev e).cells.getD c .junk ∈ (y.ev e).cells := getD_mem _ (by omega)
        show r ∈ ref1 h (y.ev e)
        revert hmem hr'
        generalize (y.ev e).cells.getD c .junk = q
        generalize y.ev e = u
        intro hr' hmem
        cases u <;> simp only [AV.cells, List.mem_singleton] at hmem <;> first
          | (subst hmem; exact hr')
          | exact List.mem_flatMap.2 ⟨q, hmem, hr'⟩
          | cases hmem
      obtain ⟨C', h6, h7⟩ := bsl_fill k he hless hz parts ps _ _ hm2 (fun p hp => hr p (List.mem_cons_of_mem _ hp)) g' hb
      refine ⟨C', ?_, h7⟩
      show Instr.fill _ _ ((i, a.eval x) :: _) = _
      rw [fill_cons (fun i => some (i * z, z)) C i (a.eval x) _ rfl (by omega) (by rw [g.size]; have := in_row c2 (show z - 1 < z by omega); omega)]
      exact h6
    · cases hb
  | [], _ :: _, _, _, _, hm, _, _, _ => by simp [mparts] at hm
  | _ :: _, [], _, _, _, hm, _, _, _ => by simp [mparts] at hm
theorem op_bsl (k : WInv f w T ρ h) (he : Env w T ρ e a) {t el : TypeId} {n : Nat} {parts : Array (Nat × Operand)} {i : TypeInfo} {zv : Value} {id sz : Nat} {z : List AV} {ps : List (Nat × At)} {av : AV} {h' : Heap} (call : Call) (ho : o.op = .buildSlice t n parts) (hu : P.underlying t = some (.slice el)) (hi : P.info? el = some i) (hz : i.zero = some zv)
    (hsz : i.size = sz) (hpos : 0 < sz) (hsmall : n * sz ≤ 16777216) (hm : mvs zv.cells.toList z = true) (hzl : z.length = sz) (hp : mparts f.tabs parts.toList ps = true)
    (hv : PO.ev call (.bsl id sz z n ps) e h = some (av, h')) : Turns P f o a w T ρ av h' := by
  simp only [PO.ev] at hv
  split at hv
  · rename_i hid
    simp only [Option.map_eq_some_iff] at hv
    obtain ⟨es, hb, hcv⟩ := hv
    cases hcv
    obtain ⟨T1, k1, g1, hfree, _⟩ := k.freeze (ps.flatMap fun p => ref1 h (p.2.ev e))
    obtain ⟨h2, h3⟩ := mvs_rv (w := w) (T := T1) (ρ := Rho.none) hm
    have hzs : zv.cells.size = sz := by rw [← hzl, ← h2]; simp
    have good0 : Good w T1 n sz (List.replicate n z) (madeCells zv.cells (n * sz)) := by
      refine ⟨List.length_replicate, size_madeCells _ _, fun j hj => by rw [getD_replicate _ _ _ _ hj]; exact hzl, fun j c hj hc => ?_⟩
      rw [getD_replicate _ _ _ _ hj]
      have := made_getD zv.cells (n * sz) j c (by omega) (by rw [hzs]; exact in_row hj hc)
      rw [hzs] at this
      rw [this, toList_getD]
      exact h3 c (by omega)
    obtain ⟨C', hf, gd⟩ := bsl_fill k he g1.less hpos parts.toList ps _ _ hp (fun p hp r hr => hfree r (List.mem_flatMap.2 ⟨p, hp, hr⟩)) good0 hb
    obtain ⟨T2, ρ2, k2, g2, r2⟩ := new_sl (w' := w.alloc (.cells C' el)) (t := el) k1 (Old.alloc w _) (id := id) (by rw [freeze_none]; simpa using hid) (z := sz) (es := es) (Nat.le_refl _) (heap_alloc_new w _) (by rw [gd.size, gd.len]; exact Nat.le_refl _) (cap := n) (by rw [gd.len]; exact Nat.le_refl _) (by have := Nat.le_mul_of_pos_right n hpos; simp only [maxLen]; omega) (by rw [gd.size]; exact Nat.le_refl _)
      (fun j hj => gd.el j (by rw [← gd.len]; exact hj)) (fun j c hj hc => gd.rv j c (by rw [← gd.len]; exact hj) hc)
    rw [gd.len] at r2
    refine ⟨_, _, T2, ρ2, .inl ?_, k2, g1.trans g2, r2⟩
    have hr : (Instr.buildSlice t n (parts.map fun (i, x) => (i, a.eval x))).run P w = .ok (.slice (some ⟨w.heap.size, 0, none⟩) n n) (w.alloc (.cells C' el)) := by
      by_cases hn : n * i.size = 0
      · have hn0 : n = 0 := by
          rcases Nat.mul_eq_zero.1 hn with h9 | h9
          · exact h9
          · omega
        subst hn0
        have hps : parts.toList = [] := by
          cases hpl : parts.toList with
          | nil => rfl
          | cons p l =>
            rw [hpl] at hp
            cases ps with
            | nil => simp [mparts] at hp
            | cons q ps =>
              simp only [bslV, List.replicate_zero, List.length_nil, Nat.not_lt_zero, and_false, if_false] at hb
              cases hb
        have hpa : parts = #[] := by
          apply Array.ext'
          rw [hps]
        subst hpa
        have hC : C' = #[] := by
          apply Array.eq_empty_of_size_eq_zero
          rw [gd.size]; simp
        subst hC
        simp [Instr.buildSlice, run_underlying hu, run_sizeOf' (show szT P el = some i.size by simp [szT, hi]), Instr.fill, newRow]
        have h0 : Array.range 0 = #[] := rfl
        rw [h0, Array.map_empty]
      · refine run_buildSlice w t el n _ C' i zv hu hi hz (by rw [hsz]; omega) hn ?_
        rw [hsz]
        have : (parts.map fun (i, x) => (i, a.eval x)).toList = parts.toList.map fun p => (p.1, a.eval p.2) := by simp
        rw [this]
        exact hf
    simp only [execOp, ho, Sem.run_bind, hr, Result.andThen_ok, Sem.run_pure]
  · cases hv
end
end Go.Pe
set_option linter.unusedVariables false
set_option linter.unusedSimpArgs false
namespace Go.Pe
open Go
section
variable {P : Program} {f : Fr} {w : World} {T T' : Nat → Prop} {ρ : Rho} {h : Heap} {e : Nat → AV} {a : Act} {o : Oper}
theorem run_places (fs : Array Field) (g : Field → Nat) (hs : ∀ x ∈ fs.toList, szT P x.type = some (g x)) : (fs.mapM fun x => (do pure (x.offset, ← sizeOf x.type) : Sem (Nat × Nat))).run P w = .ok (fs.map fun x => (x.offset, g x)) w := by
  have key : ∀ l : List Field, (∀ x ∈ l, szT P x.type = some (g x)) → (l.mapM fun x => (do pure (x.offset, ← sizeOf x.type) : Sem (Nat × Nat))).run P w = .ok (l.map fun x => (x.offset, g x)) w := by
    intro l
    induction l with
    | nil => intro _; simp
    | cons x l ih =>
      intro hl
      simp only [List.mapM_cons, Sem.run_bind, run_sizeOf' (hl x List.mem_cons_self), Result.andThen_ok, Sem.run_pure, ih fun y hy => hl y (List.mem_cons_of_mem _ hy), List.map_cons]
  rw [Array.mapM_eq_mapM_toList, Sem.run_map, key fs.toList hs]
  simp only [Result.andThen_ok]
  congr 1
  apply Array.ext'
  simp
def mfields (P : Program) (tabs : List (Nat × List AV)) (place : Nat → Option (Nat × Nat)) : List (Nat × Operand) → List (Nat × Nat × At) → Bool
  | [], [] => true
  | (i, x) :: l, (off, sz, y) :: m => decide (place i = some (off, sz)) && ma tabs x y && mfields P tabs place l m && decide (0 < sz)
  | _, _ => false
structure GoodB (w : World) (T : Nat → Prop) (ρ : Rho) (z : List AV) (C : Array Value) : Prop where
  size : C.size = z.length
  rv : ∀ c, c < z.length → Rv w T ρ (z.getD c .junk) (C.getD c undef) ∧ (C.getD c undef).oneCell' = true
theorem fillC_get {z cs : List AV} {off : Nat} (hle : off + cs.length ≤ z.length) : (fillC z off cs).length = z.length ∧ ∀ c, (fillC z off cs).getD c .junk = if off ≤ c ∧ c < off + cs.length then cs.getD (c - off) .junk else z.getD c .junk := by
  refine ⟨by simp [fillC]; omega, fun c => ?_⟩
  simp only [fillC, List.getD_eq_getElem?_getD]
  by_cases h1 : c < off
  · rw [if_neg (by omega), List.append_assoc, List.getElem?_append_left (by rw [List.length_take]; omega), List.getElem?_take_of_lt h1]
  · by_cases h2 : c < off + cs.length
    · rw [if_pos (by omega), List.append_assoc, List.getElem?_append_right (by rw [List.length_take]; omega), List.length_take, Nat.min_eq_left (by omega), List.getElem?_append_left (by omega)]
    · rw [if_neg (by omega), List.getElem?_append_right (by rw [List.length_append, List.length_take]; omega), List.getElem?_drop]
      congr 2
      rw [List.length_append, List.length_take]
      omega
theorem GoodB.part {z : List AV} {C : Array Value} (g : GoodB w T ρ z C) {off : Nat} {cs : List AV} {vs : Array Value} (hl : vs.size = cs.length) (hle : off + cs.length ≤ z.length) (hv : ∀ c, c < cs.length → Rv w T ρ (cs.getD c .junk) (vs.getD c undef) ∧ (vs.getD c undef).oneCell' = true) :
    GoodB w T ρ (fillC z off cs) (laid off vs C) := by
  obtain ⟨h1, h2⟩ := laid_get off vs C
  obtain ⟨h3, h4⟩ := fillC_get hle
  refine ⟨by rw [h1, h3, g.size], fun c hc => ?_⟩
  rw [h3] at hc
  rw [h4]
  by_cases hin : off ≤ c ∧ c < off + cs.length
  · rw [if_pos hin]
    have : (laid off vs C)[c]? = some (vs.getD (c - off) undef) := by
      rw [h2, if_pos (by rw [g.size]; omega)]
      have : c - off < vs.size := by omega
      simp [this]
    rw [getD_of this]
    exact hv _ (by omega)
  · rw [if_neg hin]
    have : (laid off vs C)[c]? = some (C.getD c undef) := by
      rw [h2, if_neg (by rw [hl]; omega)]
      have : c < C.size := by rw [g.size]; exact hc
      simp [this]
    rw [getD_of this]
    exact g.rv c hc
theorem build_fill (k : WInv f w T ρ h) (he : Env w T ρ e a) (place : Nat → Option (Nat × Nat)) : ∀ (parts : List (Nat × Operand)) (ps : List (Nat × Nat × At)) (z : List AV) (C : Array Value) {z' : List AV},
    mfields P f.tabs place parts ps = true → GoodB w T ρ z C → buildV e z ps = some z' →
    ∃ C', Instr.fill place C (parts.map fun p => (p.1, a.eval p.2)) = some C' ∧ GoodB w T ρ z' C'
  | [], [], z, C, z', _, g, hb => by
    simp only [buildV, Option.some.injEq] at hb
    subst hb
    exact ⟨C, rfl, g⟩
  | (i, x) :: parts, (off, sz, y) :: ps, z, C, z', hm, g, hb => by
    simp only [mfields, Bool.and_eq_true, decide_eq_true_eq] at hm
    obtain ⟨⟨⟨hp, hm1⟩, hm2⟩, hsz⟩ := hm
    simp only [buildV] at hb
    split at hb
    · rename_i hcond
      obtain ⟨c1, c2⟩ := hcond
      obtain ⟨h2, h3⟩ := cells_rv (ma_rv k he hm1) (by omega)
      have g' := g.part (off := off) (vs := (a.eval x).cells) (cs := (y.ev e).cells) (by omega) (by omega) h3
      obtain ⟨C', h6, h7⟩ := build_fill k he place parts ps _ _ hm2 g' hb
      refine ⟨C', ?_, h7⟩
      show Instr.fill _ _ ((i, a.eval x) :: _) = _
      rw [fill_cons place C i (a.eval x) _ hp (by omega) (by rw [g.size]; omega)]
      exact h6
    · cases hb
  | [], _ :: _, _, _, _, hm, _, _ => by simp [mfields] at hm
  | _ :: _, [], _, _, _, hm, _, _ => by simp [mfields] at hm
theorem GoodB.agg {z : List AV} {C : Array Value} (g : GoodB w T ρ z C) : Rv w T ρ (.agg z) (.agg C) := .agg C g.size (fun c hc => (g.rv c hc).2) fun c hc => (g.rv c hc).1
def placeS (P : Program) (fs : Array Field) (i : Nat) : Option (Nat × Nat) := (fs[i]?).bind fun x => (szT P x.type).map fun n => (x.offset, n)
theorem op_build (k : WInv f w T ρ h) (he : Env w T ρ e a) {t : TypeId} {parts : Array (Nat × Operand)} {i : TypeInfo} {zv : Value} {z : List AV} {ps : List (Nat × Nat × At)} {av : AV} {h' : Heap} (call : Call) (ho : o.op = .build t parts) (hi : P.info? t = some i) (hz : i.zero = some zv) (hm : mvs zv.cells.toList z = true)
    {place : Nat → Option (Nat × Nat)} (hp : mfields P f.tabs place parts.toList ps = true)
    (hk : (∃ fs, P.underlying t = some (.struct fs) ∧ (∀ x ∈ fs.toList, (szT P x.type).isSome = true) ∧ place = placeS P fs) ∨ ∃ n el sz, P.underlying t = some (.array n el) ∧ szT P el = some sz ∧ place = fun i => some (i * sz, sz))
    (hv : PO.ev call (.build z ps) e h = some (av, h')) : h' = h ∧ ∃ v, Gives P o a w v ∧ Rv w T ρ av v := by
  simp only [PO.ev, Option.map_eq_some_iff] at hv
  obtain ⟨cs, hb, hcv⟩ := hv
  cases hcv
  obtain ⟨h2, h3⟩ := mvs_rv (w := w) (T := T) (ρ := ρ) hm
  have g0 : GoodB w T ρ z zv.cells := ⟨by rw [← h2]; simp, fun c hc => by rw [toList_getD]; exact h3 c hc⟩
  obtain ⟨C', hf, gd⟩ := build_fill k he place parts.toList ps z zv.cells hp g0 hb
  refine ⟨rfl, .agg C', ?_, gd.agg⟩
  have hparts : (parts.map fun (i, x) => (i, a.eval x)).toList = parts.toList.map fun p => (p.1, a.eval p.2) := by simp
  rcases hk with ⟨fs, hu, hs, rfl⟩ | ⟨n, el, sz, hu, hs, rfl⟩
  · have hr := run_places (P := P) (w := w) fs (fun x => (szT P x.type).getD 0) fun x hx => by
      obtain ⟨n, hn⟩ := Option.isSome_iff_exists.1 (hs x hx)
      rw [hn]; rfl
    have hpl : (fun i => (fs.map fun x => (x.offset, (szT P x.type).getD 0))[i]?) = placeS P fs := by
      funext i
      simp only [placeS, Array.getElem?_map]
      cases hx : fs[i]? with
      | none => rfl
      | some x =>
        obtain ⟨n, hn⟩ := Option.isSome_iff_exists.1 (hs x (by simpa using Array.mem_of_getElem? hx))
        simp [hn]
    simp only [Gives, execOp, ho, Instr.build, Sem.run_bind, run_zeroValue hi hz, Result.andThen_ok, run_underlying hu w, hr, hpl, hparts, hf, Sem.run_pure]
  · simp only [Gives, execOp, ho, Instr.build, Sem.run_bind, run_zeroValue hi hz, Result.andThen_ok, run_underlying hu w, run_sizeOf' hs, hparts, hf, Sem.run_pure]
end
end Go.Pe
set_option linter.unusedVariables false
set_option linter.unusedSimpArgs false
namespace Go.Pe
open Go
structure Rew (w w' : World) (b : Nat) (Wb : Nat → Prop) : Prop where
  os : w'.os = w.os
  tape : w'.tape = w.tape
  output : w'.output = w.output
  size : w'.heap.size = w.heap.size
  other : ∀ (b' : Nat), b' ≠ b → w'.heap[b']? = w.heap[b']?
  blk : ∃ c c' e fr, w.heap[b]? = some (Obj.cells c e fr) ∧ w'.heap[b]? = some (Obj.cells c' e fr) ∧ c'.size = c.size ∧ ∀ i : Nat, ¬ Wb i → c'[i]? = c[i]?
theorem Rew.keeps {w w' : World} {b : Nat} {Wb : Nat → Prop} (h : Rew w w' b Wb) : Keeps (fun b' i => b' = b ∧ Wb i) w w' := by
  refine ⟨h.os, h.tape, h.output, Nat.le_of_eq h.size.symm, fun b' _ => ?_⟩
  by_cases hb : b' = b
  · subst hb
    obtain ⟨c, c', e, fr, h1, h2, h3, h4⟩ := h.blk
    exact .inr ⟨c, c', e, fr, h1, h2, h3, fun o ho => h4 o fun hw => ho ⟨rfl, hw⟩⟩
  · exact .inl (h.other b' hb)
theorem setCell_blk {w : World} {b o : Nat} {v : Value} {c : Array Value} {e : TypeId} {fr : Nat × Nat} (h : w.heap[b]? = some (Obj.cells c e fr)) : (w.setCell ⟨b, o, none⟩ v).heap[b]? = some (Obj.cells (c.setIfInBounds o v) e fr) := by
  simp only [World.setCell, Array.getElem?_modify, if_true, h, Option.map_some, Option.isSome_none, Bool.false_eq_true, if_false]
theorem rew_setCells (b : Nat) : ∀ (vs : List Value) (o : Nat) (w : World) {c : Array Value} {e : TypeId} {fr : Nat × Nat}, w.heap[b]? = some (Obj.cells c e fr) → Rew w (w.setCells b o vs) b (fun i => o ≤ i ∧ i < o + vs.length)
  | [], o, w, c, e, fr, h => ⟨rfl, rfl, rfl, rfl, fun _ _ => rfl, c, c, e, fr, h, h, rfl, fun _ _ => rfl⟩
  | v :: vs, o, w, c, e, fr, h => by
    have h1 := setCell_blk (o := o) (v := v) h
    obtain ⟨k1, k2, k3, k4, k5, d, d', e', fr', k6, k7, k8, k9⟩ := rew_setCells b vs (o + 1) (w.setCell ⟨b, o, none⟩ v) h1
    rw [h1] at k6
    cases k6
    refine ⟨k1, k2, k3, k4.trans (by simp), fun b' hb => (k5 b' hb).trans (Go.RowKit.Below.heap_setCell _ _ _ _ hb), c, d', e, fr, h, k7, k8.trans (by simp), fun i hi => ?_⟩
    rw [k9 i (by simp only [List.length_cons] at hi; omega)]
    rw [Array.getElem?_setIfInBounds_ne]
    simp only [List.length_cons] at hi
    omega
section
variable {P : Program} {f : Fr} {w : World} {T T' : Nat → Prop} {ρ : Rho} {h : Heap} {e : Nat → AV} {a : Act} {o : Oper}
theorem Rew.same {w' : World} {b : Nat} {Wb : Nat → Prop} (hw : Rew w w' b Wb) (hT : T b) : Same T w w' := hw.keeps.same fun b' o _ hh => by rw [hh.1]; exact hT
theorem WInv.rewrite (k : WInv f w T ρ h) {r : Nat} {x : Row} {p : Pl} {b base : Nat} (hr : h r = some x) (hl : x.live = true) (hp : ρ r = some p) (hloc : p.loc = some (b, base)) {w' : World} {Wb : Nat → Prop} (hw : Rew w w' b Wb) (hWb : f.w0.heap.size ≤ b ∨ ∀ i, Wb i → f.W0 b i)
    {x' : Row} (hx' : RowOk w' T ρ r x') (hap : x'.isAp = true → x.isAp = true) : WInv f w' T ρ (h.put r x') ∧ Goes w w' T T ρ ρ := by
  have hT : T b := (k.rows r x hr).inT hl p b base hp hloc
  have hs : Same T w w' := hw.same hT
  have old : ∀ q y, (h.put r x') q = some y → (q = r ∧ y = x') ∨ (q ≠ r ∧ h q = some y) := by
    intro q y hy
    simp only [Heap.put] at hy
    split at hy
    · rename_i e; cases hy; exact .inl ⟨e, rfl⟩
    · rename_i e; exact .inr ⟨e, hy⟩
  have live : ∀ q y, (h.put r x') q = some y → y.live = true → ∃ z, h q = some z ∧ z.live = true ∧ (y.isAp = true → z.isAp = true) := by
    intro q y hy hyl
    rcases old q y hy with ⟨rfl, rfl⟩ | ⟨_, hq⟩
    · exact ⟨x, hr, hl, hap⟩
    · exact ⟨y, hq, hyl, fun h => h⟩
  refine ⟨⟨k.keeps.trans hw.keeps fun b' i hb hh => ?_, fun b' hb => by rw [hw.size]; exact k.tlt b' hb, fun q y hy => ?_, fun q hq => ?_, fun q q' y y' hne hy hy' hyl hyl' pp pp' c cb c' cb' hpp hpp' hc hc' => ?_, fun q y pp c cb hy hyl hpp hc => ?_, fun b' hb => ?_, k.lp, fun q y pp c cb hq hy hyl hpp hc => ?_, k.t0lt, fun q hq y hy => ?_, fun pp hpp => (k.tab pp hpp).mono hs (fun _ _ h => h) fun _ _ h => h⟩, hs, fun _ _ h => h, fun _ _ h => h⟩
  · obtain ⟨rfl, hi⟩ := hh
    rcases hWb with h1 | h1
    · omega
    · exact h1 i hi
  · rcases old q y hy with ⟨rfl, rfl⟩ | ⟨hne, hq⟩
    · exact hx'
    · refine (k.rows q y hq).mono hs (fun _ _ h => h) (fun _ _ h => h) fun pp c cb hpp hc hyl => ⟨hw.other c ?_, (k.rows q y hq).inT hyl pp c cb hpp hc⟩
      exact k.sep q r y x hne hq hr hyl hl pp p c cb b base hpp hp hc hloc
  · simp only [Heap.put] at hq
    split at hq
    · cases hq
    · exact k.dom q hq
  · obtain ⟨z, hz, hzl, _⟩ := live q y hy hyl
    obtain ⟨z', hz', hzl', _⟩ := live q' y' hy' hyl'
    exact k.sep q q' z z' hne hz hz' hzl hzl' pp pp' c cb c' cb' hpp hpp' hc hc'
  · obtain ⟨z, hz, hzl, hza⟩ := live q y hy hyl
    rcases k.wr q z pp c cb hz hzl hpp hc with h1 | ⟨h1, h2⟩
    · exact .inl h1
    · exact .inr ⟨h1, fun hh => h2 (hza hh)⟩
  · rcases k.t0 b' hb with h1 | ⟨q, hq, hx⟩
    · exact .inl h1
    · refine .inr ⟨q, hq, fun y hy => ?_⟩
      rcases old q y hy with ⟨rfl, rfl⟩ | ⟨_, hq'⟩
      · exact absurd (hx x hr) (by rw [hl]; simp)
      · exact hx y hq'
  · obtain ⟨z, hz, hzl, _⟩ := live q y hy hyl
    exact k.own q z pp c cb hq hz hzl hpp hc
  · rcases old q y hy with ⟨rfl, rfl⟩ | ⟨_, hq'⟩
    · have := k.la q hq x hr
      cases hxa : y.isAp with
      | false => rfl
      | true => rw [hap hxa] at this; cases this
    · exact k.la q hq y hq'
theorem run_store {t : TypeId} {b i : Nat} {v : Value} {c : Array Value} {el : TypeId} (hsz : szT P t = some v.cells.size) (hb : w.heap[b]? = some (Obj.cells c el (0, 0))) (hle : i + v.cells.size ≤ c.size) (h1 : ∀ j, j < v.cells.size → (v.cells.getD j undef).oneCell' = true) :
    (Instr.storeAt t (.pointer (some ⟨b, i, none⟩)) v).run P w = .ok () (w.setCells b i v.cells.toList) := by
  have hc : ∀ j, j < v.cells.toList.length → (w.cell? ⟨b, i + j, none⟩).isSome = true := by
    intro j hj
    simp only [World.cell?, hb, Option.isSome_none, Bool.false_eq_true, if_false]
    have : i + j < c.size := by simp at hj; omega
    simp [this]
  have hf : ∀ j, j < v.cells.toList.length → w.frozen? ⟨b, i + j, none⟩ = false := by
    intro j hj
    simp [World.frozen?, hb]
  have := run_storeCells_cells (P := P) b i v.cells.toList 0 w (by simpa using hc) (by simpa using hf) (fun u hu => by
    obtain ⟨j, hj, rfl⟩ := List.getElem_of_mem hu
    have := h1 j (by simpa using hj)
    rw [toList_getD, List.getD_eq_getElem?_getD, List.getElem?_eq_getElem hj] at this
    exact this)
  rw [Nat.add_zero] at this
  simp only [Instr.storeAt, Instr.sureAddr, storeVar, Sem.run_bind, Sem.run_pure, Result.andThen_ok, run_sizeOf' hsz, ne_eq, not_true_eq_false, if_false, this]
theorem putC_eq {z ei off : Nat} {es : List (List AV)} {cs : List AV} (hl : (es.getD ei []).length = z) (hle : off + cs.length ≤ z) : putC z es ei off cs = es.set ei (fillC (es.getD ei []) off cs) := by
  unfold putC
  split
  · rename_i hc
    obtain ⟨rfl, h2⟩ := hc
    congr 1
    have hl' := hl
    simp only [List.getD_eq_getElem?_getD] at hl'
    simp [fillC, h2, hl']
  · rfl
theorem freeze_notin {rs : List Nat} {q : Nat} (hq : q ∉ rs) : (h.freeze rs) q = h q := by
  induction rs with
  | nil => rfl
  | cons a rs ih =>
    simp only [Heap.freeze]
    rw [if_neg (fun e => hq (by rw [e]; exact List.mem_cons_self))]
    exact ih fun hh => hq (List.mem_cons_of_mem _ hh)
theorem cell_of {b i : Nat} {c : Array Value} {el : TypeId} {fr : Nat × Nat} (hb : w.heap[b]? = some (Obj.cells c el fr)) : w.cell? ⟨b, i, none⟩ = c[i]? := by simp [World.cell?, hb]
theorem op_st (k : WInv f w T ρ h) (he : Env w T ρ e a) {t : TypeId} {x y : Operand} {x' y' : At} {sz : Nat} {av : AV} {h' : Heap} (call : Call) (ho : o.op = .store t x y) (hsz : szT P t = some sz) (hpos : 0 < sz) (h1 : ma f.tabs x x' = true) (h2 : ma f.tabs y y' = true)
    (hv : PO.ev call (.st sz x' y') e h = some (av, h')) : Turns P f o a w T ρ av h' := by
  have r1 := ma_rv k he h1
  have r2 := ma_rv k he h2
  simp only [PO.ev, Option.map_eq_some_iff] at hv
  obtain ⟨g, hg, hgv⟩ := hv
  cases hgv
  unfold stV at hg
  split at hg
  rotate_left
  · cases hg
  rename_i r ei off hq
  rw [hq] at r1
  generalize hx : a.eval x = v at r1
  cases r1 with
  | @p _ _ _ _ z m b base hρ =>
    split at hg
    · rename_i ap z' es hrow
      split at hg
      · rename_i hcond
        obtain ⟨c1, c2, c3, c4⟩ := hcond
        cases hg
        obtain ⟨T1, k1, g1, hfree, _⟩ := k.freeze (ref1 h (y'.ev e))
        obtain ⟨h3, h4⟩ := cells_rv r2 (by omega)
        have hrow1 : (h.freeze (ref1 h (y'.ev e))) r = some (.sl ap z' es) := by rw [freeze_notin c4]; exact hrow
        have ok := k1.rows r _ hrow1
        rcases ok with ⟨h5, _, _⟩ | ⟨b', base', cur, el, h5, h6, h7, h8, h9, h10⟩
        · subst h5; simp at c2
        · rw [hρ] at h5
          cases h5
          have hin : ei * z + off + sz ≤ es.length * z := by
            have := Nat.mul_le_mul_right z (show ei + 1 ≤ es.length by omega)
            rw [Nat.add_mul] at this
            omega
          have hst := run_store (P := P) (w := w) (t := t) (b := b) (i := base + ei * z + off) (v := a.eval y) (by rw [hsz, h3, c1]) h7 (by omega) fun j hj => (h4 j (by omega)).2
          have hrw := rew_setCells b (a.eval y).cells.toList (base + ei * z + off) w h7
          have hcl : (a.eval y).cells.toList.length = sz := by simp; omega
          rw [hcl] at hrw
          have hcs : ((y'.ev e).cells.map (tellC h)).length = sz := by rw [List.length_map]; exact c1
          have hlen := h10.len ei c2
          obtain ⟨hfl, hfg⟩ := fillC_get (z := es.getD ei []) (cs := (y'.ev e).cells.map (tellC h)) (off := off) (by rw [hcs, hlen]; exact c3)
          have hsame := hrw.same (T := T1) h6
          have hnew : RowOk (w.setCells b (base + ei * z + off) (a.eval y).cells.toList) T1 ρ r (.sl ap z (putC z es ei off ((y'.ev e).cells.map (tellC h)))) := by
            rw [putC_eq hlen (by rw [hcs]; exact c3)]
            obtain ⟨d, d', e', fr', q1, q2, q3, q4⟩ := hrw.blk
            rw [h7] at q1
            cases q1
            refine .inr ⟨b, base, d', el, by rw [List.length_set]; exact hρ, h6, q2, by rw [List.length_set, q3]; exact h8, h9, ⟨fun j hj => ?_, fun j c hj hc => ?_⟩⟩
            · rw [List.length_set] at hj
              by_cases hje : ei = j
              · subst hje
                rw [getD_set_same _ _ hj, hfl, hlen]
              · rw [getD_set_other _ _ hje]
                exact h10.len j hj
            · rw [List.length_set] at hj
              by_cases hje : ei = j
              · subst hje
                rw [getD_set_same _ _ hj, hfg, hcs]
                by_cases hin2 : off ≤ c ∧ c < off + sz
                · rw [if_pos hin2, getD_map_lt (tellC h) _ _ .junk .junk (by omega)]
                  obtain ⟨h11, h12⟩ := h4 (c - off) (by omega)
                  refine ⟨(a.eval y).cells.getD (c - off) undef, ?_, h12, ?_⟩
                  · have := World.cell?_setCells_in b (a.eval y).cells.toList (base + ei * z + off) w (fun i hi => by
                      rw [cell_of h7]
                      have : base + ei * z + off + i < cur.size := by rw [hcl] at hi; omega
                      simp [this]) (c - off) (by rw [hcl]; omega)
                    rw [show base + ei * z + off + (c - off) = base + ei * z + c by omega] at this
                    rw [this, toList_getD, List.getD_eq_getElem?_getD, List.getElem?_eq_getElem (by rw [hcl]; omega)]
                    rfl
                  · have := tellC_rv k.rows g1.less h11 (fun r' hr' => hfree r' ?_) (one_of_cell h11 h12).1 (one_of_cell h11 h12).2
                    · exact this.mono hsame (fun _ _ h => h) fun _ _ h => h
                    · have hmem : (y'.ev e).cells.getD (c - off) .junk ∈ (y'.ev e).cells := getD_mem _ (by omega)
                      revert hmem hr'
                      generalize (y'.ev e).cells.getD (c - off) .junk = q
                      generalize y'.ev e = uu
                      intro hr' hmem
                      cases uu <;> simp only [AV.cells, List.mem_singleton] at hmem <;> first
                        | (subst hmem; exact hr')
                        | exact List.mem_flatMap.2 ⟨q, hmem, hr'⟩
                        | cases hmem
                · rw [if_neg hin2]
                  obtain ⟨u, h11, h12, h13⟩ := h10.cell ei c hj hc
                  refine ⟨u, ?_, h12, h13.mono hsame (fun _ _ h => h) fun _ _ h => h⟩
                  rw [cell_of h7] at h11
                  rw [cell_of q2, q4 _ (by omega)]
                  exact h11
              · rw [getD_set_other _ _ hje]
                obtain ⟨u, h11, h12, h13⟩ := h10.cell j c hj hc
                refine ⟨u, ?_, h12, h13.mono hsame (fun _ _ h => h) fun _ _ h => h⟩
                rw [cell_of h7] at h11
                have := other_row hje hc
                rw [cell_of q2, q4 _ (by omega)]
                exact h11
          obtain ⟨k2, g2⟩ := k1.rewrite hrow1 rfl hρ rfl hrw (by
            rcases k1.wr r _ _ b base hrow1 rfl hρ rfl with hh | ⟨hh, _⟩
            · exact .inl hh
            · exact .inr fun i hi => hh i (by omega) (by simp only; omega)) hnew (fun hh => hh)
          refine ⟨undef, _, T1, ρ, .inr ⟨?_, rfl⟩, k2, g1.trans g2, .junk⟩
          simp only [execOp, ho, hx, Sem.run_bind, hst, Result.andThen_ok, Sem.run_pure]
      · cases hg
    · rename_i cs hrow
      split at hg
      · rename_i hcond
        obtain ⟨c1, c2, c3⟩ := hcond
        cases hg
        subst c2
        obtain ⟨h3, h4⟩ := cells_rv r2 (by omega)
        have ok := k.rows r _ hrow
        obtain ⟨b', base', cur, el, h5, h6, h7, h8, h9⟩ := ok
        rw [hρ] at h5
        cases h5
        rw [Nat.zero_mul, Nat.add_zero] at hx
        have hst := run_store (P := P) (w := w) (t := t) (b := b) (i := base + off) (v := a.eval y) (by rw [hsz, h3, c1]) h7 (by omega) fun j hj => (h4 j (by omega)).2
        have hrw := rew_setCells b (a.eval y).cells.toList (base + off) w h7
        have hcl : (a.eval y).cells.toList.length = sz := by simp; omega
        rw [hcl] at hrw
        obtain ⟨hfl, hfg⟩ := fillC_get (z := cs) (cs := (y'.ev e).cells) (off := off) (by omega)
        have hcs2 : (if off = 0 ∧ sz = cs.length then (y'.ev e).cells else fillC cs off (y'.ev e).cells) = fillC cs off (y'.ev e).cells := by
          split
          · rename_i hc
            obtain ⟨rfl, h2⟩ := hc
            simp [fillC, c1, h2]
          · rfl
        have hsame := hrw.same (T := T) h6
        have hnew : RowOk (w.setCells b (base + off) (a.eval y).cells.toList) T ρ r (.st (fillC cs off (y'.ev e).cells)) := by
          obtain ⟨d, d', e', fr', q1, q2, q3, q4⟩ := hrw.blk
          rw [h7] at q1
          cases q1
          refine ⟨b, base, d', el, by rw [hfl]; exact hρ, h6, q2, by rw [hfl, q3]; exact h8, ⟨fun j hj => ?_, fun j c hj hc => ?_⟩⟩
          · cases j with
            | zero => rfl
            | succ j => simp at hj
          · cases j with
            | succ j => simp at hj
            | zero =>
              rw [hfl] at hc
              show ∃ v, _ ∧ _ ∧ Rv _ _ _ ((fillC cs off (y'.ev e).cells).getD c .junk) v
              rw [hfg, Nat.zero_mul, Nat.add_zero]
              by_cases hin2 : off ≤ c ∧ c < off + (y'.ev e).cells.length
              · rw [if_pos hin2]
                obtain ⟨h11, h12⟩ := h4 (c - off) (by omega)
                refine ⟨(a.eval y).cells.getD (c - off) undef, ?_, h12, h11.mono hsame (fun _ _ h => h) fun _ _ h => h⟩
                have := World.cell?_setCells_in b (a.eval y).cells.toList (base + off) w (fun i hi => by
                  rw [cell_of h7]
                  have : base + off + i < cur.size := by rw [hcl] at hi; omega
                  simp [this]) (c - off) (by rw [hcl]; omega)
                rw [show base + off + (c - off) = base + c by omega] at this
                rw [this, toList_getD, List.getD_eq_getElem?_getD, List.getElem?_eq_getElem (by rw [hcl]; omega)]
                rfl
              · rw [if_neg hin2]
                obtain ⟨u, h11, h12, h13⟩ := h9.cell 0 c (by simp) hc
                rw [Nat.zero_mul, Nat.add_zero] at h11
                refine ⟨u, ?_, h12, h13.mono hsame (fun _ _ h => h) fun _ _ h => h⟩
                rw [cell_of h7] at h11
                rw [cell_of q2, q4 _ (by omega)]
                exact h11
        rw [hcs2]
        obtain ⟨k2, g2⟩ := k.rewrite hrow rfl hρ rfl hrw (by
          rcases k.wr r _ _ b base hrow rfl hρ rfl with hh | ⟨hh, _⟩
          · exact .inl hh
          · exact .inr fun i hi => hh i (by omega) (by simp only; omega)) hnew (fun hh => by cases hh)
        refine ⟨undef, _, T, ρ, .inr ⟨?_, rfl⟩, k2, g2, .junk⟩
        simp only [execOp, ho, hx, Sem.run_bind, hst, Result.andThen_ok, Sem.run_pure]
      · cases hg
    · cases hg
end
end Go.Pe
set_option linter.unusedVariables false
set_option linter.unusedSimpArgs false
namespace Go.Pe
open Go
section
variable {P : Program} {f : Fr} {w : World} {T T' : Nat → Prop} {ρ : Rho} {h : Heap} {e : Nat → AV} {a : Act} {o : Oper}
theorem WInv.kill (k : WInv f w T ρ h) {r : Nat} {x : Row} (hr : h r = some x) : WInv f w T ρ (h.put r .dead) := by
  have old : ∀ q y, (h.put r .dead) q = some y → (q = r ∧ y = .dead) ∨ (q ≠ r ∧ h q = some y) := by
    intro q y hy
    simp only [Heap.put] at hy
    split at hy
    · rename_i e; cases hy; exact .inl ⟨e, rfl⟩
    · rename_i e; exact .inr ⟨e, hy⟩
  have live : ∀ q y, (h.put r .dead) q = some y → y.live = true → h q = some y := by
    intro q y hy hyl
    rcases old q y hy with ⟨_, rfl⟩ | ⟨_, hq⟩
    · cases hyl
    · exact hq
  refine ⟨k.keeps, k.tlt, fun q y hy => ?_, fun q hq => ?_, fun q q' y y' hne hy hy' hyl hyl' => k.sep q q' y y' hne (live q y hy hyl) (live q' y' hy' hyl') hyl hyl', fun q y p b base hy hyl => k.wr q y p b base (live q y hy hyl) hyl, fun b hb => ?_, k.lp, fun q y p b base hq hy hyl => k.own q y p b base hq (live q y hy hyl) hyl, k.t0lt, fun q hq y hy => ?_, k.tab⟩
  · rcases old q y hy with ⟨_, rfl⟩ | ⟨_, hq⟩
    · trivial
    · exact k.rows q y hq
  · simp only [Heap.put] at hq
    split at hq
    · cases hq
    · exact k.dom q hq
  · rcases k.t0 b hb with h1 | ⟨q, hq, hx⟩
    · exact .inl h1
    · refine .inr ⟨q, hq, fun y hy => ?_⟩
      rcases old q y hy with ⟨_, rfl⟩ | ⟨_, hq'⟩
      · rfl
      · exact hx y hq'
  · rcases old q y hy with ⟨_, rfl⟩ | ⟨_, hq'⟩
    · rfl
    · exact k.la q hq y hq'
theorem WInv.newnil (k : WInv f w T ρ h) {id : Nat} (hid : h id = none) (z : Nat) {ap : Bool} :
    WInv f w T (fun r => if r = id then some ⟨z, 0, none⟩ else ρ r) (h.put id (.sl ap z [])) ∧ Goes w w T T ρ (fun r => if r = id then some ⟨z, 0, none⟩ else ρ r) := by
  have more : ∀ r p, ρ r = some p → (if r = id then some ⟨z, 0, none⟩ else ρ r) = some p := by
    intro r p hp
    split
    · rename_i hr
      subst hr
      rw [k.dom _ hid] at hp
      cases hp
    · exact hp
  have old : ∀ q y, (h.put id (.sl ap z [])) q = some y → (q = id ∧ y = .sl ap z []) ∨ (q ≠ id ∧ h q = some y) := by
    intro q y hy
    simp only [Heap.put] at hy
    split at hy
    · rename_i e; cases hy; exact .inl ⟨e, rfl⟩
    · rename_i e; exact .inr ⟨e, hy⟩
  have place : ∀ q y p b base, (h.put id (.sl ap z [])) q = some y → (if q = id then some ⟨z, 0, none⟩ else ρ q) = some p → p.loc = some (b, base) → h q = some y ∧ ρ q = some p := by
    intro q y p b base hy hp hl
    rcases old q y hy with ⟨rfl, rfl⟩ | ⟨hne, hq⟩
    · rw [if_pos rfl] at hp; cases hp; cases hl
    · rw [if_neg hne] at hp; exact ⟨hq, hp⟩
  refine ⟨⟨k.keeps, k.tlt, fun q y hy => ?_, fun q hq => ?_, fun q q' y y' hne hy hy' hyl hyl' p p' b base b' base' hp hp' hl hl' => ?_, fun q y p b base hy hyl hp hl => ?_, fun b hb => ?_, fun r hr => more _ _ (k.lp r hr), fun q y p b base hq hy hyl hp hl => ?_, k.t0lt, fun q hq y hy => ?_, k.tab⟩, Same.refl _ _, fun _ _ h => h, more⟩
  · rcases old q y hy with ⟨rfl, rfl⟩ | ⟨_, hq⟩
    · exact .inl ⟨rfl, trivial, if_pos rfl⟩
    · exact (k.rows q y hq).mono (Same.refl _ _) (fun _ _ h => h) more fun p b base hp hl hlv => ⟨rfl, (k.rows q y hq).inT hlv p b base hp hl⟩
  · simp only [Heap.put] at hq
    split at hq
    · cases hq
    · rename_i hne
      simp only [hne, if_false]
      exact k.dom q hq
  · obtain ⟨h1, h2⟩ := place q y p b base hy hp hl
    obtain ⟨h3, h4⟩ := place q' y' p' b' base' hy' hp' hl'
    exact k.sep q q' y y' hne h1 h3 hyl hyl' p p' b base b' base' h2 h4 hl hl'
  · obtain ⟨h1, h2⟩ := place q y p b base hy hp hl
    exact k.wr q y p b base h1 hyl h2 hl
  · rcases k.t0 b hb with h1 | ⟨q, hq, hx⟩
    · exact .inl h1
    · refine .inr ⟨q, hq, fun y hy => ?_⟩
      rcases old q y hy with ⟨rfl, rfl⟩ | ⟨_, hq'⟩
      · have := k.lp q hq
        rw [k.dom q hid] at this
        cases this
      · exact hx y hq'
  · obtain ⟨h1, h2⟩ := place q y p b base hy hp hl
    exact k.own q y p b base hq h1 hyl h2 hl
  · rcases old q y hy with ⟨rfl, rfl⟩ | ⟨_, hq'⟩
    · have := k.lp q hq
      rw [k.dom q hid] at this
      cases this
    · exact k.la q hq y hq'
theorem WInv.adopt (k : WInv f w T ρ h) {r : Nat} {z z' n n' b base base' : Nat} {es : List (List AV)} (hr : h r = some (.sl true z es)) (hρ : ρ r = some ⟨z', n, some (b, base)⟩) {id : Nat} (hid : h id = none) {w' : World} {Wb : Nat → Prop} (hw : Rew w w' b Wb) {x : Row}
    (hx : ∀ ρ', (∀ r p, ρ r = some p → ρ' r = some p) → ρ' id = some ⟨z, n', some (b, base')⟩ → RowOk w' T ρ' id x) :
    WInv f w' T (fun q => if q = id then some ⟨z, n', some (b, base')⟩ else ρ q) ((h.put r .dead).put id x) ∧ Goes w w' T T ρ (fun q => if q = id then some ⟨z, n', some (b, base')⟩ else ρ q) := by
  have hT : T b := (k.rows r _ hr).inT rfl _ b base hρ rfl
  have hs : Same T w w' := hw.same hT
  have hne : id ≠ r := fun e => by rw [e, hr] at hid; cases hid
  have hrl : r ∉ f.lids := fun hm => by have := k.la r hm _ hr; cases this
  have more : ∀ r p, ρ r = some p → (if r = id then some ⟨z, n', some (b, base')⟩ else ρ r) = some p := by
    intro r p hp
    split
    · rename_i hr
      subst hr
      rw [k.dom _ hid] at hp
      cases hp
    · exact hp
  have old : ∀ q y, ((h.put r .dead).put id x) q = some y → (q = id ∧ y = x) ∨ (q ≠ id ∧ q = r ∧ y = .dead) ∨ (q ≠ id ∧ q ≠ r ∧ h q = some y) := by
    intro q y hy
    simp only [Heap.put] at hy
    split at hy
    · rename_i e; cases hy; exact .inl ⟨e, rfl⟩
    · rename_i e
      split at hy
      · rename_i e'; cases hy; exact .inr (.inl ⟨e, e', rfl⟩)
      · rename_i e'; exact .inr (.inr ⟨e, e', hy⟩)
  -- each live row is an old one at its place, or the new one at the place of r
  have place : ∀ q y p c cb, ((h.put r .dead).put id x) q = some y → y.live = true → (if q = id then some ⟨z, n', some (b, base')⟩ else ρ q) = some p → p.loc = some (c, cb) →
      (q = id ∧ c = b) ∨ (q ≠ id ∧ q ≠ r ∧ h q = some y ∧ ρ q = some p) := by
    intro q y p c cb hy hyl hp hl
    rcases old q y hy with ⟨rfl, rfl⟩ | ⟨hn, rfl, rfl⟩ | ⟨hn, hn', hq⟩
    · rw [if_pos rfl] at hp; cases hp; cases hl; exact .inl ⟨rfl, rfl⟩
    · cases hyl
    · rw [if_neg hn] at hp; exact .inr ⟨hn, hn', hq, hp⟩
  refine ⟨⟨k.keeps.trans hw.keeps fun b' i hb hh => ?_, fun b' hb => by rw [hw.size]; exact k.tlt b' hb, fun q y hy => ?_, fun q hq => ?_, fun q q' y y' hne' hy hy' hyl hyl' p p' c cb c' cb' hp hp' hl hl' => ?_, fun q y p c cb hy hyl hp hl => ?_, fun b' hb => ?_, fun q hq => more _ _ (k.lp q hq), fun q y p c cb hq hy hyl hp hl => ?_, k.t0lt, fun q hq y hy => ?_, fun pp hpp => (k.tab pp hpp).mono hs (fun _ _ h => h) fun _ _ h => h⟩, hs, fun _ _ h => h, more⟩
  · obtain ⟨rfl, hi⟩ := hh
    rcases k.wr r _ _ b' base hr rfl hρ rfl with h1 | ⟨_, h1⟩
    · omega
    · exact h1 rfl i
  · rcases old q y hy with ⟨rfl, rfl⟩ | ⟨_, _, rfl⟩ | ⟨hn, hn', hq⟩
    · exact hx _ more (if_pos rfl)
    · trivial
    · refine (k.rows q y hq).mono hs (fun _ _ h => h) more fun p c cb hp hc hyl => ⟨hw.other c ?_, (k.rows q y hq).inT hyl p c cb hp hc⟩
      exact k.sep q r y _ hn' hq hr hyl rfl p _ c cb b base hp hρ hc rfl
  · simp only [Heap.put] at hq
    split at hq
    · cases hq
    · rename_i hn
      split at hq
      · cases hq
      · simp only [hn, if_false]
        exact k.dom q hq
  · rcases place q y p c cb hy hyl hp hl with ⟨h1, h2⟩ | ⟨h1, h2, h3, h4⟩
    · rcases place q' y' p' c' cb' hy' hyl' hp' hl' with ⟨h5, h6⟩ | ⟨h5, h6, h7, h8⟩
      · exact absurd (h1.trans h5.symm) hne'
      · rw [h2]
        exact fun e => k.sep q' r y' _ h6 h7 hr hyl' rfl p' _ c' cb' b base h8 hρ hl' rfl e.symm
    · rcases place q' y' p' c' cb' hy' hyl' hp' hl' with ⟨h5, h6⟩ | ⟨h5, h6, h7, h8⟩
      · rw [h6]
        exact k.sep q r y _ h2 h3 hr hyl rfl p _ c cb b base h4 hρ hl rfl
      · exact k.sep q q' y y' hne' h3 h7 hyl hyl' p p' c cb c' cb' h4 h8 hl hl'
  · rcases place q y p c cb hy hyl hp hl with ⟨h1, rfl⟩ | ⟨h1, h2, h3, h4⟩
    · rcases k.wr r _ _ c base hr rfl hρ rfl with h5 | ⟨_, h5⟩
      · exact .inl h5
      · exact .inr ⟨fun i _ _ => h5 rfl i, fun _ => h5 rfl⟩
    · exact k.wr q y p c cb h3 hyl h4 hl
  · rcases k.t0 b' hb with h1 | ⟨q, hq, hx⟩
    · exact .inl h1
    · refine .inr ⟨q, hq, fun y hy => ?_⟩
      rcases old q y hy with ⟨rfl, rfl⟩ | ⟨_, _, rfl⟩ | ⟨_, _, hq'⟩
      · have := k.lp q hq
        rw [k.dom q hid] at this
        cases this
      · rfl
      · exact hx y hq'
  · rcases place q y p c cb hy hyl hp hl with ⟨h1, rfl⟩ | ⟨h1, h2, h3, h4⟩
    · exact k.own r _ _ c base hrl hr rfl hρ rfl
    · exact k.own q y p c cb hq h3 hyl h4 hl
  · rcases old q y hy with ⟨rfl, rfl⟩ | ⟨_, _, rfl⟩ | ⟨_, _, hq'⟩
    · have := k.lp q hq
      rw [k.dom q hid] at this
      cases this
    · rfl
    · exact k.la q hq y hq'
structure Src (w : World) (T : Nat → Prop) (z : Nat) (new : List (List AV)) (v : Value) (vs : List Value) : Prop where
  len : vs.length = new.length * z
  val : (v = .slice none 0 0 ∧ new = []) ∨ ∃ ad cap, v = .slice (some ad) new.length cap ∧ ∀ j u, vs[j]? = some u → w.cell? (ad.add j) = some u
  el : ∀ j, j < new.length → (new.getD j []).length = z
  rv : ∀ j c, j < new.length → c < z → Rv w T Rho.none ((new.getD j []).getD c .junk) (vs.getD (j * z + c) undef) ∧ (vs.getD (j * z + c) undef).oneCell' = true
theorem div_row {n z i : Nat} (hi : i < n * z) : i / z < n ∧ i % z < z ∧ i = i / z * z + i % z := by
  have hz : 0 < z := by
    rcases Nat.eq_zero_or_pos z with h | h
    · subst h; simp at hi
    · exact h
  refine ⟨Nat.div_lt_of_lt_mul (by rw [Nat.mul_comm]; exact hi), Nat.mod_lt _ hz, ?_⟩
  rw [Nat.mul_comm]
  exact (Nat.div_add_mod i z).symm
theorem Src.at {b base z cap : Nat} {new : List (List AV)} (hl : ∀ j, j < new.length → (new.getD j []).length = z)
    (hc : ∀ j c, j < new.length → c < z → ∃ v, w.cell? ⟨b, base + j * z + c, none⟩ = some v ∧ v.oneCell' = true ∧ Rv w T Rho.none ((new.getD j []).getD c .junk) v) :
    Src w T z new (.slice (some ⟨b, base, none⟩) new.length cap) ((List.range (new.length * z)).map fun i => (w.cell? ⟨b, base + i, none⟩).getD undef) := by
  refine ⟨by simp, .inr ⟨_, _, rfl, fun j u hj => ?_⟩, hl, fun j c hj hcz => ?_⟩
  · rw [List.getElem?_map] at hj
    rcases Nat.lt_or_ge j (new.length * z) with h1 | h1
    · rw [List.getElem?_range h1] at hj
      simp only [Option.map_some, Option.some.injEq] at hj
      obtain ⟨h2, h3, h4⟩ := div_row h1
      obtain ⟨v, h5, h6, h7⟩ := hc (j / z) (j % z) h2 h3
      rw [Nat.add_assoc, ← h4] at h5
      rw [add_at, h5]
      rw [h5] at hj
      rw [← hj]
      rfl
    · rw [List.getElem?_eq_none (by simpa using h1)] at hj
      cases hj
  · have hlt := in_row hj hcz
    obtain ⟨v, h5, h6, h7⟩ := hc j c hj hcz
    have : ((List.range (new.length * z)).map fun i => (w.cell? ⟨b, base + i, none⟩).getD undef).getD (j * z + c) undef = v := by
      rw [List.getD_eq_getElem?_getD, List.getElem?_map, List.getElem?_range hlt]
      rw [Nat.add_assoc] at h5
      simp [h5]
    rw [this]
    exact ⟨h7, h6⟩
theorem esV_src (k : WInv f w T ρ h) {y : AV} {v : Value} (r : Rv w T ρ y v) {z : Nat} {new : List (List AV)} (hy : esV h z y = some new) : ∃ vs, Src w T z new v vs := by
  cases r with
  | ns =>
    simp only [esV] at hy
    split at hy
    · cases hy; exact ⟨[], by simp, .inl ⟨rfl, rfl⟩, fun j hj => (by cases hj), fun j c hj => (by cases hj)⟩
    · cases hy
  | @lnil _ _ a cap ha hm =>
    simp only [esV] at hy
    split at hy
    · cases hy
      refine ⟨[], by simp, ?_, fun j hj => (by cases hj), fun j c hj => (by cases hj)⟩
      cases a with
      | none => rw [ha rfl]; exact .inl ⟨rfl, rfl⟩
      | some ad => exact .inr ⟨ad, cap, rfl, fun j u hj => (by simp at hj)⟩
    · cases hy
  | @l _ z' es b base cap g hT hb hc hm hz hcell hv =>
    simp only [esV] at hy
    split at hy
    · rename_i hzz
      subst hzz
      cases hy
      exact ⟨_, Src.at hz fun j c hj hc => ⟨g j c, (hcell j c hj hc).1, (hcell j c hj hc).2, hv j c hj hc⟩⟩
    · cases hy
  | @sl _ q z' ofs n m b base cap hq hn hc hm hs =>
    simp only [esV] at hy
    split at hy
    · rename_i hzz
      subst hzz
      simp only [Option.bind_eq_some_iff] at hy
      obtain ⟨row, hrow, hwin⟩ := hy
      have main : ∀ es : List (List AV), es.length = m → RowAt w b base z' es (Rv w T Rho.none) → new = (es.drop ofs).take n → ∃ vs, Src w T z' new (.slice (some ⟨b, base + ofs * z', none⟩) n cap) vs := by
        intro es hm hra hnew
        have hl : new.length = n := by rw [hnew, List.length_take, List.length_drop]; omega
        have key : ∀ j c, base + ofs * z' + j * z' + c = base + (ofs + j) * z' + c := by intro j c; rw [Nat.add_mul]; omega
        have := Src.at (w := w) (T := T) (b := b) (base := base + ofs * z') (z := z') (cap := cap) (new := new) (fun j hj => by
          rw [hl] at hj
          rw [hnew, getD_drop_take _ _ _ _ _ hj]
          exact hra.len _ (by omega)) (fun j c hj hc => by
          rw [hl] at hj
          rw [hnew, getD_drop_take _ _ _ _ _ hj, key]
          exact hra.cell _ c (by omega) hc)
        rw [hl] at this
        exact ⟨_, this⟩
      have ok := k.rows q row hrow
      cases row with
      | sl ap z'' es =>
        cases hwin
        rcases ok with ⟨_, _, h3⟩ | ⟨b', base', cur, e', h3, h4, h5, h6, h7, h8⟩
        · rw [hq] at h3; cases h3
        · rw [hq] at h3
          cases h3
          exact main es rfl h8 rfl
      | fsl z'' es =>
        cases hwin
        rcases ok with ⟨_, h3⟩ | ⟨b', base', h3, h4, h5, h6⟩
        · rw [hq] at h3; cases h3
        · rw [hq] at h3
          cases h3
          exact main es rfl h6 rfl
      | st cs => cases hwin
      | fst cs => cases hwin
      | dead => cases hwin
    · cases hy
  | @slz _ q z' ofs m b base off hq hn =>
    simp only [esV] at hy
    split at hy
    · rename_i hzz
      subst hzz
      simp only [Option.bind_eq_some_iff] at hy
      obtain ⟨row, hrow, hwin⟩ := hy
      have hnew : new = [] := by
        cases row <;> simp only [Row.win, Option.some.injEq, List.take_zero] at hwin <;> first | exact hwin.symm | cases hwin
      subst hnew
      exact ⟨[], by simp, .inr ⟨_, _, rfl, fun j u hj => (by simp at hj)⟩, fun j hj => (by cases hj), fun j c hj => (by cases hj)⟩
    · cases hy
  | @slnil _ q z' hq =>
    simp only [esV] at hy
    split at hy
    · simp only [Option.bind_eq_some_iff] at hy
      obtain ⟨row, hrow, hwin⟩ := hy
      have hnew : new = [] := by
        cases row <;> simp only [Row.win, Option.some.injEq, List.take_zero] at hwin <;> first | exact hwin.symm | cases hwin
      subst hnew
      exact ⟨[], by simp, .inl ⟨rfl, rfl⟩, fun j hj => (by cases hj), fun j c hj => (by cases hj)⟩
    · cases hy
  | _ => simp [esV] at hy
end
end Go.Pe
set_option linter.unusedVariables false
set_option linter.unusedSimpArgs false
namespace Go.Pe
open Go
section
variable {P : Program} {f : Fr} {w : World} {T T' : Nat → Prop} {ρ : Rho} {h : Heap} {e : Nat → AV} {a : Act} {o : Oper}
structure Els (w : World) (T : Nat → Prop) (z : Nat) (L : List (List AV)) (vs : List Value) : Prop where
  len : vs.length = L.length * z
  el : ∀ j, j < L.length → (L.getD j []).length = z
  rv : ∀ j c, j < L.length → c < z → Rv w T Rho.none ((L.getD j []).getD c .junk) (vs.getD (j * z + c) undef) ∧ (vs.getD (j * z + c) undef).oneCell' = true
theorem Src.els {z : Nat} {new : List (List AV)} {v : Value} {vs : List Value} (s : Src w T z new v vs) : Els w T z new vs := ⟨s.len, s.el, s.rv⟩
theorem Els.nil (z : Nat) : Els w T z [] [] := ⟨by simp, fun j hj => (by cases hj), fun j c hj => (by cases hj)⟩
theorem getD_append_left' {α : Type} (l m : List α) (i : Nat) (d : α) (h : i < l.length) : (l ++ m).getD i d = l.getD i d := by
  rw [List.getD_eq_getElem?_getD, List.getElem?_append_left h, ← List.getD_eq_getElem?_getD]
theorem getD_append_right' {α : Type} (l m : List α) (i : Nat) (d : α) (h : l.length ≤ i) : (l ++ m).getD i d = m.getD (i - l.length) d := by
  rw [List.getD_eq_getElem?_getD, List.getElem?_append_right h, ← List.getD_eq_getElem?_getD]
theorem Els.append {z : Nat} {L M : List (List AV)} {vs us : List Value} (x : Els w T z L vs) (y : Els w T z M us) : Els w T z (L ++ M) (vs ++ us) := by
  refine ⟨by rw [List.length_append, List.length_append, x.len, y.len, Nat.add_mul], fun j hj => ?_, fun j c hj hc => ?_⟩
  · by_cases h1 : j < L.length
    · rw [getD_append_left' _ _ _ _ h1]; exact x.el j h1
    · rw [getD_append_right' _ _ _ _ (by omega)]; exact y.el _ (by rw [List.length_append] at hj; omega)
  · by_cases h1 : j < L.length
    · have := in_row h1 hc
      rw [getD_append_left' _ _ _ _ h1, getD_append_left' _ _ _ _ (by rw [x.len]; exact this)]
      exact x.rv j c h1 hc
    · have h2 := Nat.mul_le_mul_right z (show L.length ≤ j by omega)
      rw [getD_append_right' _ _ _ _ (by omega), getD_append_right' _ _ _ _ (by rw [x.len]; omega), x.len]
      have := y.rv (j - L.length) c (by rw [List.length_append] at hj; omega) hc
      rw [Nat.sub_mul] at this
      rw [show j * z + c - L.length * z = j * z - L.length * z + c by omega]
      exact this
theorem Els.one {z : Nat} {L : List (List AV)} {vs : List Value} (x : Els w T z L vs) : ∀ u ∈ vs, u.oneCell' = true := by
  intro u hu
  obtain ⟨i, hi, rfl⟩ := List.getElem_of_mem hu
  rw [x.len] at hi
  obtain ⟨h1, h2, h3⟩ := div_row hi
  have := (x.rv _ _ h1 h2).2
  rw [← h3, List.getD_eq_getElem?_getD, List.getElem?_eq_getElem (by rw [x.len]; exact hi)] at this
  exact this
theorem new_els (k : WInv f w T ρ h) {w' : World} (ho : Old w w') {id : Nat} (hid : h id = none) {z : Nat} {L : List (List AV)} {vs : List Value} (x : Els w T z L vs) {tail : Array Value} {t : TypeId} {b : Nat} (hb : w.heap.size ≤ b) (hcur : w'.heap[b]? = some (Obj.cells (vs.toArray ++ tail) t (0, 0))) {cap : Nat} (hcap : L.length ≤ cap) (hm : cap ≤ maxLen) (hcs : cap * z ≤ vs.length + tail.size) :
    ∃ T' ρ', WInv f w' T' ρ' (h.put id (.sl true z L)) ∧ Goes w w' T T' ρ ρ' ∧ Rv w' T' ρ' (.sl id z 0 L.length) (.slice (some ⟨b, 0, none⟩) L.length cap) := by
  refine new_sl k ho hid hb hcur (by simp [x.len]) hcap hm (by simpa using hcs) x.el fun j c hj hc => ?_
  have hlt := in_row hj hc
  have : (vs.toArray ++ tail).getD (j * z + c) undef = vs.getD (j * z + c) undef := by
    rw [toList_getD]
    simp only [Array.toList_append]
    rw [getD_append_left' _ _ _ _ (by rw [x.len]; exact hlt)]
  rw [this]
  exact x.rv j c hj hc
theorem run_app0 {t ty el : TypeId} {i : TypeInfo} (hu : P.underlying t = some (.slice el)) (hi : P.info? el = some i) (b ad : Option Addr) (n cap cap' : Nat) (hn : n ≤ cap) :
    (Builtin.append_ #[t, t] ty #[.slice b n cap, .slice ad 0 cap']).run P w = .ok (.slice b n cap) w := by
  cases b <;> cases ad <;> simp [Builtin.append_, run_underlying hu, sizeOf, typeInfo, hi, Builtin.lenOf, hn, Builtin.firstCells, loadCells, loadCellsFrom, storeCells]
theorem run_room {t ty el el' : TypeId} {i : TypeInfo} (hu : P.underlying t = some (.slice el)) (hi : P.info? el = some i) {g n cap : Nat} {cur : Array Value} (hg : w.heap[g]? = some (Obj.cells cur el' (0, 0))) {ad : Addr} {m c : Nat} {news : List Value} (hl : news.length = m * i.size) (hnews : ∀ j u, news[j]? = some u → w.cell? (ad.add j) = some u) (h1 : ∀ u ∈ news, u.oneCell' = true) (hroom : n + m ≤ cap) (hfit : n * i.size + news.length ≤ cur.size) :
    (Builtin.append_ #[t, t] ty #[.slice (some ⟨g, 0, none⟩) n cap, .slice (some ad) m c]).run P w = .ok (.slice (some ⟨g, 0, none⟩) (n + m) cap) (w.setCells g (n * i.size) news) := by
  have hf := run_firstCells_some (P := P) w i.size m ad m c news hl hnews
  have hst := run_storeCells_cells (P := P) g (n * i.size) news 0 w (fun j hj => by
    rw [cell_of hg]
    simp; omega) (fun j hj => by simp [World.frozen?, hg]) h1
  rw [Nat.add_zero] at hst
  simp only [Builtin.append_, Sem.run_bind, run_underlying hu w, Result.andThen_ok, sizeOf, run_typeInfo hi, Sem.run_pure, Builtin.lenOf, if_false, Bool.false_eq_true, Bool.not_false, if_true, hf, if_pos hroom, add_at, Nat.zero_add, List.getElem?_toArray, List.getElem?_cons_zero, List.getElem?_cons_succ, hst]
theorem op_app (k : WInv f w T ρ h) (he : Env w T ρ e a) {t el : TypeId} {i : TypeInfo} {zv : Value} {x y : Operand} {x' y' : At} {c : Go.Call} {id sz bytes : Nat} {av : AV} {h' : Heap} (call : Call) (ho : o.op = .call c) (hc : c.callee = .builtin .append) (hx : c.args = #[x, y]) (ht : c.argTypes = #[t, t])
    (hu : P.underlying t = some (.slice el)) (hi : P.info? el = some i) (hz : i.zero = some zv) (hsz : i.size = sz) (hby : i.bytes = bytes) (hzs : zv.cells.size = sz) (hpos : 0 < sz) (hbp : 0 < bytes) (h1 : ma f.tabs x x' = true) (h2 : ma f.tabs y y' = true)
    (hv : PO.ev call (.app id sz bytes x' y') e h = some (av, h')) : Turns P f o a w T ρ av h' := by
  have r1 := ma_rv k he h1
  have r2 := ma_rv k he h2
  have fin : ∀ v u r w', a.eval x = v → a.eval y = u → (Builtin.append_ #[t, t] o.type #[v, u]).run P w = .ok r w' → (execOp a.eval o).run P w = .ok (.value r) w' := by
    intro v u r w' e1 e2 hr
    simp [execOp, ho, resolve, hc, hx, ht, invoke, builtin, e1, e2, hr]
  simp only [PO.ev, appV] at hv
  split at hv
  · cases hv
  rename_i new hnew
  obtain ⟨news, src⟩ := esV_src k r2 hnew
  have els := src.els
  generalize hyv : a.eval y = u at r2 src
  have hu63 : ∀ q : Nat, q * bytes ≤ 140737488355328 → q ≤ 140737488355328 := fun q hq => Nat.le_trans (Nat.le_mul_of_pos_right _ hbp) hq
  split at hv
  · -- a nil slice
    rename_i z hq
    split at hv
    · rename_i hcond
      obtain ⟨rfl, hby2, hid⟩ := hcond
      cases hv
      have hid' : h id = none := by simpa using hid
      rw [hq] at r1
      generalize hxv : a.eval x = v at r1
      cases r1
      rcases src.val with ⟨hun, rfl⟩ | ⟨ad, cap', hun, hcells⟩
      · obtain ⟨k', g⟩ := k.newnil hid' z
        exact ⟨_, w, T, _, .inl (fin _ _ _ _ hxv (hyv.trans hun) (run_app0 hu hi none none 0 0 0 (Nat.le_refl _))), k', g, .slnil (if_pos rfl)⟩
      · by_cases hm : new.length = 0
        · have hnil : new = [] := List.length_eq_zero_iff.1 hm
          subst hnil
          obtain ⟨k', g⟩ := k.newnil hid' z
          exact ⟨_, w, T, _, .inl (fin _ _ _ _ hxv (hyv.trans hun) (run_app0 hu hi none (some ad) 0 0 cap' (Nat.le_refl _))), k', g, .slnil (if_pos rfl)⟩
        · have hr := run_append_nil (P := P) w t o.type el i zv hu hi hz ad new.length cap' news (by rw [els.len, hsz]) hcells (by omega) (by have := hu63 _ hby2; omega) (by rw [hby]; omega)
          obtain ⟨T', ρ', k', g, r⟩ := new_els (w' := w.drew.alloc (.cells (news.toArray ++ Builtin.zeroCells zv.cells (grownCap w new.length 0 el - new.length)) el)) (t := el) k ((Old.drew w).trans (Old.alloc _ _)) hid' els (b := w.heap.size) (Nat.le_refl _) (heap_alloc_new w.drew _) (cap := grownCap w new.length 0 el) (grownCap_ge ..) (grownCap_le_maxLen _ _ _ _ (by have := hu63 _ hby2; simp only [maxLen]; omega)) (by
            rw [size_zeroCells, hzs, els.len, ← Nat.add_mul]
            exact Nat.mul_le_mul_right _ (by have := grownCap_ge w new.length 0 el; omega))
          exact ⟨_, _, T', ρ', .inl (fin _ _ _ _ hxv (hyv.trans hun) hr), k', g, r⟩
    · cases hv
  · rename_i r z ofs n hq
    split at hv
    · rename_i z' es hrow
      split at hv
      · rename_i hcond
        obtain ⟨rfl, hzz, rfl, hby2, hid⟩ := hcond
        have hzz' := hzz.symm
        subst hzz'
        clear hzz
        cases hv
        have hid' : h id = none := by simpa using hid
        have hid2 : (h.put r .dead) id = none := by
          simp only [Heap.put]
          rw [if_neg (fun e => by rw [e, hrow] at hid'; cases hid')]
          exact hid'
        have hkill := k.kill hrow
        have hle := hu63 _ hby2
        rw [hq] at r1
        generalize hxv : a.eval x = v at r1
        have ok := k.rows r _ hrow
        cases r1 with
        | slnil hρ =>
          rw [List.take_zero, List.nil_append, Nat.zero_add]
          rw [Nat.zero_add] at hby2 hle
          rcases src.val with ⟨hun, rfl⟩ | ⟨ad, cap', hun, hcells⟩
          · obtain ⟨k', g⟩ := hkill.newnil hid2 z
            exact ⟨_, w, T, _, .inl (fin _ _ _ _ hxv (hyv.trans hun) (run_app0 hu hi none none 0 0 0 (Nat.le_refl _))), k', g, .slnil (if_pos rfl)⟩
          · by_cases hm : new.length = 0
            · have hnil : new = [] := List.length_eq_zero_iff.1 hm
              subst hnil
              obtain ⟨k', g⟩ := hkill.newnil hid2 z
              exact ⟨_, w, T, _, .inl (fin _ _ _ _ hxv (hyv.trans hun) (run_app0 hu hi none (some ad) 0 0 cap' (Nat.le_refl _))), k', g, .slnil (if_pos rfl)⟩
            · have hr := run_append_nil (P := P) w t o.type el i zv hu hi hz ad new.length cap' news (by rw [els.len, hsz]) hcells (by omega) (by omega) (by rw [hby]; omega)
              obtain ⟨T', ρ', k', g, r⟩ := new_els (w' := w.drew.alloc (.cells (news.toArray ++ Builtin.zeroCells zv.cells (grownCap w new.length 0 el - new.length)) el)) (t := el) hkill ((Old.drew w).trans (Old.alloc _ _)) hid2 els (b := w.heap.size) (Nat.le_refl _) (heap_alloc_new w.drew _) (cap := grownCap w new.length 0 el) (grownCap_ge ..) (grownCap_le_maxLen _ _ _ _ (by simp only [maxLen]; omega)) (by
                rw [size_zeroCells, hzs, els.len, ← Nat.add_mul]
                exact Nat.mul_le_mul_right _ (by have := grownCap_ge w new.length 0 el; omega))
              exact ⟨_, _, T', ρ', .inl (fin _ _ _ _ hxv (hyv.trans hun) hr), k', g, r⟩
        | @slz _ _ _ _ m b base off hρ hn =>
          rw [List.take_zero, List.nil_append, Nat.zero_add]
          rcases ok with ⟨_, _, h3⟩ | ⟨b', base', cur, e', h3, h4, h5, h6, h7, h8⟩
          · rw [hρ] at h3; cases h3
          rw [hρ] at h3
          cases h3
          have zero : new = [] → ∀ ad cap', a.eval y = .slice ad 0 cap' → Turns P f o a w T ρ (.sl id z 0 new.length) ((h.put r .dead).put id (.sl true z new)) := by
            intro hnil ad cap' hy'
            subst hnil
            have hrw : Rew w w b (fun _ => False) := ⟨rfl, rfl, rfl, rfl, fun _ _ => rfl, cur, cur, e', _, h5, h5, rfl, fun _ _ => rfl⟩
            obtain ⟨k', g⟩ := k.adopt (n' := 0) (base' := 0) hrow hρ hid' hrw (x := .sl true z []) fun ρ' hmore hρ' => .inr ⟨b, 0, cur, e', hρ', h4, h5, by simp, fun _ => rfl, ⟨fun j hj => (by cases hj), fun j c hj => (by cases hj)⟩⟩
            exact ⟨_, w, T, _, .inl (fin _ _ _ _ hxv hy' (run_app0 hu hi _ ad 0 0 cap' (Nat.le_refl _))), k', g, .slz (if_pos rfl) (Nat.le_refl _)⟩
          rcases src.val with ⟨hun, hnil⟩ | ⟨ad, cap', hun, hcells⟩
          · exact zero hnil none 0 (hyv.trans hun)
          · by_cases hm : new.length = 0
            · exact zero (List.length_eq_zero_iff.1 hm) (some ad) cap' (by rw [hyv, hun, hm])
            · rw [Nat.zero_add] at hby2 hle
              have hr := run_append_grow (P := P) w t o.type el i zv hu hi hz ⟨b, off, none⟩ 0 0 [] (by simp) (fun j v hj => by simp at hj) ad new.length cap' news (by rw [els.len, hsz]) hcells (by omega) (by omega) (growslice_fits (by omega) (by rw [hby, Nat.zero_add]; exact hby2))
              rw [Nat.zero_add] at hr
              obtain ⟨T', ρ', k', g, r⟩ := new_els (w' := w.drew.alloc (.cells (#[] ++ news.toArray ++ Builtin.zeroCells zv.cells (grownCap w new.length 0 el - new.length)) el)) (t := el) hkill ((Old.drew w).trans (Old.alloc _ _)) hid2 els (tail := Builtin.zeroCells zv.cells (grownCap w new.length 0 el - new.length)) (b := w.heap.size) (Nat.le_refl _) (by rw [Array.empty_append]; exact heap_alloc_new w.drew _) (cap := grownCap w new.length 0 el) (grownCap_ge ..) (grownCap_le_maxLen _ _ _ _ (by simp only [maxLen]; omega)) (by
                rw [size_zeroCells, hzs, els.len, ← Nat.add_mul]
                exact Nat.mul_le_mul_right _ (by have := grownCap_ge w new.length 0 el; omega))
              exact ⟨_, _, T', ρ', .inl (fin _ _ _ _ hxv (hyv.trans hun) hr), k', g, r⟩
        | @sl _ _ _ _ _ m b base cap hρ hn hcap hcm hs =>
          rcases ok with ⟨_, _, h3⟩ | ⟨b', base', cur, e', h3, h4, h5, h6, h7, h8⟩
          · rw [hρ] at h3; cases h3
          rw [hρ] at h3
          cases h3
          have hb0 := h7 rfl
          subst hb0
          rw [Nat.zero_mul, Nat.zero_add] at hxv
          rw [Nat.zero_add] at hn
          obtain ⟨cur2, e2, fr2, hs1, hs2⟩ := hs
          rw [h5] at hs1
          cases hs1
          rw [Nat.zero_add, Nat.zero_add] at hs2
          have hlen : (es.take n).length = n := by rw [List.length_take]; omega
          have olds := (Src.at (w := w) (T := T) (b := b) (base := 0) (z := z) (cap := cap) (new := es.take n) (fun j hj => by
            rw [hlen] at hj
            have := getD_drop_take es 0 n j [] hj
            rw [List.drop_zero, Nat.zero_add] at this
            rw [this]
            exact h8.len j (by omega)) (fun j c hj hc => by
            rw [hlen] at hj
            have := getD_drop_take es 0 n j [] hj
            rw [List.drop_zero, Nat.zero_add] at this
            rw [this]
            exact h8.cell j c (by omega) hc))
          generalize hov : ((List.range ((es.take n).length * z)).map fun i => (w.cell? ⟨b, 0 + i, none⟩).getD undef) = ov at olds
          have oels := olds.els
          have hocells : ∀ j u, ov[j]? = some u → w.cell? ((⟨b, 0, none⟩ : Addr).add j) = some u := by
            rcases olds.val with ⟨hh, _⟩ | ⟨ad, cap', hh, hcells⟩
            · cases hh
            · cases hh; exact hcells
          have both := oels.append els
          have inplace : ∀ (w' : World) (hrw : Rew w w' b (fun i => n * z ≤ i ∧ i < n * z + news.length)) (hnv : ∀ j, j < news.length → w'.cell? ⟨b, n * z + j, none⟩ = some (news.getD j undef)), n + new.length ≤ cap → (execOp a.eval o).run P w = .ok (.value (.slice (some ⟨b, 0, none⟩) (n + new.length) cap)) w' → Turns P f o a w T ρ (.sl id z 0 (n + new.length)) ((h.put r .dead).put id (.sl true z (es.take n ++ new))) := by
            intro w' hrw hnv hroom hrun
            have hsame := hrw.same (T := T) h4
            have hfit : (n + new.length) * z ≤ cur.size := Nat.le_trans (Nat.mul_le_mul_right _ hroom) hs2
            obtain ⟨d, d', e3, fr3, q1, q2, q3, q4⟩ := hrw.blk
            rw [h5] at q1
            cases q1
            obtain ⟨k', g⟩ := k.adopt (n' := n + new.length) (base' := 0) hrow hρ hid' hrw (x := .sl true z (es.take n ++ new)) fun ρ' hmore hρ' => by
              refine .inr ⟨b, 0, d', e', by rw [List.length_append, hlen]; exact hρ', h4, q2, by rw [List.length_append, hlen, q3, Nat.zero_add]; exact hfit, fun _ => rfl, ⟨both.el, fun j c hj hc => ?_⟩⟩
              obtain ⟨h11, h12⟩ := both.rv j c hj hc
              refine ⟨_, ?_, h12, h11.mono hsame (fun _ _ h => h) fun _ _ h => h⟩
              rw [Nat.zero_add]
              rw [List.length_append, hlen] at hj
              have hlt := in_row hj hc
              by_cases hjn : j < n
              · have hlt2 := in_row hjn hc
                rw [getD_append_left' _ _ _ _ (by rw [oels.len, hlen]; exact hlt2)]
                rw [cell_of q2, q4 _ (by omega)]
                have h13 : ov[j * z + c]? = some (ov.getD (j * z + c) undef) := by
                  rw [List.getD_eq_getElem?_getD, List.getElem?_eq_getElem (by rw [oels.len, hlen]; exact hlt2)]; rfl
                have := hocells _ _ h13
                rw [add_at, Nat.zero_add, cell_of h5] at this
                exact this
              · have h2 := Nat.mul_le_mul_right z (show n ≤ j by omega)
                rw [getD_append_right' _ _ _ _ (by rw [oels.len, hlen]; omega), oels.len, hlen]
                have h3 : j * z + c - n * z < news.length := by rw [els.len]; rw [Nat.add_mul] at hlt; omega
                have := hnv _ h3
                rw [show n * z + (j * z + c - n * z) = j * z + c by omega] at this
                exact this
            refine ⟨_, w', T, _, .inl hrun, k', g, ?_⟩
            have := Rv.sl (w := w') (T := T) (ρ := fun q => if q = id then some ⟨z, n + new.length, some (b, 0)⟩ else ρ q) (r := id) (o := 0) (n := n + new.length) (cap := cap) (if_pos rfl) (by omega) hroom hcm ⟨d', e', (0, 0), q2, by rw [q3, Nat.zero_add, Nat.zero_add]; exact hs2⟩
            simpa using this
          have noop : new = [] → ∀ ad cap', a.eval y = .slice ad 0 cap' → Turns P f o a w T ρ (.sl id z 0 (n + new.length)) ((h.put r .dead).put id (.sl true z (es.take n ++ new))) := by
            intro hnil ad cap' hy'
            have hnl : news.length = 0 := by rw [els.len, hnil]; simp
            refine inplace w ⟨rfl, rfl, rfl, rfl, fun _ _ => rfl, cur, cur, e', _, h5, h5, rfl, fun _ _ => rfl⟩ (fun j hj => by omega) (by rw [hnil]; simpa using hcap) ?_
            rw [hnil]
            exact fin _ _ _ _ hxv hy' (run_app0 hu hi _ ad n cap cap' hcap)
          rcases src.val with ⟨hun, hnil⟩ | ⟨ad, cap', hun, hcells⟩
          · exact noop hnil none 0 (hyv.trans hun)
          · by_cases hm : new.length = 0
            · exact noop (List.length_eq_zero_iff.1 hm) (some ad) cap' (by rw [hyv, hun, hm])
            · by_cases hroom : n + new.length ≤ cap
              · have hfit : (n + new.length) * z ≤ cur.size := Nat.le_trans (Nat.mul_le_mul_right _ hroom) hs2
                rw [Nat.add_mul] at hfit
                have hr := run_room (P := P) (w := w) (ty := o.type) hu hi h5 (n := n) (cap := cap) (c := cap') (by rw [els.len, hsz]) hcells els.one hroom (by rw [hsz, els.len]; exact hfit)
                rw [hsz] at hr
                refine inplace _ (rew_setCells b news (n * z) w h5) (fun j hj => ?_) hroom (fin _ _ _ _ hxv (hyv.trans hun) hr)
                have := World.cell?_setCells_in b news (n * z) w (fun i hi => by
                  rw [cell_of h5]
                  have : n * z + i < cur.size := by rw [els.len] at hi; omega
                  simp [this]) j hj
                rw [this, List.getD_eq_getElem?_getD, List.getElem?_eq_getElem hj]
                rfl
              · have hr := run_append_grow (P := P) w t o.type el i zv hu hi hz ⟨b, 0, none⟩ n cap ov (by rw [oels.len, hlen, hsz]) hocells ad new.length cap' news (by rw [els.len, hsz]) hcells (by omega) (by omega) (growslice_fits (by omega) (by rw [hby]; exact hby2))
                obtain ⟨T', ρ', k', g, r⟩ := new_els (w' := w.drew.alloc (.cells (ov.toArray ++ news.toArray ++ Builtin.zeroCells zv.cells (grownCap w (n + new.length) cap el - (n + new.length))) el)) (t := el) hkill ((Old.drew w).trans (Old.alloc _ _)) hid2 both (tail := Builtin.zeroCells zv.cells (grownCap w (n + new.length) cap el - (n + new.length))) (b := w.heap.size) (Nat.le_refl _) (by
                    have e9 : (ov ++ news).toArray = ov.toArray ++ news.toArray := by simp
                    rw [e9]; exact heap_alloc_new w.drew _) (cap := grownCap w (n + new.length) cap el) (by rw [List.length_append, hlen]; exact grownCap_ge ..) (grownCap_le_maxLen _ _ _ _ (by simp only [maxLen]; omega)) (by
                    rw [size_zeroCells, hzs, List.length_append, oels.len, els.len, hlen, ← Nat.add_mul, ← Nat.add_mul]
                    exact Nat.mul_le_mul_right _ (by have := grownCap_ge w (n + new.length) cap el; omega))
                rw [List.length_append, hlen] at r
                exact ⟨_, _, T', ρ', .inl (fin _ _ _ _ hxv (hyv.trans hun) hr), k', g, r⟩
      · cases hv
    · cases hv
  · cases hv
end
end Go.Pe
set_option linter.unusedVariables false
set_option linter.unusedSimpArgs false
namespace Go.Pe
open Go
def isRef : AV → Bool
  | .sl _ _ _ _ | .p _ _ _ => true
  | _ => false
structure J (f : Fr) (w : World) (T : Nat → Prop) (ρ : Rho) (h : Heap) (ρ0 : Rho) (e0 : Nat → AV) (h0 : Heap) (ls : List Nat) (a : Act) : Prop where
  A : WInv f w T ρ h
  env : Env w T ρ0 e0 a
  rows : ∀ r x, h0 r = some x → RowOk w T ρ0 r x
  dom : ∀ r, h0 r = none → ρ0 r = none
  sep : ∀ r r' x x', r ≠ r' → h0 r = some x → h0 r' = some x' → x.live = true → x'.live = true → ∀ p p' b base b' base', ρ0 r = some p → ρ0 r' = some p' → p.loc = some (b, base) → p'.loc = some (b', base') → b ≠ b'
  wr : ∀ r x p b base, h0 r = some x → x.live = true → ρ0 r = some p → p.loc = some (b, base) → f.w0.heap.size ≤ b ∨ ((∀ o, base ≤ o → o < base + p.n * p.z → f.W0 b o) ∧ (x.isAp = true → ∀ o, f.W0 b o))
  own : ∀ r x p b base, r ∉ f.lids → h0 r = some x → x.live = true → ρ0 r = some p → p.loc = some (b, base) → f.w0.heap.size ≤ b
  la : ∀ r ∈ f.lids, ∀ x, h0 r = some x → x.isAp = false
  x : ∀ r r' x x', h r = some x → h0 r' = some x' → x.live = true → x'.live = true → ∀ p p' b base b' base', ρ r = some p → ρ0 r' = some p' → p.loc = some (b, base) → p'.loc = some (b', base') → b ≠ b'
  lp : ∀ r ∈ ls, r ∈ f.lids ∧ ρ0 r = some (f.pl0 r) ∧ ∀ x, h r = some x → x.live = false
  tn : ∀ t, isRef (e0 t) = true ∨ Rv w T Rho.none (e0 t) (a.tmps.getD t undef)
  t0 : ∀ b, f.T0 b → T b ∨ ∃ r ∈ f.lids, r ∉ ls ∧ ∀ x, h r = some x → x.live = false
section
variable {f : Fr} {w : World} {T : Nat → Prop} {ρ ρ0 : Rho} {h h0 : Heap} {e0 : Nat → AV} {ls : List Nat} {a : Act}
theorem J.freeze (j : J f w T ρ h ρ0 e0 h0 ls a) (rs : List Nat) : ∃ T', J f w T' ρ (h.freeze rs) ρ0 e0 h0 ls a ∧ Goes w w T T' ρ ρ ∧ (∀ r ∈ rs, ∀ b, rowBlk h ρ r b → ¬ T' b) := by
  obtain ⟨T', k', g, h1, h2⟩ := j.A.freeze rs
  have less : ∀ b, b < w.heap.size → T' b → T b := g.less
  refine ⟨T', ⟨k', fun t => (j.env t).less less, fun r x hx => ?_, j.dom, j.sep, j.wr, j.own, j.la, fun r r' x x' hx hx' hl hl' => ?_, fun r hr => ?_, fun t => (j.tn t).imp id fun h => h.less less, fun b hb => ?_⟩, g, h1⟩
  · refine (j.rows r x hx).mono (Same.refl _ _) less (fun _ _ h => h) fun p b base hp hl hlv => ⟨rfl, ?_⟩
    rcases h2 b ((j.rows r x hx).inT hlv p b base hp hl) with h3 | ⟨q, hq, y, p', base', hy, hyl, hp', hloc⟩
    · exact h3
    · exact absurd rfl (j.x q r y x hy hx hyl hlv p' p b base' b base hp' hp hloc hl)
  · exact j.x r r' x x' (freeze_live' hx hl).1 hx' hl hl'
  · obtain ⟨h3, h4, h5⟩ := j.lp r hr
    refine ⟨h3, h4, fun x hx => ?_⟩
    cases hl : x.live with
    | false => rfl
    | true => rw [h5 x (freeze_live' hx hl).1] at hl; cases hl
  · rcases j.t0 b hb with h3 | ⟨r, hr, hrl, h4⟩
    · rcases h2 b h3 with h5 | ⟨q, hq, y, p', base', hy, hyl, hp', hloc⟩
      · exact .inl h5
      · by_cases hm : q ∈ f.lids
        · refine .inr ⟨q, hm, fun hql => ?_, fun x hx => ?_⟩
          · rw [(j.lp q hql).2.2 y hy] at hyl; cases hyl
          · cases hl : x.live with
            | false => rfl
            | true => exact absurd hq (freeze_live' hx hl).2
        · exact absurd (j.A.t0lt b hb) (Nat.not_lt.2 (j.A.own q y p' b base' hm hy hyl hp' hloc))
    · refine .inr ⟨r, hr, hrl, fun x hx => ?_⟩
      cases hl : x.live with
      | false => rfl
      | true => rw [h4 x (freeze_live' hx hl).1] at hl; cases hl
theorem J.set (j : J f w T ρ h ρ0 e0 h0 ls a) {t : Nat} {av : AV} (hv : Rv w T Rho.none av (a.tmps.getD t undef)) : J f w T ρ h ρ0 (upd e0 t av) h0 ls a := by
  refine { j with env := fun s => ?_, tn := fun s => ?_ } <;> unfold upd <;> split
  · rename_i e; subst e; exact hv.any
  · exact j.env s
  · rename_i e; subst e; exact .inr hv
  · exact j.tn s
theorem J.setr (j : J f w T ρ h ρ0 e0 h0 ls a) {t : Nat} {av : AV} (hv : Rv w T ρ0 av (a.tmps.getD t undef)) (hi : isRef av = true) : J f w T ρ h ρ0 (upd e0 t av) h0 ls a := by
  refine { j with env := fun s => ?_, tn := fun s => ?_ } <;> unfold upd <;> split
  · rename_i e; subst e; exact hv
  · exact j.env s
  · exact .inl hi
  · exact j.tn s
theorem J.move (j : J f w T ρ h ρ0 e0 h0 ls a) {r : Nat} {y : Row} (hy : h r = some y) (hyl : y.live = true) {q : Nat} (hq : h0 q = none) {x : Row} {p : Pl} (hx : ∀ ρ', (∀ r p, ρ0 r = some p → ρ' r = some p) → ρ' q = some p → RowOk w T ρ' q x) (hxl : x.live = true)
    (hloc : p.loc = none ∨ ∃ py b base base', ρ r = some py ∧ py.loc = some (b, base) ∧ p.loc = some (b, base') ∧ (∀ i, base' ≤ i → i < base' + p.n * p.z → base ≤ i ∧ i < base + py.n * py.z) ∧ (x.isAp = true → y.isAp = true))
    (hown : q ∈ f.lids ∧ q = r ∧ p = f.pl0 q ∧ q ∉ ls ∧ x.isAp = false ∨ q ∉ f.lids ∧ r ∉ f.lids) (ls' : List Nat) (hls : q ∈ f.lids ∧ ls' = q :: ls ∨ ls' = ls ∧ q ∉ f.lids) :
    J f w T ρ (h.put r .dead) (fun s => if s = q then some p else ρ0 s) e0 (h0.put q x) ls' a := by
  have more : ∀ s p', ρ0 s = some p' → (if s = q then some p else ρ0 s) = some p' := by
    intro s p' hs
    split
    · rename_i e
      subst e
      rw [j.dom _ hq] at hs
      cases hs
    · exact hs
  have old0 : ∀ s z, (h0.put q x) s = some z → (s = q ∧ z = x) ∨ (s ≠ q ∧ h0 s = some z) := by
    intro s z hz
    simp only [Heap.put] at hz
    split at hz
    · rename_i e; cases hz; exact .inl ⟨e, rfl⟩
    · rename_i e; exact .inr ⟨e, hz⟩
  have old : ∀ s z, (h.put r .dead) s = some z → z.live = true → s ≠ r ∧ h s = some z := by
    intro s z hz hzl
    simp only [Heap.put] at hz
    split at hz
    · cases hz; cases hzl
    · rename_i e; exact ⟨e, hz⟩
  -- the block of the row that moves
  have blk : ∀ b base', p.loc = some (b, base') → ∃ py base, ρ r = some py ∧ py.loc = some (b, base) := by
    intro b base' hb
    rcases hloc with h1 | ⟨py, b', base, base'', h1, h2, h3, _⟩
    · rw [h1] at hb; cases hb
    · rw [h3] at hb; cases hb; exact ⟨py, base, h1, h2⟩
  refine ⟨j.A.kill hy, fun t => (j.env t).mono (Same.refl _ _) (fun _ _ h => h) more, fun s z hz => ?_, fun s hs => ?_, fun s s' z z' hne hz hz' hl hl' p1 p2 b base b' base' hp1 hp2 hl1 hl2 => ?_, fun s z p1 b base hz hl hp1 hl1 => ?_, fun s z p1 b base hs hz hl hp1 hl1 => ?_, fun s hs z hz => ?_, fun s s' z z' hz hz' hl hl' p1 p2 b base b' base' hp1 hp2 hl1 hl2 => ?_, fun s hs => ?_, j.tn, fun b hb => ?_⟩
  · rcases old0 s z hz with ⟨rfl, rfl⟩ | ⟨hne, hz'⟩
    · exact hx _ more (if_pos rfl)
    · exact (j.rows s z hz').mono (Same.refl _ _) (fun _ _ h => h) more fun p' b base hp hl hlv => ⟨rfl, (j.rows s z hz').inT hlv p' b base hp hl⟩
  · simp only [Heap.put] at hs
    split at hs
    · cases hs
    · rename_i hne
      simp only [hne, if_false]
      exact j.dom s hs
  · rcases old0 s z hz with ⟨rfl, rfl⟩ | ⟨h1, h2⟩
    · rcases old0 s' z' hz' with ⟨rfl, rfl⟩ | ⟨h3, h4⟩
      · exact absurd rfl hne
      · rw [if_pos rfl] at hp1
        cases hp1
        rw [if_neg h3] at hp2
        obtain ⟨py, base2, h5, h6⟩ := blk b base hl1
        exact j.x r s' y z' hy h4 hyl hl' py p2 b base2 b' base' h5 hp2 h6 hl2
    · rcases old0 s' z' hz' with ⟨rfl, rfl⟩ | ⟨h3, h4⟩
      · rw [if_pos rfl] at hp2
        cases hp2
        rw [if_neg h1] at hp1
        obtain ⟨py, base2, h5, h6⟩ := blk b' base' hl2
        exact fun e => j.x r s y z hy h2 hyl hl py p1 b' base2 b base h5 hp1 h6 hl1 e.symm
      · rw [if_neg h1] at hp1
        rw [if_neg h3] at hp2
        exact j.sep s s' z z' hne h2 h4 hl hl' p1 p2 b base b' base' hp1 hp2 hl1 hl2
  · rcases old0 s z hz with ⟨rfl, rfl⟩ | ⟨h1, h2⟩
    · rw [if_pos rfl] at hp1
      cases hp1
      rcases hloc with h3 | ⟨py, b', base2, base3, h3, h4, h5, h6, h7⟩
      · rw [h3] at hl1; cases hl1
      · rw [h5] at hl1
        cases hl1
        rcases j.A.wr r y py b base2 hy hyl h3 h4 with h8 | ⟨h8, h9⟩
        · exact .inl h8
        · exact .inr ⟨fun i hi1 hi2 => h8 i (h6 i hi1 hi2).1 (h6 i hi1 hi2).2, fun hh => h9 (h7 hh)⟩
    · rw [if_neg h1] at hp1
      exact j.wr s z p1 b base h2 hl hp1 hl1
  · rcases old0 s z hz with ⟨rfl, rfl⟩ | ⟨h1, h2⟩
    · rw [if_pos rfl] at hp1
      cases hp1
      obtain ⟨py, base2, h5, h6⟩ := blk b base hl1
      rcases hown with ⟨h7, _⟩ | ⟨_, h7⟩
      · exact absurd h7 hs
      · exact j.A.own r y py b base2 h7 hy hyl h5 h6
    · rw [if_neg h1] at hp1
      exact j.own s z p1 b base hs h2 hl hp1 hl1
  · rcases old0 s z hz with ⟨rfl, rfl⟩ | ⟨h1, h2⟩
    · rcases hown with ⟨_, _, _, _, h7⟩ | ⟨h7, _⟩
      · exact h7
      · exact absurd hs h7
    · exact j.la s hs z h2
  · obtain ⟨h1, h2⟩ := old s z hz hl
    rcases old0 s' z' hz' with ⟨rfl, rfl⟩ | ⟨h3, h4⟩
    · rw [if_pos rfl] at hp2
      cases hp2
      obtain ⟨py, base2, h5, h6⟩ := blk b' base' hl2
      exact j.A.sep s r z y h1 h2 hy hl hyl p1 py b base b' base2 hp1 h5 hl1 h6
    · rw [if_neg h3] at hp2
      exact j.x s s' z z' h2 h4 hl hl' p1 p2 b base b' base' hp1 hp2 hl1 hl2
  · have hold : s ∈ ls → s ∈ f.lids ∧ (if s = q then some p else ρ0 s) = some (f.pl0 s) ∧ ∀ x, (h.put r .dead) s = some x → x.live = false := by
      intro hs
      obtain ⟨h1, h2, h3⟩ := j.lp s hs
      refine ⟨h1, more _ _ h2, fun z hz => ?_⟩
      cases hzl : z.live with
      | false => rfl
      | true => rw [h3 z (old s z hz hzl).2] at hzl; cases hzl
    rcases hls with ⟨h1, rfl⟩ | ⟨rfl, _⟩
    · rcases List.mem_cons.1 hs with rfl | hs'
      · rcases hown with ⟨h7, h8, h9, _⟩ | ⟨h7, _⟩
        · refine ⟨h7, by rw [if_pos rfl, h9], fun z hz => ?_⟩
          cases hzl : z.live with
          | false => rfl
          | true => exact absurd h8 (old s z hz hzl).1
        · exact absurd h1 h7
      · exact hold hs'
    · exact hold hs
  · rcases j.t0 b hb with h1 | ⟨s, h1, h2, h3⟩
    · exact .inl h1
    · refine .inr ⟨s, h1, ?_, fun z hz => ?_⟩
      · rcases hls with ⟨h4, rfl⟩ | ⟨rfl, _⟩
        · intro hs
          rcases List.mem_cons.1 hs with rfl | hs'
          · rcases hown with ⟨_, h8, _⟩ | ⟨h7, _⟩
            · subst h8; rw [h3 y hy] at hyl; cases hyl
            · exact absurd h4 h7
          · exact h2 hs'
        · exact h2
      · cases hzl : z.live with
        | false => rfl
        | true => rw [h3 z (old s z hz hzl).2] at hzl; cases hzl
theorem J.nil (j : J f w T ρ h ρ0 e0 h0 ls a) {q : Nat} (hq : h0 q = none) (hql : q ∉ f.lids) (ap : Bool) (z : Nat) :
    J f w T ρ h (fun s => if s = q then some ⟨z, 0, none⟩ else ρ0 s) e0 (h0.put q (.sl ap z [])) ls a := by
  have more : ∀ s p', ρ0 s = some p' → (if s = q then some ⟨z, 0, none⟩ else ρ0 s) = some p' := by
    intro s p' hs
    split
    · rename_i e
      subst e
      rw [j.dom _ hq] at hs
      cases hs
    · exact hs
  have place : ∀ s y p b base, (h0.put q (.sl ap z [])) s = some y → (if s = q then some ⟨z, 0, none⟩ else ρ0 s) = some p → p.loc = some (b, base) → h0 s = some y ∧ ρ0 s = some p := by
    intro s y p b base hy hp hl
    simp only [Heap.put] at hy
    split at hy
    · rename_i e; rw [if_pos e] at hp; cases hp; cases hl
    · rename_i e; rw [if_neg e] at hp; exact ⟨hy, hp⟩
  refine ⟨j.A, fun t => (j.env t).mono (Same.refl _ _) (fun _ _ h => h) more, fun s y hy => ?_, fun s hs => ?_, fun s s' y y' hne hy hy' hl hl' p1 p2 b base b' base' hp1 hp2 hl1 hl2 => ?_, fun s y p1 b base hy hl hp1 hl1 => ?_, fun s y p1 b base hs hy hl hp1 hl1 => ?_, fun s hs y hy => ?_, fun s s' y y' hy hy' hl hl' p1 p2 b base b' base' hp1 hp2 hl1 hl2 => ?_, fun s hs => ?_, j.tn, j.t0⟩
  · simp only [Heap.put] at hy
    split at hy
    · rename_i e
      cases hy
      subst e
      exact .inl ⟨rfl, trivial, if_pos rfl⟩
    · exact (j.rows s y hy).mono (Same.refl _ _) (fun _ _ h => h) more fun p' b base hp hl hlv => ⟨rfl, (j.rows s y hy).inT hlv p' b base hp hl⟩
  · simp only [Heap.put] at hs
    split at hs
    · cases hs
    · rename_i hne
      simp only [hne, if_false]
      exact j.dom s hs
  · obtain ⟨h1, h2⟩ := place s y p1 b base hy hp1 hl1
    obtain ⟨h3, h4⟩ := place s' y' p2 b' base' hy' hp2 hl2
    exact j.sep s s' y y' hne h1 h3 hl hl' p1 p2 b base b' base' h2 h4 hl1 hl2
  · obtain ⟨h1, h2⟩ := place s y p1 b base hy hp1 hl1
    exact j.wr s y p1 b base h1 hl h2 hl1
  · obtain ⟨h1, h2⟩ := place s y p1 b base hy hp1 hl1
    exact j.own s y p1 b base hs h1 hl h2 hl1
  · simp only [Heap.put] at hy
    split at hy
    · rename_i e; rw [e] at hs; exact absurd hs hql
    · exact j.la s hs y hy
  · obtain ⟨h3, h4⟩ := place s' y' p2 b' base' hy' hp2 hl2
    exact j.x s s' y y' hy h3 hl hl' p1 p2 b base b' base' hp1 h4 hl1 hl2
  · obtain ⟨h1, h2, h3⟩ := j.lp s hs
    exact ⟨h1, more _ _ h2, h3⟩
end
end Go.Pe
set_option linter.unusedVariables false
set_option linter.unusedSimpArgs false
namespace Go.Pe
open Go
def idOf (p : Nat × Nat) : Nat := if p.2 = 2 then p.1 else pid p.1
def Flat (w : World) (T : Nat → Prop) (e : Nat → AV) (a : Act) : Prop := ∀ t, isRef (e t) = true ∨ Rv w T Rho.none (e t) (a.tmps.getD t undef)
def okL (lids : List Nat) : List Nat → List (Nat × Nat) → Bool
  | ls, [] => lids.all fun r => ls.contains r
  | ls, (t, 0) :: l => !lids.contains (pid t) && okL lids ls l
  | ls, (t, 1) :: l => lids.all (fun r => ls.contains r) && !lids.contains (pid t) && okL lids ls l
  | ls, (t, 2) :: l => lids.contains t && !ls.contains t && okL lids (t :: ls) l
  | _, _ => false
section
variable {f : Fr} {w : World} {T : Nat → Prop} {ρ ρ0 : Rho} {h h0 : Heap} {e e0 : Nat → AV} {ls : List Nat} {a : Act}
theorem un1_rv {av : AV} {v : Value} (k : Rv w T ρ av v) (g : Heap) (q : Nat) : un1 g q av = (av, g) := by cases k <;> rfl
theorem put_self_none {q : Nat} {x : Row} (r : Nat) (hne : r ≠ q) : (h.put q x) r = h r := by simp only [Heap.put]; rw [if_neg hne]
theorem J.slice (j : J f w T ρ h ρ0 e0 h0 ls a) {t r z o n : Nat} {ap : Bool} {z' : Nat} {es : List (List AV)} (hr : h r = some (.sl ap z' es)) (hv : Rv w T ρ (.sl r z o n) (a.tmps.getD t undef)) (hq : h0 (pid t) = none) (hpl : pid t ∉ f.lids) (hrl : r ∉ f.lids) :
    ∃ ρ0', J f w T ρ (h.put r .dead) ρ0' (upd e0 t (.sl (pid t) z 0 ((es.drop o).take n).length)) (h0.put (pid t) (.sl (ap && decide (o = 0)) z ((es.drop o).take n))) ls a := by
  have ok := j.A.rows r _ hr
  generalize hx : a.tmps.getD t undef = v at hv
  have fin : ∀ {p : Pl} {x : Row} {av : AV}, J f w T ρ (h.put r .dead) (fun s => if s = pid t then some p else ρ0 s) e0 (h0.put (pid t) x) ls a → Rv w T (fun s => if s = pid t then some p else ρ0 s) av v → isRef av = true →
      ∃ ρ0', J f w T ρ (h.put r .dead) ρ0' (upd e0 t av) (h0.put (pid t) x) ls a := by
    intro p x av j' hv' hi
    exact ⟨_, j'.setr (by rw [hx]; exact hv') hi⟩
  cases hv with
  | @sl _ _ _ _ _ m b base cap hρ hn hc hm hs =>
    rcases ok with ⟨_, _, h3⟩ | ⟨b', base', cur, el, h3, h4, h5, h6, h7, h8⟩
    · rw [hρ] at h3; cases h3
    rw [hρ] at h3
    cases h3
    have hl : ((es.drop o).take n).length = n := by rw [List.length_take, List.length_drop]; omega
    have key : ∀ j c, base + o * z + j * z + c = base + (o + j) * z + c := by intro j c; rw [Nat.add_mul]; omega
    have hsz : base + o * z + n * z ≤ cur.size := by
      have := Nat.mul_le_mul_right z hn
      rw [Nat.add_mul] at this
      omega
    rw [hl]
    refine fin (p := ⟨z, n, some (b, base + o * z)⟩) (j.move hr rfl hq (x := .sl (ap && decide (o = 0)) z ((es.drop o).take n)) (p := ⟨z, n, some (b, base + o * z)⟩) (fun ρ' hmore hp => ?_) rfl (.inr ⟨_, b, base, base + o * z, hρ, rfl, rfl, fun i h1 h2 => ⟨by omega, ?_⟩, fun hh => ?_⟩) (.inr ⟨hpl, hrl⟩) ls (.inr ⟨rfl, hpl⟩)) ?_ rfl
    · refine .inr ⟨b, base + o * z, cur, el, by rw [hl]; exact hp, h4, h5, by rw [hl]; exact hsz, fun hh => ?_, ⟨fun j hj => ?_, fun j c hj hc' => ?_⟩⟩
      · simp only [Bool.and_eq_true, decide_eq_true_eq] at hh
        rw [h7 hh.1, hh.2]
        simp
      · rw [hl] at hj
        rw [getD_drop_take _ _ _ _ _ hj]
        exact h8.len _ (by omega)
      · rw [hl] at hj
        rw [getD_drop_take _ _ _ _ _ hj, key]
        exact h8.cell _ c (by omega) hc'
    · have := Nat.mul_le_mul_right z hn
      rw [Nat.add_mul] at this
      simp only at h2 ⊢
      omega
    · simp only [Row.isAp, Bool.and_eq_true] at hh ⊢
      exact hh.1
    · have := Rv.sl (w := w) (T := T) (ρ := fun s => if s = pid t then some ⟨z, n, some (b, base + o * z)⟩ else ρ0 s) (r := pid t) (o := 0) (n := n) (cap := cap) (if_pos rfl) (by omega) hc hm (by
        obtain ⟨cur2, e2, fr2, h9, h10⟩ := hs
        refine ⟨cur2, e2, fr2, h9, ?_⟩
        rw [Nat.add_mul] at h10
        rw [Nat.zero_add]
        omega)
      rw [Nat.zero_mul, Nat.add_zero] at this
      exact this
  | @slz _ _ _ _ m b base off hρ hn =>
    rcases ok with ⟨_, _, h3⟩ | ⟨b', base', cur, el, h3, h4, h5, h6, h7, h8⟩
    · rw [hρ] at h3; cases h3
    rw [hρ] at h3
    cases h3
    rw [List.take_zero]
    refine fin (p := ⟨z, 0, some (b, 0)⟩) (j.move hr rfl hq (x := .sl (ap && decide (o = 0)) z []) (p := ⟨z, 0, some (b, 0)⟩) (fun ρ' hmore hp => ?_) rfl (.inr ⟨_, b, base, 0, hρ, rfl, rfl, fun i h1 h2 => ?_, fun hh => ?_⟩) (.inr ⟨hpl, hrl⟩) ls (.inr ⟨rfl, hpl⟩)) ?_ rfl
    · exact .inr ⟨b, 0, cur, el, hp, h4, h5, by simp, fun _ => rfl, ⟨fun j hj => (by cases hj), fun j c hj => (by cases hj)⟩⟩
    · simp at h2
    · simp only [Row.isAp, Bool.and_eq_true] at hh ⊢
      exact hh.1
    · exact .slz (if_pos rfl) (Nat.le_refl _)
  | slnil hρ =>
    rcases ok with ⟨h1, h2, h3⟩ | ⟨b', base', cur, el, h3, h4, h5, h6, h7, h8⟩
    · subst h1
      rw [List.drop_nil, List.take_nil]
      refine fin (p := ⟨z, 0, none⟩) (j.move hr rfl hq (x := .sl (ap && decide (0 = 0)) z []) (p := ⟨z, 0, none⟩) (fun ρ' hmore hp => .inl ⟨rfl, trivial, hp⟩) rfl (.inl rfl) (.inr ⟨hpl, hrl⟩) ls (.inr ⟨rfl, hpl⟩)) ?_ rfl
      exact .slnil (if_pos rfl)
    · rw [hρ] at h3
      have := congrArg Pl.loc (Option.some.inj h3)
      cases this
theorem J.struct (j : J f w T ρ h ρ0 e0 h0 ls a) {r : Nat} {cs : List AV} (hr : h r = some (.st cs)) (hnr : r ∉ cs.flatMap ref0) {q : Nat} (hq : h0 q = none) (hown : q ∈ f.lids ∧ q = r ∧ q ∉ ls ∨ q ∉ f.lids ∧ r ∉ f.lids) (ls' : List Nat) (hls : q ∈ f.lids ∧ ls' = q :: ls ∨ ls' = ls ∧ q ∉ f.lids) :
    ∃ T' ρ0' b base, J f w T' ρ ((h.freeze (cs.flatMap ref0)).put r .dead) ρ0' e0 (h0.put q (.st (cs.map (tell0 h)))) ls' a ∧ Goes w w T T' ρ ρ ∧ ρ r = some ⟨cs.length, 1, some (b, base)⟩ ∧ ρ0' q = some ⟨cs.length, 1, some (b, base)⟩ := by
  obtain ⟨T', j', g, hfree⟩ := j.freeze (cs.flatMap ref0)
  have hr' : (h.freeze (cs.flatMap ref0)) r = some (.st cs) := by rw [freeze_notin hnr]; exact hr
  obtain ⟨b, base, cur, el, h3, h4, h5, h6, h7⟩ := j'.A.rows r _ hr'
  refine ⟨T', _, b, base, j'.move hr' rfl hq (x := .st (cs.map (tell0 h))) (p := ⟨cs.length, 1, some (b, base)⟩) (fun ρ' hmore hp => ?_) rfl (.inr ⟨_, b, base, base, h3, rfl, rfl, fun i h1 h2 => ⟨h1, h2⟩, fun hh => by cases hh⟩) ?_ ls' hls, g, h3, if_pos rfl⟩
  · refine ⟨b, base, cur, el, by rw [List.length_map]; exact hp, h4, h5, by rw [List.length_map]; exact h6, ⟨fun i hi => ?_, fun i c hi hc => ?_⟩⟩
    · cases i with
      | zero => rfl
      | succ i => simp at hi
    · cases i with
      | succ i => simp at hi
      | zero =>
        rw [List.length_map] at hc
        obtain ⟨v, h8, h9, h10⟩ := h7.cell 0 c (by simp) hc
        refine ⟨v, ?_, h9, ?_⟩
        · simpa only [Nat.zero_mul] using h8
        · show Rv w T' ρ' ((cs.map (tell0 h)).getD c .junk) v
          rw [getD_map_lt (tell0 h) cs c .junk .junk hc]
          refine (tell0_cell (T := T) j.A.rows g.less h9 ?_ fun r' hr2 => hfree r' ?_).any
          · -- the cell as it was ahead of the freezing
            obtain ⟨b2, base2, cur2, el2, k3, k4, k5, k6, k7⟩ := j.A.rows r _ hr
            rw [h3] at k3
            cases k3
            obtain ⟨v2, k8, k9, k10⟩ := k7.cell 0 c (by simp) hc
            rw [h8] at k8
            cases k8
            exact k10
          · exact List.mem_flatMap.2 ⟨_, getD_mem _ hc, hr2⟩
  · rcases hown with ⟨h1, rfl, h2⟩ | h1
    · refine .inl ⟨h1, rfl, ?_, h2, rfl⟩
      have := j.A.lp q h1
      rw [h3] at this
      exact Option.some.inj this
    · exact .inr h1
theorem pack_sound : ∀ (l : List (Nat × Nat)) {T : Nat → Prop} {h : Heap} {ρ0 : Rho} {st : St} {ls : List Nat} {vs : List AV},
    J f w T ρ h ρ0 st.env st.h ls a → Env w T ρ e a → okL f.lids ls l = true → (l.map idOf).Nodup → (∀ p ∈ l, st.h (idOf p) = none) → pack e ls h l = some vs →
    ∃ T' ρ', WInv f w T' ρ' (unpack l vs st).h ∧ Env w T' ρ' (unpack l vs st).env a ∧ Flat w T' (unpack l vs st).env a ∧ ∀ b, b < w.heap.size → T' b → T b := by
  intro l
  induction l with
  | nil =>
    intro T h ρ0 st ls vs j he hok hnd hfr hp
    simp only [okL, List.all_eq_true, List.contains_iff_mem] at hok
    have hst : unpack [] vs st = st := by cases vs <;> rfl
    rw [hst]
    refine ⟨T, ρ0, ⟨j.A.keeps, j.A.tlt, j.rows, j.dom, j.sep, j.wr, fun b hb => ?_, fun r hr => (j.lp r (hok r hr)).2.1, j.own, j.A.t0lt, j.la, j.A.tab⟩, j.env, j.tn, fun _ _ h => h⟩
    rcases j.t0 b hb with h1 | ⟨r, h1, h2, _⟩
    · exact .inl h1
    · exact absurd (hok r h1) h2
  | cons p l ih =>
    obtain ⟨t, kd⟩ := p
    intro T h ρ0 st ls vs j he hok hnd hfr hp
    rw [List.map_cons, List.nodup_cons] at hnd
    have hq := hfr (t, kd) List.mem_cons_self
    -- what is put leaves the other places free
    have hput : ∀ (x : Row), ∀ p ∈ l, (st.h.put (idOf (t, kd)) x) (idOf p) = none := by
      intro x p hp
      rw [put_self_none _ fun e => hnd.1 (List.mem_map.2 ⟨p, hp, e⟩)]
      exact hfr p (List.mem_cons_of_mem _ hp)
    have hkeep : ∀ p ∈ l, st.h (idOf p) = none := fun p hp => hfr p (List.mem_cons_of_mem _ hp)
    -- a variable that is told
    have told : ∀ {vs' : List AV}, okL f.lids ls l = true → kd = 0 ∨ kd = 1 → pack e ls (h.freeze (ref h (e t))) l = some vs' →
        ∃ T' ρ', WInv f w T' ρ' (unpack ((t, kd) :: l) (tell h (e t) :: vs') st).h ∧ Env w T' ρ' (unpack ((t, kd) :: l) (tell h (e t) :: vs') st).env a ∧ Flat w T' (unpack ((t, kd) :: l) (tell h (e t) :: vs') st).env a ∧ ∀ b, b < w.heap.size → T' b → T b := by
      intro vs' hok' hkd hp'
      obtain ⟨T1, j1, g1, hfree⟩ := j.freeze (ref h (e t))
      have hv : Rv w T1 Rho.none (tell h (e t)) (a.tmps.getD t undef) := tell_rv j.A.rows g1.less (he t) hfree
      have hun : unpack ((t, kd) :: l) (tell h (e t) :: vs') st = unpack l vs' ⟨upd st.env t (tell h (e t)), st.h⟩ := by
        rcases hkd with rfl | rfl <;> simp only [unpack, un1_rv hv]
      rw [hun]
      obtain ⟨T2, ρ2, h3, h4, h4', h5⟩ := ih (st := ⟨upd st.env t (tell h (e t)), st.h⟩) (j1.set hv) (he.goes g1) hok' hnd.2 hkeep hp'
      exact ⟨T2, ρ2, h3, h4, h4', fun b hb ht => g1.less b hb (h5 b hb ht)⟩
    match kd, hok, hp with
    | 0, hok, hp =>
      simp only [okL, Bool.and_eq_true] at hok
      simp only [pack, Option.map_eq_some_iff] at hp
      obtain ⟨vs', hp', rfl⟩ := hp
      exact told hok.2 (.inl rfl) hp'
    | 1, hok, hp =>
      simp only [okL, Bool.and_eq_true, List.all_eq_true, List.contains_iff_mem, Bool.not_eq_true', List.contains_eq_mem, decide_eq_false_iff_not, decide_eq_true_eq] at hok
      obtain ⟨⟨hall, hpl⟩, hok'⟩ := hok
      simp only [pack, Option.bind_eq_some_iff, Option.map_eq_some_iff] at hp
      obtain ⟨⟨v, h1⟩, hv, vs', hp', rfl⟩ := hp
      have hid : idOf (t, 1) = pid t := rfl
      rw [hid] at hq hput
      have hr := he t
      unfold packV at hv
      split at hv
      · rename_i z hz
        cases hv
        rw [hz] at hr
        have hun : unpack ((t, 1) :: l) (AV.own true z [] :: vs') st = unpack l vs' ⟨upd st.env t (.sl (pid t) z 0 0), st.h.put (pid t) (.sl true z [])⟩ := rfl
        rw [hun]
        have hvv : a.tmps.getD t undef = .slice none 0 0 := by generalize a.tmps.getD t undef = u at hr; cases hr; rfl
        exact ih (st := ⟨upd st.env t (.sl (pid t) z 0 0), st.h.put (pid t) (.sl true z [])⟩) ((j.nil hq hpl true z).setr (by rw [hvv]; exact .slnil (if_pos rfl)) rfl) he hok' hnd.2 (hput _) hp'
      · rename_i r z o n hz
        rw [hz] at hr
        split at hv
        · rename_i hrls
          cases hv
          obtain ⟨l1, l2, l3⟩ := j.lp r hrls
          have l4 := j.A.lp r l1
          have hun : unpack ((t, 1) :: l) (AV.sl r z o n :: vs') st = unpack l vs' ⟨upd st.env t (.sl r z o n), st.h⟩ := rfl
          rw [hun]
          have hv0 : Rv w T ρ0 (.sl r z o n) (a.tmps.getD t undef) := by
            generalize a.tmps.getD t undef = u at hr
            cases hr with
            | sl hρ hn hc hm hs => rw [l4] at hρ; rw [Option.some.inj hρ] at l2; exact .sl l2 hn hc hm hs
            | slz hρ hn => rw [l4] at hρ; rw [Option.some.inj hρ] at l2; exact .slz l2 hn
            | slnil hρ => rw [l4] at hρ; rw [Option.some.inj hρ] at l2; exact .slnil l2
          exact ih (st := ⟨upd st.env t (.sl r z o n), st.h⟩) (j.setr hv0 rfl) he hok' hnd.2 hkeep hp'
        · rename_i hrls
          have hrl : r ∉ f.lids := fun hm => hrls (hall r hm)
          split at hv
          · rename_i ap z' es hrow
            cases hv
            obtain ⟨ρ1, j1⟩ := j.slice hrow hr hq hpl hrl
            exact ih (st := ⟨upd st.env t (.sl (pid t) z 0 ((es.drop o).take n).length), st.h.put (pid t) (.sl (ap && decide (o = 0)) z ((es.drop o).take n))⟩) j1 he hok' hnd.2 (hput _) hp'
          · rename_i z' es hrow
            cases hv
            have hv1 : Rv w T Rho.none (.l z ((es.drop o).take n)) (a.tmps.getD t undef) := by
              have := tell0_rv (T' := T) j.A.rows (fun _ _ h => h) hr (fun r' hr' b hb => by
                simp only [ref0, List.mem_singleton] at hr'
                subst hr'
                obtain ⟨x, p, base, hx, hl, _⟩ := hb
                rw [hrow] at hx
                cases hx
                cases hl) (by intros; simp) (by intros; simp) (by intros; simp)
              simpa only [tell0, hrow, Option.bind_some, Row.win] using this
            have hun : unpack ((t, 1) :: l) (AV.l z ((es.drop o).take n) :: vs') st = unpack l vs' ⟨upd st.env t (.l z ((es.drop o).take n)), st.h⟩ := rfl
            rw [hun]
            exact ih (st := ⟨upd st.env t (.l z ((es.drop o).take n)), st.h⟩) (j.set hv1) he hok' hnd.2 hkeep hp'
          · cases hv
      · rename_i r pe po hz
        rw [hz] at hr
        split at hv
        rotate_left
        · cases hv
        rename_i hpo
        obtain ⟨rfl, rfl⟩ := hpo
        split at hv
        · rename_i cs hrow
          split at hv
          · cases hv
          · rename_i hnr
            cases hv
            have hrl : r ∉ f.lids ∨ r ∈ f.lids := (Classical.em _).symm
            rcases hrl with hrl | hrl
            · obtain ⟨T1, ρ1, b, base, j1, g1, h8, h9⟩ := j.struct hrow hnr hq (.inr ⟨hpl, hrl⟩) ls (.inr ⟨rfl, hpl⟩)
              have hv1 : Rv w T1 ρ1 (.p (pid t) 0 0) (a.tmps.getD t undef) := by
                generalize a.tmps.getD t undef = u at hr
                cases hr with
                | p hρ => rw [h8] at hρ; cases hρ; have := Rv.p (w := w) (T := T1) (ρ := ρ1) (e := 0) (o := 0) h9; simpa using this
              have hun : unpack ((t, 1) :: l) (AV.ownp (cs.map (tell0 h)) :: vs') st = unpack l vs' ⟨upd st.env t (.p (pid t) 0 0), st.h.put (pid t) (.st (cs.map (tell0 h)))⟩ := rfl
              rw [hun]
              obtain ⟨T2, ρ2, q1, q2, q2', q3⟩ := ih (st := ⟨upd st.env t (.p (pid t) 0 0), st.h.put (pid t) (.st (cs.map (tell0 h)))⟩) (j1.setr hv1 rfl) (he.goes g1) hok' hnd.2 (hput _) hp'
              exact ⟨T2, ρ2, q1, q2, q2', fun b hb ht => g1.less b hb (q3 b hb ht)⟩
            · exact absurd ((j.lp r (hall r hrl)).2.2 _ hrow) (by simp [Row.live])
        · rename_i cs hrow
          cases hv
          obtain ⟨T1, j1, g1, hfree⟩ := j.freeze (cs.flatMap ref0)
          have hv1 : Rv w T1 Rho.none (.tp (cs.map (tell0 h)) 0) (a.tmps.getD t undef) := by
            have := tellC_rv (T' := T1) j.A.rows g1.less hr (fun r' hr' b hb => by
              simp only [refC, hrow, Option.bind_some, Row.at, if_true] at hr'
              rcases List.mem_cons.1 hr' with rfl | hr'
              · obtain ⟨x, p, base, hx, hl, _⟩ := hb
                rw [hrow] at hx
                cases hx
                cases hl
              · exact hfree r' hr' b hb) (by intros; simp) (by intros; simp)
            simpa only [tellC, hrow, Option.bind_some, Row.at, if_true] using this
          have hun : unpack ((t, 1) :: l) (AV.tp (cs.map (tell0 h)) 0 :: vs') st = unpack l vs' ⟨upd st.env t (.tp (cs.map (tell0 h)) 0), st.h⟩ := rfl
          rw [hun]
          obtain ⟨T2, ρ2, q1, q2, q2', q3⟩ := ih (st := ⟨upd st.env t (.tp (cs.map (tell0 h)) 0), st.h⟩) (j1.set hv1) (he.goes g1) hok' hnd.2 hkeep hp'
          exact ⟨T2, ρ2, q1, q2, q2', fun b hb ht => g1.less b hb (q3 b hb ht)⟩
        · cases hv
      · rename_i n1 n2 n3
        cases hv
        exact told hok' (.inr rfl) hp'
    | 2, hok, hp =>
      simp only [okL, Bool.and_eq_true, List.contains_iff_mem, Bool.not_eq_true', List.contains_eq_mem, decide_eq_false_iff_not, decide_eq_true_eq] at hok
      obtain ⟨⟨htl, htls⟩, hok'⟩ := hok
      simp only [pack, Option.bind_eq_some_iff, Option.map_eq_some_iff] at hp
      obtain ⟨⟨v, h1⟩, hv, vs', hp', rfl⟩ := hp
      have hid : idOf (t, 2) = t := rfl
      rw [hid] at hq hput
      have hlp := j.A.lp t htl
      unfold packL at hv
      split at hv
      · rename_i ap z es hrow
        cases hv
        have hap := j.A.la t htl _ hrow
        have ok := j.A.rows t _ hrow
        have hun : unpack ((t, 2) :: l) (AV.own ap z es :: vs') st = unpack l vs' ⟨st.env, st.h.put t (.sl ap z es)⟩ := rfl
        rw [hun]
        refine ih (st := ⟨st.env, st.h.put t (.sl ap z es)⟩) (j.move hrow rfl hq (x := .sl ap z es) (p := f.pl0 t) (fun ρ' hmore hp => ?_) rfl ?_ (.inl ⟨htl, rfl, rfl, htls, hap⟩) (t :: ls) (.inl ⟨htl, rfl⟩)) he hok' hnd.2 (hput _) hp'
        · rcases ok with ⟨h1, h2, h3⟩ | ⟨b', base', cur, el, h3, h4, h5, h6, h7, h8⟩
          · rw [hlp] at h3; rw [Option.some.inj h3] at hp; exact .inl ⟨h1, h2, hp⟩
          · rw [hlp] at h3; rw [Option.some.inj h3] at hp; exact .inr ⟨b', base', cur, el, hp, h4, h5, h6, h7, h8⟩
        · rcases ok with ⟨h1, h2, h3⟩ | ⟨b', base', cur, el, h3, h4, h5, h6, h7, h8⟩
          · rw [hlp] at h3; rw [Option.some.inj h3]; exact .inl rfl
          · rw [hlp] at h3; rw [Option.some.inj h3] at hlp ⊢; exact .inr ⟨_, b', base', base', hlp, rfl, rfl, fun i h1 h2 => ⟨h1, h2⟩, fun hh => hh⟩
      · rename_i cs hrow
        split at hv
        · cases hv
        · rename_i hnr
          cases hv
          obtain ⟨T1, ρ1, b, base, j1, g1, h8, h9⟩ := j.struct hrow hnr hq (.inl ⟨htl, rfl, htls⟩) (t :: ls) (.inl ⟨htl, rfl⟩)
          have hun : unpack ((t, 2) :: l) (AV.ownp (cs.map (tell0 h)) :: vs') st = unpack l vs' ⟨st.env, st.h.put t (.st (cs.map (tell0 h)))⟩ := rfl
          rw [hun]
          obtain ⟨T2, ρ2, q1, q2, q2', q3⟩ := ih (st := ⟨st.env, st.h.put t (.st (cs.map (tell0 h)))⟩) j1 (he.goes g1) hok' hnd.2 (hput _) hp'
          exact ⟨T2, ρ2, q1, q2, q2', fun b hb ht => g1.less b hb (q3 b hb ht)⟩
      · cases hv
    | (n + 3), hok, hp => simp [okL] at hok
theorem canon {T : Nat → Prop} (k : WInv f w T ρ h) (he : Env w T ρ e a) {l : List (Nat × Nat)} {vs : List AV} (hok : okL f.lids [] l = true) (hnd : (l.map idOf).Nodup) (hp : pack e [] h l = some vs) :
    ∃ T' ρ', WInv f w T' ρ' (un l vs).h ∧ Env w T' ρ' (un l vs).env a ∧ Flat w T' (un l vs).env a := by
  have j : J f w T ρ h Rho.none St.none.env St.none.h [] a := ⟨k, fun _ => .junk, fun _ _ h => (by cases h), fun _ _ => rfl, fun _ _ _ _ _ h => (by cases h), fun _ _ _ _ _ h => (by cases h), fun _ _ _ _ _ _ h => (by cases h), fun _ _ _ h => (by cases h), fun _ _ _ _ _ h => (by cases h), fun _ h => (by cases h), fun _ => .inr .junk, fun b hb => by
    rcases k.t0 b hb with h1 | ⟨r, h1, h2⟩
    · exact .inl h1
    · exact .inr ⟨r, h1, by simp, h2⟩⟩
  obtain ⟨T', ρ', h1, h2, h3, _⟩ := pack_sound l j he hok hnd (fun _ _ => rfl) hp
  exact ⟨T', ρ', h1, h2, h3⟩
end
end Go.Pe
set_option linter.unusedVariables false
set_option linter.unusedSimpArgs false
namespace Go.Pe
open Go
def oneR (vs : Array Value) : Value := if h : vs.size = 1 then vs[0] else .tuple vs
def CallOk (P : Program) (f : Nat) (res : List (PR × Nat)) (lent : List Nat) (tabs : List (Nat × List AV)) (xs : List AV) (r : AV) : Prop :=
  ∀ (fr : Fr) (ρ : Rho) (vs : Array Value), fr.tabs = tabs → fr.lids = lent.map lid → vs.size = xs.length →
    WInv fr fr.w0 fr.T0 ρ (un (parN lent 0 xs) xs).h → Env fr.w0 fr.T0 ρ (un (parN lent 0 xs) xs).env ⟨vs, []⟩ →
    Calls P f vs fr.w0 fun e w' => ∃ out vals T' ρ', e = .returned (oneR vals) ∧ vals.size = res.length ∧ out.length = (resL res lent).length ∧ r = retV lent out ∧
      WInv fr w' T' ρ' (un (resL res lent) out).h ∧ Env w' T' ρ' (un (resL res lent) out).env ⟨vals, []⟩ ∧ Flat w' T' (un (resL res lent) out).env ⟨vals, []⟩
def Shown (st : St) (t : Nat) : AV → Prop
  | .own ap z es => st.env t = .sl (pid t) z 0 es.length ∧ st.h (pid t) = some (.sl ap z es)
  | .ownp cs => st.env t = .p (pid t) 0 0 ∧ st.h (pid t) = some (.st cs)
  | x => st.env t = x
theorem pid_ne {i j : Nat} (h : i ≠ j) : pid i ≠ pid j := by unfold pid; omega
theorem kindL_length : ∀ (res : List (PR × Nat)) (k : Nat), (kindL k res).length = res.length
  | [], _ => rfl
  | _ :: l, k => by simp only [kindL, List.length_cons, kindL_length l]
theorem un1_shown (st : St) (t : Nat) (x : AV) : Shown ⟨upd st.env t (un1 st.h (pid t) x).1, (un1 st.h (pid t) x).2⟩ t x := by
  cases x <;> simp [Shown, un1, upd, Heap.put]
theorem un1_other (h : Heap) (q q' : Nat) (x : AV) (hne : q' ≠ q) : (un1 h q x).2 q' = h q' := by
  cases x <;> simp [un1, Heap.put, hne]
theorem unpack_kind' : ∀ (res : List (PR × Nat)) (k : Nat) (out : List AV) (st : St), (∀ x ∈ res, x.2 ≤ 1) → out.length = res.length →
    (∀ j, j < k → (unpack (kindL k res) out st).env j = st.env j) ∧ (∀ q, (∀ j, k ≤ j → j < k + res.length → q ≠ pid j) → (unpack (kindL k res) out st).h q = st.h q) ∧
    ∀ j, j < res.length → Shown (unpack (kindL k res) out st) (k + j) (out.getD j .junk) := by
  intro res
  induction res with
  | nil =>
    intro k out st _ hl
    cases out with
    | nil => exact ⟨fun _ _ => rfl, fun _ _ => rfl, fun j hj => by cases hj⟩
    | cons => cases hl
  | cons x res ih =>
    intro k out st hk hl
    cases out with
    | nil => cases hl
    | cons y out =>
      obtain ⟨pr, q⟩ := x
      have hq := hk (pr, q) List.mem_cons_self
      have hun : unpack (kindL k ((pr, q) :: res)) (y :: out) st = unpack (kindL (k + 1) res) out ⟨upd st.env k (un1 st.h (pid k) y).1, (un1 st.h (pid k) y).2⟩ := by
        match q, hq with
        | 0, _ => rfl
        | 1, _ => rfl
      obtain ⟨h1, h2, h3⟩ := ih (k + 1) out ⟨upd st.env k (un1 st.h (pid k) y).1, (un1 st.h (pid k) y).2⟩ (fun x hx => hk x (List.mem_cons_of_mem _ hx)) (by simpa using hl)
      rw [hun]
      refine ⟨fun j hj => ?_, fun q hq => ?_, fun j hj => ?_⟩
      · rw [h1 j (by omega)]
        simp only [upd]
        rw [if_neg (by omega)]
      · rw [h2 q fun j hj hj2 => hq j (by omega) (by simp only [List.length_cons]; omega)]
        exact un1_other _ _ _ _ (hq k (Nat.le_refl _) (by simp only [List.length_cons]; omega))
      · cases j with
        | zero =>
          have hs := un1_shown st k y
          have e1 := h1 k (by omega)
          have e2 := h2 (pid k) fun j hj _ => pid_ne (by omega)
          show Shown _ (k + 0) y
          rw [Nat.add_zero]
          cases y <;> simp only [Shown] at hs ⊢ <;> first
            | exact ⟨e1.trans hs.1, e2.trans hs.2⟩
            | exact e1.trans hs
        | succ j =>
          have := h3 j (by simpa using hj)
          rw [show k + (j + 1) = k + 1 + j by omega]
          exact this
theorem parN_nil : ∀ (xs : List AV) (k : Nat) (st : St) (hx : ∀ x ∈ xs, ∀ g q, un1 g q x = (x, g)),
    (unpack (parN [] k xs) xs st).h = st.h ∧ (∀ t, t < k ∨ k + xs.length ≤ t → (unpack (parN [] k xs) xs st).env t = st.env t) ∧ ∀ j, j < xs.length → (unpack (parN [] k xs) xs st).env (k + j) = xs.getD j .junk := by
  intro xs
  induction xs with
  | nil => intro k st _; exact ⟨rfl, fun _ _ => rfl, fun j hj => by cases hj⟩
  | cons x xs ih =>
    intro k st hx
    have hun : unpack (parN [] k (x :: xs)) (x :: xs) st = unpack (parN [] (k + 1) xs) xs ⟨upd st.env k x, st.h⟩ := by
      have h1 := hx x List.mem_cons_self st.h (pid k)
      show unpack ((k, if k ∈ ([] : List Nat) then 3 else 0) :: parN [] (k + 1) xs) (x :: xs) st = _
      rw [if_neg (by simp)]
      simp only [unpack, h1]
    rw [hun]
    obtain ⟨h1, h2, h3⟩ := ih (k + 1) ⟨upd st.env k x, st.h⟩ fun x hx' => hx x (List.mem_cons_of_mem _ hx')
    refine ⟨h1, fun t ht => ?_, fun j hj => ?_⟩
    · rw [List.length_cons] at ht
      rw [h2 t (by omega)]
      simp only [upd]
      rw [if_neg (by omega)]
    · cases j with
      | zero =>
        show (unpack (parN [] (k + 1) xs) xs { env := upd st.env k x, h := st.h }).env k = x
        rw [h2 k (by omega)]
        simp [upd]
      | succ j =>
        rw [show k + (j + 1) = k + 1 + j by omega, h3 j (by simpa using hj)]
        rfl
section
variable {P : Program} {f : Fr} {w w' : World} {T T' : Nat → Prop} {ρ ρ' : Rho} {h : Heap} {e : Nat → AV} {a : Act} {o : Oper}
theorem Keeps.old {w w' : World} (h : Keeps (fun _ _ => False) w w') : Old w w' := by
  refine ⟨h.os, h.tape, h.output, h.size, fun b hb => ?_⟩
  have := h.same (T := fun _ => False) fun _ _ _ h => h.elim
  exact this.same b hb fun h => h
theorem demote_rv {av : AV} {v : Value} (k : Rv w T Rho.none av v) : Rv w T Rho.none (demote av) v := by
  cases k with
  | sl hr => cases hr
  | slz hr => cases hr
  | slnil hr => cases hr
  | p hr => cases hr
  | junk => exact .junk
  | b => exact .b
  | i => exact .i
  | s => exact .s
  | np => exact .np
  | ns => exact .ns
  | lnil ha hm => exact .lnil ha hm
  | l g a1 a2 a3 a4 a5 a6 a7 => exact .l g a1 a2 a3 a4 a5 a6 a7
  | tp g a1 a2 a3 a4 => exact .tp g a1 a2 a3 a4
  | agg vs a1 a2 a3 => exact .agg vs a1 a2 a3
  | tup vs a1 a2 => exact .tup vs a1 a2
theorem shown_rv' {fr : Fr} {st : St} (k : WInv fr w' T' ρ' st.h) (he : Env w' T' ρ' st.env a) (hf : Flat w' T' st.env a) (h0 : ∀ b, fr.T0 b → T' b) {t : Nat} {x : AV} (hp : pid t ∉ fr.lids) (hs : Shown st t x) :
    Rv w' fr.T0 Rho.none (demote x) (a.tmps.getD t undef) := by
  have plain : st.env t = x → Rv w' fr.T0 Rho.none (demote x) (a.tmps.getD t undef) := by
    intro hx
    rcases hf t with h1 | h1
    · rw [hx] at h1
      cases x <;> simp [isRef] at h1 <;> exact .junk
    · rw [hx] at h1
      exact demote_rv (h1.less fun b _ hb => h0 b hb)
  cases x with
  | own ap z es =>
    obtain ⟨h1, h2⟩ := hs
    have hv := he t
    rw [h1] at hv
    have := tell0_rv (T' := fr.T0) k.rows (fun b _ hb => h0 b hb) hv (fun r hr b hb => by
      simp only [ref0, List.mem_singleton] at hr
      subst hr
      obtain ⟨x, p, base, hx, hlv, hρ, hloc⟩ := hb
      have hge := k.own _ _ _ _ _ hp hx hlv hρ hloc
      exact fun hb => by have := k.t0lt b hb; omega) (by intros; simp) (by intros; simp) (by intros; simp)
    simpa [tell0, h2, Row.win, demote] using this
  | ownp cs => exact .junk
  | junk => exact .junk
  | b | i | s | np | ns | l | tp | sl | p | agg | tup | back => exact plain hs
theorem one_rv {n : Nat} {out : List AV} {vals : Array Value} (hs : vals.size = n) (hol : out.length = n) (each : ∀ j, j < n → Rv w T Rho.none (demote (out.getD j .junk)) (vals.getD j undef)) : Rv w T Rho.none (demoteT (oneV out)) (oneR vals) := by
  by_cases h1 : vals.size = 1
  · have : n = 1 := by omega
    match out, hol with
    | [x], _ =>
      have := each 0 (by omega)
      show Rv w T Rho.none (demoteT x) (oneR vals)
      have hv : oneR vals = vals.getD 0 undef := by simp [oneR, h1]
      rw [hv]
      have h5 : Rv w T Rho.none (demote x) (vals.getD 0 undef) := this
      by_cases hx : ∃ cs, x = .tup cs
      rotate_left
      · cases x <;> first
          | exact h5
          | exact absurd ⟨_, rfl⟩ hx
      obtain ⟨cs, rfl⟩ := hx
      have h6 : Rv w T Rho.none (.tup cs) (vals.getD 0 undef) := h5
      generalize vals.getD 0 undef = u at h6
      cases h6 with
      | tup us a1 a2 =>
        refine .tup us (by simpa using a1) fun c hc => ?_
        rw [List.length_map] at hc
        rw [getD_map_lt demote cs c .junk .junk hc]
        exact demote_rv (a2 c hc)
    | [], h => simp at h; omega
    | _ :: _ :: _, h => simp at h; omega
  · have hv : oneR vals = .tuple vals := by simp [oneR, h1]
    rw [hv]
    have hone : oneV out = .tup out := by
      match out, hol with
      | [], _ => rfl
      | [x], h => simp at h; omega
      | _ :: _ :: _, _ => rfl
    rw [hone]
    refine .tup vals (by simp; omega) fun c hc => ?_
    rw [List.length_map] at hc
    rw [getD_map_lt demote out c .junk .junk hc]
    exact each c (by omega)
theorem init_told (k : WInv f w T ρ h) {xs : List AV} {vs : Array Value} (hl : vs.size = xs.length) (hx : ∀ j, j < xs.length → Rv w T Rho.none (xs.getD j .junk) (vs.getD j undef)) :
    WInv ⟨w, fun _ _ => False, T, [], fun _ => ⟨0, 0, none⟩, f.tabs⟩ w T Rho.none (un (parN [] 0 xs) xs).h ∧ Env w T Rho.none (un (parN [] 0 xs) xs).env ⟨vs, []⟩ := by
  obtain ⟨h1, h2, h3⟩ := parN_nil xs 0 St.none fun x hm g q => by
    obtain ⟨j, hj, rfl⟩ := List.getElem_of_mem hm
    have := un1_rv (hx j hj) g q
    simpa [hj] using this
  refine ⟨?_, fun t => ?_⟩
  · show WInv _ w T Rho.none (unpack (parN [] 0 xs) xs St.none).h
    rw [h1]
    exact ⟨Keeps.refl _ _, k.tlt, fun _ _ h => (by cases h), fun _ _ => rfl, fun _ _ _ _ _ h => (by cases h), fun _ _ _ _ _ h => (by cases h), fun b hb => .inl hb, fun _ h => (by cases h), fun _ _ _ _ _ _ h => (by cases h), k.tlt, fun _ h => (by cases h), k.tab⟩
  · show Rv w T Rho.none ((unpack (parN [] 0 xs) xs St.none).env t) (vs.getD t undef)
    by_cases ht : t < xs.length
    · have := h3 t ht
      rw [Nat.zero_add] at this
      rw [this]
      exact hx t ht
    · rw [h2 t (by omega)]
      exact .junk
theorem call_told (k : WInv f w T ρ h) {g : Nat} {res : List (PR × Nat)} {xs : List AV} {vs : Array Value} {r : AV} (hk : ∀ x ∈ res, x.2 ≤ 1) (hc : CallOk P g res [] f.tabs xs r) (hl : vs.size = xs.length) (hx : ∀ j, j < xs.length → Rv w T Rho.none (xs.getD j .junk) (vs.getD j undef)) :
    Calls P g vs w fun e w' => ∃ v, e = .returned v ∧ Old w w' ∧ Rv w' T Rho.none (demoteT r) v := by
  obtain ⟨h1, h2⟩ := init_told k hl hx
  refine (hc ⟨w, fun _ _ => False, T, [], fun _ => ⟨0, 0, none⟩, f.tabs⟩ Rho.none vs rfl rfl hl h1 h2).mono fun e w' he => ?_
  obtain ⟨out, vals, T', ρ', rfl, hs, ho, rfl, k', e', fl⟩ := he
  refine ⟨_, rfl, k'.keeps.old, ?_⟩
  have hol : out.length = res.length := by rw [ho]; exact kindL_length res 0
  obtain ⟨_, _, h3⟩ := unpack_kind' res 0 out St.none hk hol
  have h0 : ∀ b, T b → T' b := fun b hb => (k'.t0 b hb).elim id fun ⟨r, hr, _⟩ => by cases hr
  have each : ∀ j, j < res.length → Rv w' T Rho.none (demote (out.getD j .junk)) (vals.getD j undef) := fun j hj => by
    have := h3 j hj
    rw [Nat.zero_add] at this
    exact shown_rv' (fr := ⟨w, fun _ _ => False, T, [], fun _ => ⟨0, 0, none⟩, f.tabs⟩) k' e' fl h0 (by simp) this
  unfold retV
  rw [if_pos rfl]
  exact one_rv hs hol each
theorem flat_rv {av : AV} {v : Value} (hf : av.flat = true) (k : Rv w T ρ av v) : Rv w T' ρ' av v := by
  cases k <;> simp [AV.flat] at hf
  · exact .b
  · exact .i
  · exact .s
theorem scalar_rv {av : AV} {v : Value} (hf : av.scalar = true) (k : Rv w T ρ (demoteT av) v) : Rv w T' ρ' (demoteT av) v := by
  cases av <;> simp [AV.scalar, AV.flat] at hf
  · exact flat_rv rfl k
  · exact flat_rv rfl k
  · exact flat_rv rfl k
  · rename_i cs
    generalize hd : demoteT (.tup cs) = d at k
    cases k <;> first | (cases hd; done) | skip
    rename_i ds vs a1 a2
    have : cs.map demote = ds := by injection hd
    refine .tup vs a1 fun c hc => flat_rv ?_ (a2 c hc)
    subst this
    rw [List.length_map] at hc
    rw [getD_map_lt demote cs c .junk .junk hc]
    have := hf _ (getD_mem .junk hc)
    generalize cs.getD c .junk = x at this
    cases x <;> simp [AV.flat] at this <;> rfl
def Goes1 (P : Program) (f : Fr) (o : Oper) (a : Act) (w : World) (T : Nat → Prop) (ρ : Rho) (av : AV) (h' : Heap) : Prop :=
  ∀ (K : Act → World → Prop) (Q : Exit → Act → World → Prop), (∀ v w' T' ρ', WInv f w' T' ρ' h' → Goes w w' T T' ρ ρ' → Rv w' T' ρ' av v → K (a.put o.dst v) w') → o.wp P a w K Q
theorem Turns.goes1 {av : AV} {h' : Heap} (t : Turns P f o a w T ρ av h') : Goes1 P f o a w T ρ av h' := by
  intro K Q hK
  obtain ⟨v, w', T', ρ', h1, h2, h3, h4⟩ := t
  unfold Oper.wp
  rcases h1 with h1 | ⟨h1, rfl⟩ <;> rw [h1]
  · exact hK _ _ _ _ h2 h3 h4
  · exact hK _ _ _ _ h2 h3 h4
theorem goes1_of_gives {av : AV} {h' : Heap} (k : WInv f w T ρ h) (t : h' = h ∧ ∃ v, Gives P o a w v ∧ Rv w T ρ av v) : Goes1 P f o a w T ρ av h' := by
  intro K Q hK
  obtain ⟨rfl, v, h1, h2⟩ := t
  unfold Oper.wp
  rw [h1]
  exact hK _ _ _ _ k (Goes.refl _ _ _) h2
def mas (tabs : List (Nat × List AV)) : List Operand → List At → Bool
  | [], [] => true
  | x :: xs, y :: ys => ma tabs x y && mas tabs xs ys
  | _, _ => false
theorem mas_rv (k : WInv f w T ρ h) (he : Env w T ρ e a) : ∀ {xs : List Operand} {ys : List At}, mas f.tabs xs ys = true → xs.length = ys.length ∧ ∀ j, j < ys.length → Rv w T ρ ((ys.map (At.ev e)).getD j .junk) ((xs.map a.eval).getD j undef) := by
  intro xs
  induction xs with
  | nil => intro ys hm; cases ys with
    | nil => exact ⟨rfl, fun j hj => by cases hj⟩
    | cons => cases hm
  | cons x xs ih =>
    intro ys hm
    cases ys with
    | nil => cases hm
    | cons y ys =>
      simp only [mas, Bool.and_eq_true] at hm
      obtain ⟨h1, h2⟩ := ih hm.2
      refine ⟨by simp [h1], fun j hj => ?_⟩
      cases j with
      | zero => exact ma_rv k he hm.1
      | succ j => exact h2 j (by simpa using hj)
def bodied (P : Program) (g : Nat) : Bool := match P.funcs[g]? with
  | some fn => fn.body.isSome && !(fn.name == "runtime.NumGoroutine")
  | none => false
theorem run_callFunc {g : Nat} (hb : bodied P g = true) (args : Array Value) : (callFunc g args).run P w = .ok (.enter g args) w := by
  unfold bodied at hb
  cases hf : P.funcs[g]? with
  | none => rw [hf] at hb; cases hb
  | some fn =>
    rw [hf] at hb
    simp only [Bool.and_eq_true, Bool.not_eq_true'] at hb
    obtain ⟨h1, h2⟩ := hb
    have h3 : fn.body.isNone = false := by cases hx : fn.body <;> simp_all
    have h4 : ¬ fn.name = "runtime.NumGoroutine" := by simpa using h2
    have h5 : ¬ fn.body = none := by intro hn; rw [hn] at h1; cases h1
    simp [callFunc, hf, h4, h5]
theorem op_call (k : WInv f w T ρ h) (he : Env w T ρ e a) {c : Go.Call} {g g' : Nat} {ys : List At} {res : List (PR × Nat)} {av : AV} {h' : Heap} (call : Call) (ho : o.op = .call c) (hcal : c.callee = .value (.func g')) (hm : mas f.tabs c.args.toList ys = true) (hb : bodied P g' = true)
    (hk : ∀ x ∈ res, x.2 ≤ 1) (hc : ∀ xs r, call g xs = some r → CallOk P g' res [] f.tabs xs r) (hv : PO.ev call (.call g ys) e h = some (av, h')) : Goes1 P f o a w T ρ av h' := by
  simp only [PO.ev, callV, Option.map_eq_some_iff] at hv
  obtain ⟨r, hr, hv⟩ := hv
  obtain ⟨hlen, hrv⟩ := mas_rv k he hm
  obtain ⟨T1, k1, g1, hfree, _⟩ := k.freeze ((ys.map (At.ev e)).flatMap (ref h))
  have hrun : (execOp a.eval o).run P w = .ok (.enter g' (c.args.map a.eval)) w := by
    simp [execOp, ho, resolve, hcal, Act.eval, Deferred.ofValue, invoke, run_callFunc hb]
  have hcalls := call_told k1 (vs := c.args.map a.eval) hk (hc _ _ hr) (by simp [← hlen]) fun j hj => by
    simp only [List.length_map] at hj
    have h1 := hrv j hj
    rw [getD_map_lt (tell h) _ j .junk .junk (by simpa using hj)]
    have h2 : (c.args.map a.eval).getD j undef = (c.args.toList.map a.eval).getD j undef := by simp [List.getD_eq_getElem?_getD]
    rw [h2]
    exact tell_rv k.rows g1.less h1 fun r hr' b hb => hfree r (List.mem_flatMap.2 ⟨_, getD_mem .junk (by simpa using hj), hr'⟩) b hb
  intro K Q hK
  unfold Oper.wp
  rw [hrun]
  refine hcalls.mono fun e w' hw => ?_
  obtain ⟨v, rfl, hold, hrv'⟩ := hw
  show K (a.put o.dst v) w'
  split at hv
  · rename_i hs
    cases hv
    exact hK v w' T ρ (k.old hold) (Goes.old hold) (scalar_rv hs hrv')
  · cases hv
    exact hK v w' T1 ρ (k1.old hold) (g1.trans (Goes.old hold)) hrv'.any
end
end Go.Pe
set_option linter.unusedVariables false
set_option linter.unusedSimpArgs false
namespace Go.Pe
open Go
theorem Keeps.other {w w' : World} {b : Nat} {Wb : Nat → Prop} (h : Keeps (fun b' i => b' = b ∧ Wb i) w w') {c : Nat} (hc : c < w.heap.size) (hne : c ≠ b) : w'.heap[c]? = w.heap[c]? := by
  rcases h.block c hc with h1 | ⟨d, d', e, fr, h1, h2, h3, h4⟩
  · exact h1
  · rw [h1, h2]
    have : d' = d := by
      apply Array.ext_getElem?
      intro o
      exact h4 o fun hw => hne hw.1
    rw [this]
section
variable {P : Program} {f : Fr} {w w' : World} {T T' : Nat → Prop} {ρ ρ' : Rho} {h : Heap} {e : Nat → AV} {a : Act} {o : Oper}
theorem WInv.rewriteK (k : WInv f w T ρ h) {r : Nat} {x : Row} {p : Pl} {b base : Nat} (hr : h r = some x) (hl : x.live = true) (hp : ρ r = some p) (hloc : p.loc = some (b, base)) {w' : World} {Wb : Nat → Prop} (hw : Keeps (fun b' i => b' = b ∧ Wb i) w w') (hWb : f.w0.heap.size ≤ b ∨ ∀ i, Wb i → f.W0 b i)
    {x' : Row} (hx' : RowOk w' T ρ r x') (hap : x'.isAp = true → x.isAp = true) : WInv f w' T ρ (h.put r x') ∧ Goes w w' T T ρ ρ := by
  have hT : T b := (k.rows r x hr).inT hl p b base hp hloc
  have hs : Same T w w' := hw.same fun b' o _ hh => by rw [hh.1]; exact hT
  have old : ∀ q y, (h.put r x') q = some y → (q = r ∧ y = x') ∨ (q ≠ r ∧ h q = some y) := by
    intro q y hy
    simp only [Heap.put] at hy
    split at hy
    · rename_i e; cases hy; exact .inl ⟨e, rfl⟩
    · rename_i e; exact .inr ⟨e, hy⟩
  have live : ∀ q y, (h.put r x') q = some y → y.live = true → ∃ z, h q = some z ∧ z.live = true ∧ (y.isAp = true → z.isAp = true) := by
    intro q y hy hyl
    rcases old q y hy with ⟨rfl, rfl⟩ | ⟨_, hq⟩
    · exact ⟨x, hr, hl, hap⟩
    · exact ⟨y, hq, hyl, fun h => h⟩
  refine ⟨⟨k.keeps.trans hw fun b' i hb hh => ?_, fun b' hb => Nat.lt_of_lt_of_le (k.tlt b' hb) hw.size, fun q y hy => ?_, fun q hq => ?_, fun q q' y y' hne hy hy' hyl hyl' pp pp' c cb c' cb' hpp hpp' hc hc' => ?_, fun q y pp c cb hy hyl hpp hc => ?_, fun b' hb => ?_, k.lp, fun q y pp c cb hq hy hyl hpp hc => ?_, k.t0lt, fun q hq y hy => ?_, fun pp hpp => (k.tab pp hpp).mono hs (fun _ _ h => h) fun _ _ h => h⟩, hs, fun _ _ h => h, fun _ _ h => h⟩
  · obtain ⟨rfl, hi⟩ := hh
    rcases hWb with h1 | h1
    · omega
    · exact h1 i hi
  · rcases old q y hy with ⟨rfl, rfl⟩ | ⟨hne, hq⟩
    · exact hx'
    · refine (k.rows q y hq).mono hs (fun _ _ h => h) (fun _ _ h => h) fun pp c cb hpp hc hyl => ⟨hw.other (k.tlt c ((k.rows q y hq).inT hyl pp c cb hpp hc)) ?_, (k.rows q y hq).inT hyl pp c cb hpp hc⟩
      exact k.sep q r y x hne hq hr hyl hl pp p c cb b base hpp hp hc hloc
  · simp only [Heap.put] at hq
    split at hq
    · cases hq
    · exact k.dom q hq
  · obtain ⟨z, hz, hzl, _⟩ := live q y hy hyl
    obtain ⟨z', hz', hzl', _⟩ := live q' y' hy' hyl'
    exact k.sep q q' z z' hne hz hz' hzl hzl' pp pp' c cb c' cb' hpp hpp' hc hc'
  · obtain ⟨z, hz, hzl, hza⟩ := live q y hy hyl
    rcases k.wr q z pp c cb hz hzl hpp hc with h1 | ⟨h1, h2⟩
    · exact .inl h1
    · exact .inr ⟨h1, fun hh => h2 (hza hh)⟩
  · rcases k.t0 b' hb with h1 | ⟨q, hq, hx⟩
    · exact .inl h1
    · refine .inr ⟨q, hq, fun y hy => ?_⟩
      rcases old q y hy with ⟨rfl, rfl⟩ | ⟨_, hq'⟩
      · exact absurd (hx x hr) (by rw [hl]; simp)
      · exact hx y hq'
  · obtain ⟨z, hz, hzl, _⟩ := live q y hy hyl
    exact k.own q z pp c cb hq hz hzl hpp hc
  · rcases old q y hy with ⟨rfl, rfl⟩ | ⟨_, hq'⟩
    · have := k.la q hq x hr
      cases hxa : y.isAp with
      | false => rfl
      | true => rw [hap hxa] at this; cases this
    · exact k.la q hq y hq'
theorem parN_one {li : Nat} : ∀ (xs : List AV) (k : Nat) (st : St), (∀ j, j < xs.length → k + j ≠ li → ∀ g q, un1 g q (xs.getD j .junk) = (xs.getD j .junk, g)) →
    (unpack (parN [li] k xs) xs st).h = (if k ≤ li ∧ li < k + xs.length then (un1 st.h (lid li) (xs.getD (li - k) .junk)).2 else st.h) ∧
    (∀ t, t < k ∨ k + xs.length ≤ t → (unpack (parN [li] k xs) xs st).env t = st.env t) ∧
    ∀ j, j < xs.length → (unpack (parN [li] k xs) xs st).env (k + j) = if k + j = li then (un1 st.h (lid li) (xs.getD j .junk)).1 else xs.getD j .junk := by
  intro xs
  induction xs with
  | nil => intro k st _; exact ⟨by simp only [List.length_nil]; rw [if_neg (by omega)]; rfl, fun _ _ => rfl, fun j hj => by cases hj⟩
  | cons x xs ih =>
    intro k st hx
    by_cases hk : k = li
    · subst hk
      have hun : unpack (parN [k] k (x :: xs)) (x :: xs) st = unpack (parN [k] (k + 1) xs) xs ⟨upd st.env k (un1 st.h (lid k) x).1, (un1 st.h (lid k) x).2⟩ := by
        show unpack ((k, if k ∈ [k] then 3 else 0) :: parN [k] (k + 1) xs) (x :: xs) st = _
        rw [if_pos (by simp)]
        rfl
      rw [hun]
      -- behind it all are told
      have hrest : ∀ (xs : List AV) (m : Nat) (st : St), k < m → (∀ j, j < xs.length → ∀ g q, un1 g q (xs.getD j .junk) = (xs.getD j .junk, g)) → unpack (parN [k] m xs) xs st = unpack (parN [] m xs) xs st := by
        intro xs
        induction xs with
        | nil => intro m st _ _; rfl
        | cons y ys ihh =>
          intro m st hm hy
          have h1 := hy 0 (by simp)
          simp only [List.getD_cons_zero] at h1
          show unpack ((m, if m ∈ [k] then 3 else 0) :: parN [k] (m + 1) ys) (y :: ys) st = unpack ((m, if m ∈ ([] : List Nat) then 3 else 0) :: parN [] (m + 1) ys) (y :: ys) st
          rw [if_neg (by simp; omega), if_neg (by simp)]
          simp only [unpack]
          exact ihh (m + 1) _ (by omega) fun j hj => hy (j + 1) (by simpa using hj)
      have hx' : ∀ j, j < xs.length → ∀ g q, un1 g q (xs.getD j .junk) = (xs.getD j .junk, g) := fun j hj => hx (j + 1) (by simpa using hj) (by omega)
      rw [hrest xs (k + 1) _ (by omega) hx']
      obtain ⟨h1, h2, h3⟩ := parN_nil xs (k + 1) ⟨upd st.env k (un1 st.h (lid k) x).1, (un1 st.h (lid k) x).2⟩ fun y hy g q => by
        obtain ⟨j, hj, rfl⟩ := List.getElem_of_mem hy
        have := hx' j hj g q
        simpa [hj] using this
      refine ⟨?_, fun t ht => ?_, fun j hj => ?_⟩
      · rw [h1, if_pos (by simp)]
        simp
      · rw [h2 t (by simp only [List.length_cons] at ht; omega)]
        simp only [upd]
        rw [if_neg (by simp only [List.length_cons] at ht; omega)]
      · cases j with
        | zero =>
          rw [if_pos (Nat.add_zero k)]
          show (unpack (parN [] (k + 1) xs) xs _).env k = _
          rw [h2 k (by omega)]
          simp [upd]
        | succ j =>
          rw [if_neg (by omega), show k + (j + 1) = k + 1 + j by omega, h3 j (by simpa using hj)]
          rfl
    · have h0 := hx 0 (by simp) (by omega) st.h (pid k)
      simp only [List.getD_cons_zero] at h0
      have hun : unpack (parN [li] k (x :: xs)) (x :: xs) st = unpack (parN [li] (k + 1) xs) xs ⟨upd st.env k x, st.h⟩ := by
        show unpack ((k, if k ∈ [li] then 3 else 0) :: parN [li] (k + 1) xs) (x :: xs) st = _
        rw [if_neg (by simp; exact hk)]
        simp only [unpack, h0]
      rw [hun]
      obtain ⟨h1, h2, h3⟩ := ih (k + 1) ⟨upd st.env k x, st.h⟩ (fun j hj hne => hx (j + 1) (by simpa using hj) (by omega))
      refine ⟨?_, fun t ht => ?_, fun j hj => ?_⟩
      · rw [h1]
        by_cases hc : k + 1 ≤ li ∧ li < k + 1 + xs.length
        · rw [if_pos hc, if_pos (by simp only [List.length_cons]; omega), show li - k = (li - (k + 1)) + 1 by omega]
          rfl
        · rw [if_neg hc, if_neg (by simp only [List.length_cons]; omega)]
      · rw [h2 t (by simp only [List.length_cons] at ht; omega)]
        simp only [upd]
        rw [if_neg (by simp only [List.length_cons] at ht; omega)]
      · cases j with
        | zero =>
          rw [if_neg (by omega)]
          show (unpack (parN [li] (k + 1) xs) xs _).env k = _
          rw [h2 k (by omega)]
          simp [upd]
        | succ j =>
          rw [show k + (j + 1) = k + 1 + j by omega, h3 j (by simpa using hj)]
          rfl
theorem lend_sl (k : WInv f w T ρ h) {r z oo n : Nat} {ap : Bool} {z' : Nat} {es : List (List AV)} (hr : h r = some (.sl ap z' es)) {v : Value} (hv : Rv w T ρ (.sl r z oo n) v) (q : Nat) :
    z' = z ∧ oo + n ≤ es.length ∧ ((es.drop oo).take n).length = n ∧ ∃ pl : Pl, Rv w T (fun s => if s = q then some pl else none) (.sl q z 0 n) v ∧ RowOk w T (fun s => if s = q then some pl else none) q (.sl false z ((es.drop oo).take n)) ∧ pl.z = z ∧ pl.n = n ∧
      (pl.loc = none ∧ es = [] ∧ n = 0 ∧ oo = 0 ∧ ρ r = some ⟨z, 0, none⟩ ∨ ∃ b base base', ρ r = some ⟨z, es.length, some (b, base)⟩ ∧ pl.loc = some (b, base') ∧ (0 < n → base' = base + oo * z)) := by
  have ok := k.rows r _ hr
  have key : ∀ base j c, base + oo * z + j * z + c = base + (oo + j) * z + c := by intro base j c; rw [Nat.add_mul]; omega
  cases hv with
  | @sl _ _ _ _ _ m b base cap hρ hn hc hm hs =>
    rcases ok with ⟨_, _, h3⟩ | ⟨b', base', cur, el, h3, h4, h5, h6, h7, h8⟩
    · rw [hρ] at h3; have := congrArg Pl.loc (Option.some.inj h3); cases this
    rw [hρ] at h3
    cases h3
    have hl : ((es.drop oo).take n).length = n := by rw [List.length_take, List.length_drop]; omega
    have hsz : base + oo * z + n * z ≤ cur.size := by
      have := Nat.mul_le_mul_right z hn
      rw [Nat.add_mul] at this
      omega
    refine ⟨rfl, hn, hl, ⟨z, n, some (b, base + oo * z)⟩, ?_, ?_, rfl, rfl, .inr ⟨b, base, _, hρ, rfl, fun _ => rfl⟩⟩
    · have := Rv.sl (w := w) (T := T) (ρ := fun s => if s = q then some ⟨z, n, some (b, base + oo * z)⟩ else none) (r := q) (o := 0) (n := n) (cap := cap) (if_pos rfl) (by omega) hc hm (by
        obtain ⟨cur2, e2, fr2, h9, h10⟩ := hs
        refine ⟨cur2, e2, fr2, h9, ?_⟩
        rw [Nat.add_mul] at h10
        rw [Nat.zero_add]
        omega)
      rw [Nat.zero_mul, Nat.add_zero] at this
      exact this
    · refine .inr ⟨b, base + oo * z, cur, el, by rw [hl]; exact if_pos rfl, h4, h5, by rw [hl]; exact hsz, fun hh => (by cases hh), ⟨fun j hj => ?_, fun j c hj hc' => ?_⟩⟩
      · rw [hl] at hj
        rw [getD_drop_take _ _ _ _ _ hj]
        exact h8.len _ (by omega)
      · rw [hl] at hj
        rw [getD_drop_take _ _ _ _ _ hj, key]
        exact h8.cell _ c (by omega) hc'
  | @slz _ _ _ _ m b base off hρ hn =>
    rcases ok with ⟨_, _, h3⟩ | ⟨b', base', cur, el, h3, h4, h5, h6, h7, h8⟩
    · rw [hρ] at h3; have := congrArg Pl.loc (Option.some.inj h3); cases this
    rw [hρ] at h3
    cases h3
    rw [List.take_zero]
    refine ⟨rfl, hn, rfl, ⟨z, 0, some (b, 0)⟩, .slz (if_pos rfl) (Nat.le_refl _), .inr ⟨b, 0, cur, el, if_pos rfl, h4, h5, by simp, fun _ => rfl, ⟨fun j hj => (by cases hj), fun j c hj => (by cases hj)⟩⟩, rfl, rfl, .inr ⟨b, base, 0, hρ, rfl, fun h => by omega⟩⟩
  | slnil hρ =>
    rcases ok with ⟨h1, h2, h3⟩ | ⟨b', base', cur, el, h3, h4, h5, h6, h7, h8⟩
    · subst h1
      have hz : z' = z := by
        rw [hρ] at h3
        exact (congrArg Pl.z (Option.some.inj h3)).symm
      subst hz
      exact ⟨rfl, Nat.le_refl _, rfl, ⟨z', 0, none⟩, .slnil (if_pos rfl), .inl ⟨rfl, trivial, if_pos rfl⟩, rfl, rfl, .inl ⟨rfl, rfl, rfl, rfl, hρ⟩⟩
    · rw [hρ] at h3
      have := congrArg Pl.loc (Option.some.inj h3)
      cases this
def frL (w : World) (T : Nat → Prop) (li : Nat) (pl : Pl) (tabs : List (Nat × List AV)) : Fr :=
  ⟨w, fun b i => ∃ base, pl.loc = some (b, base) ∧ base ≤ i ∧ i < base + pl.n * pl.z, T, [lid li], fun _ => pl, tabs⟩
theorem init_lent (k : WInv f w T ρ h) {xs : List AV} {vs : Array Value} {li : Nat} (hli : li < xs.length) (hl : vs.size = xs.length) (hx : ∀ j, j < xs.length → j ≠ li → Rv w T Rho.none (xs.getD j .junk) (vs.getD j undef)) {x : Row} {av : AV} {pl : Pl}
    (hu : un1 Heap.none (lid li) (xs.getD li .junk) = (av, Heap.none.put (lid li) x)) (hxl : x.live = true) (hxa : x.isAp = false) (hv : Rv w T (fun s => if s = lid li then some pl else none) av (vs.getD li undef)) (ok : RowOk w T (fun s => if s = lid li then some pl else none) (lid li) x) :
    WInv (frL w T li pl f.tabs) w T (fun s => if s = lid li then some pl else none) (un (parN [li] 0 xs) xs).h ∧ Env w T (fun s => if s = lid li then some pl else none) (un (parN [li] 0 xs) xs).env ⟨vs, []⟩ := by
  obtain ⟨h1, h2, h3⟩ := parN_one (li := li) xs 0 St.none fun j hj hne g q => un1_rv (hx j hj (by omega)) g q
  have hh : (un (parN [li] 0 xs) xs).h = Heap.none.put (lid li) x := by
    show (unpack (parN [li] 0 xs) xs St.none).h = _
    rw [h1, if_pos (by omega), Nat.sub_zero]
    show (un1 Heap.none (lid li) (xs.getD li .junk)).2 = _
    rw [hu]
  have only : ∀ r y, (Heap.none.put (lid li) x) r = some y → r = lid li ∧ y = x := by
    intro r y hy
    simp only [Heap.put, Heap.none] at hy
    split at hy
    · rename_i e; cases hy; exact ⟨e, rfl⟩
    · cases hy
  refine ⟨?_, fun t => ?_⟩
  · rw [hh]
    refine ⟨Keeps.refl _ _, k.tlt, fun r y hy => ?_, fun r hr => ?_, fun r r' y y' hne hy hy' => ?_, fun r y p b base hy hyl hp hloc => ?_, fun b hb => .inl hb, fun r hr => ?_, fun r y p b base hr hy => ?_, k.tlt, fun r hr y hy => ?_, k.tab⟩
    · obtain ⟨rfl, rfl⟩ := only r y hy; exact ok
    · simp only [Heap.put, Heap.none] at hr
      split at hr
      · cases hr
      · rename_i hne; simp only [hne, if_false]
    · obtain ⟨rfl, rfl⟩ := only r y hy
      obtain ⟨rfl, rfl⟩ := only r' y' hy'
      exact absurd rfl hne
    · obtain ⟨rfl, rfl⟩ := only r y hy
      rw [if_pos rfl] at hp
      cases hp
      exact .inr ⟨fun o h1 h2 => ⟨base, hloc, h1, h2⟩, fun hh => by rw [hxa] at hh; cases hh⟩
    · have : r = lid li := by simpa [frL] using hr
      subst this
      exact if_pos rfl
    · obtain ⟨rfl, rfl⟩ := only r y hy
      exact absurd (by simp [frL]) hr
    · obtain ⟨rfl, rfl⟩ := only r y hy
      exact hxa
  · show Rv w T _ ((unpack (parN [li] 0 xs) xs St.none).env t) (vs.getD t undef)
    by_cases ht : t < xs.length
    · have := h3 t ht
      rw [Nat.zero_add] at this
      rw [this]
      split
      · rename_i e
        subst e
        show Rv w T _ (un1 Heap.none (lid t) (xs.getD t .junk)).1 _
        rw [hu]
        exact hv
      · rename_i hne
        exact (hx t ht hne).any
    · rw [h2 t (by omega)]
      exact .junk
theorem lid_pid {i j n : Nat} (hn : n ≤ 100) (h : j < n) : lid i ≠ pid j := by unfold lid pid; omega
theorem back_facts {fr : Fr} {li : Nat} {res : List (PR × Nat)} {vals : Array Value} {out : List AV} {vr o1 : AV} {T' : Nat → Prop} {ρ' : Rho} (hk : ∀ x ∈ res, x.2 ≤ 1) (hrl : res.length ≤ 100) (hlid : fr.lids = [lid li])
    (hs : vals.size = res.length) (ho : out.length = (resL res [li]).length) (hr : AV.back vr [o1] = retV [li] out)
    (k' : WInv fr w' T' ρ' (un (resL res [li]) out).h) (he' : Env w' T' ρ' (un (resL res [li]) out).env ⟨vals, []⟩) (fl : Flat w' T' (un (resL res [li]) out).env ⟨vals, []⟩) {x : Row} {av : AV} (hu : un1 Heap.none (lid li) o1 = (av, Heap.none.put (lid li) x)) (hxl : x.live = true) :
    (un (resL res [li]) out).h (lid li) = some x ∧ (∀ b, fr.T0 b → T' b) ∧ Rv w' fr.T0 Rho.none (demoteT vr) (oneR vals) ∧ ∀ r1 z1 p1 n1, vr = .sl r1 z1 p1 n1 → Rv w' T' ρ' vr (oneR vals) := by
  have hlen : out.length = 1 + res.length := by
    rw [ho]
    show (kindL 0 res).length + 1 = _
    rw [kindL_length]
    omega
  match out, hlen with
  | [], h => simp only [List.length_nil] at h; omega
  | o2 :: rs, hlen =>
    have hrs : rs.length = res.length := by simp at hlen; omega
    have hret : retV [li] (o2 :: rs) = .back (oneV rs) [o2] := rfl
    rw [hret] at hr
    injection hr with e1 e2
    injection e2 with e2 _
    subst e1
    subst e2
    have hun : un (resL res [li]) (o1 :: rs) = unpack (kindL 0 res) rs ⟨fun _ => .junk, (un1 Heap.none (lid li) o1).2⟩ := rfl
    rw [hu] at hun
    obtain ⟨_, q2, q3⟩ := unpack_kind' res 0 rs ⟨fun _ => .junk, Heap.none.put (lid li) x⟩ hk hrs
    have hrow : (un (resL res [li]) (o1 :: rs)).h (lid li) = some x := by
      rw [hun, q2 (lid li) fun j _ hj => lid_pid hrl (by omega)]
      simp [Heap.put]
    have h0 : ∀ b, fr.T0 b → T' b := fun b hb => (k'.t0 b hb).elim id fun ⟨r, hr, hd⟩ => by
      rw [hlid, List.mem_singleton] at hr
      subst hr
      rw [hd x hrow] at hxl
      cases hxl
    refine ⟨hrow, h0, ?_, fun r1 z1 p1 n1 hvr => ?_⟩
    rotate_left
    · match rs, hrs, hvr with
      | [y], hrs, hvr =>
        have hy : y = .sl r1 z1 p1 n1 := hvr
        have h5 := q3 0 (by rw [← hrs]; simp)
        rw [Nat.zero_add, ← hun] at h5
        have h6 : (un (resL res [li]) [o1, y]).env 0 = y := by
          rw [hy] at h5 ⊢
          exact h5
        have h7 := he' 0
        rw [h6] at h7
        have hone : vals.size = 1 := by rw [hs, ← hrs]; rfl
        have hv : oneR vals = vals.getD 0 undef := by simp [oneR, hone]
        rw [hv]
        exact h7
      | [], _, hvr => cases hvr
      | _ :: _ :: _, _, hvr => cases hvr
    have each : ∀ j, j < res.length → Rv w' fr.T0 Rho.none (demote (rs.getD j .junk)) (vals.getD j undef) := fun j hj => by
      have h5 := q3 j hj
      rw [Nat.zero_add, ← hun] at h5
      exact shown_rv' k' he' fl h0 (by
        rw [hlid, List.mem_singleton]
        exact fun e => lid_pid (i := li) hrl (show j < res.length by omega) e.symm) h5
    exact one_rv hs hrs each
theorem Keeps.cellW {W : Nat → Nat → Prop} (h : Keeps W w w') {b i : Nat} (hb : b < w.heap.size) (hi : ¬ W b i) : w'.cell? ⟨b, i, none⟩ = w.cell? ⟨b, i, none⟩ := by
  rcases h.block b hb with h1 | ⟨c, c', e, fr, h1, h2, h3, h4⟩
  · simp only [World.cell?, h1]
  · simp only [World.cell?, h1, h2]
    cases fr with
    | mk x y => simp only [h4 i hi]
theorem alias_rv {vr : AV} {u : Value} {pl : Pl} {li r oo z n : Nat} (hplace : ρ' (lid li) = some pl) (b3 : Rv w' T Rho.none (demoteT vr) u) (b4 : ∀ r1 z1 p1 n1, vr = .sl r1 z1 p1 n1 → Rv w' T' ρ' vr u) (hz : pl.z = z) (hn : pl.n = n)
    (hq : ∀ b base', pl.loc = some (b, base') → ∃ base m, ρ r = some ⟨z, m, some (b, base)⟩ ∧ oo + n ≤ m ∧ (0 < n → base' = base + oo * z)) : Rv w' T ρ (aliasV li r oo vr) u := by
  by_cases hx : ∃ r1 z1 p1 n1, vr = .sl r1 z1 p1 n1
  · obtain ⟨r1, z1, p1, n1, rfl⟩ := hx
    simp only [aliasV]
    split
    · rename_i hc
      obtain ⟨rfl, h0⟩ := hc
      have h1 := b4 _ _ _ _ rfl
      cases h1 with
      | @sl _ _ _ _ _ m b base' cap hr hnn hc hm hs =>
        rw [hplace] at hr
        cases hr
        simp only at hz hn
        subst hz
        subst hn
        obtain ⟨base, m2, q1, q2, q3⟩ := hq b base' rfl
        have q4 := q3 (by omega)
        subst q4
        obtain ⟨cur, el, fr, s1, s2⟩ := hs
        have := Rv.sl (w := w') (T := T) (ρ := ρ) (r := r) (o := oo + p1) (n := n1) (cap := cap) q1 (by omega) hc hm ⟨cur, el, fr, s1, by
          rw [Nat.add_mul] at s2 ⊢
          rw [Nat.add_mul]
          omega⟩
        rw [Nat.add_mul, ← Nat.add_assoc] at this
        exact this
      | slz => omega
      | slnil => omega
    · exact .junk
  · have : aliasV li r oo vr = demoteT vr := by
      cases vr <;> first | rfl | exact absurd ⟨_, _, _, _, rfl⟩ hx
    rw [this]
    exact b3.any
theorem lent_sl (k : WInv f w T ρ h) {g li : Nat} {res : List (PR × Nat)} {xs : List AV} {vs : Array Value} {r z oo n : Nat} {ap : Bool} {z' : Nat} {es : List (List AV)} (hr : h r = some (.sl ap z' es)) (hli : li < xs.length) (hl : vs.size = xs.length)
    (hv : Rv w T ρ (.sl r z oo n) (vs.getD li undef)) (hx : ∀ j, j < xs.length → j ≠ li → Rv w T Rho.none (xs.getD j .junk) (vs.getD j undef)) (hxl : xs.getD li .junk = .own false z ((es.drop oo).take n))
    (hk : ∀ x ∈ res, x.2 ≤ 1) (hrl : res.length ≤ 100) {vr : AV} {a2 : Bool} {z2 : Nat} {es2 : List (List AV)} (hc : CallOk P g res [li] f.tabs xs (.back vr [.own a2 z2 es2])) (hn2 : es2.length = n) (hz2 : z2 = z') :
    Calls P g vs w fun e w' => ∃ u, e = .returned u ∧ WInv f w' T ρ (h.put r (.sl ap z' (es.take oo ++ es2 ++ es.drop (oo + n)))) ∧ Goes w w' T T ρ ρ ∧ Rv w' T ρ (aliasV li r oo vr) u := by
  obtain ⟨hzz, hle, hwl, pl, p1, p2, p3, p4, p5⟩ := lend_sl k hr hv (lid li)
  subst hzz
  subst hz2
  have hu : un1 Heap.none (lid li) (xs.getD li .junk) = (.sl (lid li) z2 0 n, Heap.none.put (lid li) (.sl false z2 ((es.drop oo).take n))) := by rw [hxl]; simp only [un1, hwl]
  obtain ⟨i1, i2⟩ := init_lent k hli hl hx hu rfl rfl p1 p2
  refine (hc (frL w T li pl f.tabs) _ vs rfl rfl hl i1 i2).mono fun e w' he => ?_
  obtain ⟨out, vals, T', ρ', rfl, hs, ho, hret, k', e', fl⟩ := he
  obtain ⟨b1, b2, b3', b4⟩ := back_facts hk hrl (fr := frL w T li pl f.tabs) rfl hs ho hret k' e' fl (x := .sl a2 z2 es2) (av := .sl (lid li) z2 0 es2.length) rfl rfl
  have hplace : ρ' (lid li) = some pl := k'.lp (lid li) (by simp [frL])
  have b3 : Rv w' T ρ (aliasV li r oo vr) (oneR vals) := alias_rv hplace b3' b4 p3 p4 fun b base' hb => by
    rcases p5 with ⟨q1, _⟩ | ⟨b2, base, base2, q1, q2, q3⟩
    · rw [q1] at hb; cases hb
    · rw [q2] at hb
      cases hb
      exact ⟨base, es.length, q1, hle, q3⟩
  have ok2 := k'.rows _ _ b1
  have hnew : (es.take oo ++ es2 ++ es.drop (oo + n)).length = es.length := by simp only [List.length_append, List.length_take, List.length_drop]; omega
  have go : ∀ {p : Pl} {b base : Nat}, ρ r = some p → p.loc = some (b, base) → Keeps (fun b' i => b' = b ∧ (frL w T li pl f.tabs).W0 b' i) w w' → (f.w0.heap.size ≤ b ∨ ∀ i, (frL w T li pl f.tabs).W0 b i → f.W0 b i) → RowOk w' T ρ r (.sl ap z2 (es.take oo ++ es2 ++ es.drop (oo + n))) →
      ∃ u, Ending.returned (oneR vals) = .returned u ∧ WInv f w' T ρ (h.put r (.sl ap z2 (es.take oo ++ es2 ++ es.drop (oo + n)))) ∧ Goes w w' T T ρ ρ ∧ Rv w' T ρ (aliasV li r oo vr) u := by
    intro p b base hp hloc hkeep hW hok
    have hkeep2 : Keeps (fun b' i => b' = b ∧ (frL w T li pl f.tabs).W0 b i) w w' := ⟨hkeep.os, hkeep.tape, hkeep.output, hkeep.size, fun c hc => (hkeep.block c hc).imp id fun ⟨d, d', e, fr, q1, q2, q3, q4⟩ => ⟨d, d', e, fr, q1, q2, q3, fun o ho => q4 o fun hh => ho ⟨hh.1, by rw [← hh.1]; exact hh.2⟩⟩⟩
    obtain ⟨k2, g2⟩ := k.rewriteK hr rfl hp hloc hkeep2 hW hok (fun hh => hh)
    exact ⟨_, rfl, k2, g2, b3⟩
  rcases p5 with ⟨q1, rfl, rfl, rfl, q5⟩ | ⟨b, base, base', q1, q2, q3⟩
  · -- a nil slice
    have h0 : es2 = [] := List.eq_nil_of_length_eq_zero hn2
    subst h0
    have hold : Old w w' := by
      refine Keeps.old ⟨k'.keeps.os, k'.keeps.tape, k'.keeps.output, k'.keeps.size, fun c hc => (k'.keeps.block c hc).imp id fun ⟨d, d', e, fr, s1, s2, s3, s4⟩ => ⟨d, d', e, fr, s1, s2, s3, fun o ho => s4 o fun hh => ?_⟩⟩
      obtain ⟨bb, hb, _⟩ := hh
      rw [q1] at hb
      cases hb
    have hsame : h.put r (.sl ap z2 (List.take 0 [] ++ [] ++ List.drop (0 + 0) [])) = h := by
      funext q
      simp only [Heap.put]
      split
      · rename_i e; rw [e, hr]; rfl
      · rfl
    rw [hsame]
    exact ⟨_, rfl, k.old hold, Goes.old hold, b3⟩
  · have okr := k.rows r _ hr
    rcases okr with ⟨h1, _, h3⟩ | ⟨b', bs, cur, el, h3, h4, h5, h6, h7, h8⟩
    · rw [q1] at h3
      have := congrArg Pl.loc (Option.some.inj h3)
      cases this
    · rw [q1] at h3
      cases h3
      have hWb : ∀ c i, (frL w T li pl f.tabs).W0 c i → c = b ∧ base' ≤ i ∧ i < base' + n * z2 := by
        rintro c i ⟨bb, hb, hi1, hi2⟩
        rw [q2] at hb
        cases hb
        rw [p3, p4] at hi2
        exact ⟨rfl, hi1, hi2⟩
      have hkeep : Keeps (fun b' i => b' = b ∧ (frL w T li pl f.tabs).W0 b' i) w w' := ⟨k'.keeps.os, k'.keeps.tape, k'.keeps.output, k'.keeps.size, fun c hc => (k'.keeps.block c hc).imp id fun ⟨d, d', e, fr, s1, s2, s3, s4⟩ => ⟨d, d', e, fr, s1, s2, s3, fun o ho => s4 o fun hh => ho ⟨(hWb c o hh).1, hh⟩⟩⟩
      have hsm : Same T w w' := hkeep.same fun c i _ hh => by rw [hh.1]; exact h4
      have hblt : b < w.heap.size := lt_of_cells h5
      have hin : ∀ i, base' ≤ i → i < base' + n * z2 → base + oo * z2 ≤ i ∧ i < base + (oo + n) * z2 := by
        intro i g1 g2
        rcases Nat.eq_zero_or_pos n with hn0 | hn0
        · subst hn0; omega
        · rw [q3 hn0] at g1 g2
          rw [Nat.add_mul]
          omega
      refine go q1 rfl hkeep ?_ ?_
      · rcases k.wr r _ _ _ _ hr rfl q1 rfl with g1 | ⟨g1, _⟩
        · exact .inl g1
        · refine .inr fun i hi => ?_
          obtain ⟨_, g2, g3⟩ := hWb b i hi
          obtain ⟨g4, g5⟩ := hin i g2 g3
          refine g1 i (by omega) ?_
          have := Nat.mul_le_mul_right z2 hle
          show i < base + es.length * z2
          omega
      · obtain ⟨cur', hc1, hc2⟩ := hsm.shape b cur el (0, 0) h5
        refine .inr ⟨b, base, cur', el, by rw [hnew]; exact q1, h4, hc1, by rw [hnew, hc2]; exact h6, h7, ⟨fun j hj => ?_, fun j c hj hcz => ?_⟩⟩
        · rw [hnew] at hj
          rcases Nat.lt_or_ge j oo with g1 | g1
          · rw [List.append_assoc, getD_append_left' _ _ _ _ (by simp only [List.length_take]; omega), List.getD_eq_getElem?_getD, List.getElem?_take_of_lt g1, ← List.getD_eq_getElem?_getD]
            exact h8.len j hj
          · rcases Nat.lt_or_ge j (oo + n) with g2 | g2
            · rw [getD_append_left' _ _ _ _ (by simp only [List.length_append, List.length_take]; omega), getD_append_right' _ _ _ _ (by simp only [List.length_take]; omega), List.length_take, Nat.min_eq_left (by omega)]
              rcases ok2 with ⟨s1, _, _⟩ | ⟨_, _, _, _, _, _, _, _, _, s8⟩
              · rw [s1] at hn2; simp at hn2; omega
              · exact s8.len (j - oo) (by omega)
            · rw [getD_append_right' _ _ _ _ (by simp only [List.length_append, List.length_take]; omega), List.length_append, List.length_take, Nat.min_eq_left (by omega), hn2, List.getD_eq_getElem?_getD, List.getElem?_drop, ← List.getD_eq_getElem?_getD, show oo + n + (j - (oo + n)) = j by omega]
              exact h8.len j hj
        · rw [hnew] at hj
          have outside : (j < oo ∨ oo + n ≤ j) → ∃ v, w'.cell? ⟨b, base + j * z2 + c, none⟩ = some v ∧ v.oneCell' = true ∧ Rv w' T Rho.none ((es.getD j []).getD c .junk) v := by
            intro hj2
            obtain ⟨v, s1, s2, s3⟩ := h8.cell j c hj hcz
            refine ⟨v, ?_, s2, s3.mono hsm (fun _ _ h => h) fun _ _ h => h⟩
            rw [← s1]
            refine k'.keeps.cellW hblt fun hh => ?_
            obtain ⟨_, g2, g3⟩ := hWb _ _ hh
            obtain ⟨g4, g5⟩ := hin _ g2 g3
            rcases hj2 with hj2 | hj2
            · have : (j + 1) * z2 ≤ oo * z2 := Nat.mul_le_mul_right z2 hj2
              rw [Nat.add_mul] at this
              omega
            · have : (oo + n) * z2 ≤ j * z2 := Nat.mul_le_mul_right z2 hj2
              omega
          rcases Nat.lt_or_ge j oo with g1 | g1
          · rw [List.append_assoc, getD_append_left' _ _ _ _ (by simp only [List.length_take]; omega), List.getD_eq_getElem?_getD (l := List.take oo es), List.getElem?_take_of_lt g1, ← List.getD_eq_getElem?_getD]
            exact outside (.inl g1)
          · rcases Nat.lt_or_ge j (oo + n) with g2 | g2
            · rw [getD_append_left' _ _ _ _ (by simp only [List.length_append, List.length_take]; omega), getD_append_right' _ _ _ _ (by simp only [List.length_take]; omega), List.length_take, Nat.min_eq_left (by omega)]
              rcases ok2 with ⟨s1, _, _⟩ | ⟨b9, base9, cur9, el9, s3, s4, s5, s6, s7, s8⟩
              · rw [s1] at hn2; simp at hn2; omega
              · rw [hplace] at s3
                have s3' := congrArg Pl.loc (Option.some.inj s3)
                rw [q2] at s3'
                cases s3'
                obtain ⟨v, t1, t2, t3⟩ := s8.cell (j - oo) c (by omega) hcz
                refine ⟨v, ?_, t2, t3.less fun b _ hb => b2 b hb⟩
                rw [← t1, q3 (by omega)]
                congr 2
                have : j * z2 = oo * z2 + (j - oo) * z2 := by rw [← Nat.add_mul, Nat.add_sub_cancel' g1]
                omega
            · rw [getD_append_right' _ _ _ _ (by simp only [List.length_append, List.length_take]; omega), List.length_append, List.length_take, Nat.min_eq_left (by omega), hn2, List.getD_eq_getElem?_getD (l := List.drop (oo + n) es), List.getElem?_drop, ← List.getD_eq_getElem?_getD, show oo + n + (j - (oo + n)) = j by omega]
              exact outside (.inr g2)
end
end Go.Pe
set_option linter.unusedVariables false
set_option linter.unusedSimpArgs false
namespace Go.Pe
open Go
section
variable {P : Program} {f : Fr} {w w' : World} {T T' : Nat → Prop} {ρ ρ' : Rho} {h : Heap} {e : Nat → AV} {a : Act} {o : Oper}
theorem demote_any {av : AV} {v : Value} (k : Rv w T ρ av v) (h1 : v.oneCell' = true) : Rv w T Rho.none (demote av) v := by
  obtain ⟨n1, n2⟩ := one_of_cell k h1
  cases k with
  | sl => exact .junk
  | slz => exact .junk
  | slnil => exact .junk
  | p => exact .junk
  | junk => exact .junk
  | b => exact .b
  | i => exact .i
  | s => exact .s
  | np => exact .np
  | ns => exact .ns
  | lnil ha hm => exact .lnil ha hm
  | l g a1 a2 a3 a4 a5 a6 a7 => exact .l g a1 a2 a3 a4 a5 a6 a7
  | tp g a1 a2 a3 a4 => exact .tp g a1 a2 a3 a4
  | agg => exact absurd rfl (n1 _)
  | tup => exact absurd rfl (n2 _)
theorem lent_st (k : WInv f w T ρ h) {g li : Nat} {res : List (PR × Nat)} {xs : List AV} {vs : Array Value} {r : Nat} {cs cs' : List AV} (hr : h r = some (.st cs)) (hli : li < xs.length) (hl : vs.size = xs.length)
    (hv : Rv w T ρ (.p r 0 0) (vs.getD li undef)) (hx : ∀ j, j < xs.length → j ≠ li → Rv w T Rho.none (xs.getD j .junk) (vs.getD j undef)) (hxl : xs.getD li .junk = .ownp cs') (hcl : cs'.length = cs.length)
    (hcs : ∀ c, c < cs.length → ∀ v, v.oneCell' = true → Rv w T ρ (cs.getD c .junk) v → Rv w T Rho.none (cs'.getD c .junk) v)
    (hk : ∀ x ∈ res, x.2 ≤ 1) (hrl : res.length ≤ 100) {vr : AV} {cs2 : List AV} (hc : CallOk P g res [li] f.tabs xs (.back vr [.ownp cs2])) (hn2 : cs2.length = cs.length) :
    Calls P g vs w fun e w' => ∃ u, e = .returned u ∧ WInv f w' T ρ (h.put r (.st (cs2.map demote))) ∧ Goes w w' T T ρ ρ ∧ Rv w' T Rho.none (demoteT vr) u := by
  obtain ⟨b, base, cur, el, h3, h4, h5, h6, h7⟩ := k.rows r _ hr
  have hu : un1 Heap.none (lid li) (xs.getD li .junk) = (.p (lid li) 0 0, Heap.none.put (lid li) (.st cs')) := by rw [hxl]; rfl
  have p1 : Rv w T (fun s => if s = lid li then some (⟨cs.length, 1, some (b, base)⟩ : Pl) else none) (.p (lid li) 0 0) (vs.getD li undef) := by
    generalize vs.getD li undef = v at hv
    cases hv with
    | p hρ =>
      rw [h3] at hρ
      cases hρ
      exact .p (if_pos rfl)
  have p2 : RowOk w T (fun s => if s = lid li then some (⟨cs.length, 1, some (b, base)⟩ : Pl) else none) (lid li) (.st cs') := by
    refine ⟨b, base, cur, el, by rw [hcl]; exact if_pos rfl, h4, h5, by rw [hcl]; exact h6, ⟨fun j hj => ?_, fun j c hj hcz => ?_⟩⟩
    · cases j with
      | zero => rfl
      | succ j => simp at hj
    · cases j with
      | succ j => simp at hj
      | zero =>
        rw [hcl] at hcz
        obtain ⟨v, s1, s2, s3⟩ := h7.cell 0 c (by simp) hcz
        exact ⟨v, by simpa only [Nat.zero_mul] using s1, s2, (hcs c hcz v s2 s3).any⟩
  obtain ⟨i1, i2⟩ := init_lent k hli hl hx hu rfl rfl p1 p2
  refine (hc (frL w T li _ f.tabs) _ vs rfl rfl hl i1 i2).mono fun e w' he => ?_
  obtain ⟨out, vals, T', ρ', rfl, hs, ho, hret, k', e', fl⟩ := he
  obtain ⟨b1, b2, b3, _⟩ := back_facts hk hrl (fr := frL w T li _ f.tabs) rfl hs ho hret k' e' fl (x := .st cs2) (av := .p (lid li) 0 0) rfl rfl
  have hplace : ρ' (lid li) = some (⟨cs.length, 1, some (b, base)⟩ : Pl) := k'.lp (lid li) (by simp [frL])
  obtain ⟨b9, base9, cur9, el9, s3, s4, s5, s6, s7⟩ := k'.rows _ _ b1
  rw [hplace] at s3
  have s3' := congrArg Pl.loc (Option.some.inj s3)
  cases s3'
  have hWb : ∀ c i, (frL w T li (⟨cs.length, 1, some (b, base)⟩ : Pl) f.tabs).W0 c i → c = b ∧ base ≤ i ∧ i < base + cs.length := by
    rintro c i ⟨bb, hb, hi1, hi2⟩
    cases hb
    exact ⟨rfl, hi1, by simpa using hi2⟩
  have hkeep : Keeps (fun b' i => b' = b ∧ base ≤ i ∧ i < base + cs.length) w w' := ⟨k'.keeps.os, k'.keeps.tape, k'.keeps.output, k'.keeps.size, fun c hc => (k'.keeps.block c hc).imp id fun ⟨d, d', e, fr, t1, t2, t3, t4⟩ => ⟨d, d', e, fr, t1, t2, t3, fun o ho => t4 o fun hh => ho (hWb c o hh)⟩⟩
  have hsm : Same T w w' := hkeep.same fun c i _ hh => by rw [hh.1]; exact h4
  have hok : RowOk w' T ρ r (.st (cs2.map demote)) := by
    obtain ⟨cur', hc1, hc2⟩ := hsm.shape b cur el (0, 0) h5
    have hlen : (cs2.map demote).length = cs.length := by rw [List.length_map]; exact hn2
    refine ⟨b, base, cur', el, by rw [hlen]; exact h3, h4, hc1, by rw [hlen, hc2]; exact h6, ⟨fun j hj => ?_, fun j c hj hcz => ?_⟩⟩
    · cases j with
      | zero => rfl
      | succ j => simp at hj
    · cases j with
      | succ j => simp at hj
      | zero =>
        rw [hlen] at hcz
        obtain ⟨v, t1, t2, t3⟩ := s7.cell 0 c (by simp) (by omega)
        refine ⟨v, by simpa only [Nat.zero_mul] using t1, t2, ?_⟩
        show Rv w' T ρ ((cs2.map demote).getD c .junk) v
        rw [getD_map_lt demote cs2 c .junk .junk (by omega)]
        exact ((demote_any t3 t2).less fun b _ hb => b2 b hb).any
  obtain ⟨k2, g2⟩ := k.rewriteK hr rfl h3 rfl hkeep ((k.wr r _ _ _ _ hr rfl h3 rfl).imp id fun hh i hi => hh.1 i hi.1 (by
    show i < base + 1 * cs.length
    omega)) hok (fun hh => by cases hh)
  exact ⟨_, rfl, k2, g2, b3⟩
theorem argsL_get {x : AV} : ∀ {li : Nat} {vs : List AV}, (argsL h x li vs).length = vs.length ∧ ∀ j, j < vs.length → (argsL h x li vs).getD j .junk = if j = li then x else tell h (vs.getD j .junk) := by
  intro li
  induction li with
  | zero =>
    intro vs
    cases vs with
    | nil => exact ⟨rfl, fun j hj => by cases hj⟩
    | cons v vs =>
      refine ⟨by simp [argsL], fun j hj => ?_⟩
      cases j with
      | zero => rfl
      | succ j =>
        rw [if_neg (by omega)]
        show (vs.map (tell h)).getD j .junk = tell h (vs.getD j .junk)
        exact getD_map_lt (tell h) vs j .junk .junk (by simpa using hj)
  | succ li ih =>
    intro vs
    cases vs with
    | nil => exact ⟨rfl, fun j hj => by cases hj⟩
    | cons v vs =>
      obtain ⟨h1, h2⟩ := ih (vs := vs)
      refine ⟨by simp [argsL, h1], fun j hj => ?_⟩
      cases j with
      | zero => rw [if_neg (by omega)]; rfl
      | succ j =>
        have := h2 j (by simpa using hj)
        show (argsL h x li vs).getD j .junk = _
        rw [this]
        by_cases hji : j = li
        · rw [if_pos hji, if_pos (by omega)]
        · rw [if_neg hji, if_neg (by omega)]; rfl
theorem refsL_mem {r : Nat} : ∀ {li : Nat} {vs : List AV} {j : Nat}, j < vs.length → j ≠ li → r ∈ ref h (vs.getD j .junk) → r ∈ refsL h li vs := by
  intro li
  induction li with
  | zero =>
    intro vs j hj hne hr
    cases vs with
    | nil => cases hj
    | cons v vs =>
      cases j with
      | zero => exact absurd rfl hne
      | succ j => exact List.mem_flatMap.2 ⟨vs.getD j AV.junk, getD_mem AV.junk (by simpa using hj), show r ∈ ref h (vs.getD j AV.junk) from hr⟩
  | succ li ih =>
    intro vs j hj hne hr
    cases vs with
    | nil => cases hj
    | cons v vs =>
      cases j with
      | zero => exact List.mem_append.2 (.inl hr)
      | succ j => exact List.mem_append.2 (.inr (ih (by simpa using hj) (by omega) hr))
theorem freeze_win0 (rs : List Nat) (r o n : Nat) : ((h.freeze rs) r).bind (Row.win o n) = (h r).bind (Row.win o n) := by
  induction rs with
  | nil => rfl
  | cons q rs ih =>
    simp only [Heap.freeze]
    split
    · rw [← ih]
      cases h.freeze rs r with
      | none => rfl
      | some x => cases x <;> rfl
    · exact ih
theorem freeze_tell0 (rs : List Nat) (v : AV) : tell0 (h.freeze rs) v = tell0 h v := by
  cases v <;> try rfl
  simp only [tell0, freeze_win0]
theorem op_callw (k : WInv f w T ρ h) (he : Env w T ρ e a) {c : Go.Call} {g g' li : Nat} {ys : List At} {res : List (PR × Nat)} {av : AV} {h' : Heap} (call : Call) (ho : o.op = .call c) (hcal : c.callee = .value (.func g')) (hm : mas f.tabs c.args.toList ys = true) (hb : bodied P g' = true) (hli : li < ys.length)
    (hk : ∀ x ∈ res, x.2 ≤ 1) (hrl : res.length ≤ 100) (hc : ∀ xs r, call g xs = some r → CallOk P g' res [li] f.tabs xs r) (hv : PO.ev call (.callw g ys li) e h = some (av, h')) : Goes1 P f o a w T ρ av h' := by
  simp only [PO.ev, callL, Option.bind_eq_some_iff] at hv
  obtain ⟨x, hlend, r, hr, hback⟩ := hv
  obtain ⟨hlen, hrv⟩ := mas_rv k he hm
  have hrun : (execOp a.eval o).run P w = .ok (.enter g' (c.args.map a.eval)) w := by
    simp [execOp, ho, resolve, hcal, Act.eval, Deferred.ofValue, invoke, run_callFunc hb]
  have hvs : ∀ j, (c.args.map a.eval).getD j undef = (c.args.toList.map a.eval).getD j undef := fun j => by simp [List.getD_eq_getElem?_getD]
  have hsz : (c.args.map a.eval).size = (argsL h x li (ys.map (At.ev e))).length := by rw [(argsL_get (h := h) (x := x) (li := li)).1]; simp [← hlen]
  have hll : li < (argsL h x li (ys.map (At.ev e))).length := by rw [(argsL_get (h := h) (x := x) (li := li)).1]; simpa using hli
  have hxl : (argsL h x li (ys.map (At.ev e))).getD li .junk = x := by rw [(argsL_get (h := h) (x := x) (li := li)).2 li (by simpa using hli), if_pos rfl]
  have hli' := hrv li hli
  have others : ∀ {T1 : Nat → Prop}, (∀ b, b < w.heap.size → T1 b → T b) → (∀ r ∈ refsL h li (ys.map (At.ev e)), ∀ b, rowBlk h ρ r b → ¬ T1 b) → ∀ j, j < (argsL h x li (ys.map (At.ev e))).length → j ≠ li → Rv w T1 Rho.none ((argsL h x li (ys.map (At.ev e))).getD j .junk) ((c.args.map a.eval).getD j undef) := by
    intro T1 hless hfree j hj hne
    rw [(argsL_get (h := h) (x := x) (li := li)).1, List.length_map] at hj
    rw [(argsL_get (h := h) (x := x) (li := li)).2 j (by simpa using hj), if_neg hne, hvs]
    exact tell_rv k.rows hless (hrv j hj) fun r hr' b hb => hfree r (refsL_mem (by simpa using hj) hne hr') b hb
  have finish : ∀ {T1 : Nat → Prop} {h2 : Heap} {vr : AV}, Goes w w T T1 ρ ρ → av = vr → h' = h2 → Calls P g' (c.args.map a.eval) w (fun e w' => ∃ u, e = .returned u ∧ WInv f w' T1 ρ h2 ∧ Goes w w' T1 T1 ρ ρ ∧ Rv w' T1 ρ vr u) → Goes1 P f o a w T ρ av h' := by
    intro T1 h2 vr g1 e1 e2 hcalls K Q hK
    subst e1
    subst e2
    unfold Oper.wp
    rw [hrun]
    refine hcalls.mono fun e w' hw => ?_
    obtain ⟨u, rfl, k2, g2, r2⟩ := hw
    exact hK u w' T1 ρ k2 (g1.trans g2) r2
  unfold backL at hback
  split at hback
  · rename_i q z oo n vr a2 z2 es2 hy
    split at hback
    · rename_i ap z' es hrow
      split at hback
      · rename_i hcond
        obtain ⟨c1, c2, c3⟩ := hcond
        cases hback
        rw [hy] at hlend hli'
        simp only [lendL, hrow] at hlend
        cases hlend
        obtain ⟨T1, k1, g1, hfree, _⟩ := k.freeze (refsL h li (ys.map (At.ev e)))
        refine finish g1 rfl rfl ?_
        refine lent_sl k1 (by rw [freeze_notin c1]; exact hrow) hll hsz ?_ (others g1.less hfree) hxl hk hrl (hc _ _ hr) c2 c3
        rw [hvs]
        exact g1.rv hli'
      · cases hback
    · cases hback
  · rename_i q vr cs2 hy
    split at hback
    · rename_i cs hrow
      split at hback
      · rename_i hcond
        obtain ⟨c1, c2⟩ := hcond
        cases hback
        rw [hy] at hlend hli'
        simp only [lendL, hrow] at hlend
        cases hlend
        obtain ⟨T1, k1, g1, hfree, _⟩ := k.freeze (refsL h li (ys.map (At.ev e)) ++ cs.flatMap ref0)
        refine finish g1 rfl rfl ((lent_st k1 (by rw [freeze_notin c1]; exact hrow) hll hsz ?_ (others g1.less fun r hr b hb => hfree r (List.mem_append.2 (.inl hr)) b hb) hxl (by simp) (fun c hcc v hv1 hv2 => ?_) hk hrl (hc _ _ hr) c2).mono fun e w' hw => by obtain ⟨u, e1, k2, g2, r2⟩ := hw; exact ⟨u, e1, k2, g2, r2.any⟩)
        · rw [hvs]
          exact g1.rv hli'
        · rw [getD_map_lt (tell0 h) cs c .junk .junk hcc]
          have := tell0_cell (T' := T1) (h := h.freeze (refsL h li (ys.map (At.ev e)) ++ cs.flatMap ref0)) k1.rows (fun _ _ h => h) hv1 hv2 fun r hr b hb => by
            obtain ⟨x, p, base, hx, hl, hp, hloc⟩ := hb
            have := freeze_live' hx hl
            exact absurd (List.mem_append.2 (.inr (List.mem_flatMap.2 ⟨_, getD_mem .junk hcc, hr⟩))) this.2
          rwa [freeze_tell0] at this
      · cases hback
    · cases hback
  · cases hback
end
end Go.Pe
set_option linter.unusedVariables false
set_option linter.unusedSimpArgs false
namespace Go.Pe
open Go
section
variable {P : Program} {f : Fr} {w w' : World} {T T' : Nat → Prop} {ρ ρ' : Rho} {h : Heap} {e : Nat → AV} {a : Act} {o : Oper}
theorem call_own (k : WInv f w T ρ h) {g : Nat} {res : List (PR × Nat)} {xs : List AV} {vs : Array Value} {ap : Bool} {z : Nat} {es : List (List AV)} (hk : ∀ x ∈ res, x.2 ≤ 1) (hc : CallOk P g res [] f.tabs xs (.own ap z es)) (hl : vs.size = xs.length) (hx : ∀ j, j < xs.length → Rv w T Rho.none (xs.getD j .junk) (vs.getD j undef)) {id : Nat} (hid : h id = none) :
    Calls P g vs w fun e w' => ∃ v T' ρ', e = .returned v ∧ WInv f w' T' ρ' (h.put id (.sl ap z es)) ∧ Goes w w' T T' ρ ρ' ∧ Rv w' T' ρ' (.sl id z 0 es.length) v := by
  obtain ⟨h1, h2⟩ := init_told k hl hx
  refine (hc ⟨w, fun _ _ => False, T, [], fun _ => ⟨0, 0, none⟩, f.tabs⟩ Rho.none vs rfl rfl hl h1 h2).mono fun e w' he => ?_
  obtain ⟨out, vals, T', ρ', rfl, hs, ho, hret, k', e', fl⟩ := he
  have hol : out.length = res.length := by rw [ho]; exact kindL_length res 0
  have hout : out = [.own ap z es] := by
    match out, hret with
    | [x], hret => have : AV.own ap z es = x := hret; rw [this]
    | [], hret => cases hret
    | _ :: _ :: _, hret => cases hret
  subst hout
  have hone : vals.size = 1 := by rw [hs, ← hol]; rfl
  have hv : oneR vals = vals.getD 0 undef := by simp [oneR, hone]
  obtain ⟨_, _, h3⟩ := unpack_kind' res 0 [.own ap z es] St.none hk hol
  obtain ⟨s1, s2⟩ : (un (resL res []) [.own ap z es]).env 0 = .sl (pid 0) z 0 es.length ∧ (un (resL res []) [.own ap z es]).h (pid 0) = some (.sl ap z es) := by
    have := h3 0 (by rw [← hol]; simp)
    exact this
  have hold := k'.keeps.old
  have hrv := e' 0
  rw [s1] at hrv
  have h0 : ∀ b, T b → T' b := fun b hb => (k'.t0 b hb).elim (fun h => h) fun ⟨r, hr, _⟩ => by cases hr
  have ko := k.old hold
  rcases k'.rows _ _ s2 with ⟨r1, r2, r3⟩ | ⟨b, base, cur, el, r3, r4, r5, r6, r7, r8⟩
  · subst r1
    obtain ⟨k2, g2⟩ := ko.newnil hid z (ap := ap)
    refine ⟨_, _, _, rfl, k2, (Goes.old hold).trans g2, ?_⟩
    rw [hv]
    have hrv2 : Rv w' T' ρ' (.sl (pid 0) z 0 0) (vals.getD 0 undef) := hrv
    generalize vals.getD 0 undef = u at hrv2
    cases hrv2 with
    | sl q1 => rw [r3] at q1; have := congrArg Pl.loc (Option.some.inj q1); cases this
    | slz q1 => rw [r3] at q1; have := congrArg Pl.loc (Option.some.inj q1); cases this
    | slnil q1 => exact .slnil (if_pos rfl)
  · have hge : w.heap.size ≤ b := k'.own _ _ _ _ _ (by simp) s2 rfl r3 rfl
    have hlt := lt_of_cells r5
    have less : ∀ c, c < w'.heap.size → (T c ∨ c = b) → T' c := fun c _ hc => hc.elim (h0 c) fun e => e ▸ r4
    obtain ⟨k2, g2⟩ := k.new' hold hid (x := .sl ap z es) (z := z) (n := es.length) (base := base) (by omega) hge hlt (.inr ⟨b, base, cur, el, if_pos rfl, .inr rfl, r5, r6, r7, r8.mono (fun _ => rfl) fun av v hh => hh.less less⟩)
    refine ⟨_, _, _, rfl, k2, g2, ?_⟩
    rw [hv]
    have hrv2 : Rv w' T' ρ' (.sl (pid 0) z 0 es.length) (vals.getD 0 undef) := hrv
    generalize vals.getD 0 undef = u at hrv2
    generalize hn0 : es.length = n0 at *
    cases hrv2 with
    | sl q1 q2 q3 q4 q5 => rw [r3] at q1; cases q1; exact .sl (if_pos rfl) q2 q3 q4 q5
    | slz q1 q2 => rw [r3] at q1; cases q1; exact .slz (if_pos rfl) q2
    | slnil q1 => rw [r3] at q1; have := congrArg Pl.loc (Option.some.inj q1); cases this
theorem op_callo (k : WInv f w T ρ h) (he : Env w T ρ e a) {c : Go.Call} {g g' id : Nat} {ys : List At} {res : List (PR × Nat)} {av : AV} {h' : Heap} (call : Call) (ho : o.op = .call c) (hcal : c.callee = .value (.func g')) (hm : mas f.tabs c.args.toList ys = true) (hb : bodied P g' = true)
    (hk : ∀ x ∈ res, x.2 ≤ 1) (hc : ∀ xs r, call g xs = some r → CallOk P g' res [] f.tabs xs r) (hv : PO.ev call (.callo g ys id) e h = some (av, h')) : Goes1 P f o a w T ρ av h' := by
  simp only [PO.ev, callO, Option.bind_eq_some_iff] at hv
  obtain ⟨r, hr, hv⟩ := hv
  obtain ⟨hlen, hrv⟩ := mas_rv k he hm
  obtain ⟨T1, k1, g1, hfree, _⟩ := k.freeze ((ys.map (At.ev e)).flatMap (ref h))
  have hrun : (execOp a.eval o).run P w = .ok (.enter g' (c.args.map a.eval)) w := by
    simp [execOp, ho, resolve, hcal, Act.eval, Deferred.ofValue, invoke, run_callFunc hb]
  unfold ownR at hv
  split at hv
  · rename_i ap z es
    split at hv
    · rename_i hid
      cases hv
      have hcalls := call_own k1 (vs := c.args.map a.eval) hk (hc _ _ hr) (by simp [← hlen]) (fun j hj => by
        simp only [List.length_map] at hj
        have h1 := hrv j hj
        rw [getD_map_lt (tell h) _ j .junk .junk (by simpa using hj)]
        have h2 : (c.args.map a.eval).getD j undef = (c.args.toList.map a.eval).getD j undef := by simp [List.getD_eq_getElem?_getD]
        rw [h2]
        exact tell_rv k.rows g1.less h1 fun r hr' b hb => hfree r (List.mem_flatMap.2 ⟨_, getD_mem .junk (by simpa using hj), hr'⟩) b hb) (id := id) (freeze_none.2 (by simpa using hid))
      intro K Q hK
      unfold Oper.wp
      rw [hrun]
      refine hcalls.mono fun e w' hw => ?_
      obtain ⟨v, T2, ρ2, rfl, k2, g2, r2⟩ := hw
      exact hK v w' T2 ρ2 k2 (g1.trans g2) r2
    · cases hv
  · cases hv
end
end Go.Pe
set_option linter.unusedVariables false
set_option linter.unusedSimpArgs false
namespace Go.Pe
open Go
section
variable {P : Program} {f : Fr} {w : World} {T T' : Nat → Prop} {ρ : Rho} {h : Heap} {e : Nat → AV} {a : Act} {o : Oper}
theorem byteNs_vals {new : List (List AV)} {ns : List Int} (hn : byteNs new = some ns) : ∀ {vs : List Value}, vs.length = new.length * 1 → (∀ j c, j < new.length → c < 1 → Rv w T Rho.none ((new.getD j []).getD c .junk) (vs.getD (j * 1 + c) undef)) → vs = ns.map (Value.int .u8) := by
  induction new generalizing ns with
  | nil =>
    intro vs hl _
    cases hn
    have : vs = [] := List.length_eq_zero_iff.1 (by simpa using hl)
    subst this
    rfl
  | cons x l ih =>
    intro vs hl hr
    unfold byteNs at hn
    split at hn
    · rename_i e; cases e
    · rename_i n l' e
      cases e
      simp only [Option.map_eq_some_iff] at hn
      obtain ⟨ms, hms, rfl⟩ := hn
      cases vs with
      | nil => simp at hl
      | cons v vs =>
        have h0 := hr 0 0 (by simp) (by omega)
        have h1 : v = .int .u8 n := by
          have : Rv w T Rho.none (.i .u8 n) v := h0
          cases this
          rfl
        have h2 := ih hms (vs := vs) (by simpa using hl) fun j c hj hc => by
          have := hr (j + 1) c (by simpa using hj) hc
          rw [show (j + 1) * 1 + c = (j * 1 + c) + 1 by omega] at this
          exact this
        rw [h1, h2]
        rfl
    · cases hn
theorem op_b2s (k : WInv f w T ρ h) (he : Env w T ρ e a) {x : Operand} {x' : At} {s d el : TypeId} {av : AV} {h' : Heap} (call : Call) (ho : o.op = .convert s d x) (hs : P.underlying s = some (.slice el)) (hel : P.underlying el = some (.int .u8)) (hd : P.underlying d = some .string) (h1 : ma f.tabs x x' = true)
    (hv : PO.ev call (.b2s x') e h = some (av, h')) : h' = h ∧ ∃ v, Gives P o a w v ∧ Rv w T ρ av v := by
  have r1 := ma_rv k he h1
  simp only [PO.ev, Option.map_eq_some_iff, Option.bind_eq_some_iff] at hv
  obtain ⟨ns, ⟨new, hnew, hns⟩, hv⟩ := hv
  cases hv
  obtain ⟨vs, src⟩ := esV_src k r1 hnew
  have hvs := byteNs_vals hns src.len fun j c hj hc => (src.rv j c hj hc).1
  refine ⟨rfl, .string (bytesS ns), ?_, .s⟩
  generalize hx : a.eval x = v at src
  rcases src.val with ⟨rfl, rfl⟩ | ⟨ad, cap, rfl, hc⟩
  · cases hns
    simp only [Gives, execOp, ho, hx, Sem.run_bind, run_convert_bytes_string w s d el none 0 0 hs hel hd, Conv.bytesToString, Sem.run_pure, Result.andThen_ok]
    rfl
  · have hl := run_loadCells_list (P := P) w ad vs hc
    have hlen : vs.length = new.length := by rw [src.len]; omega
    rw [hlen, hvs] at hl
    simp only [Gives, execOp, ho, hx, Sem.run_bind, run_convert_bytes_string w s d el (some ad) new.length cap hs hel hd, run_bytesToString w ad new.length cap ns hl, Sem.run_pure, Result.andThen_ok]
    rfl
end
end Go.Pe
set_option linter.unusedVariables false
set_option linter.unusedSimpArgs false
namespace Go.Pe
open Go
abbrev Fns := (Nat → Option PF) × (Nat → Nat)
def zeroOk (P : Program) (t : TypeId) (z : List AV) : Bool := match P.info? t with
  | some i => match i.zero with
    | some zv => mvs zv.cells.toList z
    | none => false
  | none => false
theorem zeroOk_spec {P : Program} {t : TypeId} {z : List AV} (h : zeroOk P t z = true) : ∃ i zv, P.info? t = some i ∧ i.zero = some zv ∧ mvs zv.cells.toList z = true := by
  unfold zeroOk at h
  split at h
  · rename_i i hi
    split at h
    · rename_i zv hz; exact ⟨i, zv, hi, hz, h⟩
    · cases h
  · cases h
def elT (P : Program) (t : TypeId) : Option TypeId := match P.underlying t with
  | some (.slice el) => some el
  | _ => none
theorem elT_spec {P : Program} {t el : TypeId} (h : elT P t = some el) : P.underlying t = some (.slice el) := by
  unfold elT at h
  split at h
  · rename_i e he; cases h; exact he
  · cases h
def intT (P : Program) (t : TypeId) : Option IntKind := match P.underlying t with
  | some (.int k) => some k
  | _ => none
theorem intT_spec {P : Program} {t : TypeId} {k : IntKind} (h : intT P t = some k) : P.underlying t = some (.int k) := by
  unfold intT at h
  split at h
  · rename_i e he; cases h; exact he
  · cases h
def isBoolT (P : Program) (t : TypeId) : Bool := match P.underlying t with
  | some .bool => true
  | _ => false
theorem isBoolT_spec {P : Program} {t : TypeId} (h : isBoolT P t = true) : P.underlying t = some .bool := by
  unfold isBoolT at h
  split at h
  · rename_i he; exact he
  · cases h
def isStrT (P : Program) (t : TypeId) : Bool := match P.underlying t with
  | some .string => true
  | _ => false
theorem isStrT_spec {P : Program} {t : TypeId} (h : isStrT P t = true) : P.underlying t = some .string := by
  unfold isStrT at h
  split at h
  · rename_i he; exact he
  · cases h
def strT (P : Program) (t : TypeId) : Option (Array Field) := match P.underlying t with
  | some (.struct fs) => some fs
  | _ => none
theorem strT_spec {P : Program} {t : TypeId} {fs : Array Field} (h : strT P t = some fs) : P.underlying t = some (.struct fs) := by
  unfold strT at h
  split at h
  · rename_i e he; cases h; exact he
  · cases h
def arrT (P : Program) (t : TypeId) : Option (Nat × TypeId) := match P.underlying t with
  | some (.array n el) => some (n, el)
  | _ => none
theorem arrT_spec {P : Program} {t el : TypeId} {n : Nat} (h : arrT P t = some (n, el)) : P.underlying t = some (.array n el) := by
  unfold arrT at h
  split at h
  · rename_i a b he; cases h; exact he
  · cases h
def elOk (P : Program) (t : TypeId) (sz : Nat) (bytes : Option Nat) (z : Option (List AV)) : Bool := match elT P t with
  | some el => match P.info? el with
    | some i => decide (i.size = sz) && decide (0 < sz) && (match bytes with | some b => decide (i.bytes = b) && decide (0 < b) | none => true) && (match i.zero with
      | some zv => (match z with | some z => mvs zv.cells.toList z && decide (z.length = sz) | none => decide (zv.cells.size = sz))
      | none => false)
    | none => false
  | none => false
theorem elOk_spec {P : Program} {t : TypeId} {sz : Nat} {bytes : Option Nat} {z : Option (List AV)} (h : elOk P t sz bytes z = true) :
    ∃ el i zv, P.underlying t = some (.slice el) ∧ P.info? el = some i ∧ i.zero = some zv ∧ i.size = sz ∧ 0 < sz ∧ (∀ b, bytes = some b → i.bytes = b ∧ 0 < b) ∧ (∀ y, z = some y → mvs zv.cells.toList y = true ∧ y.length = sz) ∧ (z = none → zv.cells.size = sz) := by
  unfold elOk at h
  split at h
  · rename_i el hel
    split at h
    · rename_i i hi
      simp only [Bool.and_eq_true, decide_eq_true_eq] at h
      obtain ⟨⟨⟨h1, h2⟩, h3⟩, h4⟩ := h
      split at h4
      · rename_i zv hz
        refine ⟨el, i, zv, elT_spec hel, hi, hz, h1, h2, fun b hb => ?_, fun y hy => ?_, fun hn => ?_⟩
        · subst hb; simpa using h3
        · subst hy; simpa using h4
        · subst hn; simpa using h4
      · cases h4
    · cases h
  · cases h
section
variable (P : Program) (F : Fns) (tabs : List (Nat × List AV))
def mCall (g : Nat) (ys : List At) (lent : List Nat) (c : Go.Call) : Bool :=
  (match c.callee with | .value (.func g') => g' == F.2 g | _ => false) && mas tabs c.args.toList ys && bodied P (F.2 g) && (match F.1 g with | some p => decide (p.lent = lent) && p.res.all fun x => decide (x.2 ≤ 1) | none => false)
def bi1 (b : Builtin) (c : Go.Call) : Bool := (match c.callee with | .builtin b' => decide (b' = b) | _ => false)
def mop : PO → Op → Bool
  | .mv y, .move x | .mv y, .assign x => ma tabs x y
  | .pick x' y' z', .pick x y z => ma tabs x x' && ma tabs y y' && ma tabs z z'
  | .box _ sz y, .box _ x => decide (0 < sz) && ma tabs x y
  | .alloc _ z, .alloc t => zeroOk P t z
  | .build z ps, .build t parts => zeroOk P t z && (match strT P t with
    | some fs => (fs.toList.all fun x => (szT P x.type).isSome) && mfields P tabs (placeS P fs) parts.toList ps
    | none => match arrT P t with
      | some (_, el) => (match szT P el with
        | some sz => mfields P tabs (fun i => some (i * sz, sz)) parts.toList ps
        | none => false)
      | none => false)
  | .bsl _ sz z n ps, .buildSlice t n' parts => decide (n' = n) && decide (n * sz ≤ 16777216) && elOk P t sz none (some z) && mparts tabs parts.toList ps
  | .ld ag sz y, .load t x => decide (aggT P t = some ag) && decide (szT P t = some sz) && ma tabs x y
  | .st sz x' y', .store t x y => decide (szT P t = some sz) && decide (0 < sz) && ma tabs x x' && ma tabs y y'
  | .nck y, .nilCheck x => ma tabs x y
  | .bin op x' y', .binOp op' _ x y _ => decide (op' = op) && ma tabs x x' && ma tabs y y'
  | .eqb ng x' y', .binOp op t x y _ => decide (op = if ng then .neq else .eql) && isBoolT P t && ma tabs x x' && ma tabs y y'
  | .not y, .unOp .not _ x => ma tabs x y
  | .neg y, .unOp .neg _ x => ma tabs x y
  | .conv q y, .convert s d x => (intT P s).isSome && decide (intT P d = some q) && ma tabs x y
  | .b2s y, .convert s d x => (match elT P s with | some el => decide (intT P el = some .u8) | none => false) && isStrT P d && ma tabs x y
  | .mk _ sz bytes z y, .makeSlice t x x2 => (match x2, x with | .tmp i, .tmp j => i == j | .const (.int k n), .const (.int k' n') => decide (k = k' ∧ n = n') | _, _ => false) && elOk P t sz (some bytes) (some z) && ma tabs x y
  | .cut z y lo' hi' mx', .slice t x lo hi mx => (match elT P t with | some el => decide (szT P el = some z) | none => false) && ma tabs x y && mo2 tabs lo lo' && mo2 tabs hi hi' && mo2 tabs mx mx' && (mx.isNone || hi.isSome)
  | .fld d y, .fieldAddr t x i => (match strT P t with | some fs => (match fs[i]? with | some fl => decide (fl.offset = d) && (match szT P fl.type with | some (_ + 1) => true | _ => false) | none => false) | none => false) && ma tabs x y
  | .idx z x' y', .indexAddr t x y => (match elT P t with | some el => decide (szT P el = some z) | none => false) && ma tabs x x' && ma tabs y y'
  | .idxa n z x' y', .indexAddr t x y => (match arrT P t with | some (n', el) => decide (n' = n) && decide (szT P el = some z) | none => false) && ma tabs x x' && ma tabs y y'
  | .sidx x' y', .index t x y => isStrT P t && ma tabs x x' && ma tabs y y'
  | .ext n y, .extract x n' => decide (n' = n) && ma tabs x y
  | .len y, .call c => bi1 .len c && (match c.args.toList, c.argTypes.toList with | [x], [t] => (elT P t).isSome && ma tabs x y | _, _ => false)
  | .slen y, .call c => bi1 .len c && (match c.args.toList, c.argTypes.toList with | [x], [t] => isStrT P t && ma tabs x y | _, _ => false)
  | .min x' y', .call c => bi1 .min c && (match c.args.toList with | [x, y] => ma tabs x x' && ma tabs y y' | _ => false)
  | .max x' y', .call c => bi1 .max c && (match c.args.toList with | [x, y] => ma tabs x x' && ma tabs y y' | _ => false)
  | .app _ sz bytes x' y', .call c => bi1 .append c && (match c.args.toList, c.argTypes.toList with | [x, y], [t, t'] => decide (t' = t) && elOk P t sz (some bytes) none && ma tabs x x' && ma tabs y y' | _, _ => false)
  | .call g ys, .call c => mCall P F tabs g ys [] c
  | .callo g ys _, .call c => mCall P F tabs g ys [] c
  | .callw g ys li, .call c => mCall P F tabs g ys [li] c && decide (li < ys.length) && (match F.1 g with | some p => decide (p.res.length ≤ 100) | none => false)
  | _, _ => false
end
end Go.Pe
set_option linter.unusedVariables false
set_option linter.unusedSimpArgs false
namespace Go.Pe
open Go
section
variable {P : Program} {F : Fns} {f : Fr} {w : World} {T : Nat → Prop} {ρ : Rho} {h : Heap} {e : Nat → AV} {a : Act} {o : Oper}
theorem bi1_spec {b : Builtin} {c : Go.Call} (h : bi1 b c = true) : c.callee = .builtin b := by
  unfold bi1 at h
  split at h
  · rename_i b' hb; simp only [decide_eq_true_eq] at h; rw [hb, h]
  · cases h
theorem arr1 {α : Type} {x : Array α} {a : α} (h : x.toList = [a]) : x = #[a] := by cases x; simp at h; simp [h]
theorem arr2 {α : Type} {x : Array α} {a b : α} (h : x.toList = [a, b]) : x = #[a, b] := by cases x; simp at h; simp [h]
theorem mCall_spec {tabs : List (Nat × List AV)} {g : Nat} {ys : List At} {lent : List Nat} {c : Go.Call} (h : mCall P F tabs g ys lent c = true) :
    c.callee = .value (.func (F.2 g)) ∧ mas tabs c.args.toList ys = true ∧ bodied P (F.2 g) = true ∧ ∃ p, F.1 g = some p ∧ p.lent = lent ∧ ∀ x ∈ p.res, x.2 ≤ 1 := by
  unfold mCall at h
  simp only [Bool.and_eq_true] at h
  obtain ⟨⟨⟨h1, h2⟩, h3⟩, h4⟩ := h
  refine ⟨?_, h2, h3, ?_⟩
  · split at h1
    · rename_i g' hg; simp only [beq_iff_eq] at h1; rw [hg, h1]
    · cases h1
  · split at h4
    · rename_i p hp
      simp only [Bool.and_eq_true, decide_eq_true_eq, List.all_eq_true] at h4
      exact ⟨p, hp, h4.1, h4.2⟩
    · cases h4
theorem op_sound (k : WInv f w T ρ h) (he : Env w T ρ e a) {p : PO} {call : Call} {av : AV} {h' : Heap} (hm : mop P F f.tabs p o.op = true) (hc : ∀ g p xs r, F.1 g = some p → call g xs = some r → CallOk P (F.2 g) p.res p.lent f.tabs xs r)
    (hv : p.ev call e h = some (av, h')) : Goes1 P f o a w T ρ av h' := by
  generalize hop : o.op = op at hm
  unfold mop at hm
  split at hm <;> try simp only [Bool.and_eq_true, decide_eq_true_eq, Bool.or_eq_true] at hm
  · cases hv
    exact goes1_of_gives k ⟨rfl, op_move k he (.inl hop) hm⟩
  · cases hv
    exact goes1_of_gives k ⟨rfl, op_move k he (.inr hop) hm⟩
  · exact goes1_of_gives k (op_pick k he call hop hm.1.1 hm.1.2 hm.2 hv)
  · exact (op_box k he call hop hm.1 hm.2 hv).goes1
  · obtain ⟨i, zv, h1, h2, h3⟩ := zeroOk_spec hm
    exact (op_alloc k call hop h1 h2 h3 hv).goes1
  · obtain ⟨i, zv, h1, h2, h3⟩ := zeroOk_spec hm.1
    obtain ⟨_, hm⟩ := hm
    split at hm
    · rename_i fs hfs
      simp only [Bool.and_eq_true, List.all_eq_true] at hm
      exact goes1_of_gives k (op_build k he call hop h1 h2 h3 hm.2 (.inl ⟨fs, strT_spec hfs, hm.1, rfl⟩) hv)
    · split at hm
      · rename_i n el hel
        split at hm
        · rename_i sz hsz
          exact goes1_of_gives k (op_build k he call hop h1 h2 h3 hm (.inr ⟨n, el, sz, arrT_spec hel, hsz, rfl⟩) hv)
        · cases hm
      · cases hm
  · obtain ⟨⟨⟨rfl, h1⟩, h2⟩, h3⟩ := hm
    obtain ⟨el, i, zv, a1, a2, a3, a4, a5, a6, a7, a8⟩ := elOk_spec h2
    exact (op_bsl k he call hop a1 a2 a3 a4 a5 h1 (a7 _ rfl).1 (a7 _ rfl).2 h3 hv).goes1
  · exact goes1_of_gives k (op_ld k he call hop hm.1.1 hm.1.2 hm.2 hv)
  · exact (op_st k he call hop hm.1.1.1 hm.1.1.2 hm.1.2 hm.2 hv).goes1
  · exact goes1_of_gives k (op_nck k he call hop hm hv)
  · obtain ⟨⟨rfl, h1⟩, h2⟩ := hm
    exact goes1_of_gives k (op_bin k he call hop h1 h2 hv)
  · obtain ⟨⟨⟨rfl, h0⟩, h1⟩, h2⟩ := hm
    exact goes1_of_gives k (op_eqb k he call hop (isBoolT_spec h0) h1 h2 hv)
  · exact goes1_of_gives k (op_not k he call hop hm hv)
  · exact goes1_of_gives k (op_neg k he call hop hm hv)
  · obtain ⟨⟨h1, h2⟩, h3⟩ := hm
    obtain ⟨q', hq'⟩ := Option.isSome_iff_exists.1 h1
    exact goes1_of_gives k (op_conv k he call hop (intT_spec hq') (intT_spec h2) h3 hv)
  · obtain ⟨⟨h1, h2⟩, h3⟩ := hm
    split at h1
    · rename_i el hel
      simp only [decide_eq_true_eq] at h1
      exact goes1_of_gives k (op_b2s k he call hop (elT_spec hel) (intT_spec h1) (isStrT_spec h2) h3 hv)
    · cases h1
  · obtain ⟨⟨h1, h2⟩, h3⟩ := hm
    obtain ⟨el, i, zv, a1, a2, a3, a4, a5, a6, a7, a8⟩ := elOk_spec h2
    split at h1
    · simp only [beq_iff_eq] at h1
      subst h1
      exact (op_mk k he call hop a1 a2 a3 a4 a5 (a6 _ rfl).1 (a6 _ rfl).2 (a7 _ rfl).1 (a7 _ rfl).2 h3 hv).goes1
    · simp only [decide_eq_true_eq] at h1
      obtain ⟨rfl, rfl⟩ := h1
      exact (op_mk k he call hop a1 a2 a3 a4 a5 (a6 _ rfl).1 (a6 _ rfl).2 (a7 _ rfl).1 (a7 _ rfl).2 h3 hv).goes1
    · cases h1
  · obtain ⟨⟨⟨⟨⟨h1, h2⟩, h3⟩, h4⟩, h5⟩, h6⟩ := hm
    split at h1
    · rename_i el hel
      simp only [decide_eq_true_eq] at h1
      refine goes1_of_gives k (op_cut k he call hop (elT_spec hel) h1 h2 h3 h4 h5 ?_ hv)
      rcases h6 with h6 | h6
      · exact .inl (by simpa using h6)
      · exact .inr (Option.isSome_iff_exists.1 h6)
    · cases h1
  · obtain ⟨h1, h2⟩ := hm
    split at h1
    · rename_i fs hfs
      split at h1
      · rename_i fl hfl
        simp only [Bool.and_eq_true, decide_eq_true_eq] at h1
        obtain ⟨h3, h4⟩ := h1
        split at h4
        · rename_i m hm
          exact goes1_of_gives k (op_fld k he call hop (strT_spec hfs) hfl h3 hm h2 hv)
        · cases h4
      · cases h1
    · cases h1
  · obtain ⟨⟨h1, h2⟩, h3⟩ := hm
    split at h1
    · rename_i el hel
      simp only [decide_eq_true_eq] at h1
      exact goes1_of_gives k (op_idx k he call hop (elT_spec hel) h1 h2 h3 hv)
    · cases h1
  · obtain ⟨⟨h1, h2⟩, h3⟩ := hm
    split at h1
    · rename_i n' el hel
      simp only [Bool.and_eq_true, decide_eq_true_eq] at h1
      obtain ⟨rfl, h1⟩ := h1
      exact goes1_of_gives k (op_idxa k he call hop (arrT_spec hel) h1 h2 h3 hv)
    · cases h1
  · exact goes1_of_gives k (op_sidx k he call hop (isStrT_spec hm.1.1) hm.1.2 hm.2 hv)
  · obtain ⟨rfl, h1⟩ := hm
    exact goes1_of_gives k (op_ext k he call hop h1 hv)
  · obtain ⟨h1, h2⟩ := hm
    split at h2
    · rename_i x t hx ht
      simp only [Bool.and_eq_true] at h2
      obtain ⟨el, hel⟩ := Option.isSome_iff_exists.1 h2.1
      exact goes1_of_gives k (op_len k he call hop (bi1_spec h1) (arr1 hx) (arr1 ht) (elT_spec hel) h2.2 hv)
    · cases h2
  · obtain ⟨h1, h2⟩ := hm
    split at h2
    · rename_i x t hx ht
      simp only [Bool.and_eq_true] at h2
      exact goes1_of_gives k (op_slen k he call hop (bi1_spec h1) (arr1 hx) (arr1 ht) (isStrT_spec h2.1) h2.2 hv)
    · cases h2
  · obtain ⟨h1, h2⟩ := hm
    split at h2
    · rename_i x y hx
      simp only [Bool.and_eq_true] at h2
      exact goes1_of_gives k (op_min k he call hop (bi1_spec h1) (arr2 hx) h2.1 h2.2 hv)
    · cases h2
  · obtain ⟨h1, h2⟩ := hm
    split at h2
    · rename_i x y hx
      simp only [Bool.and_eq_true] at h2
      exact goes1_of_gives k (op_max k he call hop (bi1_spec h1) (arr2 hx) h2.1 h2.2 hv)
    · cases h2
  · obtain ⟨h1, h2⟩ := hm
    split at h2
    · rename_i x y t t' hx ht
      simp only [Bool.and_eq_true, decide_eq_true_eq] at h2
      obtain ⟨⟨⟨rfl, h3⟩, h4⟩, h5⟩ := h2
      obtain ⟨el, i, zv, a1, a2, a3, a4, a5, a6, a7, a8⟩ := elOk_spec h3
      exact (op_app k he call hop (bi1_spec h1) (arr2 hx) (arr2 ht) a1 a2 a3 a4 (a6 _ rfl).1 (a8 rfl) a5 (a6 _ rfl).2 h4 h5 hv).goes1
    · cases h2
  · obtain ⟨h1, h2, h3, p, h4, h5, h6⟩ := mCall_spec hm
    exact op_call k he call hop h1 h2 h3 h6 (fun xs r hr => by rw [← h5]; exact hc _ p xs r h4 hr) hv
  · obtain ⟨h1, h2, h3, p, h4, h5, h6⟩ := mCall_spec hm
    exact op_callo k he call hop h1 h2 h3 h6 (fun xs r hr => by rw [← h5]; exact hc _ p xs r h4 hr) hv
  · obtain ⟨⟨hm, h7⟩, h8⟩ := hm
    obtain ⟨h1, h2, h3, p, h4, h5, h6⟩ := mCall_spec hm
    rw [h4] at h8
    exact op_callw k he call hop h1 h2 h3 h7 h6 (by simpa using h8) (fun xs r hr => by rw [← h5]; exact hc _ p xs r h4 hr) hv
  · cases hm
end
end Go.Pe
set_option linter.unusedVariables false
set_option linter.unusedSimpArgs false
namespace Go.Pe
open Go
def Sim (f : Fr) (nt : Nat) (w : World) (st : St) (a : Act) : Prop := nt ≤ a.tmps.size ∧ a.defers = [] ∧ ∃ T ρ, WInv f w T ρ st.h ∧ Env w T ρ st.env a
def CallsOk (P : Program) (F : Fns) (tabs : List (Nat × List AV)) (call : Call) : Prop := ∀ g p xs r, F.1 g = some p → call g xs = some r → CallOk P (F.2 g) p.res p.lent tabs xs r
section
variable {P : Program} {F : Fns} {f : Fr} {nt : Nat} {w : World} {a : Act}
theorem put_env {T : Nat → Prop} {ρ : Rho} {e : Nat → AV} {av : AV} {v : Value} {d : Option Nat} (he : Env w T ρ e a) (hv : Rv w T ρ av v) (hd : ∀ t, d = some t → t < a.tmps.size) : Env w T ρ (setD e d av) (a.put d v) := by
  cases d with
  | none => exact he
  | some t =>
    intro s
    show Rv w T ρ (upd e t av s) ((a.tmps.setIfInBounds t v).getD s undef)
    unfold upd
    have hlt := hd t rfl
    split
    · rename_i hs
      subst hs
      have : (a.tmps.setIfInBounds s v).getD s undef = v := by simp [hlt]
      rw [this]; exact hv
    · rename_i hs
      have : (a.tmps.setIfInBounds t v).getD s undef = a.tmps.getD s undef := by
        have h2 : ¬ t = s := fun h => hs h.symm
        simp [Array.getElem?_setIfInBounds, h2]
      rw [this]; exact he s
theorem put_size (a : Act) (d : Option Nat) (v : Value) : (a.put d v).tmps.size = a.tmps.size := by cases d <;> simp [Act.put]
theorem put_defers (a : Act) (d : Option Nat) (v : Value) : (a.put d v).defers = a.defers := by cases d <;> rfl
def mpo (P : Program) (F : Fns) (tabs : List (Nat × List AV)) (nt : Nat) (ops : Array Oper) (o : Oper) (p : POp) : Bool :=
  decide (o.dst = p.dst) && (match p.dst with | some d => decide (d < nt) | none => true) && (match o.guard, p.guard with
    | none, none => true
    | some (g, q), some (t, q') => q == q' && decide ((ops[g]?).bind (·.dst) = some t)
    | _, _ => false) && mop P F tabs p.op o.op
theorem wanted_of {ops : Array Oper} {o : Oper} {p : POp} {st : St} {tabs : List (Nat × List AV)} (hs : Sim f nt w st a) (hm : mpo P F tabs nt ops o p = true) {call : Call} {st' : St} (hv : p.ev call st = some st') :
    (Region.wanted o (yielded ops a.tmps) = true ∧ (p.op.ev call st.env st.h).map (fun q => (⟨setD st.env p.dst q.1, q.2⟩ : St)) = some st') ∨ (Region.wanted o (yielded ops a.tmps) = false ∧ st' = ⟨setD st.env p.dst (.tup []), st.h⟩) := by
  simp only [mpo, Bool.and_eq_true] at hm
  obtain ⟨⟨⟨h1, h2⟩, h3⟩, h4⟩ := hm
  unfold POp.ev at hv
  split at h3
  · rename_i h5 h6
    rw [h6] at hv
    refine .inl ⟨?_, hv⟩
    unfold Region.wanted
    rw [h5]
  · rename_i g q t q' h5 h6
    rw [h6] at hv
    simp only [Bool.and_eq_true, beq_iff_eq, decide_eq_true_eq] at h3
    obtain ⟨rfl, h3⟩ := h3
    simp only at hv
    have main : ∀ z, st.env t = .b z → yielded ops a.tmps g = some z := by
      intro z hz
      obtain ⟨_, _, T, ρ, k, he⟩ := hs
      have := he t
      rw [hz] at this
      have hb := inv_b this
      have hy : yielded ops a.tmps g = some z := by
        unfold yielded
        rw [h3]
        show (match (some t).bind (fun x => a.tmps[x]?) with | some (.bool b) => some b | _ => none) = some z
        have : a.tmps[t]? = some (.bool z) := by
          cases hx : a.tmps[t]? with
          | none => simp [hx, undef] at hb
          | some y => simp [hx] at hb; rw [hb]
        simp only [Option.bind_some, this]
      exact hy
    have none_ : st.env t = .tup [] → yielded ops a.tmps g = none := by
      intro hz
      obtain ⟨_, _, T, ρ, k, he⟩ := hs
      have := he t
      rw [hz] at this
      generalize hu : a.tmps.getD t undef = v at this
      cases this with
      | tup vs hl _ =>
        have hv0 : vs = #[] := Array.eq_empty_of_size_eq_zero hl
        subst hv0
        unfold yielded
        rw [h3]
        show (match (some t).bind (fun x => a.tmps[x]?) with | some (.bool b) => some b | _ => none) = none
        simp only [Option.bind_some]
        cases hx : a.tmps[t]? with
        | none => rfl
        | some y =>
          simp [hx] at hu
          rw [hu]
    unfold Region.wanted
    rw [h5]
    simp only
    generalize hav : st.env t = av at hv main none_
    cases av <;> simp only [AV.yes] at hv <;> try (cases hv; done)
    case b z =>
      rw [main z rfl]
      by_cases hzq : z = q
      · subst hzq
        simp only [beq_self_eq_true] at hv
        exact .inl ⟨by simp, hv⟩
      · rw [show (z == q) = false by simpa using hzq] at hv
        cases hv
        exact .inr ⟨by simpa using hzq, rfl⟩
    case tup cs =>
      cases cs with
      | nil =>
        cases hv
        rw [none_ rfl]
        exact .inr ⟨rfl, rfl⟩
      | cons => cases hv
  · cases h3
theorem op_sim {ops : Array Oper} {o : Oper} {p : POp} {st st' : St} (hs : Sim f nt w st a) (hm : mpo P F f.tabs nt ops o p = true) {call : Call} (hc : CallsOk P F f.tabs call) (hv : p.ev call st = some st')
    (K : Act → World → Prop) (Q : Exit → Act → World → Prop) (hK : ∀ a' w', Sim f nt w' st' a' → K a' w') : if Region.wanted o (yielded ops a.tmps) = true then o.wp P a w K Q else K (a.put o.dst undef) w := by
  have hw := wanted_of hs hm hv
  simp only [mpo, Bool.and_eq_true, decide_eq_true_eq] at hm
  obtain ⟨⟨⟨h1, h2⟩, h3⟩, h4⟩ := hm
  obtain ⟨hsz, hdf, T, ρ, k, he⟩ := hs
  have hd : ∀ t, p.dst = some t → t < a.tmps.size := by
    intro t ht
    rw [ht] at h2
    simp only [decide_eq_true_eq] at h2
    omega
  rcases hw with ⟨hw, hv⟩ | ⟨hw, rfl⟩
  · rw [if_pos hw]
    simp only [Option.map_eq_some_iff] at hv
    obtain ⟨⟨av, h'⟩, hv2, rfl⟩ := hv
    refine op_sound k he h4 hc hv2 K Q fun v w' T' ρ' k' g r => hK _ _ ?_
    rw [h1]
    exact ⟨by rw [put_size]; exact hsz, (put_defers _ _ _).trans hdf, T', ρ', k', put_env (he.goes g) r hd⟩
  · rw [if_neg (by simp [hw])]
    refine hK _ _ ?_
    rw [h1]
    exact ⟨by rw [put_size]; exact hsz, (put_defers _ _ _).trans hdf, T, ρ, k, put_env he (.tup #[] rfl fun c hc => by cases hc) hd⟩
theorem wp_ex {o : Oper} {K : Act → World → Prop} (h : o.wp P a w K fun _ _ _ => False) : ∃ a' w', K a' w' := by
  unfold Oper.wp at h
  generalize (execOp a.eval o).run P w = r at h
  have hlets : LetsOut (fun _ _ _ => False) → False := fun ⟨_, _, h⟩ => h
  cases r with
  | ok n w' =>
    cases n <;> simp only [Oper.upon] at h
    case value => exact ⟨_, _, h⟩
    case skip => exact ⟨_, _, h⟩
    case defer => exact ⟨_, _, h⟩
    case enter f args =>
      obtain ⟨e, w'', fr, h1, _⟩ := h []
      cases e with
      | returned v => exact ⟨_, _, h1⟩
      | panicked => exact h1.elim
      | outgrown => exact (hlets h1).elim
    case row r args =>
      obtain ⟨v, w'', h1, _⟩ := h default []
      exact ⟨_, _, h1⟩
  | halt x w' =>
    cases x <;> simp only [Oper.upon] at h
def Real (f : Fr) (nt : Nat) (st : St) : Prop := ∃ w a, Sim f nt w st a
theorem Real.step {ops : Array Oper} {o : Oper} {p : POp} {st st' : St} (hr : Real f nt st) (hm : mpo P F f.tabs nt ops o p = true) {call : Call} (hc : CallsOk P F f.tabs call) (hv : p.ev call st = some st') : Real f nt st' := by
  obtain ⟨w, a, hs⟩ := hr
  have := op_sim hs hm hc hv (fun a' w' => Sim f nt w' st' a') (fun _ _ _ => False) fun _ _ h => h
  split at this
  · obtain ⟨a', w', h⟩ := wp_ex this
    exact ⟨w', a', h⟩
  · exact ⟨_, _, this⟩
def mposL (P : Program) (F : Fns) (tabs : List (Nat × List AV)) (nt : Nat) (ops : Array Oper) : List Oper → List POp → Bool
  | [], [] => true
  | o :: os, p :: ps => mpo P F tabs nt ops o p && mposL P F tabs nt ops os ps
  | _, _ => false
theorem mposL_get {tabs : List (Nat × List AV)} {ops : Array Oper} : ∀ {os : List Oper} {ps : List POp}, mposL P F tabs nt ops os ps = true → os.length = ps.length ∧ ∀ (i : Nat) o p, os[i]? = some o → ps[i]? = some p → mpo P F tabs nt ops o p = true := by
  intro os
  induction os with
  | nil => intro ps h; cases ps with
    | nil => exact ⟨rfl, fun i o p h => by simp at h⟩
    | cons => cases h
  | cons o os ih =>
    intro ps h
    cases ps with
    | nil => cases h
    | cons p ps =>
      simp only [mposL, Bool.and_eq_true] at h
      obtain ⟨h1, h2⟩ := ih h.2
      refine ⟨by simp [h1], fun i o' p' ho hp => ?_⟩
      cases i with
      | zero => simp at ho hp; subst ho; subst hp; exact h.1
      | succ i => simp at ho hp; exact h2 i o' p' ho hp
theorem ops_sim {ops : Array Oper} {ps : List POp} (hm : mposL P F f.tabs nt ops ops.toList ps = true) {call : Call} (hc : CallsOk P F f.tabs call) (Q : Exit → Act → World → Prop) {stf : St} (hQ : ∀ a w, Sim f nt w stf a → Q .normal a w) :
    ∀ (n k : Nat) (w : World) (a : Act) (st : St), k + n = ps.length → Sim f nt w st a → evs call (ps.drop k) st = some stf → wpOps P ops Q (List.range' k n) a w := by
  obtain ⟨hl, hg⟩ := mposL_get hm
  intro n
  induction n with
  | zero =>
    intro k w a st hk hs hv
    rw [List.drop_of_length_le (by omega)] at hv
    cases hv
    exact hQ a w hs
  | succ n ih =>
    intro k w a st hk hs hv
    have hlt : k < ps.length := by omega
    rw [List.drop_eq_getElem_cons hlt] at hv
    simp only [evs, Option.bind_eq_some_iff] at hv
    obtain ⟨st1, h1, h2⟩ := hv
    have hkl : k < ops.toList.length := by omega
    have ho : ops[k]? = some ops.toList[k] := by
      rw [← Array.getElem?_toList]; exact List.getElem?_eq_getElem hkl
    have hmk := hg k _ _ (List.getElem?_eq_getElem hkl) (List.getElem?_eq_getElem hlt)
    rw [List.range'_succ]
    simp only [wpOps, ho]
    have := op_sim hs hmk hc h1 (wpOps P ops Q (List.range' (k + 1) n)) Q fun a' w' h => ih (k + 1) w' a' st1 (by omega) h h2
    split at this
    · rename_i hw; rw [if_pos hw]; exact .inl this
    · rename_i hw; rw [if_neg hw]; exact this
theorem region_seq {ops : Array Oper} {ps : List POp} {id : Nat} (hm : mposL P F f.tabs nt ops ops.toList ps = true) {call : Call} (hc : CallsOk P F f.tabs call) (Q : Exit → Act → World → Prop) {st stf : St} (hQ : ∀ a w, Sim f nt w stf a → Q .normal a w)
    (hs : Sim f nt w st a) (hv : evs call ps st = some stf) : (Code.region id ops false).wp P Q a w := by
  refine wp_region ?_
  rw [List.range_eq_range']
  have hl := (mposL_get hm).1
  exact ops_sim hm hc Q hQ ops.size 0 w a st (by rw [← hl]; simp) hs hv
end
end Go.Pe
set_option linter.unusedVariables false
set_option linter.unusedSimpArgs false
namespace Go.Pe
open Go
def At.tmps : At → List Nat
  | .t n => [n]
  | .c _ => []
def PO.ats : PO → List At
  | .mv x | .box _ _ x | .ld _ _ x | .nck x | .not x | .neg x | .conv _ x | .b2s x | .mk _ _ _ _ x | .fld _ x | .ext _ x | .len x | .slen x => [x]
  | .pick c x y => [c, x, y]
  | .alloc _ _ => []
  | .build _ ps => ps.map fun p => p.2.2
  | .bsl _ _ _ _ ps => ps.map fun p => p.2
  | .st _ x v => [x, v]
  | .bin _ x y | .eqb _ x y | .eqs _ x y | .idx _ x y | .idxa _ _ x y | .sidx x y | .min x y | .max x y | .app _ _ _ x y | .copy x y => [x, y]
  | .cut _ x lo hi mx => x :: (lo.toList ++ hi.toList ++ mx.toList)
  | .scut x lo hi => x :: (lo.toList ++ hi.toList)
  | .call _ xs | .callw _ xs _ | .callo _ xs _ => xs
def PO.reads (o : PO) : List Nat := o.ats.flatMap At.tmps
theorem At.agree {e e' : Nat → AV} {x : At} (h : ∀ t ∈ x.tmps, e t = e' t) : x.ev e = x.ev e' := by
  cases x with
  | t n => exact h n (by simp [At.tmps])
  | c v => rfl
theorem map_agree {e e' : Nat → AV} {xs : List At} (h : ∀ x ∈ xs, x.ev e = x.ev e') : xs.map (At.ev e) = xs.map (At.ev e') := List.map_congr_left h
theorem buildV_agree {e e' : Nat → AV} : ∀ {ps : List (Nat × Nat × At)} {z : List AV}, (∀ p ∈ ps, p.2.2.ev e = p.2.2.ev e') → buildV e z ps = buildV e' z ps := by
  intro ps
  induction ps with
  | nil => intro z _; rfl
  | cons p ps ih =>
    intro z h
    obtain ⟨off, sz, x⟩ := p
    have h1 : x.ev e = x.ev e' := h (off, sz, x) List.mem_cons_self
    simp only [buildV, h1]
    split
    · exact ih fun p hp => h p (List.mem_cons_of_mem _ hp)
    · rfl
theorem bslV_agree {e e' : Nat → AV} {h : Heap} {sz : Nat} : ∀ {ps : List (Nat × At)} {z : List (List AV)}, (∀ p ∈ ps, p.2.ev e = p.2.ev e') → bslV e h sz z ps = bslV e' h sz z ps := by
  intro ps
  induction ps with
  | nil => intro z _; rfl
  | cons p ps ih =>
    intro z h
    obtain ⟨j, x⟩ := p
    have h1 : x.ev e = x.ev e' := h (j, x) List.mem_cons_self
    simp only [bslV, h1]
    split
    · exact ih fun p hp => h p (List.mem_cons_of_mem _ hp)
    · rfl
theorem optI_agree {e e' : Nat → AV} {d : Option Int} {x : Option At} (h : ∀ y ∈ x.toList, y.ev e = y.ev e') : optI e d x = optI e' d x := by
  cases x with
  | none => rfl
  | some y => simp only [optI, h y (by simp)]
theorem flatMap_agree {α β : Type} {f g : α → List β} {l : List α} (h : ∀ x ∈ l, f x = g x) : l.flatMap f = l.flatMap g := by
  induction l with
  | nil => rfl
  | cons x l ih => rw [List.flatMap_cons, List.flatMap_cons, h x List.mem_cons_self, ih fun y hy => h y (List.mem_cons_of_mem _ hy)]
theorem PO.agree (call : Call) (o : PO) {e e' : Nat → AV} (h : Heap) (hx : ∀ t ∈ o.reads, e t = e' t) : o.ev call e h = o.ev call e' h := by
  have ha : ∀ x ∈ o.ats, x.ev e = x.ev e' := fun x hm => At.agree fun t ht => hx t (List.mem_flatMap.2 ⟨x, hm, ht⟩)
  cases o <;> simp only [PO.ats, List.mem_cons, List.not_mem_nil, or_false, forall_eq_or_imp, forall_eq, List.mem_map, List.mem_append, Option.mem_toList] at ha <;> simp only [PO.ev]
  case mv => rw [ha]
  case pick => rw [ha.1, ha.2.1, ha.2.2]
  case box => rw [ha]
  case build z ps => rw [buildV_agree fun p hp => ha _ ⟨p, hp, rfl⟩]
  case bsl id sz z n ps => rw [bslV_agree fun p hp => ha _ ⟨p, hp, rfl⟩, flatMap_agree fun p hp => (show ref1 h (p.2.ev e) = ref1 h (p.2.ev e') by rw [ha _ ⟨p, hp, rfl⟩])]
  case ld => rw [ha]
  case st => rw [ha.1, ha.2]
  case nck => rw [ha]
  case bin => rw [ha.1, ha.2]
  case eqb => rw [ha.1, ha.2]
  case eqs => rw [ha.1, ha.2]
  case not => rw [ha]
  case neg => rw [ha]
  case conv => rw [ha]
  case b2s => rw [ha]
  case mk => rw [ha]
  case cut sz x lo hi mx =>
    have h1 : optI e (some 0) lo = optI e' (some 0) lo := optI_agree fun y hy => ha.2 y (.inl (.inl (by simpa using hy)))
    have h2 : ∀ d, optI e d hi = optI e' d hi := fun d => optI_agree fun y hy => ha.2 y (.inl (.inr (by simpa using hy)))
    have h3 : ∀ d, optI e d mx = optI e' d mx := fun d => optI_agree fun y hy => ha.2 y (.inr (by simpa using hy))
    simp only [ha.1, h1, h2, h3]
  case scut x lo hi =>
    have h1 : optI e (some 0) lo = optI e' (some 0) lo := optI_agree fun y hy => ha.2 y (.inl (by simpa using hy))
    rw [ha.1, h1]
    cases hi with
    | none => rfl
    | some y => simp only [ha.2 y (.inr rfl)]
  case fld => rw [ha]
  case idx => rw [ha.1, ha.2]
  case idxa => rw [ha.1, ha.2]
  case sidx => rw [ha.1, ha.2]
  case ext => rw [ha]
  case len => rw [ha]
  case slen => rw [ha]
  case min => rw [ha.1, ha.2]
  case max => rw [ha.1, ha.2]
  case app => rw [ha.1, ha.2]
  case copy => rw [ha.1, ha.2]
  case call => rw [map_agree ha]
  case callw => rw [map_agree ha]
  case callo => rw [map_agree ha]
def PO.kind : PO → Nat
  | .ld _ _ _ | .b2s _ | .call _ _ | .alloc _ _ | .box _ _ _ | .bsl _ _ _ _ _ | .mk _ _ _ _ _ => 1
  | .st _ _ _ | .app _ _ _ _ _ | .copy _ _ | .callw _ _ _ | .callo _ _ _ => 2
  | _ => 0
theorem PO.pure (call : Call) (o : PO) (hk : o.kind = 0) (e : Nat → AV) (h : Heap) : o.ev call e h = (o.ev call e Heap.none).map fun p => (p.1, h) := by
  cases o <;> simp [PO.kind] at hk <;> simp only [PO.ev, Option.map_map, Function.comp_def, Option.map_some, Option.map_none]
  case pick => split <;> rfl
  case nck => split <;> rfl
  case not => split <;> rfl
  case neg => split <;> rfl
  case conv => split <;> rfl
  case cut sz x lo hi mx =>
    cases optI e (some 0) lo with
    | none => rfl
    | some l =>
      simp only [Option.bind_some]
      cases optI e ((lenV (x.ev e)).map fun (n : Nat) => (n : Int)) hi with
      | none => rfl
      | some u =>
        simp only [Option.bind_some]
        cases optI e (some u) mx with
        | none => rfl
        | some m =>
          simp only [Option.bind_some]
          split
          · rw [Option.map_map]; rfl
          · rfl
  case fld => split <;> rfl
  case idx sz x i =>
    cases intV (i.ev e) with
    | none => rfl
    | some j => simp only [Option.bind_some, Option.map_map]; rfl
  case idxa => (repeat' split) <;> rfl
  case sidx => (repeat' split) <;> rfl
  case ext => split <;> first | rfl | (rw [Option.map_map]; rfl)
  case slen => split <;> rfl
  case min => split <;> rfl
  case max => split <;> rfl
abbrev Comp := AV × List Nat × Option (Nat × Row)
def Comp.app (c : Comp) (h : Heap) : Option (AV × Heap) := match c.2.2 with
  | none => some (c.1, h.freeze c.2.1)
  | some (id, x) => if (h id).isNone then some (c.1, (h.freeze c.2.1).put id x) else none
def PO.comp (call : Call) (o : PO) (e : Nat → AV) (h : Heap) : Option Comp := match o with
  | .ld agg sz x => (ldV h agg sz (x.ev e)).map fun v => (v, [], none)
  | .b2s x => ((esV h 1 (x.ev e)).bind byteNs).map fun ns => (.s (bytesS ns), [], none)
  | .call f xs => (call f ((xs.map (At.ev e)).map (tell h))).map fun r => (demoteT r, if r.scalar then [] else (xs.map (At.ev e)).flatMap (ref h), none)
  | .alloc id z => some (.p id 0 0, [], some (id, .st z))
  | .box id sz x => if (x.ev e).cells.length = sz then some (.p id 0 0, [], some (id, .st (x.ev e).cells)) else none
  | .bsl id sz z n ps => (bslV e h sz (List.replicate n z) ps).map fun es => (.sl id sz 0 n, ps.flatMap fun p => ref1 h (p.2.ev e), some (id, .sl true sz es))
  | .mk id sz bytes z l => match l.ev e with
    | .i .i64 n => if 0 ≤ n ∧ n.toNat * bytes ≤ 281474976710656 then some (.sl id sz 0 n.toNat, [], some (id, .sl true sz (List.replicate n.toNat z))) else none
    | _ => none
  | o => (o.ev call e Heap.none).map fun p => (p.1, [], none)
theorem PO.comp_ev (call : Call) (o : PO) (hk : o.kind ≤ 1) (e : Nat → AV) (h : Heap) : o.ev call e h = (o.comp call e h).bind fun c => c.app h := by
  by_cases h0 : o.kind = 0
  · rw [PO.pure call o h0]
    have : o.comp call e h = (o.ev call e Heap.none).map fun p => (p.1, [], none) := by cases o <;> first | rfl | simp [PO.kind] at h0
    rw [this]
    cases o.ev call e Heap.none <;> rfl
  · cases o <;> simp [PO.kind] at h0 hk <;> simp only [PO.ev, PO.comp]
    case box id sz x =>
      by_cases h1 : (x.ev e).cells.length = sz
      · rw [if_pos h1]
        simp only [Option.bind_some, Comp.app, h1, true_and]
        rfl
      · rw [if_neg h1, if_neg fun h => h1 h.1]; rfl
    case alloc => rfl
    case bsl id sz z n ps =>
      cases bslV e h sz (List.replicate n z) ps with
      | none => simp
      | some es => rfl
    case ld => cases ldV h _ _ (At.ev e _) <;> rfl
    case b2s x => cases (esV h 1 (x.ev e)).bind byteNs <;> rfl
    case mk id sz bytes z l =>
      have key : ∀ x : AV, (match x with
          | .i .i64 n => if 0 ≤ n ∧ n.toNat * bytes ≤ 281474976710656 ∧ (h id).isNone then some (AV.sl id sz 0 n.toNat, h.put id (.sl true sz (List.replicate n.toNat z))) else none
          | _ => none) = (match x with
          | .i .i64 n => if 0 ≤ n ∧ n.toNat * bytes ≤ 281474976710656 then some ((.sl id sz 0 n.toNat, [], some (id, .sl true sz (List.replicate n.toNat z))) : Comp) else none
          | _ => none).bind fun (c : Comp) => c.app h := by
        intro x
        split
        · rename_i n
          by_cases h1 : 0 ≤ n ∧ n.toNat * bytes ≤ 281474976710656
          · simp only [if_pos h1, Option.bind_some, Comp.app, h1.1, h1.2, true_and]
            rfl
          · rw [if_neg h1, if_neg fun h => h1 ⟨h.1, h.2.1⟩]; rfl
        · rename_i hn
          first
            | rfl
            | split
              · rename_i n; exact absurd rfl (hn n)
              · rfl
      exact key _
    case call f xs =>
      simp only [callV]
      cases call f ((xs.map (At.ev e)).map (tell h)) with
      | none => rfl
      | some r =>
        simp only [Option.map_some, Option.bind_some, Comp.app]
        by_cases hs : r.scalar = true
        · simp only [hs, if_true]; rfl
        · simp only [hs]; rfl
end Go.Pe
set_option linter.unusedVariables false
set_option linter.unusedSimpArgs false
namespace Go.Pe
open Go
def Hle (h h' : Heap) : Prop := ∀ r x, h r = some x → h' r = some x ∨ h' r = some x.freeze
def Cl (h : Heap) (l : List Nat) : Prop := ∀ r ∈ l, h r ≠ none
theorem Cl.append {h : Heap} {l m : List Nat} : Cl h (l ++ m) ↔ Cl h l ∧ Cl h m := by
  simp only [Cl, List.mem_append]
  exact ⟨fun k => ⟨fun r hr => k r (.inl hr), fun r hr => k r (.inr hr)⟩, fun ⟨k1, k2⟩ r hr => hr.elim (k1 r) (k2 r)⟩
theorem Cl.flatMap {α : Type} {h : Heap} {l : List α} {g : α → List Nat} (k : Cl h (l.flatMap g)) {x : α} (hx : x ∈ l) : Cl h (g x) := fun r hr => k r (List.mem_flatMap.2 ⟨x, hx, hr⟩)
section
variable {h h' : Heap}
theorem freeze_win (o n : Nat) (x : Row) : x.freeze.win o n = x.win o n := by cases x <;> rfl
theorem freeze_at (e : Nat) (x : Row) : x.freeze.at e = x.at e := by cases x <;> rfl
theorem Hle.win (k : Hle h h') {r : Nat} (hr : h r ≠ none) (o n : Nat) : (h' r).bind (Row.win o n) = (h r).bind (Row.win o n) := by
  cases hx : h r with
  | none => exact absurd hx hr
  | some x => rcases k r x hx with h1 | h1 <;> rw [h1] <;> simp [freeze_win]
theorem Hle.at (k : Hle h h') {r : Nat} (hr : h r ≠ none) (e : Nat) : (h' r).bind (Row.at e) = (h r).bind (Row.at e) := by
  cases hx : h r with
  | none => exact absurd hx hr
  | some x => rcases k r x hx with h1 | h1 <;> rw [h1] <;> simp [freeze_at]
theorem Hle.tell0 (k : Hle h h') {v : AV} (hc : Cl h (ref0 v)) : tell0 h' v = tell0 h v := by
  cases v <;> try rfl
  case sl r z o n => simp only [Go.Pe.tell0, k.win (hc r (by simp [ref0]))]
theorem Hle.tellC (k : Hle h h') {v : AV} (hc : Cl h (refC h v)) : tellC h' v = tellC h v ∧ refC h' v = refC h v := by
  cases v
  case p r e o =>
    have hr := k.at (hc r (by simp [refC])) e
    simp only [Go.Pe.tellC, refC, hr]
    refine ⟨?_, trivial⟩
    cases hb : (h r).bind (Row.at e) with
    | none => rfl
    | some cs =>
      simp only
      have : cs.map (Go.Pe.tell0 h') = cs.map (Go.Pe.tell0 h) := List.map_congr_left fun c hcm => k.tell0 fun q hq => hc q (by
        simp only [refC, hb, List.mem_cons, List.mem_flatMap]
        exact .inr ⟨c, hcm, hq⟩)
      rw [this]
  case sl r z o n => exact ⟨k.tell0 (v := .sl r z o n) hc, rfl⟩
  all_goals exact ⟨rfl, rfl⟩
theorem Hle.mapC (k : Hle h h') {cs : List AV} (hc : Cl h (cs.flatMap (refC h))) : cs.map (Go.Pe.tellC h') = cs.map (Go.Pe.tellC h) ∧ cs.flatMap (refC h') = cs.flatMap (refC h) :=
  ⟨List.map_congr_left fun c hm => (k.tellC (hc.flatMap hm)).1, flatMap_agree fun c hm => (k.tellC (hc.flatMap hm)).2⟩
theorem Hle.tell1 (k : Hle h h') {v : AV} (hc : Cl h (ref1 h v)) : tell1 h' v = tell1 h v ∧ ref1 h' v = ref1 h v := by
  cases v
  case agg cs =>
    obtain ⟨h1, h2⟩ := k.mapC (cs := cs) hc
    exact ⟨congrArg AV.agg h1, h2⟩
  case tup cs => exact ⟨rfl, rfl⟩
  all_goals first | exact k.tellC (v := (AV.junk)) hc | exact k.tellC (v := (AV.b _)) hc | exact k.tellC (v := (AV.i _ _)) hc | exact k.tellC (v := (AV.s _)) hc | exact k.tellC (v := (AV.np)) hc | exact k.tellC (v := (AV.ns _)) hc | exact k.tellC (v := (AV.l _ _)) hc | exact k.tellC (v := (AV.tp _ _)) hc | exact k.tellC (v := (AV.sl _ _ _ _)) hc | exact k.tellC (v := (AV.p _ _ _)) hc | exact k.tellC (v := (AV.own _ _ _)) hc | exact k.tellC (v := (AV.ownp _)) hc | exact k.tellC (v := (AV.back _ _)) hc | exact k.tellC (v := (AV.agg _)) hc | exact k.tellC (v := (AV.tup _)) hc
theorem Hle.tell (k : Hle h h') {v : AV} (hc : Cl h (ref h v)) : tell h' v = tell h v ∧ ref h' v = ref h v := by
  cases v
  case tup cs =>
    have h1 : cs.map (Go.Pe.tell1 h') = cs.map (Go.Pe.tell1 h) := List.map_congr_left fun c hm => (k.tell1 (Cl.flatMap hc hm)).1
    have h2 : cs.flatMap (ref1 h') = cs.flatMap (ref1 h) := flatMap_agree fun c hm => (k.tell1 (Cl.flatMap hc hm)).2
    exact ⟨congrArg AV.tup h1, h2⟩
  case back => exact ⟨rfl, rfl⟩
  all_goals first | exact k.tell1 (v := (AV.junk)) hc | exact k.tell1 (v := (AV.b _)) hc | exact k.tell1 (v := (AV.i _ _)) hc | exact k.tell1 (v := (AV.s _)) hc | exact k.tell1 (v := (AV.np)) hc | exact k.tell1 (v := (AV.ns _)) hc | exact k.tell1 (v := (AV.l _ _)) hc | exact k.tell1 (v := (AV.tp _ _)) hc | exact k.tell1 (v := (AV.sl _ _ _ _)) hc | exact k.tell1 (v := (AV.p _ _ _)) hc | exact k.tell1 (v := (AV.own _ _ _)) hc | exact k.tell1 (v := (AV.ownp _)) hc | exact k.tell1 (v := (AV.back _ _)) hc | exact k.tell1 (v := (AV.agg _)) hc | exact k.tell1 (v := (AV.tup _)) hc
theorem ref_cells {v : AV} (hc : Cl h (ref1 h v)) : Cl h (v.cells.flatMap (refC h)) := by
  cases v
  case agg cs => exact hc
  all_goals
    intro r hr
    simp only [AV.cells, List.flatMap_cons, List.flatMap_nil, List.append_nil, List.not_mem_nil] at hr
  all_goals exact hc r hr
theorem Hle.cells (k : Hle h h') {v : AV} (hc : Cl h (ref1 h v)) : v.cells.map (Go.Pe.tellC h') = v.cells.map (Go.Pe.tellC h) := (k.mapC (ref_cells hc)).1
theorem Hle.ptr (k : Hle h h') {v : AV} (hc : Cl h (refC h v)) : ptrAt h' v = ptrAt h v := by
  cases v <;> try rfl
  case p r e o => simp only [ptrAt, k.at (hc r (by simp [refC]))]
theorem ptr_ref {v : AV} (hc : Cl h (ref h v)) : Cl h (refC h v) := by
  cases v
  case agg => intro r hr; simp [refC, ref0] at hr
  case tup => intro r hr; simp [refC, ref0] at hr
  all_goals exact hc
theorem ref_one {v : AV} (hc : Cl h (ref h v)) : Cl h (ref1 h v) := by
  cases v
  case tup => intro r hr; simp [ref1, refC, ref0] at hr
  all_goals exact hc
theorem Hle.ld (k : Hle h h') {v : AV} (hc : Cl h (ref h v)) (ag : Bool) (sz : Nat) : ldV h' ag sz v = ldV h ag sz v := by
  simp only [ldV, k.ptr (ptr_ref hc)]
theorem Hle.bsl (k : Hle h h') {e : Nat → AV} {sz : Nat} : ∀ {ps : List (Nat × At)} {z : List (List AV)}, (∀ p ∈ ps, Cl h (ref h (p.2.ev e))) → bslV e h' sz z ps = bslV e h sz z ps := by
  intro ps
  induction ps with
  | nil => intro z _; rfl
  | cons p ps ih =>
    intro z hc
    obtain ⟨j, x⟩ := p
    have h1 := k.cells (ref_one (hc (j, x) List.mem_cons_self))
    simp only [bslV] at h1 ⊢
    rw [h1]
    split
    · exact ih fun p hp => hc p (List.mem_cons_of_mem _ hp)
    · rfl
theorem Hle.es (k : Hle h h') {v : AV} (hc : Cl h (ref h v)) (z : Nat) : esV h' z v = esV h z v := by
  cases v <;> try rfl
  case sl r z' o n => simp only [esV, k.win (hc r (by simp [ref, ref1, refC, ref0]))]
theorem PO.comp_le (call : Call) (o : PO) {e : Nat → AV} (k : Hle h h') (hc : ∀ x ∈ o.ats, Cl h (ref h (x.ev e))) : o.comp call e h' = o.comp call e h := by
  cases o <;> try rfl
  case ld ag sz x => simp only [PO.comp, k.ld (hc x (by simp [PO.ats]))]
  case b2s x => simp only [PO.comp, k.es (hc x (by simp [PO.ats]))]
  case bsl id sz z n ps =>
    have h1 : ∀ p ∈ ps, Cl h (ref h (p.2.ev e)) := fun p hp => hc _ (List.mem_map.2 ⟨p, hp, rfl⟩)
    simp only [PO.comp]
    rw [k.bsl h1, flatMap_agree fun p hp => (k.tell1 (ref_one (h1 p hp))).2]
  case call f xs =>
    have h1 : (xs.map (At.ev e)).map (Go.Pe.tell h') = (xs.map (At.ev e)).map (Go.Pe.tell h) := List.map_congr_left fun v hv => by
      obtain ⟨x, hx, rfl⟩ := List.mem_map.1 hv
      exact (k.tell (hc x hx)).1
    have h2 : (xs.map (At.ev e)).flatMap (ref h') = (xs.map (At.ev e)).flatMap (ref h) := flatMap_agree fun v hv => by
      obtain ⟨x, hx, rfl⟩ := List.mem_map.1 hv
      exact (k.tell (hc x hx)).2
    simp only [PO.comp, h1, h2]
theorem comp_cl (call : Call) (o : PO) {e : Nat → AV} (hc : ∀ x ∈ o.ats, Cl h (ref h (x.ev e))) {c : Comp} (hv : o.comp call e h = some c) : Cl h c.2.1 := by
  have nil : Cl h [] := fun r hr => by cases hr
  cases o <;> simp only [PO.comp, Option.map_eq_some_iff] at hv
  case bsl id sz z n ps =>
    obtain ⟨es, _, rfl⟩ := hv
    intro r hr
    obtain ⟨p, hp, hr⟩ := List.mem_flatMap.1 hr
    exact ref_one (hc _ (List.mem_map.2 ⟨p, hp, rfl⟩)) r hr
  case call f xs =>
    obtain ⟨v, _, rfl⟩ := hv
    simp only
    split
    · exact nil
    · intro r hr
      obtain ⟨u, hu, hr⟩ := List.mem_flatMap.1 hr
      obtain ⟨x, hx, rfl⟩ := List.mem_map.1 hu
      exact hc x hx r hr
  case alloc => cases hv; exact nil
  case box =>
    split at hv
    · cases hv; exact nil
    · cases hv
  case mk =>
    split at hv
    · split at hv
      · cases hv; exact nil
      · cases hv
    · cases hv
  all_goals
    obtain ⟨_, _, rfl⟩ := hv
    exact nil
end
section
variable {f : Fr} {w : World} {T : Nat → Prop} {ρ : Rho} {h : Heap}
theorem rv_ref0 (hd : ∀ r, h r = none → ρ r = none) {av : AV} {v : Value} (k : Rv w T ρ av v) : Cl h (ref0 av) := by
  intro r hr hn
  cases k with
  | sl hρ => simp only [ref0, List.mem_singleton] at hr; subst hr; rw [hd _ hn] at hρ; cases hρ
  | slz hρ => simp only [ref0, List.mem_singleton] at hr; subst hr; rw [hd _ hn] at hρ; cases hρ
  | slnil hρ => simp only [ref0, List.mem_singleton] at hr; subst hr; rw [hd _ hn] at hρ; cases hρ
  | _ => simp [ref0] at hr
theorem rv_ref0n {av : AV} {v : Value} (k : Rv w T Rho.none av v) : ref0 av = [] := by
  cases k with
  | sl hρ => cases hρ
  | slz hρ => cases hρ
  | slnil hρ => cases hρ
  | _ => rfl
theorem row_ref0 (hd : ∀ r, h r = none → ρ r = none) {r : Nat} {x : Row} (ok : RowOk w T ρ r x) {e : Nat} {cs : List AV} (hx : x.at e = some cs) : Cl h (cs.flatMap ref0) := by
  intro q hq
  obtain ⟨c, hc, hq⟩ := List.mem_flatMap.1 hq
  obtain ⟨j, hj, rfl⟩ := List.getElem_of_mem hc
  have elems : ∀ {b base z : Nat} {es : List (List AV)}, RowAt w b base z es (Rv w T Rho.none) → es[e]? = some cs → h q ≠ none := by
    intro b base z es hr he
    have hlt : e < es.length := (List.getElem?_eq_some_iff.1 he).1
    have hg : es.getD e [] = cs := by rw [List.getD_eq_getElem?_getD, he]; rfl
    have hl := hr.len e hlt
    rw [hg] at hl
    obtain ⟨v, _, _, h3⟩ := hr.cell e j hlt (by omega)
    rw [hg] at h3
    have : cs.getD j .junk = cs[j] := by simp [hj]
    rw [this] at h3
    rw [rv_ref0n h3] at hq
    cases hq
  have strs : ∀ {b base : Nat} {ds : List AV}, RowAt w b base ds.length [ds] (Rv w T ρ) → (if e = 0 then some ds else none) = some cs → h q ≠ none := by
    intro b base ds hr he
    split at he
    · cases he
      obtain ⟨v, _, _, h3⟩ := hr.cell 0 j (by simp) hj
      have : ([cs].getD 0 []).getD j AV.junk = cs[j] := by simp [hj]
      rw [this] at h3
      exact rv_ref0 hd h3 q hq
    · cases he
  cases x with
  | sl ap z es =>
    rcases ok with ⟨h1, _, _⟩ | ⟨_, _, _, _, _, _, _, _, _, h6⟩
    · subst h1; simp [Row.at] at hx
    · exact elems h6 hx
  | fsl z es =>
    rcases ok with ⟨h1, _⟩ | ⟨_, _, _, _, _, h6⟩
    · subst h1; simp [Row.at] at hx
    · exact elems h6 hx
  | st ds =>
    obtain ⟨_, _, _, _, _, _, _, _, h6⟩ := ok
    exact strs h6 hx
  | fst ds =>
    obtain ⟨_, _, _, _, _, h6⟩ := ok
    exact strs h6 hx
  | dead => simp [Row.at] at hx
theorem rv_refC (hd : ∀ r, h r = none → ρ r = none) (hrows : ∀ r x, h r = some x → RowOk w T ρ r x) {av : AV} {v : Value} (k : Rv w T ρ av v) : Cl h (refC h av) := by
  by_cases hp : ∃ r e o, av = .p r e o
  · obtain ⟨r, e, o, rfl⟩ := hp
    intro q hq
    simp only [refC, List.mem_cons] at hq
    rcases hq with rfl | hq
    · intro hn
      cases k with
      | p hρ => rw [hd _ hn] at hρ; cases hρ
    · cases hx : h r with
      | none => rw [hx] at hq; simp at hq
      | some x =>
        rw [hx] at hq
        simp only [Option.bind_some] at hq
        cases hcs : x.at e with
        | none => rw [hcs] at hq; simp at hq
        | some cs =>
          rw [hcs] at hq
          exact row_ref0 hd (hrows r x hx) hcs q hq
  · have : refC h av = ref0 av := by cases av <;> first | rfl | exact absurd ⟨_, _, _, rfl⟩ hp
    rw [this]
    exact rv_ref0 hd k
theorem rv_ref1 (hd : ∀ r, h r = none → ρ r = none) (hrows : ∀ r x, h r = some x → RowOk w T ρ r x) {av : AV} {v : Value} (k : Rv w T ρ av v) : Cl h (ref1 h av) := by
  by_cases ha : ∃ cs, av = .agg cs
  · obtain ⟨cs, rfl⟩ := ha
    cases k with
    | agg vs hl h1 hv =>
      intro q hq
      obtain ⟨c, hc, hq⟩ := List.mem_flatMap.1 hq
      obtain ⟨j, hj, rfl⟩ := List.getElem_of_mem hc
      have := hv j hj
      have e : cs.getD j .junk = cs[j] := by simp [hj]
      rw [e] at this
      exact rv_refC hd hrows this q hq
  · have : ref1 h av = refC h av := by cases av <;> first | rfl | exact absurd ⟨_, rfl⟩ ha
    rw [this]
    exact rv_refC hd hrows k
theorem rv_ref (hd : ∀ r, h r = none → ρ r = none) (hrows : ∀ r x, h r = some x → RowOk w T ρ r x) {av : AV} {v : Value} (k : Rv w T ρ av v) : Cl h (ref h av) := by
  by_cases ha : ∃ cs, av = .tup cs
  · obtain ⟨cs, rfl⟩ := ha
    cases k with
    | tup vs hl hv =>
      intro q hq
      obtain ⟨c, hc, hq⟩ := List.mem_flatMap.1 hq
      obtain ⟨j, hj, rfl⟩ := List.getElem_of_mem hc
      have := hv j hj
      have e : cs.getD j .junk = cs[j] := by simp [hj]
      rw [e] at this
      exact rv_ref1 hd hrows this q hq
  · have : ref h av = ref1 h av := by cases av <;> first | rfl | exact absurd ⟨_, rfl⟩ ha
    rw [this]
    exact rv_ref1 hd hrows k
end
end Go.Pe
set_option linter.unusedVariables false
set_option linter.unusedSimpArgs false
namespace Go.Pe
open Go
def POp.reads (p : POp) : List Nat := p.op.reads ++ (match p.guard with | some (t, _) => [t] | none => [])
def POp.comp (call : Call) (p : POp) (e : Nat → AV) (h : Heap) : Option Comp := match p.guard with
  | none => p.op.comp call e h
  | some (t, q) => match (e t).yes q with
    | some true => p.op.comp call e h
    | some false => some (.tup [], [], none)
    | none => none
theorem POp.comp_ev (call : Call) (p : POp) (hk : p.op.kind ≤ 1) (st : St) : p.ev call st = (p.comp call st.env st.h).bind fun c => (c.app st.h).map fun q => ⟨setD st.env p.dst q.1, q.2⟩ := by
  unfold POp.ev POp.comp
  cases p.guard with
  | none =>
    simp only [PO.comp_ev call p.op hk, Option.map_bind]
    rfl
  | some g =>
    obtain ⟨t, q⟩ := g
    simp only
    cases (st.env t).yes q with
    | none => rfl
    | some z =>
      cases z
      · rfl
      · simp only [PO.comp_ev call p.op hk, Option.map_bind]
        rfl
theorem POp.agree (call : Call) (p : POp) {e e' : Nat → AV} (h : Heap) (hx : ∀ t ∈ p.reads, e t = e' t) : p.comp call e h = p.comp call e' h := by
  have h1 : p.op.comp call e h = p.op.comp call e' h := by
    have hr : ∀ t ∈ p.op.reads, e t = e' t := fun t ht => hx t (List.mem_append.2 (.inl ht))
    have ha : ∀ x ∈ p.op.ats, x.ev e = x.ev e' := fun x hm => At.agree fun t ht => hr t (List.mem_flatMap.2 ⟨x, hm, ht⟩)
    have hp := PO.agree call p.op Heap.none hr
    generalize p.op = o at ha hp
    cases o <;> simp only [PO.comp] <;> simp only [PO.ats, List.mem_cons, List.not_mem_nil, or_false, forall_eq_or_imp, forall_eq, List.mem_map] at ha <;> try rw [hp]
    case ld => rw [ha]
    case b2s => rw [ha]
    case call => rw [map_agree ha]
    case box => rw [ha]
    case mk => rw [ha]
    case bsl id sz z n ps => rw [bslV_agree fun p hp => ha _ ⟨p, hp, rfl⟩, flatMap_agree fun p hp => (show ref1 h (p.2.ev e) = ref1 h (p.2.ev e') by rw [ha _ ⟨p, hp, rfl⟩])]
  unfold POp.comp
  cases hg : p.guard with
  | none => exact h1
  | some g =>
    obtain ⟨t, q⟩ := g
    have : e t = e' t := hx t (by simp [POp.reads, hg])
    simp only [this, h1]
theorem setD_comm {e : Nat → AV} {d d' : Option Nat} (u v : AV) (h : ∀ t, d = some t → d' ≠ some t) : setD (setD e d u) d' v = setD (setD e d' v) d u := by
  cases d with
  | none => rfl
  | some t =>
    cases d' with
    | none => rfl
    | some t' =>
      have hne : t ≠ t' := fun e => h t rfl (by rw [e])
      funext s
      simp only [setD, upd]
      by_cases h1 : s = t
      · subst h1; simp [hne]
      · simp [h1]
theorem setD_at {e : Nat → AV} {d : Option Nat} {v : AV} {t : Nat} (h : d ≠ some t) : setD e d v t = e t := by
  cases d with
  | none => rfl
  | some s => simp only [setD, upd]; rw [if_neg fun e => h (by rw [e])]
def envApart (x y : POp) : Bool := (match x.dst with | some d => !y.reads.contains d && decide (y.dst ≠ some d) | none => true) && (match y.dst with | some d => !x.reads.contains d | none => true)
theorem envApart_spec {x y : POp} (h : envApart x y = true) : (∀ t ∈ y.reads, x.dst ≠ some t) ∧ (∀ t ∈ x.reads, y.dst ≠ some t) ∧ (∀ t, x.dst = some t → y.dst ≠ some t) := by
  simp only [envApart, Bool.and_eq_true] at h
  obtain ⟨h1, h2⟩ := h
  refine ⟨fun t ht hd => ?_, fun t ht hd => ?_, fun t hd => ?_⟩
  · rw [hd] at h1; simp at h1; exact h1.1 ht
  · rw [hd] at h2; simp at h2; exact h2 ht
  · rw [hd] at h1; simp at h1; exact h1.2
theorem freeze_get (h : Heap) (l : List Nat) (q : Nat) : (h.freeze l) q = if q ∈ l then (h q).map Row.freeze else h q := by
  induction l with
  | nil => rfl
  | cons r l ih =>
    simp only [Heap.freeze]
    by_cases h1 : q = r
    · subst h1
      simp only [if_true, List.mem_cons, true_or]
      rw [ih]
      split
      · cases h q with
        | none => rfl
        | some x => cases x <;> rfl
      · rfl
    · simp only [h1, if_false, List.mem_cons, false_or]
      exact ih
theorem Comp.app_le {c : Comp} {h h' : Heap} {v : AV} (hv : c.app h = some (v, h')) : v = c.1 ∧ Hle h h' ∧ (∀ q, h' q = none → h q = none) ∧ ∀ id x, c.2.2 = some (id, x) → h id = none := by
  obtain ⟨u, A, p⟩ := c
  cases p with
  | none =>
    simp only [Comp.app] at hv
    cases hv
    refine ⟨rfl, fun r x hx => ?_, fun q hq => freeze_none.1 hq, fun id x h => by cases h⟩
    rw [freeze_get, hx]
    split
    · exact .inr rfl
    · exact .inl rfl
  | some p =>
    obtain ⟨id, y⟩ := p
    simp only [Comp.app] at hv
    split at hv
    · rename_i hid
      cases hv
      have hid' : h id = none := by simpa using hid
      refine ⟨rfl, fun r x hx => ?_, fun q hq => ?_, fun id x h => by cases h; exact hid'⟩
      · have hne : r ≠ id := fun e => by rw [e, hid'] at hx; cases hx
        simp only [Heap.put, if_neg hne, freeze_get, hx]
        split
        · exact .inr rfl
        · exact .inl rfl
      · simp only [Heap.put] at hq
        split at hq
        · cases hq
        · exact freeze_none.1 hq
    · cases hv
theorem app_comm {c d : Comp} {h h1 h2 : Heap} {u v : AV} (hc : c.app h = some (u, h1)) (hd : d.app h1 = some (v, h2)) (cc : Cl h c.2.1) (cd : Cl h d.2.1) (hne : ∀ i x j y, c.2.2 = some (i, x) → d.2.2 = some (j, y) → i ≠ j) :
    ∃ h3, d.app h = some (v, h3) ∧ c.app h3 = some (u, h2) := by
  obtain ⟨_, _, n1, m1⟩ := Comp.app_le hc
  obtain ⟨_, _, _, m2⟩ := Comp.app_le hd
  obtain ⟨a, A, p⟩ := c
  obtain ⟨b, B, q⟩ := d
  have idn : ∀ {i : Nat} {l : List Nat}, h i = none → Cl h l → i ∉ l := fun hi hl hm => hl _ hm hi
  have ff : ∀ r, ((h.freeze A).freeze B) r = ((h.freeze B).freeze A) r := by
    intro r
    simp only [freeze_get]
    cases h r with
    | none => by_cases h1 : r ∈ A <;> by_cases h2 : r ∈ B <;> simp [h1, h2]
    | some x => by_cases h1 : r ∈ A <;> by_cases h2 : r ∈ B <;> simp [h1, h2]
  cases p with
  | none =>
    simp only [Comp.app] at hc
    cases hc
    cases q with
    | none =>
      simp only [Comp.app] at hd
      cases hd
      refine ⟨_, rfl, ?_⟩
      simp only [Comp.app]
      rw [funext ff]
    | some q =>
      obtain ⟨j, y⟩ := q
      have hj : h j = none := n1 j (m2 j y rfl)
      simp only [Comp.app] at hd
      split at hd
      · cases hd
        refine ⟨(h.freeze B).put j y, by simp [Comp.app, hj], ?_⟩
        simp only [Comp.app]
        have : ((h.freeze B).put j y).freeze A = ((h.freeze A).freeze B).put j y := by
          funext r
          simp only [freeze_get, Heap.put]
          by_cases h1 : r = j
          · subst h1; simp [idn hj cc]
          · have := ff r
            simp only [freeze_get] at this
            simp only [h1, if_false]
            exact this.symm
        rw [this]
      · cases hd
  | some p =>
    obtain ⟨i, x⟩ := p
    have hi : h i = none := m1 i x rfl
    simp only [Comp.app] at hc
    split at hc
    · cases hc
      cases q with
      | none =>
        simp only [Comp.app] at hd
        cases hd
        refine ⟨_, rfl, ?_⟩
        have h3 : (h.freeze B) i = none := freeze_none.2 hi
        simp only [Comp.app, h3, Option.isNone_none, if_true]
        have : ((h.freeze A).put i x).freeze B = ((h.freeze B).freeze A).put i x := by
          funext r
          simp only [freeze_get, Heap.put]
          by_cases h1 : r = i
          · subst h1; simp [idn hi cd]
          · have := ff r
            simp only [freeze_get] at this
            simp only [h1, if_false]
            exact this
        rw [this]
      | some q =>
        obtain ⟨j, y⟩ := q
        have hij := hne i x j y rfl rfl
        have hj : h j = none := n1 j (m2 j y rfl)
        simp only [Comp.app] at hd
        split at hd
        · cases hd
          refine ⟨(h.freeze B).put j y, by simp [Comp.app, hj], ?_⟩
          have h3 : ((h.freeze B).put j y) i = none := by simp only [Heap.put, if_neg hij]; exact freeze_none.2 hi
          simp only [Comp.app, h3, Option.isNone_none, if_true]
          have : ((((h.freeze A).put i x).freeze B).put j y) = (((h.freeze B).put j y).freeze A).put i x := by
            funext r
            simp only [freeze_get, Heap.put]
            by_cases h1 : r = i
            · subst h1; simp [idn hi cd, hij]
            · by_cases h2 : r = j
              · subst h2; simp [h1, idn hj cc]
              · have := ff r
                simp only [freeze_get] at this
                simp only [h1, h2, if_false]
                exact this
          rw [this]
        · cases hd
    · cases hc
def noRef : AV → Bool
  | .sl _ _ _ _ | .p _ _ _ | .tup _ => false
  | .agg cs => cs.all fun c => match c with | .sl _ _ _ _ | .p _ _ _ => false | _ => true
  | _ => true
theorem noRef_cl {v : AV} (h : Heap) (hn : noRef v = true) : Cl h (ref h v) := by
  have : ref h v = [] := by
    cases v <;> first | rfl | (simp [noRef] at hn; done) | skip
    rename_i cs
    show cs.flatMap (refC h) = []
    simp only [noRef, List.all_eq_true] at hn
    rw [List.flatMap_eq_nil_iff]
    intro c hc
    have := hn c hc
    cases c <;> first | rfl | (simp at this; done)
  rw [this]
  intro r hr
  cases hr
def PO.okc (o : PO) : Bool := o.ats.all fun x => match x with | .c v => noRef v | .t _ => true
theorem Real.closed {f : Fr} {nt : Nat} {st : St} (hr : Real f nt st) {o : PO} (ho : o.okc = true) : ∀ x ∈ o.ats, Cl st.h (ref st.h (x.ev st.env)) := by
  intro x hx
  simp only [PO.okc, List.all_eq_true] at ho
  have := ho x hx
  obtain ⟨w, a, _, _, T, ρ, k, he⟩ := hr
  cases x with
  | c v => exact noRef_cl _ this
  | t n => exact rv_ref k.dom k.rows (he n)
def PO.newId : PO → Option Nat
  | .alloc id _ | .box id _ _ | .bsl id _ _ _ _ | .mk id _ _ _ _ => some id
  | _ => none
theorem comp_id (call : Call) (p : POp) {e : Nat → AV} {h : Heap} {c : Comp} (hv : p.comp call e h = some c) {i : Nat} {x : Row} (hi : c.2.2 = some (i, x)) : p.op.newId = some i := by
  have key : p.op.comp call e h = some c → p.op.newId = some i := by
    intro hv
    generalize p.op = o at hv
    cases o <;> simp only [PO.comp, Option.map_eq_some_iff] at hv
    case alloc => cases hv; cases hi; rfl
    case box => split at hv <;> cases hv; cases hi; rfl
    case bsl => obtain ⟨_, _, rfl⟩ := hv; cases hi; rfl
    case mk =>
      split at hv
      · split at hv
        · cases hv; cases hi; rfl
        · cases hv
      · cases hv
    all_goals
      obtain ⟨_, _, rfl⟩ := hv
      cases hi
  unfold POp.comp at hv
  split at hv
  · exact key hv
  · split at hv
    · exact key hv
    · cases hv; cases hi
    · cases hv
theorem swap_grow {call : Call} {x y : POp} {st s1 s2 : St} (hx : x.op.kind ≤ 1) (hy : y.op.kind ≤ 1) (hap : envApart x y = true) (cx : ∀ z ∈ x.op.ats, Cl st.h (ref st.h (z.ev st.env))) (cy : ∀ z ∈ y.op.ats, Cl st.h (ref st.h (z.ev st.env)))
    (hid : ∀ i, x.op.newId = some i → y.op.newId ≠ some i) (h1 : x.ev call st = some s1) (h2 : y.ev call s1 = some s2) : ∃ s3, y.ev call st = some s3 ∧ x.ev call s3 = some s2 := by
  obtain ⟨a1, a2, a3⟩ := envApart_spec hap
  rw [POp.comp_ev call x hx] at h1
  simp only [Option.bind_eq_some_iff, Option.map_eq_some_iff] at h1
  obtain ⟨c, hc, ⟨u, g1⟩, hg1, rfl⟩ := h1
  rw [POp.comp_ev call y hy] at h2
  simp only [Option.bind_eq_some_iff, Option.map_eq_some_iff] at h2
  obtain ⟨d, hd, ⟨v, g2⟩, hg2, rfl⟩ := h2
  obtain ⟨hu, le1, _, _⟩ := Comp.app_le hg1
  have compLe : ∀ (p : POp) {h h' : Heap} (e : Nat → AV), Hle h h' → (∀ z ∈ p.op.ats, Cl h (ref h (z.ev e))) → p.comp call e h' = p.comp call e h := by
    intro p h h' e hle hcl
    unfold POp.comp
    simp only [PO.comp_le call p.op hle hcl]
  have hd' : y.comp call st.env st.h = some d := by
    rw [← compLe y st.env le1 cy, ← hd]
    refine POp.agree call y g1 fun t ht => ?_
    exact (setD_at (a1 t ht)).symm
  have clc : ∀ (p : POp) {c : Comp}, (∀ z ∈ p.op.ats, Cl st.h (ref st.h (z.ev st.env))) → p.comp call st.env st.h = some c → Cl st.h c.2.1 := by
    intro p c hcl hv
    unfold POp.comp at hv
    split at hv
    · exact comp_cl call p.op hcl hv
    · split at hv
      · exact comp_cl call p.op hcl hv
      · cases hv; intro r hr; cases hr
      · cases hv
  obtain ⟨g3, b1, b2⟩ := app_comm hg1 hg2 (clc x cx hc) (clc y cy hd') fun i _ j _ hi hj e => hid i (comp_id call x hc hi) (by rw [e]; exact comp_id call y hd' hj)
  obtain ⟨_, le3, _, _⟩ := Comp.app_le b1
  refine ⟨⟨setD st.env y.dst v, g3⟩, ?_, ?_⟩
  · rw [POp.comp_ev call y hy, hd']
    simp only [Option.bind_some, b1, Option.map_some]
  · rw [POp.comp_ev call x hx]
    have hc' : x.comp call (setD st.env y.dst v) g3 = some c := by
      rw [← hc, ← compLe x st.env le3 cx]
      exact POp.agree call x g3 fun t ht => setD_at (a2 t ht)
    simp only [hc', Option.bind_some, b2, Option.map_some]
    rw [setD_comm u v a3]
end Go.Pe
set_option linter.unusedVariables false
set_option linter.unusedSimpArgs false
namespace Go.Pe
open Go
theorem POp.ev_at {call : Call} {p : POp} {e : Nat → AV} {h : Heap} {s : St} (hv : p.ev call ⟨e, h⟩ = some s) :
    ∃ v h', s = ⟨setD e p.dst v, h'⟩ ∧ ∀ e', (∀ t ∈ p.reads, e t = e' t) → p.ev call ⟨e', h⟩ = some ⟨setD e' p.dst v, h'⟩ := by
  unfold POp.ev at hv ⊢
  cases hg : p.guard with
  | none =>
    simp only [hg, Option.map_eq_some_iff] at hv
    obtain ⟨⟨v, h'⟩, hv, rfl⟩ := hv
    refine ⟨v, h', rfl, fun e' ha => ?_⟩
    rw [← PO.agree call p.op h fun t ht => ha t (by simp [POp.reads, ht])]
    simp only [hv, Option.map_some]
  | some g =>
    obtain ⟨t, q⟩ := g
    simp only [hg] at hv
    have ht : t ∈ p.reads := by simp [POp.reads, hg]
    split at hv
    · rename_i hz
      simp only [Option.map_eq_some_iff] at hv
      obtain ⟨⟨v, h'⟩, hv, rfl⟩ := hv
      refine ⟨v, h', rfl, fun e' ha => ?_⟩
      simp only [← ha t ht, hz]
      rw [← PO.agree call p.op h fun t ht => ha t (by simp [POp.reads, ht])]
      simp only [hv, Option.map_some]
    · rename_i hz
      cases hv
      refine ⟨.tup [], h, rfl, fun e' ha => ?_⟩
      simp only [← ha t ht, hz]
    · cases hv
theorem POp.pure_at {call : Call} {p : POp} (hk : p.op.kind = 0) {e : Nat → AV} {h : Heap} {s : St} (hv : p.ev call ⟨e, h⟩ = some s) :
    ∃ v, s = ⟨setD e p.dst v, h⟩ ∧ ∀ e' h', (∀ t ∈ p.reads, e t = e' t) → p.ev call ⟨e', h'⟩ = some ⟨setD e' p.dst v, h'⟩ := by
  unfold POp.ev at hv ⊢
  have op : ∀ {v : AV} {h1 : Heap}, p.op.ev call e h = some (v, h1) → h1 = h ∧ ∀ e' h', (∀ t ∈ p.reads, e t = e' t) → p.op.ev call e' h' = some (v, h') := by
    intro v h1 hv
    rw [PO.pure call p.op hk, Option.map_eq_some_iff] at hv
    obtain ⟨q, hq, hv⟩ := hv
    cases hv
    refine ⟨rfl, fun e' h' ha => ?_⟩
    rw [PO.pure call p.op hk, ← PO.agree call p.op Heap.none fun t ht => ha t (by simp [POp.reads, ht]), hq]
    rfl
  cases hg : p.guard with
  | none =>
    simp only [hg, Option.map_eq_some_iff] at hv
    obtain ⟨⟨v, h1⟩, hv, rfl⟩ := hv
    obtain ⟨rfl, h2⟩ := op hv
    exact ⟨v, rfl, fun e' h' ha => by simp only [h2 e' h' ha, Option.map_some]⟩
  | some g =>
    obtain ⟨t, q⟩ := g
    simp only [hg] at hv
    have ht : t ∈ p.reads := by simp [POp.reads, hg]
    split at hv
    · rename_i hz
      simp only [Option.map_eq_some_iff] at hv
      obtain ⟨⟨v, h1⟩, hv, rfl⟩ := hv
      obtain ⟨rfl, h2⟩ := op hv
      exact ⟨v, rfl, fun e' h' ha => by simp only [← ha t ht, hz, h2 e' h' ha, Option.map_some]⟩
    · rename_i hz
      cases hv
      exact ⟨.tup [], rfl, fun e' h' ha => by simp only [← ha t ht, hz]⟩
    · cases hv
theorem swap_pure1 {call : Call} {x y : POp} {st s1 s2 : St} (hx : x.op.kind = 0) (hap : envApart x y = true) (h1 : x.ev call st = some s1) (h2 : y.ev call s1 = some s2) : ∃ s3, y.ev call st = some s3 ∧ x.ev call s3 = some s2 := by
  obtain ⟨a1, a2, a3⟩ := envApart_spec hap
  obtain ⟨u, rfl, hu⟩ := POp.pure_at hx h1
  obtain ⟨v, h', rfl, hv⟩ := POp.ev_at h2
  refine ⟨_, hv st.env fun t ht => setD_at (a1 t ht), ?_⟩
  rw [hu _ h' fun t ht => (setD_at (a2 t ht)).symm, setD_comm u v a3]
theorem swap_pure2 {call : Call} {x y : POp} {st s1 s2 : St} (hy : y.op.kind = 0) (hap : envApart x y = true) (h1 : x.ev call st = some s1) (h2 : y.ev call s1 = some s2) : ∃ s3, y.ev call st = some s3 ∧ x.ev call s3 = some s2 := by
  obtain ⟨a1, a2, a3⟩ := envApart_spec hap
  obtain ⟨u, h', rfl, hu⟩ := POp.ev_at h1
  obtain ⟨v, rfl, hv⟩ := POp.pure_at hy h2
  refine ⟨_, hv st.env st.h fun t ht => setD_at (a1 t ht), ?_⟩
  rw [hu _ fun t ht => (setD_at (a2 t ht)).symm, setD_comm u v a3]
theorem st_ld {h h' : Heap} {sz : Nat} {s l v : AV} (hs : stV h sz s v = some h') (ha : apartV s l = true) (ag : Bool) (z : Nat) : ldV h' ag z l = ldV h ag z l := by
  cases s <;> simp only [stV] at hs <;> try (cases hs; done)
  rename_i r e o
  cases l <;> simp only [apartV] at ha <;> try (cases ha; done)
  · rfl
  · rename_i q e2 o2
    have hne : q ≠ r := fun e => by subst e; simp at ha
    have key : (h' q).bind (Row.at e2) = (h q).bind (Row.at e2) := by
      split at hs
      · split at hs
        · cases hs
          simp only [Heap.put, if_neg hne, freeze_get]
          split
          · cases h q <;> simp [freeze_at]
          · rfl
        · cases hs
      · split at hs
        · cases hs
          simp only [Heap.put, if_neg hne]
        · cases hs
      · cases hs
    simp only [ldV, ptrAt, key]
def ldP (p : POp) : Option Nat := match p.op, p.guard with
  | .ld _ _ (.t l), none => some l
  | _, _ => none
def stP (p : POp) : Option Nat := match p.op, p.guard with
  | .st _ (.t s) _, none => some s
  | _, _ => none
theorem ldP_spec {p : POp} {l : Nat} (h : ldP p = some l) : ∃ ag sz, p.op = .ld ag sz (.t l) ∧ p.guard = none := by
  unfold ldP at h
  split at h
  · rename_i ag sz l' h1 h2; cases h; exact ⟨_, _, h1, h2⟩
  · cases h
theorem stP_spec {p : POp} {s : Nat} (h : stP p = some s) : ∃ sz v, p.op = .st sz (.t s) v ∧ p.guard = none := by
  unfold stP at h
  split at h
  · rename_i ag sz l' h1 h2; cases h; exact ⟨_, _, h1, h2⟩
  · cases h
theorem swap_ldst {call : Call} {x y : POp} {st s1 s2 : St} {l s : Nat} (hx : ldP x = some l) (hy : stP y = some s) (hap : envApart x y = true) (ha : apartV (st.env s) (st.env l) = true) (h1 : x.ev call st = some s1) (h2 : y.ev call s1 = some s2) : ∃ s3, y.ev call st = some s3 ∧ x.ev call s3 = some s2 := by
  obtain ⟨a1, a2, a3⟩ := envApart_spec hap
  obtain ⟨ag, sz, hxo, hxg⟩ := ldP_spec hx
  obtain ⟨sz', v, hyo, hyg⟩ := stP_spec hy
  have h1' := h1
  simp only [POp.ev, hxg, hxo, PO.ev, Option.map_map, Option.map_eq_some_iff] at h1'
  obtain ⟨u, hu, rfl⟩ := h1'
  obtain ⟨v2, h', rfl, hv⟩ := POp.ev_at h2
  have h3 := hv st.env fun t ht => setD_at (a1 t ht)
  refine ⟨_, h3, ?_⟩
  have h4 := h3
  simp only [POp.ev, hyg, hyo, PO.ev, Option.map_map, Option.map_eq_some_iff] at h4
  obtain ⟨g, hg, h4⟩ := h4
  have hg' : g = h' := congrArg St.h h4
  subst hg'
  have e1 : setD st.env y.dst v2 l = st.env l := setD_at (a2 l (by simp [POp.reads, hxo, PO.reads, PO.ats, At.tmps]))
  simp only [POp.ev, hxg, hxo, PO.ev, At.ev] at hu hg ⊢
  rw [e1, st_ld hg ha, hu]
  simp only [Option.map_some]
  rw [setD_comm u v2 a3]
theorem swap_stld {call : Call} {x y : POp} {st s1 s2 : St} {l s : Nat} (hx : stP x = some s) (hy : ldP y = some l) (hap : envApart x y = true) (ha : apartV (st.env s) (st.env l) = true) (h1 : x.ev call st = some s1) (h2 : y.ev call s1 = some s2) : ∃ s3, y.ev call st = some s3 ∧ x.ev call s3 = some s2 := by
  obtain ⟨a1, a2, a3⟩ := envApart_spec hap
  obtain ⟨ag, sz, hyo, hyg⟩ := ldP_spec hy
  obtain ⟨sz', v, hxo, hxg⟩ := stP_spec hx
  obtain ⟨u, h', rfl, hu⟩ := POp.ev_at h1
  have h3 := h1
  simp only [POp.ev, hxg, hxo, PO.ev, Option.map_map, Option.map_eq_some_iff] at h3
  obtain ⟨g, hg, h3⟩ := h3
  have hg' : g = h' := congrArg St.h h3
  subst hg'
  simp only [POp.ev, hyg, hyo, PO.ev, Option.map_map, Option.map_eq_some_iff] at h2
  obtain ⟨v2, hv2, rfl⟩ := h2
  have e1 : setD st.env x.dst u l = st.env l := setD_at (a1 l (by simp [POp.reads, hyo, PO.reads, PO.ats, At.tmps]))
  simp only [At.ev] at hv2 hg
  rw [e1, st_ld hg ha] at hv2
  refine ⟨⟨setD st.env y.dst v2, st.h⟩, ?_, ?_⟩
  · simp only [POp.ev, hyg, hyo, PO.ev, At.ev, hv2, Option.map_some]
  · rw [hu _ fun t ht => (setD_at (a2 t ht)).symm]
    exact congrArg some (congrArg (fun e => St.mk e g) (setD_comm u v2 a3).symm)
def comm (chk : List (Nat × Nat)) (x y : POp) : Bool := envApart x y && (x.op.kind == 0 || y.op.kind == 0 ||
  (decide (x.op.kind ≤ 1) && decide (y.op.kind ≤ 1) && x.op.okc && y.op.okc && (match x.op.newId with | some i => decide (y.op.newId ≠ some i) | none => true)) ||
  (match ldP x, stP y with | some l, some s => chk.contains (s, l) | _, _ => false) || (match stP x, ldP y with | some s, some l => chk.contains (s, l) | _, _ => false))
def ptrT (p : POp) : Option Nat := match ldP p with
  | some l => some l
  | none => stP p
theorem swap {f : Fr} {nt : Nat} {call : Call} {chk : List (Nat × Nat)} {x y : POp} {st s1 s2 : St} (hr : Real f nt st) (hc : comm chk x y = true)
    (ha : ∀ s l, (s, l) ∈ chk → (ptrT x = some s ∧ ptrT y = some l ∨ ptrT x = some l ∧ ptrT y = some s) → apartV (st.env s) (st.env l) = true)
    (h1 : x.ev call st = some s1) (h2 : y.ev call s1 = some s2) : ∃ s3, y.ev call st = some s3 ∧ x.ev call s3 = some s2 := by
  simp only [comm, Bool.and_eq_true, Bool.or_eq_true, beq_iff_eq, decide_eq_true_eq] at hc
  obtain ⟨hap, hc⟩ := hc
  have pl : ∀ {p : POp} {l : Nat}, ldP p = some l → ptrT p = some l := fun h => by unfold ptrT; rw [h]
  have ps : ∀ {p : POp} {s : Nat}, stP p = some s → ptrT p = some s := fun {p s} h => by
    obtain ⟨sz, v, h1, h2⟩ := stP_spec h
    have : ldP p = none := by unfold ldP; rw [h1]
    unfold ptrT; rw [this]; exact h
  rcases hc with ((((hc | hc) | hc) | hc) | hc)
  · exact swap_pure1 hc hap h1 h2
  · exact swap_pure2 hc hap h1 h2
  · obtain ⟨⟨⟨⟨k1, k2⟩, k3⟩, k4⟩, k5⟩ := hc
    refine swap_grow k1 k2 hap (hr.closed k3) (hr.closed k4) (fun i hi => ?_) h1 h2
    rw [hi] at k5
    simpa using k5
  · split at hc
    · rename_i l s hl hs
      simp only [List.contains_iff_mem] at hc
      exact swap_ldst hl hs hap (ha s l hc (.inr ⟨pl hl, ps hs⟩)) h1 h2
    · cases hc
  · split at hc
    · rename_i s l hs hl
      simp only [List.contains_iff_mem] at hc
      exact swap_stld hs hl hap (ha s l hc (.inl ⟨ps hs, pl hl⟩)) h1 h2
    · cases hc
theorem ptrT_reads {p : POp} {t : Nat} (h : ptrT p = some t) : t ∈ p.reads := by
  unfold ptrT at h
  split at h
  · rename_i l hl
    cases h
    obtain ⟨ag, sz, h1, h2⟩ := ldP_spec hl
    simp [POp.reads, h1, PO.reads, PO.ats, At.tmps]
  · obtain ⟨sz, v, h1, h2⟩ := stP_spec h
    simp [POp.reads, h1, PO.reads, PO.ats, At.tmps]
def wfL : List POp → Bool
  | [] => true
  | p :: l => (match ptrT p with | some t => (p :: l).all fun q => decide (q.dst ≠ some t) | none => true) && wfL l
theorem wfL_sub {l m : List POp} (h : l.Sublist m) : wfL m = true → wfL l = true := by
  induction h with
  | slnil => exact fun h => h
  | cons p h ih =>
    intro hm
    simp only [wfL, Bool.and_eq_true] at hm
    exact ih hm.2
  | cons_cons p h ih =>
    intro hm
    simp only [wfL, Bool.and_eq_true] at hm ⊢
    refine ⟨?_, ih hm.2⟩
    split
    · rename_i t ht
      rw [ht] at hm
      simp only [List.all_eq_true, List.mem_cons] at hm ⊢
      intro q hq
      exact hm.1 q (hq.imp id (h.subset ·))
    · rfl
theorem evs_env {call : Call} {t : Nat} : ∀ {l : List POp} {st stf : St}, evs call l st = some stf → (∀ p ∈ l, p.dst ≠ some t) → stf.env t = st.env t := by
  intro l
  induction l with
  | nil => intro st stf h _; cases h; rfl
  | cons p l ih =>
    intro st stf h hd
    simp only [evs, Option.bind_eq_some_iff] at h
    obtain ⟨s1, h1, h2⟩ := h
    obtain ⟨v, h', rfl, _⟩ := POp.ev_at h1
    rw [ih h2 fun p hp => hd p (List.mem_cons_of_mem _ hp)]
    exact setD_at (hd p List.mem_cons_self)
theorem apartL_mem {e : Nat → AV} : ∀ {chk : List (Nat × Nat)}, apartL e chk = true → ∀ s l, (s, l) ∈ chk → apartV (e s) (e l) = true
  | [], _, s, l, h => by cases h
  | (s', l') :: r, h, s, l, hm => by
    simp only [apartL, Bool.and_eq_true] at h
    rcases List.mem_cons.1 hm with e | hm
    · cases e; exact h.1
    · exact apartL_mem h.2 s l hm
theorem move_front {f : Fr} {nt : Nat} {call : Call} {chk : List (Nat × Nat)} {y : POp} {post : List POp} : ∀ {pre : List POp} {st stf : St}, (∀ p ∈ pre, ∀ st st', Real f nt st → p.ev call st = some st' → Real f nt st') →
    Real f nt st → wfL (pre ++ y :: post) = true → (∀ x ∈ pre, comm chk x y = true) → apartL stf.env chk = true → evs call (pre ++ y :: post) st = some stf → evs call (y :: (pre ++ post)) st = some stf := by
  intro pre
  induction pre with
  | nil => intro st stf _ _ _ _ _ h; exact h
  | cons x pre ih =>
    intro st stf hstep hr hwf hcm hap hev
    have hev0 := hev
    simp only [List.cons_append, evs, Option.bind_eq_some_iff] at hev
    obtain ⟨s1, h1, h2⟩ := hev
    have hr1 := hstep x List.mem_cons_self _ _ hr h1
    have h3 := ih (fun p hp => hstep p (List.mem_cons_of_mem _ hp)) hr1 (wfL_sub (List.sublist_cons_self _ _) hwf) (fun z hz => hcm z (List.mem_cons_of_mem _ hz)) hap h2
    simp only [evs, Option.bind_eq_some_iff] at h3
    obtain ⟨s2, h4, h5⟩ := h3
    have hxy := hcm x List.mem_cons_self
    -- pointers are as they are at the end
    have px : ∀ t, ptrT x = some t → stf.env t = st.env t := by
      intro t ht
      refine evs_env hev0 fun p hp => ?_
      simp only [List.cons_append, wfL, ht, Bool.and_eq_true, List.all_eq_true, decide_eq_true_eq] at hwf
      exact hwf.1 p hp
    have py : ∀ t, ptrT y = some t → stf.env t = st.env t := by
      intro t ht
      refine evs_env hev0 fun p hp => ?_
      rcases List.mem_append.1 hp with hp | hp
      · have := hcm p hp
        simp only [comm, Bool.and_eq_true] at this
        exact (envApart_spec this.1).1 t (ptrT_reads ht)
      · have := wfL_sub (List.sublist_append_right (x :: pre) (y :: post)) hwf
        simp only [wfL, ht, Bool.and_eq_true, List.all_eq_true, decide_eq_true_eq] at this
        exact this.1 p hp
    obtain ⟨s3, h6, h7⟩ := swap hr hxy (fun s l hm hh => by
      have := apartL_mem hap s l hm
      rcases hh with ⟨e1, e2⟩ | ⟨e1, e2⟩
      · rwa [px _ e1, py _ e2] at this
      · rwa [py _ e2, px _ e1] at this) h1 h4
    simp only [evs, List.cons_append, h6, h7, Option.bind_some]
    exact h5
end Go.Pe
set_option linter.unusedVariables false
set_option linter.unusedSimpArgs false
namespace Go.Pe
open Go
def preds (o : Oper) : List Nat := (o.after.toList.filter (Region.binds .any)).map (·.on)
def maskOf (M : List Nat) (ps : List Nat) : Nat := ps.foldl (fun m p => m ||| (1 <<< p) ||| M.getD p 0) 0
def ancs (os : List Oper) : List Nat := os.foldl (fun M o => M ++ [maskOf M (preds o)]) []
theorem maskOf_bit {M : List Nat} {j : Nat} : ∀ {ps : List Nat} {m : Nat}, (ps.foldl (fun m p => m ||| (1 <<< p) ||| M.getD p 0) m).testBit j = true → m.testBit j = true ∨ ∃ p ∈ ps, p = j ∨ (M.getD p 0).testBit j = true := by
  intro ps
  induction ps with
  | nil => intro m h; exact .inl h
  | cons p ps ih =>
    intro m h
    rcases ih h with h | ⟨q, hq, h⟩
    · rw [Nat.testBit_or, Nat.testBit_or, Bool.or_eq_true, Bool.or_eq_true] at h
      rcases h with ((h | h) | h)
      · exact .inl h
      · rw [Nat.one_shiftLeft, Nat.testBit_two_pow] at h
        exact .inr ⟨p, List.mem_cons_self, .inl (of_decide_eq_true h)⟩
      · exact .inr ⟨p, List.mem_cons_self, .inr h⟩
    · exact .inr ⟨q, List.mem_cons_of_mem _ hq, h⟩
def drawOk (chk : List (Nat × Nat)) (os : List Oper) (ps : List POp) : Bool :=
  wfL ps && (List.range os.length).all fun i => match os[i]?, ps[i]? with
    | some o, some p => (preds o).all (fun q => decide (q < i)) && decide ((ancs os).getD i 0 = maskOf (ancs os) (preds o)) && (List.range i).all fun j => ((ancs os).getD i 0).testBit j || (match ps[j]? with | some x => comm chk x p | none => false)
    | _, _ => false
theorem drawOk_spec {chk : List (Nat × Nat)} {os : List Oper} {ps : List POp} (h : drawOk chk os ps = true) : wfL ps = true ∧ ∀ (i : Nat) o p, os[i]? = some o → ps[i]? = some p → (∀ q ∈ preds o, q < i) ∧ (ancs os).getD i 0 = maskOf (ancs os) (preds o) ∧ ∀ (j : Nat) x, j < i → ps[j]? = some x → ((ancs os).getD i 0).testBit j = true ∨ comm chk x p = true := by
  simp only [drawOk, Bool.and_eq_true, List.all_eq_true, List.mem_range] at h
  refine ⟨h.1, fun i o p ho hp => ?_⟩
  have := h.2 i (List.getElem?_eq_some_iff.1 ho).1
  rw [ho, hp] at this
  simp only [Bool.and_eq_true, List.all_eq_true, decide_eq_true_eq, List.mem_range, Bool.or_eq_true] at this
  refine ⟨this.1.1, this.1.2, fun j x hj hx => ?_⟩
  have := this.2 j hj
  rw [hx] at this
  exact this
section
variable {P : Program} {F : Fns} {f : Fr} {nt : Nat}
def DownC (ops : Array Oper) (listed : Array Bool) : Prop := ∀ (i : Nat) o, ops[i]? = some o → listed.getD i true = true → ∀ q ∈ preds o, listed.getD q false = true
theorem anc_listed {ops : Array Oper} {listed : Array Bool} (hd : DownC ops listed) (hM : ∀ (i : Nat) o, ops[i]? = some o → (∀ q ∈ preds o, q < i) ∧ (ancs ops.toList).getD i 0 = maskOf (ancs ops.toList) (preds o)) : ∀ (n i : Nat) o, i ≤ n → ops[i]? = some o → (∀ q ∈ preds o, listed.getD q false = true) → ∀ j, ((ancs ops.toList).getD i 0).testBit j = true → listed.getD j false = true := by
  intro n
  induction n with
  | zero =>
    intro i o hi ho hp j hj
    obtain ⟨h1, h2⟩ := hM i o ho
    rw [h2] at hj
    rcases maskOf_bit hj with h | ⟨p, hp', h⟩
    · simp at h
    · have := h1 p hp'; omega
  | succ n ih =>
    intro i o hi ho hp j hj
    obtain ⟨h1, h2⟩ := hM i o ho
    rw [h2] at hj
    rcases maskOf_bit hj with h | ⟨p, hp', h⟩
    · simp at h
    · rcases h with rfl | h
      · exact hp _ hp'
      · have hlt := h1 p hp'
        have hps : p < ops.size := Nat.lt_trans hlt (Array.getElem?_eq_some_iff.1 ho).1
        have hpo : ops[p]? = some ops[p] := Array.getElem?_eq_getElem hps
        refine ih p _ (by omega) hpo (fun q hq => hd p _ hpo ?_ q hq) j h
        have := hp p hp'
        rcases Nat.lt_or_ge p listed.size with h' | h'
        · simp [h'] at this ⊢; exact this
        · simp [h'] at this
def pick (ps : List POp) (l : List Nat) : List POp := l.map fun i => ps.getD i ⟨none, .mv (.c .junk), none⟩
theorem pick_sublist {ps : List POp} : ∀ {l : List Nat} (k : Nat), l.Sublist (List.range' k (ps.length - k)) → k ≤ ps.length → (pick ps l).Sublist (ps.drop k) := by
  intro l k h hk
  have : ps.drop k = pick ps (List.range' k (ps.length - k)) := by
    apply List.ext_getElem?
    intro i
    simp only [pick, List.getElem?_map, List.getElem?_drop, List.getElem?_range']
    by_cases hi : i < ps.length - k
    · simp [hi, List.getD_eq_getElem?_getD, List.getElem?_eq_getElem (show k + i < ps.length by omega)]
    · simp [hi, List.getElem?_eq_none (show ps.length ≤ k + i by omega)]
  rw [this]
  exact h.map _
theorem region_any {ops : Array Oper} {ps : List POp} {chk : List (Nat × Nat)} (hm : mposL P F f.tabs nt ops ops.toList ps = true) (hdr : drawOk chk ops.toList ps = true) {call : Call} (hc : CallsOk P F f.tabs call) (Q : Exit → Act → World → Prop) {stf : St} (hQ : ∀ a w, Sim f nt w stf a → Q .normal a w) (hchk : apartL stf.env chk = true) :
    ∀ (fuel : Nat) (rest : List Nat) (listed : Array Bool) (st : St) (a : Act) (w : World), rest.length = fuel → rest.Sublist (List.range ps.length) → listed.size = ops.size → (∀ i, i < ps.length → (i ∈ rest ↔ listed.getD i true = false)) → DownC ops listed → Sim f nt w st a → evs call (pick ps rest) st = some stf →
      wpAny P .any ops Q fuel listed a w := by
  obtain ⟨hl, hg⟩ := mposL_get hm
  obtain ⟨hwf, hok⟩ := drawOk_spec hdr
  have hsz : ops.size = ps.length := by rw [← hl]; simp
  have hgo : ∀ i, i < ps.length → ∃ o p, ops[i]? = some o ∧ ops.toList[i]? = some o ∧ ps[i]? = some p ∧ ps.getD i ⟨none, .mv (.c .junk), none⟩ = p ∧ mpo P F f.tabs nt ops o p = true := by
    intro i hi
    have h1 : ps[i]? = some ps[i] := List.getElem?_eq_getElem hi
    have h2 : i < ops.toList.length := by rw [hl]; exact hi
    have h3 : ops.toList[i]? = some ops.toList[i] := List.getElem?_eq_getElem h2
    exact ⟨_, _, by rw [← Array.getElem?_toList]; exact h3, h3, h1, by simp [hi], hg i _ _ h3 h1⟩
  have hM : ∀ (i : Nat) o, ops[i]? = some o → (∀ q ∈ preds o, q < i) ∧ (ancs ops.toList).getD i 0 = maskOf (ancs ops.toList) (preds o) := by
    intro i o ho
    have hi : i < ps.length := by rw [← hsz]; exact (Array.getElem?_eq_some_iff.1 ho).1
    obtain ⟨o', p, h1, h2, h3, h4, h5⟩ := hgo i hi
    rw [ho] at h1
    cases h1
    obtain ⟨a1, a2, a3⟩ := hok i o p h2 h3
    exact ⟨a1, a2⟩
  intro fuel
  induction fuel with
  | zero =>
    intro rest listed st a w hlen hsub hls hmem hdn hs hev
    have hnil : rest = [] := List.eq_nil_of_length_eq_zero hlen
    subst hnil
    cases hev
    refine ⟨?_, hQ a w hs⟩
    rw [List.eq_nil_iff_forall_not_mem]
    intro i hi
    obtain ⟨h0, o, ho, _⟩ := mem_ready.1 hi
    have hi' : i < ps.length := by rw [← hsz]; exact (Array.getElem?_eq_some_iff.1 ho).1
    have := (hmem i hi').2 h0
    cases this
  | succ fuel ih =>
    intro rest listed st a w hlen hsub hls hmem hdn hs hev
    refine ⟨fun hn => ?_, fun i hi => ?_⟩
    · -- the first that is left may come up
      exfalso
      cases rest with
      | nil => simp at hlen
      | cons i rest =>
        have hi' : i < ps.length := List.mem_range.1 (hsub.subset List.mem_cons_self)
        have h0 := (hmem i hi').1 List.mem_cons_self
        obtain ⟨o, p, h1, h2, h3, h4, h5⟩ := hgo i hi'
        have hord : ∀ q, q < i → q ∉ rest := by
          intro q hq hqr
          have hs2 : (i :: rest).Pairwise (· < ·) := List.Pairwise.sublist hsub List.pairwise_lt_range
          have := (List.pairwise_cons.1 hs2).1 q hqr
          omega
        have : i ∈ Region.ready .any ops listed := by
          refine mem_ready.2 ⟨h0, o, h1, fun e he hb => ?_⟩
          have hq : e.on ∈ preds o := List.mem_map.2 ⟨e, List.mem_filter.2 ⟨by simpa using he, hb⟩, rfl⟩
          have hlt := (hM i o h1).1 _ hq
          have hne : ¬ e.on ∈ i :: rest := by
            intro h
            rcases List.mem_cons.1 h with h | h
            · omega
            · exact hord _ hlt h
          have := fun h => hne ((hmem e.on (by omega)).2 h)
          have hls' : e.on < listed.size := by omega
          simp [hls'] at this ⊢
          exact this
        rw [hn] at this
        cases this
    · obtain ⟨h0, o, ho, hall⟩ := mem_ready.1 hi
      have hi' : i < ps.length := by rw [← hsz]; exact (Array.getElem?_eq_some_iff.1 ho).1
      obtain ⟨o', p, h1, h2, h3, h4, h5⟩ := hgo i hi'
      rw [ho] at h1
      cases h1
      have hpred : ∀ q ∈ preds o, listed.getD q false = true := by
        intro q hq
        obtain ⟨e, he, rfl⟩ := List.mem_map.1 hq
        obtain ⟨h6, h7⟩ := List.mem_filter.1 he
        exact hall e (by simpa using h6) h7
      obtain ⟨pre, post, rfl⟩ := List.append_of_mem ((hmem i hi').2 h0)
      have hpair : (pre ++ i :: post).Pairwise (· < ·) := List.Pairwise.sublist hsub List.pairwise_lt_range
      have hev2 : evs call (pick ps pre ++ p :: pick ps post) st = some stf := by
        have : pick ps (pre ++ i :: post) = pick ps pre ++ p :: pick ps post := by simp only [pick, List.map_append, List.map_cons, h4]
        rw [← this]; exact hev
      have hsub2 : (pick ps pre ++ p :: pick ps post).Sublist ps := by
        have : pick ps (pre ++ i :: post) = pick ps pre ++ p :: pick ps post := by simp only [pick, List.map_append, List.map_cons, h4]
        rw [← this]
        have := pick_sublist (ps := ps) (l := pre ++ i :: post) 0 (by rw [Nat.sub_zero, ← List.range_eq_range']; exact hsub) (Nat.zero_le _)
        simpa using this
      have hfront := move_front (f := f) (nt := nt) (call := call) (chk := chk) (y := p) (post := pick ps post) (pre := pick ps pre) (st := st) (stf := stf)
        (fun q hq s s' hr hv => by
          obtain ⟨j, hj, rfl⟩ := List.mem_map.1 hq
          have hj' : j < ps.length := List.mem_range.1 (hsub.subset (List.mem_append.2 (.inl hj)))
          obtain ⟨o2, p2, _, _, _, b4, b5⟩ := hgo j hj'
          rw [b4] at hv
          exact hr.step b5 hc hv)
        ⟨w, a, hs⟩ (wfL_sub hsub2 hwf)
        (fun x hx => by
          obtain ⟨j, hj, rfl⟩ := List.mem_map.1 hx
          have hj' : j < ps.length := List.mem_range.1 (hsub.subset (List.mem_append.2 (.inl hj)))
          have hji : j < i := (List.pairwise_append.1 hpair).2.2 j hj i List.mem_cons_self
          obtain ⟨o2, p2, _, _, b3, b4, b5⟩ := hgo j hj'
          rw [b4]
          rcases (hok i o p h2 h3).2.2 j p2 hji b3 with h | h
          · exfalso
            have h6 := anc_listed hdn hM i i o (Nat.le_refl _) ho hpred j h
            have h7 := (hmem j hj').1 (List.mem_append.2 (.inl hj))
            have hls' : j < listed.size := by omega
            simp [hls'] at h6 h7
            rw [h6] at h7
            cases h7
          · exact h)
        hchk hev2
      simp only [evs, Option.bind_eq_some_iff] at hfront
      obtain ⟨s1, h6, h7⟩ := hfront
      have hnext : ∀ a' w', Sim f nt w' s1 a' → wpAny P .any ops Q fuel (listed.setIfInBounds i true) a' w' := by
        intro a' w' hs'
        have hni : i ∉ pre ∧ i ∉ post := by
          obtain ⟨q1, q2, q3⟩ := List.pairwise_append.1 hpair
          refine ⟨fun h => ?_, fun h => ?_⟩
          · exact absurd (q3 i h i List.mem_cons_self) (Nat.lt_irrefl _)
          · exact absurd ((List.pairwise_cons.1 q2).1 i h) (Nat.lt_irrefl _)
        refine ih (pre ++ post) _ s1 a' w' ?_ (List.Sublist.trans ?_ hsub) (by simp [hls]) (fun j hj => ?_) (fun j oj hoj hlj q hq => ?_) hs' ?_
        · simp at hlen ⊢; omega
        · exact List.Sublist.append_left (List.sublist_cons_self _ _) _
        · by_cases hji : j = i
          · subst hji
            have : j < listed.size := by omega
            simp [this, hni]
          · rw [getD_set_ne true (fun h => hji h.symm), ← hmem j hj]
            simp [hji]
        · by_cases hji : j = i
          · subst hji
            rw [hoj] at ho
            cases ho
            exact getD_set_true (hpred q hq)
          · rw [getD_set_ne true (fun h => hji h.symm)] at hlj
            exact getD_set_true (hdn j oj hoj hlj q hq)
        · have : pick ps (pre ++ post) = pick ps pre ++ pick ps post := by simp only [pick, List.map_append]
          rw [this]; exact h7
      have := op_sim hs h5 hc h6 (wpAny P .any ops Q fuel (listed.setIfInBounds i true)) Q hnext
      unfold wpOp
      rw [ho]
      simp only
      split at this
      · rename_i hw; rw [if_pos hw]; exact .inl this
      · rename_i hw; rw [if_neg hw]; exact this
theorem Sim.old {w w' : World} {st : St} {a : Act} (h : Sim f nt w st a) (ho : Old w w') : Sim f nt w' st a := by
  obtain ⟨h1, h2, T, ρ, k, he⟩ := h
  exact ⟨h1, h2, T, ρ, k.old ho, he.goes (Goes.old ho)⟩
theorem region_draw {ops : Array Oper} {ps : List POp} {chk : List (Nat × Nat)} {id : Nat} (hmo : P.follows .mixedOrders = true) (hm : mposL P F f.tabs nt ops ops.toList ps = true) (hdr : drawOk chk ops.toList ps = true) {call : Call} (hc : CallsOk P F f.tabs call) (Q : Exit → Act → World → Prop) {st stf : St} {w : World} {a : Act}
    (hQ : ∀ a w, Sim f nt w stf a → Q .normal a w) (hchk : apartL stf.env chk = true) (hs : Sim f nt w st a) (hv : evs call ps st = some stf) : (Code.region id ops true).wp P Q a w := by
  have hl := (mposL_get hm).1
  have hsz : ops.size = ps.length := by rw [← hl]; simp
  refine wp_region_any hmo ?_
  refine region_any hm hdr hc Q hQ hchk ops.size (List.range ps.length) _ st a _ (by simp [hsz]) (List.Sublist.refl _) (by simp) (fun i hi => ?_) (fun i o ho hl q hq => ?_) (hs.old (Old.drew w)) ?_
  · have : i < ops.size := by omega
    simp [hi, this]
  · have : i < ops.size := (Array.getElem?_eq_some_iff.1 ho).1
    simp [this] at hl
  · have : pick ps (List.range ps.length) = ps := by
      apply List.ext_getElem?
      intro i
      simp only [pick, List.getElem?_map]
      by_cases hi : i < ps.length
      · simp [hi]
      · simp [hi, List.getElem?_eq_none (show ps.length ≤ i by omega)]
    rw [this]; exact hv
end
end Go.Pe
set_option linter.unusedVariables false
set_option linter.unusedSimpArgs false
namespace Go.Pe
open Go
def nodB : List Nat → Bool
  | [] => true
  | x :: l => !l.contains x && nodB l
theorem nodB_spec : ∀ {l : List Nat}, nodB l = true → l.Nodup
  | [], _ => List.nodup_nil
  | x :: l, h => by
    simp only [nodB, Bool.and_eq_true, Bool.not_eq_true', List.contains_eq_mem, decide_eq_false_iff_not] at h
    exact List.nodup_cons.2 ⟨h.1, nodB_spec h.2⟩
def listOk (lids : List Nat) (l : List (Nat × Nat)) : Bool := okL lids [] l && nodB (l.map idOf)
def toExit : Ex → Exit
  | .normal => .normal
  | .exit i => .exit i
  | .ret => .ret
def mt (P : Program) (F : Fns) (tabs : List (Nat × List AV)) (lids : List Nat) (nt : Nat) : PC → Code → Bool
  | .skip, .skip => true
  | .reg chk ps, .region _ ops draw => mposL P F tabs nt ops ops.toList ps && (!draw || drawOk chk ops.toList ps)
  | .seq x y, .seq c d => mt P F tabs lids nt x c && mt P F tabs lids nt y d
  | .cond b x y, .cond b' c d => ma tabs b' b && mt P F tabs lids nt x c && mt P F tabs lids nt y d
  | .block i x, .block j c => i == j && mt P F tabs lids nt x c
  | .loop live out x, .loop c => listOk lids live && listOk lids out && mt P F tabs lids nt x c
  | .join out x, c => listOk lids out && mt P F tabs lids nt x c
  | .exit i, .exit j => i == j
  | .ret, .ret => true
  | _, _ => false
section
variable {P : Program} {F : Fns} {f : Fr} {nt : Nat}
theorem canon_sim {w : World} {st : St} {a : Act} (hs : Sim f nt w st a) {l : List (Nat × Nat)} (hl : listOk f.lids l = true) {vs : List AV} (hp : pack st.env [] st.h l = some vs) : Sim f nt w (un l vs) a := by
  simp only [listOk, Bool.and_eq_true] at hl
  obtain ⟨h1, h2, T, ρ, k, he⟩ := hs
  obtain ⟨T', ρ', k', e', _⟩ := canon k he hl.1 (nodB_spec hl.2) hp
  exact ⟨h1, h2, T', ρ', k', e'⟩
def LoopsOk (P : Program) (F : Fns) (f : Fr) (nt : Nat) (lp : List (Nat × Nat) → List (Nat × Nat) → PC → List AV → Option (Ex × List AV)) : Prop :=
  ∀ live out x c vs ex outs, listOk f.lids live = true → listOk f.lids out = true → mt P F f.tabs f.lids nt x c = true → lp live out x vs = some (ex, outs) →
    ∀ (w : World) (a : Act) (Q : Exit → Act → World → Prop), Sim f nt w (un live vs) a → (∀ a' w', Sim f nt w' (un out outs) a' → Q (toExit ex) a' w') → (Code.loop c).wp P Q a w
theorem pc_sound (hmo : P.follows .mixedOrders = true) {call : Call} (hc : CallsOk P F f.tabs call) {lp : List (Nat × Nat) → List (Nat × Nat) → PC → List AV → Option (Ex × List AV)} (hlp : LoopsOk P F f nt lp) :
    ∀ (x : PC) (c : Code), mt P F f.tabs f.lids nt x c = true → ∀ (st : St) (ex : Ex) (st' : St), PC.ev call lp x st = some (ex, st') →
      ∀ (w : World) (a : Act) (Q : Exit → Act → World → Prop), Sim f nt w st a → (∀ a' w', Sim f nt w' st' a' → Q (toExit ex) a' w') → c.wp P Q a w := by
  intro x
  induction x with
  | skip =>
    intro c hm st ex st' hv w a Q hs hQ
    cases c <;> simp only [mt] at hm <;> try (cases hm; done)
    simp only [PC.ev] at hv
    cases hv
    exact wp_skip (hQ a w hs)
  | ret =>
    intro c hm st ex st' hv w a Q hs hQ
    cases c <;> simp only [mt] at hm <;> try (cases hm; done)
    simp only [PC.ev] at hv
    cases hv
    exact wp_ret (hQ a w hs)
  | exit i =>
    intro c hm st ex st' hv w a Q hs hQ
    cases c <;> simp only [mt] at hm <;> try (cases hm; done)
    simp only [beq_iff_eq] at hm
    subst hm
    simp only [PC.ev] at hv
    cases hv
    exact wp_exit (hQ a w hs)
  | reg chk ps =>
    intro c hm st ex st' hv w a Q hs hQ
    cases c <;> simp only [mt] at hm <;> try (cases hm; done)
    rename_i id ops draw
    simp only [Bool.and_eq_true, Bool.or_eq_true, Bool.not_eq_true'] at hm
    simp only [PC.ev, Option.bind_eq_some_iff] at hv
    obtain ⟨s1, h1, h2⟩ := hv
    split at h2
    · rename_i hap
      cases h2
      cases draw with
      | false => exact region_seq hm.1 hc Q (fun a w hs => hQ a w hs) hs h1
      | true => exact region_draw hmo hm.1 (by simpa using hm.2) hc Q (fun a w hs => hQ a w hs) hap hs h1
    · cases h2
  | seq x y hx hy =>
    intro c hm st ex st' hv w a Q hs hQ
    cases c <;> simp only [mt] at hm <;> try (cases hm; done)
    simp only [Bool.and_eq_true] at hm
    simp only [PC.ev, Option.bind_eq_some_iff] at hv
    obtain ⟨⟨e1, s1⟩, h1, h2⟩ := hv
    refine wp_seq (hx _ hm.1 st e1 s1 h1 w a _ hs fun a' w' hs' => ?_)
    cases e1 with
    | normal => exact hy _ hm.2 s1 ex st' h2 w' a' Q hs' hQ
    | exit i => cases h2; exact hQ a' w' hs'
    | ret => cases h2; exact hQ a' w' hs'
  | cond b x y hx hy =>
    intro c hm st ex st' hv w a Q hs hQ
    cases c <;> simp only [mt] at hm <;> try (cases hm; done)
    simp only [Bool.and_eq_true] at hm
    obtain ⟨⟨hb, hmx⟩, hmy⟩ := hm
    simp only [PC.ev] at hv
    split at hv
    · rename_i q hq
      have hs0 := hs
      obtain ⟨_, _, T, ρ, k, he⟩ := hs0
      have := ma_rv k he hb
      rw [hq] at this
      refine wp_cond (inv_b this) ?_
      cases q with
      | true => exact hx _ hmx st ex st' hv w a Q hs hQ
      | false => exact hy _ hmy st ex st' hv w a Q hs hQ
    · cases hv
  | block i x hx =>
    intro c hm st ex st' hv w a Q hs hQ
    cases c <;> simp only [mt] at hm <;> try (cases hm; done)
    simp only [Bool.and_eq_true, beq_iff_eq] at hm
    obtain ⟨rfl, hm⟩ := hm
    simp only [PC.ev, Option.map_eq_some_iff] at hv
    obtain ⟨⟨e1, s1⟩, h1, h2⟩ := hv
    refine wp_block (hx _ hm st e1 s1 h1 w a _ hs fun a' w' hs' => ?_)
    cases e1 with
    | normal => cases h2; exact hQ a' w' hs'
    | ret => cases h2; exact hQ a' w' hs'
    | exit j =>
      show if j = i then Q .normal a' w' else Q (.exit j) a' w'
      simp only at h2
      split at h2
      · rename_i hj; rw [if_pos hj]; cases h2; exact hQ a' w' hs'
      · rename_i hj; rw [if_neg hj]; cases h2; exact hQ a' w' hs'
  | loop live out x hx =>
    intro c hm st ex st' hv w a Q hs hQ
    cases c <;> simp only [mt] at hm <;> try (cases hm; done)
    simp only [Bool.and_eq_true] at hm
    obtain ⟨⟨hl, ho⟩, hm⟩ := hm
    simp only [PC.ev, Option.bind_eq_some_iff, Option.map_eq_some_iff] at hv
    obtain ⟨vs, h1, ⟨e1, outs⟩, h2, h3⟩ := hv
    cases h3
    exact hlp live out x _ vs e1 outs hl ho hm h2 w a Q (canon_sim hs hl h1) hQ
  | join out x hx =>
    intro c hm st ex st' hv w a Q hs hQ
    simp only [mt, Bool.and_eq_true] at hm
    simp only [PC.ev, Option.bind_eq_some_iff, Option.map_eq_some_iff] at hv
    obtain ⟨⟨e1, s1⟩, h1, vs, h2, h3⟩ := hv
    cases h3
    exact hx c hm.2 st e1 s1 h1 w a Q hs fun a' w' hs' => hQ a' w' (canon_sim hs' hm.1 h2)
theorem loops_ok (hmo : P.follows .mixedOrders = true) {call : Call} (hc : CallsOk P F f.tabs call) : ∀ n k, k ≤ n → LoopsOk P F f nt (loopF call k) := by
  intro n
  induction n with
  | zero =>
    intro k hk live out x c vs ex outs _ _ _ hv
    have : k = 0 := by omega
    subst this
    cases hv
  | succ n ih =>
    intro k hk live out x c vs ex outs hl ho hm hv w a Q hs hQ
    refine wp_loop_ghost (fun j a w => j ≤ k ∧ ∃ vs, loopF call j live out x vs = some (ex, outs) ∧ Sim f nt w (un live vs) a) k ⟨Nat.le_refl _, vs, hv, hs⟩ ?_
    rintro j a w ⟨hj, vs, hv, hs⟩
    cases j with
    | zero => cases hv
    | succ j =>
      simp only [loopF, Option.bind_eq_some_iff] at hv
      obtain ⟨⟨e1, s1⟩, h1, h2⟩ := hv
      refine pc_sound hmo hc (ih j (by omega)) x c hm (un live vs) e1 s1 h1 w a _ hs fun a' w' hs' => ?_
      cases e1 with
      | normal =>
        simp only [round, Option.bind_eq_some_iff] at h2
        obtain ⟨vs', h3, h4⟩ := h2
        exact ⟨j, Nat.lt_succ_self j, by omega, vs', h4, canon_sim hs' hl h3⟩
      | exit i =>
        simp only [round, Option.map_eq_some_iff] at h2
        obtain ⟨vs', h3, h4⟩ := h2
        cases h4
        exact hQ a' w' (canon_sim hs' ho h3)
      | ret =>
        simp only [round, Option.map_eq_some_iff] at h2
        obtain ⟨vs', h3, h4⟩ := h2
        cases h4
        exact hQ a' w' (canon_sim hs' ho h3)
end
end Go.Pe
