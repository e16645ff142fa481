/- Proved: products of all numbers up to one, and the number of ways to take some of many (up to 60), are the reference's, for every input. No conditions. -/
import Derived.Test.YtkhclncjncdfaaaBWholeCounts3
import Derived.ChangeArms
import Derived.DataReads
import Derived.WideShapes
import Derived.Below
import Derived.Test.YtkhclncjncdfaaaRows
import Derived.WalkKit
import Derived.ProofKit
import Derived.OpenShut
import Derived.ShutString
import Derived.ChangeOld
import Derived.SizedLaws
set_option linter.unusedVariables false
set_option linter.unusedSimpArgs false
set_option linter.unusedVariables false
set_option linter.unusedSimpArgs false
namespace Go.Pe
open Go
inductive CK where
  | int (k : IntKind)
  | bool
  | str
  | sl (cs : List CK)
  deriving Inhabited
inductive Fit : CK → AV → Prop
  | int {k n} (h : (Lit.int k n).wf = true) : Fit (.int k) (.i k n)
  | bool {b} : Fit .bool (.b b)
  | str {s : ByteArray} (h : s.size ≤ maxLen) : Fit .str (.s s)
  | sl {cs es} (hl : es.length ≤ maxLen) (hz : ∀ j, j < es.length → (es.getD j []).length = cs.length) (hv : ∀ j c, j < es.length → c < cs.length → Fit (cs.getD c default) ((es.getD j []).getD c .junk)) : Fit (.sl cs) (.l cs.length es)
def fieldsOk (r : TypeId → List CK → Bool) (P : Program) : List Field → Nat → List CK → Bool
  | [], _, cs => cs.isEmpty
  | f :: fs, o, cs => decide (f.offset = o) && decide (P.cellsOf f.type ≤ cs.length) && r f.type (cs.take (P.cellsOf f.type)) && fieldsOk r P fs (o + P.cellsOf f.type) (cs.drop (P.cellsOf f.type))
def tyOk (P : Program) : Nat → TypeId → List CK → Bool
  | 0, _, _ => false
  | n + 1, t, cs => match P.underlying t, cs with
    | some .bool, [.bool] => true
    | some (.int k), [.int k'] => decide (k = k')
    | some .string, [.str] => true
    | some (.slice e), [.sl ds] => decide (P.cellsOf e = ds.length) && decide (0 < ds.length) && tyOk P n e ds
    | some (.struct fs), cs => decide (cs.length = P.cellsOf t) && fieldsOk (tyOk P n) P fs.toList 0 cs
    | _, _ => false
structure CellsRv (w : World) (ks : List CK) (acs : List AV) (cs : List Value) : Prop where
  l1 : acs.length = ks.length
  l2 : cs.length = ks.length
  fit : ∀ c, c < ks.length → Fit (ks.getD c default) (acs.getD c .junk)
  rv : ∀ c, c < ks.length → Rv w (fun _ => False) Rho.none (acs.getD c .junk) (cs.getD c undef) ∧ (cs.getD c undef).oneCell' = true
theorem CellsRv.one {w : World} {k : CK} {x : AV} {v : Value} (h1 : Fit k x) (h2 : Rv w (fun _ => False) Rho.none x v) (h3 : v.oneCell' = true) : CellsRv w [k] [x] [v] := by
  refine ⟨rfl, rfl, fun c hc => ?_, fun c hc => ?_⟩
  · cases c with
    | zero => exact h1
    | succ c => simp at hc
  · cases c with
    | zero => exact ⟨h2, h3⟩
    | succ c => simp at hc
theorem CellsRv.append {w : World} {k1 k2 : List CK} {a1 a2 : List AV} {c1 c2 : List Value} (x : CellsRv w k1 a1 c1) (y : CellsRv w k2 a2 c2) : CellsRv w (k1 ++ k2) (a1 ++ a2) (c1 ++ c2) := by
  have g : ∀ {α : Type} (l m : List α) (i : Nat) (d : α), (l ++ m).getD i d = if i < l.length then l.getD i d else m.getD (i - l.length) d := by
    intro α l m i d
    simp only [List.getD_eq_getElem?_getD, List.getElem?_append]
    split <;> rfl
  refine ⟨by simp [x.l1, y.l1], by simp [x.l2, y.l2], fun c hc => ?_, fun c hc => ?_⟩
  · rw [g, g, x.l1]
    rw [List.length_append] at hc
    split
    · rename_i h; exact x.fit c h
    · exact y.fit _ (by omega)
  · rw [g, g, x.l1, x.l2]
    rw [List.length_append] at hc
    split
    · rename_i h; exact x.rv c h
    · exact y.rv _ (by omega)
section
variable {H : Type} {enc : TypeId × Value → H} {P : Program} {w : World} {base : Nat} {spare : Nat → Bool} {held : Bool}
theorem fields_rv {fuel : Nat} {r : TypeId → List CK → Bool} (ih : ∀ t cs x ks, DataW.trod enc P w base spare held fuel t cs = some x → r t ks = true → ∃ acs, CellsRv w ks acs cs) {cs : List Value} : ∀ (fs : List Field) (o : Nat) (ks : List CK), fieldsOk r P fs o ks = true →
    (∀ f ∈ fs, ∃ y, DataW.trod enc P w base spare held fuel f.type ((cs.drop f.offset).take (P.cellsOf f.type)) = some y) → cs.length = o + ks.length → ∃ acs, CellsRv w ks acs (cs.drop o) := by
  intro fs
  induction fs with
  | nil =>
    intro o ks hf _ hl
    have : ks = [] := by simpa [fieldsOk] using hf
    subst this
    rw [List.drop_of_length_le (by simp at hl; omega)]
    exact ⟨[], rfl, rfl, fun c hc => (by cases hc), fun c hc => (by cases hc)⟩
  | cons f fs ihf =>
    intro o ks hf hy hl
    simp only [fieldsOk, Bool.and_eq_true, decide_eq_true_eq] at hf
    obtain ⟨⟨⟨h1, h2⟩, h3⟩, h4⟩ := hf
    obtain ⟨y, hy1⟩ := hy f List.mem_cons_self
    rw [h1] at hy1
    obtain ⟨a1, r1⟩ := ih _ _ _ _ hy1 h3
    obtain ⟨a2, r2⟩ := ihf _ _ h4 (fun f hf => hy f (List.mem_cons_of_mem _ hf)) (by rw [List.length_drop]; omega)
    have := r1.append r2
    rw [List.take_append_drop] at this
    refine ⟨a1 ++ a2, ?_⟩
    have e : (cs.drop o).take (P.cellsOf f.type) ++ cs.drop (o + P.cellsOf f.type) = cs.drop o := by
      rw [← List.drop_drop, List.take_append_drop]
    rw [e] at this
    exact this
theorem choose_list {α : Type} (d : α) {n : Nat} {Q : Nat → α → Prop} (h : ∀ j, j < n → ∃ x, Q j x) : ∃ l : List α, l.length = n ∧ ∀ j, j < n → Q j (l.getD j d) := by
  induction n with
  | zero => exact ⟨[], rfl, fun j hj => by cases hj⟩
  | succ n ih =>
    obtain ⟨l, h1, h2⟩ := ih fun j hj => h j (by omega)
    obtain ⟨x, hx⟩ := h n (by omega)
    refine ⟨l ++ [x], by simp [h1], fun j hj => ?_⟩
    rcases Nat.lt_or_ge j n with hlt | hge
    · rw [List.getD_eq_getElem?_getD, List.getElem?_append_left (by omega), ← List.getD_eq_getElem?_getD]
      exact h2 j hlt
    · have : j = n := by omega
      subst this
      rw [List.getD_eq_getElem?_getD, List.getElem?_append_right (by omega), h1, Nat.sub_self]
      exact hx
theorem cells?_each {a : Addr} {n : Nat} {l : List Value} (h : w.cells? base a n = some l) : l.length = n ∧ ∀ i, i < n → w.cell? (a.add i) = l[i]? := by
  unfold World.cells? at h
  split at h
  · exact ⟨by simpa using mapM_some_length h, fun i hi => by simpa using mapM_some_get h i i (by simp [hi])⟩
  · cases h
theorem spot_none {a : Addr} {v : Value} (h : w.cell? a = some v) : a.spot = none := by
  unfold World.cell? at h
  split at h
  · cases hs : a.spot with
    | none => rfl
    | some s => rw [hs] at h; simp at h
  · cases h
theorem cell_lt {a : Addr} {v : Value} (h : w.cell? a = some v) : a.block < w.heap.size := by
  unfold World.cell? at h
  split at h
  · rename_i c e fr hc
    exact (Array.getElem?_eq_some_iff.1 hc).1
  · cases h
theorem trod_rv : ∀ (fuel n : Nat) (t : TypeId) (cs : List Value) (x : DataW H × List MemPlace) (ks : List CK), DataW.trod enc P w base spare held fuel t cs = some x → tyOk P n t ks = true → ∃ acs, CellsRv w ks acs cs := by
  intro fuel
  induction fuel with
  | zero => intro n t cs x ks h; simp [DataW.trod] at h
  | succ fuel ih =>
    intro n t cs x ks h hty
    cases n with
    | zero => simp [tyOk] at hty
    | succ n =>
      have h0 := h
      unfold tyOk at hty
      split at hty
      · rename_i hu
        unfold DataW.trod at h
        rw [hu] at h
        split at h <;> simp_all
        exact ⟨_, .one .bool .b rfl⟩
      · rename_i k k' hu
        simp only [decide_eq_true_eq] at hty
        subst hty
        unfold DataW.trod at h
        rw [hu] at h
        split at h <;> simp_all
        obtain ⟨⟨rfl, hw⟩, _⟩ := h
        exact ⟨_, .one (.int hw) .i rfl⟩
      · rename_i hu
        unfold DataW.trod at h
        rw [hu] at h
        split at h <;> simp_all
        exact ⟨_, .one (.str h.1) .s rfl⟩
      · rename_i e ds hu
        simp only [Bool.and_eq_true, decide_eq_true_eq] at hty
        obtain ⟨⟨hz, hpos⟩, hty⟩ := hty
        rcases DataW.trod_slice hu h0 with ⟨rfl, _⟩ | ⟨a, len, cap, elems, rest, m, hm, rfl, _, hb, hl, hc, hlen, hel, _, _⟩
        · exact ⟨[.l ds.length []], .one (.sl (Nat.zero_le _) (fun j hj => by cases hj) (fun j c hj => by cases hj)) .lnil0 rfl⟩
        · have : m = fuel := by omega
          subst this
          rcases Nat.eq_zero_or_pos len with hz0 | hpos0
          · subst hz0
            exact ⟨[.l ds.length []], .one (.sl (Nat.zero_le _) (fun j hj => by cases hj) (fun j c hj => by cases hj)) (.lnil (fun h => by cases h) hc) rfl⟩
          · have each : ∀ i, i < len → ∃ acs, ∃ ci : List Value, CellsRv w ds acs ci ∧ ∀ c, c < ds.length → w.cell? ((a.add (i * ds.length)).add c) = ci[c]? := by
              intro i hi
              have h1 := hel i hi
              rw [hz] at h1
              have h2 : ∃ y, elems[i]? = some y := ⟨elems[i]'(by omega), List.getElem?_eq_getElem (by omega)⟩
              obtain ⟨y, hy⟩ := h2
              rw [hy, Option.bind_eq_some_iff] at h1
              obtain ⟨ci, h3, h4⟩ := h1
              obtain ⟨acs, h5⟩ := ih n e ci y ds h4 hty
              exact ⟨acs, ci, h5, (cells?_each h3).2⟩
            obtain ⟨es, hes, hq⟩ := choose_list (α := List AV) [] each
            have first : ∃ v, w.cell? ((a.add (0 * ds.length)).add 0) = some v := by
              obtain ⟨ci, h1, h2⟩ := hq 0 hpos0
              have h3 := h2 0 hpos
              rw [List.getElem?_eq_getElem (by rw [h1.l2]; exact hpos)] at h3
              exact ⟨_, h3⟩
            obtain ⟨v0, hv0⟩ := first
            have hsp := spot_none hv0
            rw [show (a.add (0 * ds.length)).add 0 = a by simp [Addr.add]] at hsp
            obtain ⟨ab, ao, asp⟩ := a
            simp only at hsp
            subst hsp
            have hlt := cell_lt hv0
            rw [add_at, add_at] at hlt
            have hcell : ∀ j c, j < es.length → c < ds.length → ∃ v, w.cell? ⟨ab, ao + j * ds.length + c, none⟩ = some v ∧ v.oneCell' = true ∧ Rv w (fun _ => False) Rho.none ((es.getD j []).getD c .junk) v := by
              intro j c hj hc'
              obtain ⟨ci, h1, h2⟩ := hq j (by omega)
              have h3 := h2 c hc'
              rw [add_at, add_at] at h3
              have h4 := h1.rv c hc'
              rw [List.getElem?_eq_getElem (by rw [h1.l2]; exact hc')] at h3
              have h5 : ci.getD c undef = ci[c]'(by rw [h1.l2]; exact hc') := by
                rw [List.getD_eq_getElem?_getD, List.getElem?_eq_getElem (by rw [h1.l2]; exact hc')]; rfl
              rw [h5] at h4
              exact ⟨_, h3, h4.2, h4.1⟩
            refine ⟨[.l ds.length es], .one (.sl (by omega) (fun j hj => ?_) (fun j c hj hc' => ?_)) ?_ rfl⟩
            · obtain ⟨ci, h1, h2⟩ := hq j (by omega)
              exact h1.l1
            · obtain ⟨ci, h1, h2⟩ := hq j (by omega)
              exact h1.fit c hc'
            · have := Rv.l (w := w) (T := fun _ => False) (ρ := Rho.none) (z := ds.length) (es := es) (b := ab) (base := ao) (cap := cap) (fun j c => (w.cell? ⟨ab, ao + j * ds.length + c, none⟩).getD undef) (fun h => h) hlt (by omega) hc
                (fun j hj => by
                  obtain ⟨ci, h1, h2⟩ := hq j (by omega)
                  exact h1.l1)
                (fun j c hj hc' => by
                  obtain ⟨v, h1, h2, h3⟩ := hcell j c hj hc'
                  rw [h1]
                  exact ⟨rfl, h2⟩)
                (fun j c hj hc' => by
                  obtain ⟨v, h1, h2, h3⟩ := hcell j c hj hc'
                  rw [h1]
                  exact h3)
              rw [hes] at this
              exact this
      · rename_i ks _ _ fs hu
        simp only [Bool.and_eq_true, decide_eq_true_eq] at hty
        obtain ⟨hl, hty⟩ := hty
        have h1 : cs.length = P.cellsOf t ∧ ∀ f ∈ fs.toList, ∃ y, DataW.trod enc P w base spare held fuel f.type ((cs.drop f.offset).take (P.cellsOf f.type)) = some y := by
          unfold DataW.trod at h
          rw [hu] at h
          simp only at h
          split at h
          · rename_i hcl
            simp only [Option.map_eq_some_iff] at h
            obtain ⟨ys, hys, _⟩ := h
            refine ⟨hcl, fun f hf => ?_⟩
            obtain ⟨i, hi, rfl⟩ := List.getElem_of_mem hf
            have h2 := mapM_some_get hys i _ (List.getElem?_eq_getElem hi)
            have h3 := mapM_some_length hys
            exact ⟨_, h2.trans (List.getElem?_eq_getElem (by omega))⟩
          · cases h
        obtain ⟨acs, h2⟩ := fields_rv (fun t cs x ks => ih n t cs x ks) fs.toList 0 ks hty h1.2 (by omega)
        rw [List.drop_zero] at h2
        exact ⟨acs, h2⟩
      · cases hty
end
end Go.Pe
set_option linter.unusedVariables false
set_option linter.unusedSimpArgs false
namespace Go.Pe
open Go
theorem Old.below {w w' : World} (h : Old w w') : RowKit.Below w.heap.size w w' := ⟨h.os, h.tape, h.output, h.size, h.block⟩
theorem law_calls {P : Program} {F : Fns} {C : Call} {tabs : List (Nat × List AV)} (hC : CallsOk P F tabs C) {g : Nat} {p : PF} (hg : F.1 g = some p) (hl : p.lent = []) (hk : ∀ x ∈ p.res, x.2 ≤ 1) {xs : List AV} {r : AV} (hr : C g xs = some r) {w : World} {vs : Array Value}
    (ht : ∀ q ∈ tabs, Rv w (fun _ => False) Rho.none (.tp q.2 0) (.pointer (some ⟨q.1, 0, none⟩))) (hvl : vs.size = xs.length) (hx : ∀ j, j < xs.length → Rv w (fun _ => False) Rho.none (xs.getD j .junk) (vs.getD j undef)) :
    Calls P (F.2 g) vs w fun e w' => ∃ v, e = .returned v ∧ Old w w' ∧ Rv w' (fun _ => False) Rho.none (demoteT r) v := by
  have hc := hC g p xs r hg hr
  rw [hl] at hc
  have k : WInv ⟨w, fun _ _ => False, fun _ => False, [], fun _ => ⟨0, 0, none⟩, tabs⟩ w (fun _ => False) Rho.none Heap.none :=
    ⟨Keeps.refl _ _, fun b hb => hb.elim, fun _ _ h => (by cases h), fun _ _ => rfl, fun _ _ _ _ _ h => (by cases h), fun _ _ _ _ _ h => (by cases h), fun b hb => hb.elim, fun _ h => (by cases h), fun _ _ _ _ _ _ h => (by cases h), fun b hb => hb.elim, fun _ h => (by cases h), ht⟩
  exact call_told k hk hc hvl hx
theorem law_true {P : Program} {F : Fns} {C : Call} {tabs : List (Nat × List AV)} (hC : CallsOk P F tabs C) {g : Nat} {p : PF} (hg : F.1 g = some p) (hl : p.lent = []) (hk : ∀ x ∈ p.res, x.2 ≤ 1) {xs : List AV} (hr : C g xs = some (.b true)) {w : World} {vs : Array Value}
    (ht : ∀ q ∈ tabs, Rv w (fun _ => False) Rho.none (.tp q.2 0) (.pointer (some ⟨q.1, 0, none⟩))) (hvl : vs.size = xs.length) (hx : ∀ j, j < xs.length → Rv w (fun _ => False) Rho.none (xs.getD j .junk) (vs.getD j undef)) :
    Calls P (F.2 g) vs w fun e w' => e = .returned (.bool true) ∧ RowKit.Below w.heap.size w w' := by
  refine (law_calls hC hg hl hk hr ht hvl hx).mono fun e w' hh => ?_
  obtain ⟨v, rfl, ho, hv⟩ := hh
  have h2 : Rv w' (fun _ => False) Rho.none (.b true) v := hv
  cases h2
  exact ⟨rfl, ho.below⟩
def isStr (P : Program) (t : TypeId) : Bool := match P.underlying t with
  | some (.struct _) => true
  | _ => false
theorem CellsRv.single {w : World} {ks : List CK} {acs : List AV} {v : Value} (h : CellsRv w ks acs [v]) : Rv w (fun _ => False) Rho.none (acs.getD 0 .junk) v := by
  have h2 := h.l2
  exact (h.rv 0 (by simp at h2; omega)).1
theorem arg_rv {H : Type} {enc : TypeId × Value → H} {P : Program} {w : World} {base b0 : Nat} {spare : Nat → Bool} {held : Bool} {r : Reach} {t : TypeId} {v : Value} {d : DataW H} {ps : List MemPlace} {n : Nat} {ks : List CK}
    (hval : Value.okWide P w r b0 t v) (hd : DataW.Trod enc P w base spare held t v d ps) (hty : tyOk P (n + 1) t ks = true) :
    ∃ acs : List AV, acs.length = ks.length ∧ (∀ c, c < ks.length → Fit (ks.getD c default) (acs.getD c .junk)) ∧ Rv w (fun _ => False) Rho.none (if isStr P t then .agg acs else acs.getD 0 .junk) v := by
  obtain ⟨fuel, hf⟩ := hd
  obtain ⟨acs, h⟩ := trod_rv fuel (n + 1) t _ _ ks hf hty
  refine ⟨acs, h.l1, h.fit, ?_⟩
  unfold tyOk at hty
  unfold isStr
  split at hty
  · rename_i hu
    obtain ⟨b, rfl⟩ := WideShapes.okWide_bool hu hval
    rw [hu]
    exact h.single
  · rename_i k k' hu
    obtain ⟨m, rfl⟩ := WideShapes.okWide_int hu hval
    rw [hu]
    exact h.single
  · rename_i hu
    obtain ⟨m, rfl⟩ := WideShapes.okWide_string hu hval
    rw [hu]
    exact h.single
  · rename_i e ds hu
    obtain ⟨a, len, cap, rfl⟩ := WideShapes.okWide_slice hu hval
    rw [hu]
    exact h.single
  · rename_i ks _ _ fs hu
    obtain ⟨cs, rfl, hcs⟩ := WideShapes.okWide_struct hu hval
    rw [hu]
    have h' : CellsRv w ks acs cs.toList := h
    refine .agg cs (by rw [h'.l1, ← h'.l2]; simp) (fun c hc => ?_) fun c hc => ?_
    · rw [toList_getD]; exact (h'.rv c (by rw [← h'.l1]; exact hc)).2
    · rw [toList_getD]; exact (h'.rv c (by rw [← h'.l1]; exact hc)).1
  · cases hty
theorem Fit.inv_int {k : IntKind} {x : AV} (h : Fit (.int k) x) : ∃ n, x = .i k n ∧ (Lit.int k n).wf = true := by cases h; exact ⟨_, rfl, by assumption⟩
end Go.Pe
set_option linter.unusedVariables false
set_option linter.unusedSimpArgs false
namespace Go.Pe
open Go
abbrev Fits (ks : List CK) (acs : List AV) : Prop := acs.length = ks.length ∧ ∀ c, c < ks.length → Fit (ks.getD c default) (acs.getD c .junk)
theorem Fits.one {k : CK} {acs : List AV} (h : Fits [k] acs) : ∃ x, acs = [x] ∧ Fit k x := by
  obtain ⟨h1, h2⟩ := h
  match acs, h1 with
  | [x], _ => exact ⟨x, rfl, h2 0 (by simp)⟩
theorem Fits.cons {k : CK} {ks : List CK} {acs : List AV} (h : Fits (k :: ks) acs) : ∃ x r, acs = x :: r ∧ Fit k x ∧ Fits ks r := by
  obtain ⟨h1, h2⟩ := h
  match acs, h1 with
  | x :: r, h1 => exact ⟨x, r, rfl, h2 0 (by simp), by simpa using h1, fun c hc => by simpa using h2 (c + 1) (by simpa using hc)⟩
theorem Fits.nil {acs : List AV} (h : Fits [] acs) : acs = [] := List.length_eq_zero_iff.1 h.1
theorem Fits.split {k1 k2 : List CK} {acs : List AV} (h : Fits (k1 ++ k2) acs) : ∃ a b, acs = a ++ b ∧ Fits k1 a ∧ Fits k2 b := by
  obtain ⟨h1, h2⟩ := h
  rw [List.length_append] at h1 h2
  refine ⟨acs.take k1.length, acs.drop k1.length, (List.take_append_drop _ _).symm, ⟨by rw [List.length_take]; omega, fun c hc => ?_⟩, ⟨by rw [List.length_drop]; omega, fun c hc => ?_⟩⟩
  · have := h2 c (by omega)
    rw [List.getD_eq_getElem?_getD, List.getElem?_append_left hc, ← List.getD_eq_getElem?_getD] at this
    rw [show (List.take k1.length acs).getD c AV.junk = acs.getD c AV.junk by rw [List.getD_eq_getElem?_getD, List.getElem?_take_of_lt hc, ← List.getD_eq_getElem?_getD]]
    exact this
  · have := h2 (k1.length + c) (by omega)
    rw [List.getD_eq_getElem?_getD, List.getElem?_append_right (by omega), ← List.getD_eq_getElem?_getD, Nat.add_sub_cancel_left] at this
    rw [show (List.drop k1.length acs).getD c AV.junk = acs.getD (k1.length + c) AV.junk by rw [List.getD_eq_getElem?_getD, List.getElem?_drop, ← List.getD_eq_getElem?_getD]]
    exact this
theorem open_int {x : AV} (h : Fit (.int .i64) x) : ∃ n : Int, x = .i .i64 n ∧ -9223372036854775808 ≤ n ∧ n ≤ 9223372036854775807 := by
  obtain ⟨n, rfl, hn⟩ := h.inv_int
  exact ⟨n, rfl, wf_i64 hn⟩
end Go.Pe
namespace Go.Proofs.Ytkhclncjncdfaaa.wholeCounts
open Go.Pe
open Go.ChangeShapes Go.WideShapes Go.ChangeAt Go.RowKit
set_option linter.unusedVariables false
theorem own : ownKnob Try.prog.godebug = none := by kernel_rfl
theorem laidOut : laidOutB Try.prog = true := by kernel_rfl
set_option maxRecDepth 100000 in
theorem lifted (os : Os) (started : os.Started) (H : Type) (enc : TypeId × Value → H) :
    ReturnsInHanded {} Try.checked os 8 .any (Rows.wholeCountsSpec.pre6 enc Try.prog Try.f8 Rows.wholeCountsRow.domain false) (Rows.wholeCountsSpec.post enc Try.prog Try.f8 false true false false) := by
  refine returnsInHanded_of_change_sized (C := Try.checked) own started (by kernel_rfl) Try.func8
    (ChangeSpec.witness6 (enc := enc) (C := Try.checked) false ⟨#[], #[.int .i64 0, .int .i64 0], []⟩ 8 (by kernel_rfl) (by kernel_rfl) (by kernel_rfl) (by kernel_rfl)) ?_
  intro W base args ds gs before hval0 hW hcnd hsz0 _
  have hval : ∀ (j : Nat) t v, Try.f8.params[j]? = some t → args[j]? = some v → Value.okWide Try.prog W .any base t v := hval0
  have hW' := hW
  obtain ⟨p, q, hA0, hV, rfl, hfz, hnd⟩ := hW
  have hA : DataW.TrodAll enc Try.prog W 0 (fun _ => true) true Try.f8.params.toList args.toList ds p := hA0
  rw [Try.params8] at hA hval
  obtain ⟨v0, vs0, d0, ds0, p0, q0, hargs, rfl, rfl, h0, r0⟩ := trodAll_cons hA
  obtain ⟨v1, vs1, d1, ds1, p1, q1, rfl, rfl, rfl, h1, r1⟩ := trodAll_cons r0
  obtain ⟨rfl, rfl, rfl⟩ := trodAll_nil r1
  obtain rfl : args = #[v0, v1] := by cases args; simp_all
  obtain ⟨rfl, rfl⟩ := trodVars_none hV
  have lt0 : ∀ x ∈ p0, x.block < W.heap.size := by obtain ⟨m, hm⟩ := h0; exact DataW.trod_lt m _ _ _ hm
  obtain ⟨acs0, la0, fa0, rv0⟩ := arg_rv (n := 12) (ks := [.int .i64]) (hval 0 3 v0 rfl rfl) h0 (by kernel_rfl)
  rw [show isStr Try.prog 3 = false by kernel_rfl] at rv0
  obtain ⟨y0, rfl, fy0⟩ := Fits.one ⟨la0, fa0⟩
  obtain ⟨x0, rfl, ok0⟩ := open_int fy0
  have lt1 : ∀ x ∈ p1, x.block < W.heap.size := by obtain ⟨m, hm⟩ := h1; exact DataW.trod_lt m _ _ _ hm
  obtain ⟨acs1, la1, fa1, rv1⟩ := arg_rv (n := 12) (ks := [.int .i64]) (hval 1 3 v1 rfl rfl) h1 (by kernel_rfl)
  rw [show isStr Try.prog 3 = false by kernel_rfl] at rv1
  obtain ⟨y1, rfl, fy1⟩ := Fits.one ⟨la1, fa1⟩
  obtain ⟨x1, rfl, ok1⟩ := open_int fy1
  clear hA0 hval0 hsz0
  have hlaw := law_WholeCounts x0 ok0 x1 ok1
  have hx : ∀ j, j < 2 → Rv W (fun _ => False) Rho.none ([AV.i .i64 x0, AV.i .i64 x1].getD j .junk) (#[v0, v1].getD j undef) := by
    intro j hj
    match j, hj with
    | 0, _ => exact rv0
    | 1, _ => exact rv1
  refine (law_true (F := (FD, nuD)) callsD (g := 291) (p := p291) rfl rfl (by decide) hlaw (w := W) (vs := #[v0, v1]) (fun q hq => by cases hq) rfl hx).mono fun e W' ⟨he, bel⟩ => ?_
  subst he
  exact ⟨_, rfl, _, _, _, [], _, [], hW', trodAll_mk1 (shut_bool Try.underlying4 _), (trodAll_cons_mk (Below.trod laidOut (by kernel_rfl) (of_decide_eq_true (by kernel_rfl)) h0 bel lt0) (trodAll_cons_mk (Below.trod laidOut (by kernel_rfl) (of_decide_eq_true (by kernel_rfl)) h1 bel lt1) trodAll_mk0)), rfl, bel.frame _, fun h => by cases h⟩
theorem over : Rows.wholeCountsRow.holds Try.pinned (OpenSpec.ofChange Rows.wholeCountsSpec) :=
  OpenClaim.holds_of_wide 8 Try.f8 rfl rfl rfl rfl rfl rfl rfl ⟨rfl, rfl, rfl, rfl, rfl⟩ rfl rfl rfl rfl rfl (by kernel_rfl) Try.func8 (by kernel_rfl)
    (of_decide_eq_true (by kernel_rfl)) (by unfold Func.isWrapper; first | (rw [if_pos (by decide +kernel)]; kernel_rfl) | (rw [if_neg (by decide +kernel)]; exact ⟨rfl, rfl⟩))
    (fun os started H enc _ => lifted os started H enc)
theorem proved : Rows.WholeCountsSaid := over
#print axioms proved
end Go.Proofs.Ytkhclncjncdfaaa.wholeCounts
namespace Go.Proofs.Ytkhclncjncdfaaa
theorem wholeCounts_holds : Rows.WholeCountsSaid := wholeCounts.proved
end Go.Proofs.Ytkhclncjncdfaaa
