/- Proved: the text of any whole number (up to 20 limbs) is the law's, and it is read back as that number, for every input. No conditions. -/
import Derived.Test.YtkhclncjncdfaaaBWholeTexts2
import Derived.Laws.BytesString
import Derived.Laws.IdiomStrings
import Derived.Orders
import Derived.Deep.LoopGhost
import Derived.Laws.RangeAny
import Derived.Test.YtkhclncjncdfaaaChecked
import Derived.KernelRfl
import Derived.ChangeArms
import Derived.DataReads
import Derived.WideShapes
import Derived.Below
import Derived.Test.YtkhclncjncdfaaaRows
import Derived.WalkKit
import Derived.ProofKit
import Derived.OpenShut
import Derived.ShutString
import Derived.ChangeOld
import Derived.SizedLaws
set_option linter.unusedVariables false
set_option linter.unusedSimpArgs false
set_option linter.unusedVariables false
set_option linter.unusedSimpArgs false
namespace Go.Pe
open Go
def isRef : AV → Bool
  | .sl _ _ _ _ | .p _ _ _ => true
  | _ => false
structure J (f : Fr) (w : World) (T : Nat → Prop) (ρ : Rho) (h : Heap) (ρ0 : Rho) (e0 : Nat → AV) (h0 : Heap) (ls : List Nat) (a : Act) : Prop where
  A : WInv f w T ρ h
  env : Env w T ρ0 e0 a
  rows : ∀ r x, h0 r = some x → RowOk w T ρ0 r x
  dom : ∀ r, h0 r = none → ρ0 r = none
  sep : ∀ r r' x x', r ≠ r' → h0 r = some x → h0 r' = some x' → x.live = true → x'.live = true → ∀ p p' b base b' base', ρ0 r = some p → ρ0 r' = some p' → p.loc = some (b, base) → p'.loc = some (b', base') → b ≠ b'
  wr : ∀ r x p b base, h0 r = some x → x.live = true → ρ0 r = some p → p.loc = some (b, base) → f.w0.heap.size ≤ b ∨ ((∀ o, base ≤ o → o < base + p.n * p.z → f.W0 b o) ∧ (x.isAp = true → ∀ o, f.W0 b o))
  own : ∀ r x p b base, r ∉ f.lids → h0 r = some x → x.live = true → ρ0 r = some p → p.loc = some (b, base) → f.w0.heap.size ≤ b
  la : ∀ r ∈ f.lids, ∀ x, h0 r = some x → x.isAp = false
  x : ∀ r r' x x', h r = some x → h0 r' = some x' → x.live = true → x'.live = true → ∀ p p' b base b' base', ρ r = some p → ρ0 r' = some p' → p.loc = some (b, base) → p'.loc = some (b', base') → b ≠ b'
  lp : ∀ r ∈ ls, r ∈ f.lids ∧ ρ0 r = some (f.pl0 r) ∧ ∀ x, h r = some x → x.live = false
  tn : ∀ t, isRef (e0 t) = true ∨ Rv w T Rho.none (e0 t) (a.tmps.getD t undef)
  t0 : ∀ b, f.T0 b → T b ∨ ∃ r ∈ f.lids, r ∉ ls ∧ ∀ x, h r = some x → x.live = false
section
variable {f : Fr} {w : World} {T : Nat → Prop} {ρ ρ0 : Rho} {h h0 : Heap} {e0 : Nat → AV} {ls : List Nat} {a : Act}
theorem J.freeze (j : J f w T ρ h ρ0 e0 h0 ls a) (rs : List Nat) : ∃ T', J f w T' ρ (h.freeze rs) ρ0 e0 h0 ls a ∧ Goes w w T T' ρ ρ ∧ (∀ r ∈ rs, ∀ b, rowBlk h ρ r b → ¬ T' b) := by
  obtain ⟨T', k', g, h1, h2⟩ := j.A.freeze rs
  have less : ∀ b, b < w.heap.size → T' b → T b := g.less
  refine ⟨T', ⟨k', fun t => (j.env t).less less, fun r x hx => ?_, j.dom, j.sep, j.wr, j.own, j.la, fun r r' x x' hx hx' hl hl' => ?_, fun r hr => ?_, fun t => (j.tn t).imp id fun h => h.less less, fun b hb => ?_⟩, g, h1⟩
  · refine (j.rows r x hx).mono (Same.refl _ _) less (fun _ _ h => h) fun p b base hp hl hlv => ⟨rfl, ?_⟩
    rcases h2 b ((j.rows r x hx).inT hlv p b base hp hl) with h3 | ⟨q, hq, y, p', base', hy, hyl, hp', hloc⟩
    · exact h3
    · exact absurd rfl (j.x q r y x hy hx hyl hlv p' p b base' b base hp' hp hloc hl)
  · exact j.x r r' x x' (freeze_live' hx hl).1 hx' hl hl'
  · obtain ⟨h3, h4, h5⟩ := j.lp r hr
    refine ⟨h3, h4, fun x hx => ?_⟩
    cases hl : x.live with
    | false => rfl
    | true => rw [h5 x (freeze_live' hx hl).1] at hl; cases hl
  · rcases j.t0 b hb with h3 | ⟨r, hr, hrl, h4⟩
    · rcases h2 b h3 with h5 | ⟨q, hq, y, p', base', hy, hyl, hp', hloc⟩
      · exact .inl h5
      · by_cases hm : q ∈ f.lids
        · refine .inr ⟨q, hm, fun hql => ?_, fun x hx => ?_⟩
          · rw [(j.lp q hql).2.2 y hy] at hyl; cases hyl
          · cases hl : x.live with
            | false => rfl
            | true => exact absurd hq (freeze_live' hx hl).2
        · exact absurd (j.A.t0lt b hb) (Nat.not_lt.2 (j.A.own q y p' b base' hm hy hyl hp' hloc))
    · refine .inr ⟨r, hr, hrl, fun x hx => ?_⟩
      cases hl : x.live with
      | false => rfl
      | true => rw [h4 x (freeze_live' hx hl).1] at hl; cases hl
theorem J.set (j : J f w T ρ h ρ0 e0 h0 ls a) {t : Nat} {av : AV} (hv : Rv w T Rho.none av (a.tmps.getD t undef)) : J f w T ρ h ρ0 (upd e0 t av) h0 ls a := by
  refine { j with env := fun s => ?_, tn := fun s => ?_ } <;> unfold upd <;> split
  · rename_i e; subst e; exact hv.any
  · exact j.env s
  · rename_i e; subst e; exact .inr hv
  · exact j.tn s
theorem J.setr (j : J f w T ρ h ρ0 e0 h0 ls a) {t : Nat} {av : AV} (hv : Rv w T ρ0 av (a.tmps.getD t undef)) (hi : isRef av = true) : J f w T ρ h ρ0 (upd e0 t av) h0 ls a := by
  refine { j with env := fun s => ?_, tn := fun s => ?_ } <;> unfold upd <;> split
  · rename_i e; subst e; exact hv
  · exact j.env s
  · exact .inl hi
  · exact j.tn s
theorem J.move (j : J f w T ρ h ρ0 e0 h0 ls a) {r : Nat} {y : Row} (hy : h r = some y) (hyl : y.live = true) {q : Nat} (hq : h0 q = none) {x : Row} {p : Pl} (hx : ∀ ρ', (∀ r p, ρ0 r = some p → ρ' r = some p) → ρ' q = some p → RowOk w T ρ' q x) (hxl : x.live = true)
    (hloc : p.loc = none ∨ ∃ py b base base', ρ r = some py ∧ py.loc = some (b, base) ∧ p.loc = some (b, base') ∧ (∀ i, base' ≤ i → i < base' + p.n * p.z → base ≤ i ∧ i < base + py.n * py.z) ∧ (x.isAp = true → y.isAp = true))
    (hown : q ∈ f.lids ∧ q = r ∧ p = f.pl0 q ∧ q ∉ ls ∧ x.isAp = false ∨ q ∉ f.lids ∧ r ∉ f.lids) (ls' : List Nat) (hls : q ∈ f.lids ∧ ls' = q :: ls ∨ ls' = ls ∧ q ∉ f.lids) :
    J f w T ρ (h.put r .dead) (fun s => if s = q then some p else ρ0 s) e0 (h0.put q x) ls' a := by
  have more : ∀ s p', ρ0 s = some p' → (if s = q then some p else ρ0 s) = some p' := by
    intro s p' hs
    split
    · rename_i e
      subst e
      rw [j.dom _ hq] at hs
      cases hs
    · exact hs
  have old0 : ∀ s z, (h0.put q x) s = some z → (s = q ∧ z = x) ∨ (s ≠ q ∧ h0 s = some z) := by
    intro s z hz
    simp only [Heap.put] at hz
    split at hz
    · rename_i e; cases hz; exact .inl ⟨e, rfl⟩
    · rename_i e; exact .inr ⟨e, hz⟩
  have old : ∀ s z, (h.put r .dead) s = some z → z.live = true → s ≠ r ∧ h s = some z := by
    intro s z hz hzl
    simp only [Heap.put] at hz
    split at hz
    · cases hz; cases hzl
    · rename_i e; exact ⟨e, hz⟩
  -- the block of the row that moves
  have blk : ∀ b base', p.loc = some (b, base') → ∃ py base, ρ r = some py ∧ py.loc = some (b, base) := by
    intro b base' hb
    rcases hloc with h1 | ⟨py, b', base, base'', h1, h2, h3, _⟩
    · rw [h1] at hb; cases hb
    · rw [h3] at hb; cases hb; exact ⟨py, base, h1, h2⟩
  refine ⟨j.A.kill hy, fun t => (j.env t).mono (Same.refl _ _) (fun _ _ h => h) more, fun s z hz => ?_, fun s hs => ?_, fun s s' z z' hne hz hz' hl hl' p1 p2 b base b' base' hp1 hp2 hl1 hl2 => ?_, fun s z p1 b base hz hl hp1 hl1 => ?_, fun s z p1 b base hs hz hl hp1 hl1 => ?_, fun s hs z hz => ?_, fun s s' z z' hz hz' hl hl' p1 p2 b base b' base' hp1 hp2 hl1 hl2 => ?_, fun s hs => ?_, j.tn, fun b hb => ?_⟩
  · rcases old0 s z hz with ⟨rfl, rfl⟩ | ⟨hne, hz'⟩
    · exact hx _ more (if_pos rfl)
    · exact (j.rows s z hz').mono (Same.refl _ _) (fun _ _ h => h) more fun p' b base hp hl hlv => ⟨rfl, (j.rows s z hz').inT hlv p' b base hp hl⟩
  · simp only [Heap.put] at hs
    split at hs
    · cases hs
    · rename_i hne
      simp only [hne, if_false]
      exact j.dom s hs
  · rcases old0 s z hz with ⟨rfl, rfl⟩ | ⟨h1, h2⟩
    · rcases old0 s' z' hz' with ⟨rfl, rfl⟩ | ⟨h3, h4⟩
      · exact absurd rfl hne
      · rw [if_pos rfl] at hp1
        cases hp1
        rw [if_neg h3] at hp2
        obtain ⟨py, base2, h5, h6⟩ := blk b base hl1
        exact j.x r s' y z' hy h4 hyl hl' py p2 b base2 b' base' h5 hp2 h6 hl2
    · rcases old0 s' z' hz' with ⟨rfl, rfl⟩ | ⟨h3, h4⟩
      · rw [if_pos rfl] at hp2
        cases hp2
        rw [if_neg h1] at hp1
        obtain ⟨py, base2, h5, h6⟩ := blk b' base' hl2
        exact fun e => j.x r s y z hy h2 hyl hl py p1 b' base2 b base h5 hp1 h6 hl1 e.symm
      · rw [if_neg h1] at hp1
        rw [if_neg h3] at hp2
        exact j.sep s s' z z' hne h2 h4 hl hl' p1 p2 b base b' base' hp1 hp2 hl1 hl2
  · rcases old0 s z hz with ⟨rfl, rfl⟩ | ⟨h1, h2⟩
    · rw [if_pos rfl] at hp1
      cases hp1
      rcases hloc with h3 | ⟨py, b', base2, base3, h3, h4, h5, h6, h7⟩
      · rw [h3] at hl1; cases hl1
      · rw [h5] at hl1
        cases hl1
        rcases j.A.wr r y py b base2 hy hyl h3 h4 with h8 | ⟨h8, h9⟩
        · exact .inl h8
        · exact .inr ⟨fun i hi1 hi2 => h8 i (h6 i hi1 hi2).1 (h6 i hi1 hi2).2, fun hh => h9 (h7 hh)⟩
    · rw [if_neg h1] at hp1
      exact j.wr s z p1 b base h2 hl hp1 hl1
  · rcases old0 s z hz with ⟨rfl, rfl⟩ | ⟨h1, h2⟩
    · rw [if_pos rfl] at hp1
      cases hp1
      obtain ⟨py, base2, h5, h6⟩ := blk b base hl1
      rcases hown with ⟨h7, _⟩ | ⟨_, h7⟩
      · exact absurd h7 hs
      · exact j.A.own r y py b base2 h7 hy hyl h5 h6
    · rw [if_neg h1] at hp1
      exact j.own s z p1 b base hs h2 hl hp1 hl1
  · rcases old0 s z hz with ⟨rfl, rfl⟩ | ⟨h1, h2⟩
    · rcases hown with ⟨_, _, _, _, h7⟩ | ⟨h7, _⟩
      · exact h7
      · exact absurd hs h7
    · exact j.la s hs z h2
  · obtain ⟨h1, h2⟩ := old s z hz hl
    rcases old0 s' z' hz' with ⟨rfl, rfl⟩ | ⟨h3, h4⟩
    · rw [if_pos rfl] at hp2
      cases hp2
      obtain ⟨py, base2, h5, h6⟩ := blk b' base' hl2
      exact j.A.sep s r z y h1 h2 hy hl hyl p1 py b base b' base2 hp1 h5 hl1 h6
    · rw [if_neg h3] at hp2
      exact j.x s s' z z' h2 h4 hl hl' p1 p2 b base b' base' hp1 hp2 hl1 hl2
  · have hold : s ∈ ls → s ∈ f.lids ∧ (if s = q then some p else ρ0 s) = some (f.pl0 s) ∧ ∀ x, (h.put r .dead) s = some x → x.live = false := by
      intro hs
      obtain ⟨h1, h2, h3⟩ := j.lp s hs
      refine ⟨h1, more _ _ h2, fun z hz => ?_⟩
      cases hzl : z.live with
      | false => rfl
      | true => rw [h3 z (old s z hz hzl).2] at hzl; cases hzl
    rcases hls with ⟨h1, rfl⟩ | ⟨rfl, _⟩
    · rcases List.mem_cons.1 hs with rfl | hs'
      · rcases hown with ⟨h7, h8, h9, _⟩ | ⟨h7, _⟩
        · refine ⟨h7, by rw [if_pos rfl, h9], fun z hz => ?_⟩
          cases hzl : z.live with
          | false => rfl
          | true => exact absurd h8 (old s z hz hzl).1
        · exact absurd h1 h7
      · exact hold hs'
    · exact hold hs
  · rcases j.t0 b hb with h1 | ⟨s, h1, h2, h3⟩
    · exact .inl h1
    · refine .inr ⟨s, h1, ?_, fun z hz => ?_⟩
      · rcases hls with ⟨h4, rfl⟩ | ⟨rfl, _⟩
        · intro hs
          rcases List.mem_cons.1 hs with rfl | hs'
          · rcases hown with ⟨_, h8, _⟩ | ⟨h7, _⟩
            · subst h8; rw [h3 y hy] at hyl; cases hyl
            · exact absurd h4 h7
          · exact h2 hs'
        · exact h2
      · cases hzl : z.live with
        | false => rfl
        | true => rw [h3 z (old s z hz hzl).2] at hzl; cases hzl
theorem J.nil (j : J f w T ρ h ρ0 e0 h0 ls a) {q : Nat} (hq : h0 q = none) (hql : q ∉ f.lids) (ap : Bool) (z : Nat) :
    J f w T ρ h (fun s => if s = q then some ⟨z, 0, none⟩ else ρ0 s) e0 (h0.put q (.sl ap z [])) ls a := by
  have more : ∀ s p', ρ0 s = some p' → (if s = q then some ⟨z, 0, none⟩ else ρ0 s) = some p' := by
    intro s p' hs
    split
    · rename_i e
      subst e
      rw [j.dom _ hq] at hs
      cases hs
    · exact hs
  have place : ∀ s y p b base, (h0.put q (.sl ap z [])) s = some y → (if s = q then some ⟨z, 0, none⟩ else ρ0 s) = some p → p.loc = some (b, base) → h0 s = some y ∧ ρ0 s = some p := by
    intro s y p b base hy hp hl
    simp only [Heap.put] at hy
    split at hy
    · rename_i e; rw [if_pos e] at hp; cases hp; cases hl
    · rename_i e; rw [if_neg e] at hp; exact ⟨hy, hp⟩
  refine ⟨j.A, fun t => (j.env t).mono (Same.refl _ _) (fun _ _ h => h) more, fun s y hy => ?_, fun s hs => ?_, fun s s' y y' hne hy hy' hl hl' p1 p2 b base b' base' hp1 hp2 hl1 hl2 => ?_, fun s y p1 b base hy hl hp1 hl1 => ?_, fun s y p1 b base hs hy hl hp1 hl1 => ?_, fun s hs y hy => ?_, fun s s' y y' hy hy' hl hl' p1 p2 b base b' base' hp1 hp2 hl1 hl2 => ?_, fun s hs => ?_, j.tn, j.t0⟩
  · simp only [Heap.put] at hy
    split at hy
    · rename_i e
      cases hy
      subst e
      exact .inl ⟨rfl, trivial, if_pos rfl⟩
    · exact (j.rows s y hy).mono (Same.refl _ _) (fun _ _ h => h) more fun p' b base hp hl hlv => ⟨rfl, (j.rows s y hy).inT hlv p' b base hp hl⟩
  · simp only [Heap.put] at hs
    split at hs
    · cases hs
    · rename_i hne
      simp only [hne, if_false]
      exact j.dom s hs
  · obtain ⟨h1, h2⟩ := place s y p1 b base hy hp1 hl1
    obtain ⟨h3, h4⟩ := place s' y' p2 b' base' hy' hp2 hl2
    exact j.sep s s' y y' hne h1 h3 hl hl' p1 p2 b base b' base' h2 h4 hl1 hl2
  · obtain ⟨h1, h2⟩ := place s y p1 b base hy hp1 hl1
    exact j.wr s y p1 b base h1 hl h2 hl1
  · obtain ⟨h1, h2⟩ := place s y p1 b base hy hp1 hl1
    exact j.own s y p1 b base hs h1 hl h2 hl1
  · simp only [Heap.put] at hy
    split at hy
    · rename_i e; rw [e] at hs; exact absurd hs hql
    · exact j.la s hs y hy
  · obtain ⟨h3, h4⟩ := place s' y' p2 b' base' hy' hp2 hl2
    exact j.x s s' y y' hy h3 hl hl' p1 p2 b base b' base' hp1 h4 hl1 hl2
  · obtain ⟨h1, h2, h3⟩ := j.lp s hs
    exact ⟨h1, more _ _ h2, h3⟩
end
end Go.Pe
set_option linter.unusedVariables false
set_option linter.unusedSimpArgs false
namespace Go.Pe
open Go
def idOf (p : Nat × Nat) : Nat := if p.2 = 2 then p.1 else pid p.1
def Flat (w : World) (T : Nat → Prop) (e : Nat → AV) (a : Act) : Prop := ∀ t, isRef (e t) = true ∨ Rv w T Rho.none (e t) (a.tmps.getD t undef)
def okL (lids : List Nat) : List Nat → List (Nat × Nat) → Bool
  | ls, [] => lids.all fun r => ls.contains r
  | ls, (t, 0) :: l => !lids.contains (pid t) && okL lids ls l
  | ls, (t, 1) :: l => lids.all (fun r => ls.contains r) && !lids.contains (pid t) && okL lids ls l
  | ls, (t, 2) :: l => lids.contains t && !ls.contains t && okL lids (t :: ls) l
  | _, _ => false
section
variable {f : Fr} {w : World} {T : Nat → Prop} {ρ ρ0 : Rho} {h h0 : Heap} {e e0 : Nat → AV} {ls : List Nat} {a : Act}
theorem un1_rv {av : AV} {v : Value} (k : Rv w T ρ av v) (g : Heap) (q : Nat) : un1 g q av = (av, g) := by cases k <;> rfl
theorem put_self_none {q : Nat} {x : Row} (r : Nat) (hne : r ≠ q) : (h.put q x) r = h r := by simp only [Heap.put]; rw [if_neg hne]
theorem J.slice (j : J f w T ρ h ρ0 e0 h0 ls a) {t r z o n : Nat} {ap : Bool} {z' : Nat} {es : List (List AV)} (hr : h r = some (.sl ap z' es)) (hv : Rv w T ρ (.sl r z o n) (a.tmps.getD t undef)) (hq : h0 (pid t) = none) (hpl : pid t ∉ f.lids) (hrl : r ∉ f.lids) :
    ∃ ρ0', J f w T ρ (h.put r .dead) ρ0' (upd e0 t (.sl (pid t) z 0 ((es.drop o).take n).length)) (h0.put (pid t) (.sl (ap && decide (o = 0)) z ((es.drop o).take n))) ls a := by
  have ok := j.A.rows r _ hr
  generalize hx : a.tmps.getD t undef = v at hv
  have fin : ∀ {p : Pl} {x : Row} {av : AV}, J f w T ρ (h.put r .dead) (fun s => if s = pid t then some p else ρ0 s) e0 (h0.put (pid t) x) ls a → Rv w T (fun s => if s = pid t then some p else ρ0 s) av v → isRef av = true →
      ∃ ρ0', J f w T ρ (h.put r .dead) ρ0' (upd e0 t av) (h0.put (pid t) x) ls a := by
    intro p x av j' hv' hi
    exact ⟨_, j'.setr (by rw [hx]; exact hv') hi⟩
  cases hv with
  | @sl _ _ _ _ _ m b base cap hρ hn hc hm hs =>
    rcases ok with ⟨_, _, h3⟩ | ⟨b', base', cur, el, h3, h4, h5, h6, h7, h8⟩
    · rw [hρ] at h3; cases h3
    rw [hρ] at h3
    cases h3
    have hl : ((es.drop o).take n).length = n := by rw [List.length_take, List.length_drop]; omega
    have key : ∀ j c, base + o * z + j * z + c = base + (o + j) * z + c := by intro j c; rw [Nat.add_mul]; omega
    have hsz : base + o * z + n * z ≤ cur.size := by
      have := Nat.mul_le_mul_right z hn
      rw [Nat.add_mul] at this
      omega
    rw [hl]
    refine fin (p := ⟨z, n, some (b, base + o * z)⟩) (j.move hr rfl hq (x := .sl (ap && decide (o = 0)) z ((es.drop o).take n)) (p := ⟨z, n, some (b, base + o * z)⟩) (fun ρ' hmore hp => ?_) rfl (.inr ⟨_, b, base, base + o * z, hρ, rfl, rfl, fun i h1 h2 => ⟨by omega, ?_⟩, fun hh => ?_⟩) (.inr ⟨hpl, hrl⟩) ls (.inr ⟨rfl, hpl⟩)) ?_ rfl
    · refine .inr ⟨b, base + o * z, cur, el, by rw [hl]; exact hp, h4, h5, by rw [hl]; exact hsz, fun hh => ?_, ⟨fun j hj => ?_, fun j c hj hc' => ?_⟩⟩
      · simp only [Bool.and_eq_true, decide_eq_true_eq] at hh
        rw [h7 hh.1, hh.2]
        simp
      · rw [hl] at hj
        rw [getD_drop_take _ _ _ _ _ hj]
        exact h8.len _ (by omega)
      · rw [hl] at hj
        rw [getD_drop_take _ _ _ _ _ hj, key]
        exact h8.cell _ c (by omega) hc'
    · have := Nat.mul_le_mul_right z hn
      rw [Nat.add_mul] at this
      simp only at h2 ⊢
      omega
    · simp only [Row.isAp, Bool.and_eq_true] at hh ⊢
      exact hh.1
    · have := Rv.sl (w := w) (T := T) (ρ := fun s => if s = pid t then some ⟨z, n, some (b, base + o * z)⟩ else ρ0 s) (r := pid t) (o := 0) (n := n) (cap := cap) (if_pos rfl) (by omega) hc hm (by
        obtain ⟨cur2, e2, fr2, h9, h10⟩ := hs
        refine ⟨cur2, e2, fr2, h9, ?_⟩
        rw [Nat.add_mul] at h10
        rw [Nat.zero_add]
        omega)
      rw [Nat.zero_mul, Nat.add_zero] at this
      exact this
  | @slz _ _ _ _ m b base off hρ hn =>
    rcases ok with ⟨_, _, h3⟩ | ⟨b', base', cur, el, h3, h4, h5, h6, h7, h8⟩
    · rw [hρ] at h3; cases h3
    rw [hρ] at h3
    cases h3
    rw [List.take_zero]
    refine fin (p := ⟨z, 0, some (b, 0)⟩) (j.move hr rfl hq (x := .sl (ap && decide (o = 0)) z []) (p := ⟨z, 0, some (b, 0)⟩) (fun ρ' hmore hp => ?_) rfl (.inr ⟨_, b, base, 0, hρ, rfl, rfl, fun i h1 h2 => ?_, fun hh => ?_⟩) (.inr ⟨hpl, hrl⟩) ls (.inr ⟨rfl, hpl⟩)) ?_ rfl
    · exact .inr ⟨b, 0, cur, el, hp, h4, h5, by simp, fun _ => rfl, ⟨fun j hj => (by cases hj), fun j c hj => (by cases hj)⟩⟩
    · simp at h2
    · simp only [Row.isAp, Bool.and_eq_true] at hh ⊢
      exact hh.1
    · exact .slz (if_pos rfl) (Nat.le_refl _)
  | slnil hρ =>
    rcases ok with ⟨h1, h2, h3⟩ | ⟨b', base', cur, el, h3, h4, h5, h6, h7, h8⟩
    · subst h1
      rw [List.drop_nil, List.take_nil]
      refine fin (p := ⟨z, 0, none⟩) (j.move hr rfl hq (x := .sl (ap && decide (0 = 0)) z []) (p := ⟨z, 0, none⟩) (fun ρ' hmore hp => .inl ⟨rfl, trivial, hp⟩) rfl (.inl rfl) (.inr ⟨hpl, hrl⟩) ls (.inr ⟨rfl, hpl⟩)) ?_ rfl
      exact .slnil (if_pos rfl)
    · rw [hρ] at h3
      have := congrArg Pl.loc (Option.some.inj h3)
      cases this
theorem J.struct (j : J f w T ρ h ρ0 e0 h0 ls a) {r : Nat} {cs : List AV} (hr : h r = some (.st cs)) (hnr : r ∉ cs.flatMap ref0) {q : Nat} (hq : h0 q = none) (hown : q ∈ f.lids ∧ q = r ∧ q ∉ ls ∨ q ∉ f.lids ∧ r ∉ f.lids) (ls' : List Nat) (hls : q ∈ f.lids ∧ ls' = q :: ls ∨ ls' = ls ∧ q ∉ f.lids) :
    ∃ T' ρ0' b base, J f w T' ρ ((h.freeze (cs.flatMap ref0)).put r .dead) ρ0' e0 (h0.put q (.st (cs.map (tell0 h)))) ls' a ∧ Goes w w T T' ρ ρ ∧ ρ r = some ⟨cs.length, 1, some (b, base)⟩ ∧ ρ0' q = some ⟨cs.length, 1, some (b, base)⟩ := by
  obtain ⟨T', j', g, hfree⟩ := j.freeze (cs.flatMap ref0)
  have hr' : (h.freeze (cs.flatMap ref0)) r = some (.st cs) := by rw [freeze_notin hnr]; exact hr
  obtain ⟨b, base, cur, el, h3, h4, h5, h6, h7⟩ := j'.A.rows r _ hr'
  refine ⟨T', _, b, base, j'.move hr' rfl hq (x := .st (cs.map (tell0 h))) (p := ⟨cs.length, 1, some (b, base)⟩) (fun ρ' hmore hp => ?_) rfl (.inr ⟨_, b, base, base, h3, rfl, rfl, fun i h1 h2 => ⟨h1, h2⟩, fun hh => by cases hh⟩) ?_ ls' hls, g, h3, if_pos rfl⟩
  · refine ⟨b, base, cur, el, by rw [List.length_map]; exact hp, h4, h5, by rw [List.length_map]; exact h6, ⟨fun i hi => ?_, fun i c hi hc => ?_⟩⟩
    · cases i with
      | zero => rfl
      | succ i => simp at hi
    · cases i with
      | succ i => simp at hi
      | zero =>
        rw [List.length_map] at hc
        obtain ⟨v, h8, h9, h10⟩ := h7.cell 0 c (by simp) hc
        refine ⟨v, ?_, h9, ?_⟩
        · simpa only [Nat.zero_mul] using h8
        · show Rv w T' ρ' ((cs.map (tell0 h)).getD c .junk) v
          rw [getD_map_lt (tell0 h) cs c .junk .junk hc]
          refine (tell0_cell (T := T) j.A.rows g.less h9 ?_ fun r' hr2 => hfree r' ?_).any
          · -- the cell as it was ahead of the freezing
            obtain ⟨b2, base2, cur2, el2, k3, k4, k5, k6, k7⟩ := j.A.rows r _ hr
            rw [h3] at k3
            cases k3
            obtain ⟨v2, k8, k9, k10⟩ := k7.cell 0 c (by simp) hc
            rw [h8] at k8
            cases k8
            exact k10
          · exact List.mem_flatMap.2 ⟨_, getD_mem _ hc, hr2⟩
  · rcases hown with ⟨h1, rfl, h2⟩ | h1
    · refine .inl ⟨h1, rfl, ?_, h2, rfl⟩
      have := j.A.lp q h1
      rw [h3] at this
      exact Option.some.inj this
    · exact .inr h1
theorem pack_sound : ∀ (l : List (Nat × Nat)) {T : Nat → Prop} {h : Heap} {ρ0 : Rho} {st : St} {ls : List Nat} {vs : List AV},
    J f w T ρ h ρ0 st.env st.h ls a → Env w T ρ e a → okL f.lids ls l = true → (l.map idOf).Nodup → (∀ p ∈ l, st.h (idOf p) = none) → pack e ls h l = some vs →
    ∃ T' ρ', WInv f w T' ρ' (unpack l vs st).h ∧ Env w T' ρ' (unpack l vs st).env a ∧ Flat w T' (unpack l vs st).env a ∧ ∀ b, b < w.heap.size → T' b → T b := by
  intro l
  induction l with
  | nil =>
    intro T h ρ0 st ls vs j he hok hnd hfr hp
    simp only [okL, List.all_eq_true, List.contains_iff_mem] at hok
    have hst : unpack [] vs st = st := by cases vs <;> rfl
    rw [hst]
    refine ⟨T, ρ0, ⟨j.A.keeps, j.A.tlt, j.rows, j.dom, j.sep, j.wr, fun b hb => ?_, fun r hr => (j.lp r (hok r hr)).2.1, j.own, j.A.t0lt, j.la, j.A.tab⟩, j.env, j.tn, fun _ _ h => h⟩
    rcases j.t0 b hb with h1 | ⟨r, h1, h2, _⟩
    · exact .inl h1
    · exact absurd (hok r h1) h2
  | cons p l ih =>
    obtain ⟨t, kd⟩ := p
    intro T h ρ0 st ls vs j he hok hnd hfr hp
    rw [List.map_cons, List.nodup_cons] at hnd
    have hq := hfr (t, kd) List.mem_cons_self
    -- what is put leaves the other places free
    have hput : ∀ (x : Row), ∀ p ∈ l, (st.h.put (idOf (t, kd)) x) (idOf p) = none := by
      intro x p hp
      rw [put_self_none _ fun e => hnd.1 (List.mem_map.2 ⟨p, hp, e⟩)]
      exact hfr p (List.mem_cons_of_mem _ hp)
    have hkeep : ∀ p ∈ l, st.h (idOf p) = none := fun p hp => hfr p (List.mem_cons_of_mem _ hp)
    -- a variable that is told
    have told : ∀ {vs' : List AV}, okL f.lids ls l = true → kd = 0 ∨ kd = 1 → pack e ls (h.freeze (ref h (e t))) l = some vs' →
        ∃ T' ρ', WInv f w T' ρ' (unpack ((t, kd) :: l) (tell h (e t) :: vs') st).h ∧ Env w T' ρ' (unpack ((t, kd) :: l) (tell h (e t) :: vs') st).env a ∧ Flat w T' (unpack ((t, kd) :: l) (tell h (e t) :: vs') st).env a ∧ ∀ b, b < w.heap.size → T' b → T b := by
      intro vs' hok' hkd hp'
      obtain ⟨T1, j1, g1, hfree⟩ := j.freeze (ref h (e t))
      have hv : Rv w T1 Rho.none (tell h (e t)) (a.tmps.getD t undef) := tell_rv j.A.rows g1.less (he t) hfree
      have hun : unpack ((t, kd) :: l) (tell h (e t) :: vs') st = unpack l vs' ⟨upd st.env t (tell h (e t)), st.h⟩ := by
        rcases hkd with rfl | rfl <;> simp only [unpack, un1_rv hv]
      rw [hun]
      obtain ⟨T2, ρ2, h3, h4, h4', h5⟩ := ih (st := ⟨upd st.env t (tell h (e t)), st.h⟩) (j1.set hv) (he.goes g1) hok' hnd.2 hkeep hp'
      exact ⟨T2, ρ2, h3, h4, h4', fun b hb ht => g1.less b hb (h5 b hb ht)⟩
    match kd, hok, hp with
    | 0, hok, hp =>
      simp only [okL, Bool.and_eq_true] at hok
      simp only [pack, Option.map_eq_some_iff] at hp
      obtain ⟨vs', hp', rfl⟩ := hp
      exact told hok.2 (.inl rfl) hp'
    | 1, hok, hp =>
      simp only [okL, Bool.and_eq_true, List.all_eq_true, List.contains_iff_mem, Bool.not_eq_true', List.contains_eq_mem, decide_eq_false_iff_not, decide_eq_true_eq] at hok
      obtain ⟨⟨hall, hpl⟩, hok'⟩ := hok
      simp only [pack, Option.bind_eq_some_iff, Option.map_eq_some_iff] at hp
      obtain ⟨⟨v, h1⟩, hv, vs', hp', rfl⟩ := hp
      have hid : idOf (t, 1) = pid t := rfl
      rw [hid] at hq hput
      have hr := he t
      unfold packV at hv
      split at hv
      · rename_i z hz
        cases hv
        rw [hz] at hr
        have hun : unpack ((t, 1) :: l) (AV.own true z [] :: vs') st = unpack l vs' ⟨upd st.env t (.sl (pid t) z 0 0), st.h.put (pid t) (.sl true z [])⟩ := rfl
        rw [hun]
        have hvv : a.tmps.getD t undef = .slice none 0 0 := by generalize a.tmps.getD t undef = u at hr; cases hr; rfl
        exact ih (st := ⟨upd st.env t (.sl (pid t) z 0 0), st.h.put (pid t) (.sl true z [])⟩) ((j.nil hq hpl true z).setr (by rw [hvv]; exact .slnil (if_pos rfl)) rfl) he hok' hnd.2 (hput _) hp'
      · rename_i r z o n hz
        rw [hz] at hr
        split at hv
        · rename_i hrls
          cases hv
          obtain ⟨l1, l2, l3⟩ := j.lp r hrls
          have l4 := j.A.lp r l1
          have hun : unpack ((t, 1) :: l) (AV.sl r z o n :: vs') st = unpack l vs' ⟨upd st.env t (.sl r z o n), st.h⟩ := rfl
          rw [hun]
          have hv0 : Rv w T ρ0 (.sl r z o n) (a.tmps.getD t undef) := by
            generalize a.tmps.getD t undef = u at hr
            cases hr with
            | sl hρ hn hc hm hs => rw [l4] at hρ; rw [Option.some.inj hρ] at l2; exact .sl l2 hn hc hm hs
            | slz hρ hn => rw [l4] at hρ; rw [Option.some.inj hρ] at l2; exact .slz l2 hn
            | slnil hρ => rw [l4] at hρ; rw [Option.some.inj hρ] at l2; exact .slnil l2
          exact ih (st := ⟨upd st.env t (.sl r z o n), st.h⟩) (j.setr hv0 rfl) he hok' hnd.2 hkeep hp'
        · rename_i hrls
          have hrl : r ∉ f.lids := fun hm => hrls (hall r hm)
          split at hv
          · rename_i ap z' es hrow
            cases hv
            obtain ⟨ρ1, j1⟩ := j.slice hrow hr hq hpl hrl
            exact ih (st := ⟨upd st.env t (.sl (pid t) z 0 ((es.drop o).take n).length), st.h.put (pid t) (.sl (ap && decide (o = 0)) z ((es.drop o).take n))⟩) j1 he hok' hnd.2 (hput _) hp'
          · rename_i z' es hrow
            cases hv
            have hv1 : Rv w T Rho.none (.l z ((es.drop o).take n)) (a.tmps.getD t undef) := by
              have := tell0_rv (T' := T) j.A.rows (fun _ _ h => h) hr (fun r' hr' b hb => by
                simp only [ref0, List.mem_singleton] at hr'
                subst hr'
                obtain ⟨x, p, base, hx, hl, _⟩ := hb
                rw [hrow] at hx
                cases hx
                cases hl) (by intros; simp) (by intros; simp) (by intros; simp)
              simpa only [tell0, hrow, Option.bind_some, Row.win] using this
            have hun : unpack ((t, 1) :: l) (AV.l z ((es.drop o).take n) :: vs') st = unpack l vs' ⟨upd st.env t (.l z ((es.drop o).take n)), st.h⟩ := rfl
            rw [hun]
            exact ih (st := ⟨upd st.env t (.l z ((es.drop o).take n)), st.h⟩) (j.set hv1) he hok' hnd.2 hkeep hp'
          · cases hv
      · rename_i r pe po hz
        rw [hz] at hr
        split at hv
        rotate_left
        · cases hv
        rename_i hpo
        obtain ⟨rfl, rfl⟩ := hpo
        split at hv
        · rename_i cs hrow
          split at hv
          · cases hv
          · rename_i hnr
            cases hv
            have hrl : r ∉ f.lids ∨ r ∈ f.lids := (Classical.em _).symm
            rcases hrl with hrl | hrl
            · obtain ⟨T1, ρ1, b, base, j1, g1, h8, h9⟩ := j.struct hrow hnr hq (.inr ⟨hpl, hrl⟩) ls (.inr ⟨rfl, hpl⟩)
              have hv1 : Rv w T1 ρ1 (.p (pid t) 0 0) (a.tmps.getD t undef) := by
                generalize a.tmps.getD t undef = u at hr
                cases hr with
                | p hρ => rw [h8] at hρ; cases hρ; have := Rv.p (w := w) (T := T1) (ρ := ρ1) (e := 0) (o := 0) h9; simpa using this
              have hun : unpack ((t, 1) :: l) (AV.ownp (cs.map (tell0 h)) :: vs') st = unpack l vs' ⟨upd st.env t (.p (pid t) 0 0), st.h.put (pid t) (.st (cs.map (tell0 h)))⟩ := rfl
              rw [hun]
              obtain ⟨T2, ρ2, q1, q2, q2', q3⟩ := ih (st := ⟨upd st.env t (.p (pid t) 0 0), st.h.put (pid t) (.st (cs.map (tell0 h)))⟩) (j1.setr hv1 rfl) (he.goes g1) hok' hnd.2 (hput _) hp'
              exact ⟨T2, ρ2, q1, q2, q2', fun b hb ht => g1.less b hb (q3 b hb ht)⟩
            · exact absurd ((j.lp r (hall r hrl)).2.2 _ hrow) (by simp [Row.live])
        · rename_i cs hrow
          cases hv
          obtain ⟨T1, j1, g1, hfree⟩ := j.freeze (cs.flatMap ref0)
          have hv1 : Rv w T1 Rho.none (.tp (cs.map (tell0 h)) 0) (a.tmps.getD t undef) := by
            have := tellC_rv (T' := T1) j.A.rows g1.less hr (fun r' hr' b hb => by
              simp only [refC, hrow, Option.bind_some, Row.at, if_true] at hr'
              rcases List.mem_cons.1 hr' with rfl | hr'
              · obtain ⟨x, p, base, hx, hl, _⟩ := hb
                rw [hrow] at hx
                cases hx
                cases hl
              · exact hfree r' hr' b hb) (by intros; simp) (by intros; simp)
            simpa only [tellC, hrow, Option.bind_some, Row.at, if_true] using this
          have hun : unpack ((t, 1) :: l) (AV.tp (cs.map (tell0 h)) 0 :: vs') st = unpack l vs' ⟨upd st.env t (.tp (cs.map (tell0 h)) 0), st.h⟩ := rfl
          rw [hun]
          obtain ⟨T2, ρ2, q1, q2, q2', q3⟩ := ih (st := ⟨upd st.env t (.tp (cs.map (tell0 h)) 0), st.h⟩) (j1.set hv1) (he.goes g1) hok' hnd.2 hkeep hp'
          exact ⟨T2, ρ2, q1, q2, q2', fun b hb ht => g1.less b hb (q3 b hb ht)⟩
        · cases hv
      · rename_i n1 n2 n3
        cases hv
        exact told hok' (.inr rfl) hp'
    | 2, hok, hp =>
      simp only [okL, Bool.and_eq_true, List.contains_iff_mem, Bool.not_eq_true', List.contains_eq_mem, decide_eq_false_iff_not, decide_eq_true_eq] at hok
      obtain ⟨⟨htl, htls⟩, hok'⟩ := hok
      simp only [pack, Option.bind_eq_some_iff, Option.map_eq_some_iff] at hp
      obtain ⟨⟨v, h1⟩, hv, vs', hp', rfl⟩ := hp
      have hid : idOf (t, 2) = t := rfl
      rw [hid] at hq hput
      have hlp := j.A.lp t htl
      unfold packL at hv
      split at hv
      · rename_i ap z es hrow
        cases hv
        have hap := j.A.la t htl _ hrow
        have ok := j.A.rows t _ hrow
        have hun : unpack ((t, 2) :: l) (AV.own ap z es :: vs') st = unpack l vs' ⟨st.env, st.h.put t (.sl ap z es)⟩ := rfl
        rw [hun]
        refine ih (st := ⟨st.env, st.h.put t (.sl ap z es)⟩) (j.move hrow rfl hq (x := .sl ap z es) (p := f.pl0 t) (fun ρ' hmore hp => ?_) rfl ?_ (.inl ⟨htl, rfl, rfl, htls, hap⟩) (t :: ls) (.inl ⟨htl, rfl⟩)) he hok' hnd.2 (hput _) hp'
        · rcases ok with ⟨h1, h2, h3⟩ | ⟨b', base', cur, el, h3, h4, h5, h6, h7, h8⟩
          · rw [hlp] at h3; rw [Option.some.inj h3] at hp; exact .inl ⟨h1, h2, hp⟩
          · rw [hlp] at h3; rw [Option.some.inj h3] at hp; exact .inr ⟨b', base', cur, el, hp, h4, h5, h6, h7, h8⟩
        · rcases ok with ⟨h1, h2, h3⟩ | ⟨b', base', cur, el, h3, h4, h5, h6, h7, h8⟩
          · rw [hlp] at h3; rw [Option.some.inj h3]; exact .inl rfl
          · rw [hlp] at h3; rw [Option.some.inj h3] at hlp ⊢; exact .inr ⟨_, b', base', base', hlp, rfl, rfl, fun i h1 h2 => ⟨h1, h2⟩, fun hh => hh⟩
      · rename_i cs hrow
        split at hv
        · cases hv
        · rename_i hnr
          cases hv
          obtain ⟨T1, ρ1, b, base, j1, g1, h8, h9⟩ := j.struct hrow hnr hq (.inl ⟨htl, rfl, htls⟩) (t :: ls) (.inl ⟨htl, rfl⟩)
          have hun : unpack ((t, 2) :: l) (AV.ownp (cs.map (tell0 h)) :: vs') st = unpack l vs' ⟨st.env, st.h.put t (.st (cs.map (tell0 h)))⟩ := rfl
          rw [hun]
          obtain ⟨T2, ρ2, q1, q2, q2', q3⟩ := ih (st := ⟨st.env, st.h.put t (.st (cs.map (tell0 h)))⟩) j1 (he.goes g1) hok' hnd.2 (hput _) hp'
          exact ⟨T2, ρ2, q1, q2, q2', fun b hb ht => g1.less b hb (q3 b hb ht)⟩
      · cases hv
    | (n + 3), hok, hp => simp [okL] at hok
theorem canon {T : Nat → Prop} (k : WInv f w T ρ h) (he : Env w T ρ e a) {l : List (Nat × Nat)} {vs : List AV} (hok : okL f.lids [] l = true) (hnd : (l.map idOf).Nodup) (hp : pack e [] h l = some vs) :
    ∃ T' ρ', WInv f w T' ρ' (un l vs).h ∧ Env w T' ρ' (un l vs).env a ∧ Flat w T' (un l vs).env a := by
  have j : J f w T ρ h Rho.none St.none.env St.none.h [] a := ⟨k, fun _ => .junk, fun _ _ h => (by cases h), fun _ _ => rfl, fun _ _ _ _ _ h => (by cases h), fun _ _ _ _ _ h => (by cases h), fun _ _ _ _ _ _ h => (by cases h), fun _ _ _ h => (by cases h), fun _ _ _ _ _ h => (by cases h), fun _ h => (by cases h), fun _ => .inr .junk, fun b hb => by
    rcases k.t0 b hb with h1 | ⟨r, h1, h2⟩
    · exact .inl h1
    · exact .inr ⟨r, h1, by simp, h2⟩⟩
  obtain ⟨T', ρ', h1, h2, h3, _⟩ := pack_sound l j he hok hnd (fun _ _ => rfl) hp
  exact ⟨T', ρ', h1, h2, h3⟩
end
end Go.Pe
set_option linter.unusedVariables false
set_option linter.unusedSimpArgs false
namespace Go.Pe
open Go
def oneR (vs : Array Value) : Value := if h : vs.size = 1 then vs[0] else .tuple vs
def CallOk (P : Program) (f : Nat) (res : List (PR × Nat)) (lent : List Nat) (tabs : List (Nat × List AV)) (xs : List AV) (r : AV) : Prop :=
  ∀ (fr : Fr) (ρ : Rho) (vs : Array Value), fr.tabs = tabs → fr.lids = lent.map lid → vs.size = xs.length →
    WInv fr fr.w0 fr.T0 ρ (un (parN lent 0 xs) xs).h → Env fr.w0 fr.T0 ρ (un (parN lent 0 xs) xs).env ⟨vs, []⟩ →
    Calls P f vs fr.w0 fun e w' => ∃ out vals T' ρ', e = .returned (oneR vals) ∧ vals.size = res.length ∧ out.length = (resL res lent).length ∧ r = retV lent out ∧
      WInv fr w' T' ρ' (un (resL res lent) out).h ∧ Env w' T' ρ' (un (resL res lent) out).env ⟨vals, []⟩ ∧ Flat w' T' (un (resL res lent) out).env ⟨vals, []⟩
def Shown (st : St) (t : Nat) : AV → Prop
  | .own ap z es => st.env t = .sl (pid t) z 0 es.length ∧ st.h (pid t) = some (.sl ap z es)
  | .ownp cs => st.env t = .p (pid t) 0 0 ∧ st.h (pid t) = some (.st cs)
  | x => st.env t = x
theorem pid_ne {i j : Nat} (h : i ≠ j) : pid i ≠ pid j := by unfold pid; omega
theorem kindL_length : ∀ (res : List (PR × Nat)) (k : Nat), (kindL k res).length = res.length
  | [], _ => rfl
  | _ :: l, k => by simp only [kindL, List.length_cons, kindL_length l]
theorem un1_shown (st : St) (t : Nat) (x : AV) : Shown ⟨upd st.env t (un1 st.h (pid t) x).1, (un1 st.h (pid t) x).2⟩ t x := by
  cases x <;> simp [Shown, un1, upd, Heap.put]
theorem un1_other (h : Heap) (q q' : Nat) (x : AV) (hne : q' ≠ q) : (un1 h q x).2 q' = h q' := by
  cases x <;> simp [un1, Heap.put, hne]
theorem unpack_kind' : ∀ (res : List (PR × Nat)) (k : Nat) (out : List AV) (st : St), (∀ x ∈ res, x.2 ≤ 1) → out.length = res.length →
    (∀ j, j < k → (unpack (kindL k res) out st).env j = st.env j) ∧ (∀ q, (∀ j, k ≤ j → j < k + res.length → q ≠ pid j) → (unpack (kindL k res) out st).h q = st.h q) ∧
    ∀ j, j < res.length → Shown (unpack (kindL k res) out st) (k + j) (out.getD j .junk) := by
  intro res
  induction res with
  | nil =>
    intro k out st _ hl
    cases out with
    | nil => exact ⟨fun _ _ => rfl, fun _ _ => rfl, fun j hj => by cases hj⟩
    | cons => cases hl
  | cons x res ih =>
    intro k out st hk hl
    cases out with
    | nil => cases hl
    | cons y out =>
      obtain ⟨pr, q⟩ := x
      have hq := hk (pr, q) List.mem_cons_self
      have hun : unpack (kindL k ((pr, q) :: res)) (y :: out) st = unpack (kindL (k + 1) res) out ⟨upd st.env k (un1 st.h (pid k) y).1, (un1 st.h (pid k) y).2⟩ := by
        match q, hq with
        | 0, _ => rfl
        | 1, _ => rfl
      obtain ⟨h1, h2, h3⟩ := ih (k + 1) out ⟨upd st.env k (un1 st.h (pid k) y).1, (un1 st.h (pid k) y).2⟩ (fun x hx => hk x (List.mem_cons_of_mem _ hx)) (by simpa using hl)
      rw [hun]
      refine ⟨fun j hj => ?_, fun q hq => ?_, fun j hj => ?_⟩
      · rw [h1 j (by omega)]
        simp only [upd]
        rw [if_neg (by omega)]
      · rw [h2 q fun j hj hj2 => hq j (by omega) (by simp only [List.length_cons]; omega)]
        exact un1_other _ _ _ _ (hq k (Nat.le_refl _) (by simp only [List.length_cons]; omega))
      · cases j with
        | zero =>
          have hs := un1_shown st k y
          have e1 := h1 k (by omega)
          have e2 := h2 (pid k) fun j hj _ => pid_ne (by omega)
          show Shown _ (k + 0) y
          rw [Nat.add_zero]
          cases y <;> simp only [Shown] at hs ⊢ <;> first
            | exact ⟨e1.trans hs.1, e2.trans hs.2⟩
            | exact e1.trans hs
        | succ j =>
          have := h3 j (by simpa using hj)
          rw [show k + (j + 1) = k + 1 + j by omega]
          exact this
theorem parN_nil : ∀ (xs : List AV) (k : Nat) (st : St) (hx : ∀ x ∈ xs, ∀ g q, un1 g q x = (x, g)),
    (unpack (parN [] k xs) xs st).h = st.h ∧ (∀ t, t < k ∨ k + xs.length ≤ t → (unpack (parN [] k xs) xs st).env t = st.env t) ∧ ∀ j, j < xs.length → (unpack (parN [] k xs) xs st).env (k + j) = xs.getD j .junk := by
  intro xs
  induction xs with
  | nil => intro k st _; exact ⟨rfl, fun _ _ => rfl, fun j hj => by cases hj⟩
  | cons x xs ih =>
    intro k st hx
    have hun : unpack (parN [] k (x :: xs)) (x :: xs) st = unpack (parN [] (k + 1) xs) xs ⟨upd st.env k x, st.h⟩ := by
      have h1 := hx x List.mem_cons_self st.h (pid k)
      show unpack ((k, if k ∈ ([] : List Nat) then 3 else 0) :: parN [] (k + 1) xs) (x :: xs) st = _
      rw [if_neg (by simp)]
      simp only [unpack, h1]
    rw [hun]
    obtain ⟨h1, h2, h3⟩ := ih (k + 1) ⟨upd st.env k x, st.h⟩ fun x hx' => hx x (List.mem_cons_of_mem _ hx')
    refine ⟨h1, fun t ht => ?_, fun j hj => ?_⟩
    · rw [List.length_cons] at ht
      rw [h2 t (by omega)]
      simp only [upd]
      rw [if_neg (by omega)]
    · cases j with
      | zero =>
        show (unpack (parN [] (k + 1) xs) xs { env := upd st.env k x, h := st.h }).env k = x
        rw [h2 k (by omega)]
        simp [upd]
      | succ j =>
        rw [show k + (j + 1) = k + 1 + j by omega, h3 j (by simpa using hj)]
        rfl
section
variable {P : Program} {f : Fr} {w w' : World} {T T' : Nat → Prop} {ρ ρ' : Rho} {h : Heap} {e : Nat → AV} {a : Act} {o : Oper}
theorem Keeps.old {w w' : World} (h : Keeps (fun _ _ => False) w w') : Old w w' := by
  refine ⟨h.os, h.tape, h.output, h.size, fun b hb => ?_⟩
  have := h.same (T := fun _ => False) fun _ _ _ h => h.elim
  exact this.same b hb fun h => h
theorem demote_rv {av : AV} {v : Value} (k : Rv w T Rho.none av v) : Rv w T Rho.none (demote av) v := by
  cases k with
  | sl hr => cases hr
  | slz hr => cases hr
  | slnil hr => cases hr
  | p hr => cases hr
  | junk => exact .junk
  | b => exact .b
  | i => exact .i
  | s => exact .s
  | np => exact .np
  | ns => exact .ns
  | lnil ha hm => exact .lnil ha hm
  | l g a1 a2 a3 a4 a5 a6 a7 => exact .l g a1 a2 a3 a4 a5 a6 a7
  | tp g a1 a2 a3 a4 => exact .tp g a1 a2 a3 a4
  | agg vs a1 a2 a3 => exact .agg vs a1 a2 a3
  | tup vs a1 a2 => exact .tup vs a1 a2
theorem shown_rv' {fr : Fr} {st : St} (k : WInv fr w' T' ρ' st.h) (he : Env w' T' ρ' st.env a) (hf : Flat w' T' st.env a) (h0 : ∀ b, fr.T0 b → T' b) {t : Nat} {x : AV} (hp : pid t ∉ fr.lids) (hs : Shown st t x) :
    Rv w' fr.T0 Rho.none (demote x) (a.tmps.getD t undef) := by
  have plain : st.env t = x → Rv w' fr.T0 Rho.none (demote x) (a.tmps.getD t undef) := by
    intro hx
    rcases hf t with h1 | h1
    · rw [hx] at h1
      cases x <;> simp [isRef] at h1 <;> exact .junk
    · rw [hx] at h1
      exact demote_rv (h1.less fun b _ hb => h0 b hb)
  cases x with
  | own ap z es =>
    obtain ⟨h1, h2⟩ := hs
    have hv := he t
    rw [h1] at hv
    have := tell0_rv (T' := fr.T0) k.rows (fun b _ hb => h0 b hb) hv (fun r hr b hb => by
      simp only [ref0, List.mem_singleton] at hr
      subst hr
      obtain ⟨x, p, base, hx, hlv, hρ, hloc⟩ := hb
      have hge := k.own _ _ _ _ _ hp hx hlv hρ hloc
      exact fun hb => by have := k.t0lt b hb; omega) (by intros; simp) (by intros; simp) (by intros; simp)
    simpa [tell0, h2, Row.win, demote] using this
  | ownp cs => exact .junk
  | junk => exact .junk
  | b | i | s | np | ns | l | tp | sl | p | agg | tup | back => exact plain hs
theorem one_rv {n : Nat} {out : List AV} {vals : Array Value} (hs : vals.size = n) (hol : out.length = n) (each : ∀ j, j < n → Rv w T Rho.none (demote (out.getD j .junk)) (vals.getD j undef)) : Rv w T Rho.none (demoteT (oneV out)) (oneR vals) := by
  by_cases h1 : vals.size = 1
  · have : n = 1 := by omega
    match out, hol with
    | [x], _ =>
      have := each 0 (by omega)
      show Rv w T Rho.none (demoteT x) (oneR vals)
      have hv : oneR vals = vals.getD 0 undef := by simp [oneR, h1]
      rw [hv]
      have h5 : Rv w T Rho.none (demote x) (vals.getD 0 undef) := this
      by_cases hx : ∃ cs, x = .tup cs
      rotate_left
      · cases x <;> first
          | exact h5
          | exact absurd ⟨_, rfl⟩ hx
      obtain ⟨cs, rfl⟩ := hx
      have h6 : Rv w T Rho.none (.tup cs) (vals.getD 0 undef) := h5
      generalize vals.getD 0 undef = u at h6
      cases h6 with
      | tup us a1 a2 =>
        refine .tup us (by simpa using a1) fun c hc => ?_
        rw [List.length_map] at hc
        rw [getD_map_lt demote cs c .junk .junk hc]
        exact demote_rv (a2 c hc)
    | [], h => simp at h; omega
    | _ :: _ :: _, h => simp at h; omega
  · have hv : oneR vals = .tuple vals := by simp [oneR, h1]
    rw [hv]
    have hone : oneV out = .tup out := by
      match out, hol with
      | [], _ => rfl
      | [x], h => simp at h; omega
      | _ :: _ :: _, _ => rfl
    rw [hone]
    refine .tup vals (by simp; omega) fun c hc => ?_
    rw [List.length_map] at hc
    rw [getD_map_lt demote out c .junk .junk hc]
    exact each c (by omega)
theorem init_told (k : WInv f w T ρ h) {xs : List AV} {vs : Array Value} (hl : vs.size = xs.length) (hx : ∀ j, j < xs.length → Rv w T Rho.none (xs.getD j .junk) (vs.getD j undef)) :
    WInv ⟨w, fun _ _ => False, T, [], fun _ => ⟨0, 0, none⟩, f.tabs⟩ w T Rho.none (un (parN [] 0 xs) xs).h ∧ Env w T Rho.none (un (parN [] 0 xs) xs).env ⟨vs, []⟩ := by
  obtain ⟨h1, h2, h3⟩ := parN_nil xs 0 St.none fun x hm g q => by
    obtain ⟨j, hj, rfl⟩ := List.getElem_of_mem hm
    have := un1_rv (hx j hj) g q
    simpa [hj] using this
  refine ⟨?_, fun t => ?_⟩
  · show WInv _ w T Rho.none (unpack (parN [] 0 xs) xs St.none).h
    rw [h1]
    exact ⟨Keeps.refl _ _, k.tlt, fun _ _ h => (by cases h), fun _ _ => rfl, fun _ _ _ _ _ h => (by cases h), fun _ _ _ _ _ h => (by cases h), fun b hb => .inl hb, fun _ h => (by cases h), fun _ _ _ _ _ _ h => (by cases h), k.tlt, fun _ h => (by cases h), k.tab⟩
  · show Rv w T Rho.none ((unpack (parN [] 0 xs) xs St.none).env t) (vs.getD t undef)
    by_cases ht : t < xs.length
    · have := h3 t ht
      rw [Nat.zero_add] at this
      rw [this]
      exact hx t ht
    · rw [h2 t (by omega)]
      exact .junk
theorem call_told (k : WInv f w T ρ h) {g : Nat} {res : List (PR × Nat)} {xs : List AV} {vs : Array Value} {r : AV} (hk : ∀ x ∈ res, x.2 ≤ 1) (hc : CallOk P g res [] f.tabs xs r) (hl : vs.size = xs.length) (hx : ∀ j, j < xs.length → Rv w T Rho.none (xs.getD j .junk) (vs.getD j undef)) :
    Calls P g vs w fun e w' => ∃ v, e = .returned v ∧ Old w w' ∧ Rv w' T Rho.none (demoteT r) v := by
  obtain ⟨h1, h2⟩ := init_told k hl hx
  refine (hc ⟨w, fun _ _ => False, T, [], fun _ => ⟨0, 0, none⟩, f.tabs⟩ Rho.none vs rfl rfl hl h1 h2).mono fun e w' he => ?_
  obtain ⟨out, vals, T', ρ', rfl, hs, ho, rfl, k', e', fl⟩ := he
  refine ⟨_, rfl, k'.keeps.old, ?_⟩
  have hol : out.length = res.length := by rw [ho]; exact kindL_length res 0
  obtain ⟨_, _, h3⟩ := unpack_kind' res 0 out St.none hk hol
  have h0 : ∀ b, T b → T' b := fun b hb => (k'.t0 b hb).elim id fun ⟨r, hr, _⟩ => by cases hr
  have each : ∀ j, j < res.length → Rv w' T Rho.none (demote (out.getD j .junk)) (vals.getD j undef) := fun j hj => by
    have := h3 j hj
    rw [Nat.zero_add] at this
    exact shown_rv' (fr := ⟨w, fun _ _ => False, T, [], fun _ => ⟨0, 0, none⟩, f.tabs⟩) k' e' fl h0 (by simp) this
  unfold retV
  rw [if_pos rfl]
  exact one_rv hs hol each
theorem flat_rv {av : AV} {v : Value} (hf : av.flat = true) (k : Rv w T ρ av v) : Rv w T' ρ' av v := by
  cases k <;> simp [AV.flat] at hf
  · exact .b
  · exact .i
  · exact .s
theorem scalar_rv {av : AV} {v : Value} (hf : av.scalar = true) (k : Rv w T ρ (demoteT av) v) : Rv w T' ρ' (demoteT av) v := by
  cases av <;> simp [AV.scalar, AV.flat] at hf
  · exact flat_rv rfl k
  · exact flat_rv rfl k
  · exact flat_rv rfl k
  · rename_i cs
    generalize hd : demoteT (.tup cs) = d at k
    cases k <;> first | (cases hd; done) | skip
    rename_i ds vs a1 a2
    have : cs.map demote = ds := by injection hd
    refine .tup vs a1 fun c hc => flat_rv ?_ (a2 c hc)
    subst this
    rw [List.length_map] at hc
    rw [getD_map_lt demote cs c .junk .junk hc]
    have := hf _ (getD_mem .junk hc)
    generalize cs.getD c .junk = x at this
    cases x <;> simp [AV.flat] at this <;> rfl
def Goes1 (P : Program) (f : Fr) (o : Oper) (a : Act) (w : World) (T : Nat → Prop) (ρ : Rho) (av : AV) (h' : Heap) : Prop :=
  ∀ (K : Act → World → Prop) (Q : Exit → Act → World → Prop), (∀ v w' T' ρ', WInv f w' T' ρ' h' → Goes w w' T T' ρ ρ' → Rv w' T' ρ' av v → K (a.put o.dst v) w') → o.wp P a w K Q
theorem Turns.goes1 {av : AV} {h' : Heap} (t : Turns P f o a w T ρ av h') : Goes1 P f o a w T ρ av h' := by
  intro K Q hK
  obtain ⟨v, w', T', ρ', h1, h2, h3, h4⟩ := t
  unfold Oper.wp
  rcases h1 with h1 | ⟨h1, rfl⟩ <;> rw [h1]
  · exact hK _ _ _ _ h2 h3 h4
  · exact hK _ _ _ _ h2 h3 h4
theorem goes1_of_gives {av : AV} {h' : Heap} (k : WInv f w T ρ h) (t : h' = h ∧ ∃ v, Gives P o a w v ∧ Rv w T ρ av v) : Goes1 P f o a w T ρ av h' := by
  intro K Q hK
  obtain ⟨rfl, v, h1, h2⟩ := t
  unfold Oper.wp
  rw [h1]
  exact hK _ _ _ _ k (Goes.refl _ _ _) h2
def mas (tabs : List (Nat × List AV)) : List Operand → List At → Bool
  | [], [] => true
  | x :: xs, y :: ys => ma tabs x y && mas tabs xs ys
  | _, _ => false
theorem mas_rv (k : WInv f w T ρ h) (he : Env w T ρ e a) : ∀ {xs : List Operand} {ys : List At}, mas f.tabs xs ys = true → xs.length = ys.length ∧ ∀ j, j < ys.length → Rv w T ρ ((ys.map (At.ev e)).getD j .junk) ((xs.map a.eval).getD j undef) := by
  intro xs
  induction xs with
  | nil => intro ys hm; cases ys with
    | nil => exact ⟨rfl, fun j hj => by cases hj⟩
    | cons => cases hm
  | cons x xs ih =>
    intro ys hm
    cases ys with
    | nil => cases hm
    | cons y ys =>
      simp only [mas, Bool.and_eq_true] at hm
      obtain ⟨h1, h2⟩ := ih hm.2
      refine ⟨by simp [h1], fun j hj => ?_⟩
      cases j with
      | zero => exact ma_rv k he hm.1
      | succ j => exact h2 j (by simpa using hj)
def bodied (P : Program) (g : Nat) : Bool := match P.funcs[g]? with
  | some fn => fn.body.isSome && !(fn.name == "runtime.NumGoroutine")
  | none => false
theorem run_callFunc {g : Nat} (hb : bodied P g = true) (args : Array Value) : (callFunc g args).run P w = .ok (.enter g args) w := by
  unfold bodied at hb
  cases hf : P.funcs[g]? with
  | none => rw [hf] at hb; cases hb
  | some fn =>
    rw [hf] at hb
    simp only [Bool.and_eq_true, Bool.not_eq_true'] at hb
    obtain ⟨h1, h2⟩ := hb
    have h3 : fn.body.isNone = false := by cases hx : fn.body <;> simp_all
    have h4 : ¬ fn.name = "runtime.NumGoroutine" := by simpa using h2
    have h5 : ¬ fn.body = none := by intro hn; rw [hn] at h1; cases h1
    simp [callFunc, hf, h4, h5]
theorem op_call (k : WInv f w T ρ h) (he : Env w T ρ e a) {c : Go.Call} {g g' : Nat} {ys : List At} {res : List (PR × Nat)} {av : AV} {h' : Heap} (call : Call) (ho : o.op = .call c) (hcal : c.callee = .value (.func g')) (hm : mas f.tabs c.args.toList ys = true) (hb : bodied P g' = true)
    (hk : ∀ x ∈ res, x.2 ≤ 1) (hc : ∀ xs r, call g xs = some r → CallOk P g' res [] f.tabs xs r) (hv : PO.ev call (.call g ys) e h = some (av, h')) : Goes1 P f o a w T ρ av h' := by
  simp only [PO.ev, callV, Option.map_eq_some_iff] at hv
  obtain ⟨r, hr, hv⟩ := hv
  obtain ⟨hlen, hrv⟩ := mas_rv k he hm
  obtain ⟨T1, k1, g1, hfree, _⟩ := k.freeze ((ys.map (At.ev e)).flatMap (ref h))
  have hrun : (execOp a.eval o).run P w = .ok (.enter g' (c.args.map a.eval)) w := by
    simp [execOp, ho, resolve, hcal, Act.eval, Deferred.ofValue, invoke, run_callFunc hb]
  have hcalls := call_told k1 (vs := c.args.map a.eval) hk (hc _ _ hr) (by simp [← hlen]) fun j hj => by
    simp only [List.length_map] at hj
    have h1 := hrv j hj
    rw [getD_map_lt (tell h) _ j .junk .junk (by simpa using hj)]
    have h2 : (c.args.map a.eval).getD j undef = (c.args.toList.map a.eval).getD j undef := by simp [List.getD_eq_getElem?_getD]
    rw [h2]
    exact tell_rv k.rows g1.less h1 fun r hr' b hb => hfree r (List.mem_flatMap.2 ⟨_, getD_mem .junk (by simpa using hj), hr'⟩) b hb
  intro K Q hK
  unfold Oper.wp
  rw [hrun]
  refine hcalls.mono fun e w' hw => ?_
  obtain ⟨v, rfl, hold, hrv'⟩ := hw
  show K (a.put o.dst v) w'
  split at hv
  · rename_i hs
    cases hv
    exact hK v w' T ρ (k.old hold) (Goes.old hold) (scalar_rv hs hrv')
  · cases hv
    exact hK v w' T1 ρ (k1.old hold) (g1.trans (Goes.old hold)) hrv'.any
end
end Go.Pe
set_option linter.unusedVariables false
set_option linter.unusedSimpArgs false
namespace Go.Pe
open Go
theorem Keeps.other {w w' : World} {b : Nat} {Wb : Nat → Prop} (h : Keeps (fun b' i => b' = b ∧ Wb i) w w') {c : Nat} (hc : c < w.heap.size) (hne : c ≠ b) : w'.heap[c]? = w.heap[c]? := by
  rcases h.block c hc with h1 | ⟨d, d', e, fr, h1, h2, h3, h4⟩
  · exact h1
  · rw [h1, h2]
    have : d' = d := by
      apply Array.ext_getElem?
      intro o
      exact h4 o fun hw => hne hw.1
    rw [this]
section
variable {P : Program} {f : Fr} {w w' : World} {T T' : Nat → Prop} {ρ ρ' : Rho} {h : Heap} {e : Nat → AV} {a : Act} {o : Oper}
theorem WInv.rewriteK (k : WInv f w T ρ h) {r : Nat} {x : Row} {p : Pl} {b base : Nat} (hr : h r = some x) (hl : x.live = true) (hp : ρ r = some p) (hloc : p.loc = some (b, base)) {w' : World} {Wb : Nat → Prop} (hw : Keeps (fun b' i => b' = b ∧ Wb i) w w') (hWb : f.w0.heap.size ≤ b ∨ ∀ i, Wb i → f.W0 b i)
    {x' : Row} (hx' : RowOk w' T ρ r x') (hap : x'.isAp = true → x.isAp = true) : WInv f w' T ρ (h.put r x') ∧ Goes w w' T T ρ ρ := by
  have hT : T b := (k.rows r x hr).inT hl p b base hp hloc
  have hs : Same T w w' := hw.same fun b' o _ hh => by rw [hh.1]; exact hT
  have old : ∀ q y, (h.put r x') q = some y → (q = r ∧ y = x') ∨ (q ≠ r ∧ h q = some y) := by
    intro q y hy
    simp only [Heap.put] at hy
    split at hy
    · rename_i e; cases hy; exact .inl ⟨e, rfl⟩
    · rename_i e; exact .inr ⟨e, hy⟩
  have live : ∀ q y, (h.put r x') q = some y → y.live = true → ∃ z, h q = some z ∧ z.live = true ∧ (y.isAp = true → z.isAp = true) := by
    intro q y hy hyl
    rcases old q y hy with ⟨rfl, rfl⟩ | ⟨_, hq⟩
    · exact ⟨x, hr, hl, hap⟩
    · exact ⟨y, hq, hyl, fun h => h⟩
  refine ⟨⟨k.keeps.trans hw fun b' i hb hh => ?_, fun b' hb => Nat.lt_of_lt_of_le (k.tlt b' hb) hw.size, fun q y hy => ?_, fun q hq => ?_, fun q q' y y' hne hy hy' hyl hyl' pp pp' c cb c' cb' hpp hpp' hc hc' => ?_, fun q y pp c cb hy hyl hpp hc => ?_, fun b' hb => ?_, k.lp, fun q y pp c cb hq hy hyl hpp hc => ?_, k.t0lt, fun q hq y hy => ?_, fun pp hpp => (k.tab pp hpp).mono hs (fun _ _ h => h) fun _ _ h => h⟩, hs, fun _ _ h => h, fun _ _ h => h⟩
  · obtain ⟨rfl, hi⟩ := hh
    rcases hWb with h1 | h1
    · omega
    · exact h1 i hi
  · rcases old q y hy with ⟨rfl, rfl⟩ | ⟨hne, hq⟩
    · exact hx'
    · refine (k.rows q y hq).mono hs (fun _ _ h => h) (fun _ _ h => h) fun pp c cb hpp hc hyl => ⟨hw.other (k.tlt c ((k.rows q y hq).inT hyl pp c cb hpp hc)) ?_, (k.rows q y hq).inT hyl pp c cb hpp hc⟩
      exact k.sep q r y x hne hq hr hyl hl pp p c cb b base hpp hp hc hloc
  · simp only [Heap.put] at hq
    split at hq
    · cases hq
    · exact k.dom q hq
  · obtain ⟨z, hz, hzl, _⟩ := live q y hy hyl
    obtain ⟨z', hz', hzl', _⟩ := live q' y' hy' hyl'
    exact k.sep q q' z z' hne hz hz' hzl hzl' pp pp' c cb c' cb' hpp hpp' hc hc'
  · obtain ⟨z, hz, hzl, hza⟩ := live q y hy hyl
    rcases k.wr q z pp c cb hz hzl hpp hc with h1 | ⟨h1, h2⟩
    · exact .inl h1
    · exact .inr ⟨h1, fun hh => h2 (hza hh)⟩
  · rcases k.t0 b' hb with h1 | ⟨q, hq, hx⟩
    · exact .inl h1
    · refine .inr ⟨q, hq, fun y hy => ?_⟩
      rcases old q y hy with ⟨rfl, rfl⟩ | ⟨_, hq'⟩
      · exact absurd (hx x hr) (by rw [hl]; simp)
      · exact hx y hq'
  · obtain ⟨z, hz, hzl, _⟩ := live q y hy hyl
    exact k.own q z pp c cb hq hz hzl hpp hc
  · rcases old q y hy with ⟨rfl, rfl⟩ | ⟨_, hq'⟩
    · have := k.la q hq x hr
      cases hxa : y.isAp with
      | false => rfl
      | true => rw [hap hxa] at this; cases this
    · exact k.la q hq y hq'
theorem parN_one {li : Nat} : ∀ (xs : List AV) (k : Nat) (st : St), (∀ j, j < xs.length → k + j ≠ li → ∀ g q, un1 g q (xs.getD j .junk) = (xs.getD j .junk, g)) →
    (unpack (parN [li] k xs) xs st).h = (if k ≤ li ∧ li < k + xs.length then (un1 st.h (lid li) (xs.getD (li - k) .junk)).2 else st.h) ∧
    (∀ t, t < k ∨ k + xs.length ≤ t → (unpack (parN [li] k xs) xs st).env t = st.env t) ∧
    ∀ j, j < xs.length → (unpack (parN [li] k xs) xs st).env (k + j) = if k + j = li then (un1 st.h (lid li) (xs.getD j .junk)).1 else xs.getD j .junk := by
  intro xs
  induction xs with
  | nil => intro k st _; exact ⟨by simp only [List.length_nil]; rw [if_neg (by omega)]; rfl, fun _ _ => rfl, fun j hj => by cases hj⟩
  | cons x xs ih =>
    intro k st hx
    by_cases hk : k = li
    · subst hk
      have hun : unpack (parN [k] k (x :: xs)) (x :: xs) st = unpack (parN [k] (k + 1) xs) xs ⟨upd st.env k (un1 st.h (lid k) x).1, (un1 st.h (lid k) x).2⟩ := by
        show unpack ((k, if k ∈ [k] then 3 else 0) :: parN [k] (k + 1) xs) (x :: xs) st = _
        rw [if_pos (by simp)]
        rfl
      rw [hun]
      -- behind it all are told
      have hrest : ∀ (xs : List AV) (m : Nat) (st : St), k < m → (∀ j, j < xs.length → ∀ g q, un1 g q (xs.getD j .junk) = (xs.getD j .junk, g)) → unpack (parN [k] m xs) xs st = unpack (parN [] m xs) xs st := by
        intro xs
        induction xs with
        | nil => intro m st _ _; rfl
        | cons y ys ihh =>
          intro m st hm hy
          have h1 := hy 0 (by simp)
          simp only [List.getD_cons_zero] at h1
          show unpack ((m, if m ∈ [k] then 3 else 0) :: parN [k] (m + 1) ys) (y :: ys) st = unpack ((m, if m ∈ ([] : List Nat) then 3 else 0) :: parN [] (m + 1) ys) (y :: ys) st
          rw [if_neg (by simp; omega), if_neg (by simp)]
          simp only [unpack]
          exact ihh (m + 1) _ (by omega) fun j hj => hy (j + 1) (by simpa using hj)
      have hx' : ∀ j, j < xs.length → ∀ g q, un1 g q (xs.getD j .junk) = (xs.getD j .junk, g) := fun j hj => hx (j + 1) (by simpa using hj) (by omega)
      rw [hrest xs (k + 1) _ (by omega) hx']
      obtain ⟨h1, h2, h3⟩ := parN_nil xs (k + 1) ⟨upd st.env k (un1 st.h (lid k) x).1, (un1 st.h (lid k) x).2⟩ fun y hy g q => by
        obtain ⟨j, hj, rfl⟩ := List.getElem_of_mem hy
        have := hx' j hj g q
        simpa [hj] using this
      refine ⟨?_, fun t ht => ?_, fun j hj => ?_⟩
      · rw [h1, if_pos (by simp)]
        simp
      · rw [h2 t (by simp only [List.length_cons] at ht; omega)]
        simp only [upd]
        rw [if_neg (by simp only [List.length_cons] at ht; omega)]
      · cases j with
        | zero =>
          rw [if_pos (Nat.add_zero k)]
          show (unpack (parN [] (k + 1) xs) xs _).env k = _
          rw [h2 k (by omega)]
          simp [upd]
        | succ j =>
          rw [if_neg (by omega), show k + (j + 1) = k + 1 + j by omega, h3 j (by simpa using hj)]
          rfl
    · have h0 := hx 0 (by simp) (by omega) st.h (pid k)
      simp only [List.getD_cons_zero] at h0
      have hun : unpack (parN [li] k (x :: xs)) (x :: xs) st = unpack (parN [li] (k + 1) xs) xs ⟨upd st.env k x, st.h⟩ := by
        show unpack ((k, if k ∈ [li] then 3 else 0) :: parN [li] (k + 1) xs) (x :: xs) st = _
        rw [if_neg (by simp; exact hk)]
        simp only [unpack, h0]
      rw [hun]
      obtain ⟨h1, h2, h3⟩ := ih (k + 1) ⟨upd st.env k x, st.h⟩ (fun j hj hne => hx (j + 1) (by simpa using hj) (by omega))
      refine ⟨?_, fun t ht => ?_, fun j hj => ?_⟩
      · rw [h1]
        by_cases hc : k + 1 ≤ li ∧ li < k + 1 + xs.length
        · rw [if_pos hc, if_pos (by simp only [List.length_cons]; omega), show li - k = (li - (k + 1)) + 1 by omega]
          rfl
        · rw [if_neg hc, if_neg (by simp only [List.length_cons]; omega)]
      · rw [h2 t (by simp only [List.length_cons] at ht; omega)]
        simp only [upd]
        rw [if_neg (by simp only [List.length_cons] at ht; omega)]
      · cases j with
        | zero =>
          rw [if_neg (by omega)]
          show (unpack (parN [li] (k + 1) xs) xs _).env k = _
          rw [h2 k (by omega)]
          simp [upd]
        | succ j =>
          rw [show k + (j + 1) = k + 1 + j by omega, h3 j (by simpa using hj)]
          rfl
theorem lend_sl (k : WInv f w T ρ h) {r z oo n : Nat} {ap : Bool} {z' : Nat} {es : List (List AV)} (hr : h r = some (.sl ap z' es)) {v : Value} (hv : Rv w T ρ (.sl r z oo n) v) (q : Nat) :
    z' = z ∧ oo + n ≤ es.length ∧ ((es.drop oo).take n).length = n ∧ ∃ pl : Pl, Rv w T (fun s => if s = q then some pl else none) (.sl q z 0 n) v ∧ RowOk w T (fun s => if s = q then some pl else none) q (.sl false z ((es.drop oo).take n)) ∧ pl.z = z ∧ pl.n = n ∧
      (pl.loc = none ∧ es = [] ∧ n = 0 ∧ oo = 0 ∧ ρ r = some ⟨z, 0, none⟩ ∨ ∃ b base base', ρ r = some ⟨z, es.length, some (b, base)⟩ ∧ pl.loc = some (b, base') ∧ (0 < n → base' = base + oo * z)) := by
  have ok := k.rows r _ hr
  have key : ∀ base j c, base + oo * z + j * z + c = base + (oo + j) * z + c := by intro base j c; rw [Nat.add_mul]; omega
  cases hv with
  | @sl _ _ _ _ _ m b base cap hρ hn hc hm hs =>
    rcases ok with ⟨_, _, h3⟩ | ⟨b', base', cur, el, h3, h4, h5, h6, h7, h8⟩
    · rw [hρ] at h3; have := congrArg Pl.loc (Option.some.inj h3); cases this
    rw [hρ] at h3
    cases h3
    have hl : ((es.drop oo).take n).length = n := by rw [List.length_take, List.length_drop]; omega
    have hsz : base + oo * z + n * z ≤ cur.size := by
      have := Nat.mul_le_mul_right z hn
      rw [Nat.add_mul] at this
      omega
    refine ⟨rfl, hn, hl, ⟨z, n, some (b, base + oo * z)⟩, ?_, ?_, rfl, rfl, .inr ⟨b, base, _, hρ, rfl, fun _ => rfl⟩⟩
    · have := Rv.sl (w := w) (T := T) (ρ := fun s => if s = q then some ⟨z, n, some (b, base + oo * z)⟩ else none) (r := q) (o := 0) (n := n) (cap := cap) (if_pos rfl) (by omega) hc hm (by
        obtain ⟨cur2, e2, fr2, h9, h10⟩ := hs
        refine ⟨cur2, e2, fr2, h9, ?_⟩
        rw [Nat.add_mul] at h10
        rw [Nat.zero_add]
        omega)
      rw [Nat.zero_mul, Nat.add_zero] at this
      exact this
    · refine .inr ⟨b, base + oo * z, cur, el, by rw [hl]; exact if_pos rfl, h4, h5, by rw [hl]; exact hsz, fun hh => (by cases hh), ⟨fun j hj => ?_, fun j c hj hc' => ?_⟩⟩
      · rw [hl] at hj
        rw [getD_drop_take _ _ _ _ _ hj]
        exact h8.len _ (by omega)
      · rw [hl] at hj
        rw [getD_drop_take _ _ _ _ _ hj, key]
        exact h8.cell _ c (by omega) hc'
  | @slz _ _ _ _ m b base off hρ hn =>
    rcases ok with ⟨_, _, h3⟩ | ⟨b', base', cur, el, h3, h4, h5, h6, h7, h8⟩
    · rw [hρ] at h3; have := congrArg Pl.loc (Option.some.inj h3); cases this
    rw [hρ] at h3
    cases h3
    rw [List.take_zero]
    refine ⟨rfl, hn, rfl, ⟨z, 0, some (b, 0)⟩, .slz (if_pos rfl) (Nat.le_refl _), .inr ⟨b, 0, cur, el, if_pos rfl, h4, h5, by simp, fun _ => rfl, ⟨fun j hj => (by cases hj), fun j c hj => (by cases hj)⟩⟩, rfl, rfl, .inr ⟨b, base, 0, hρ, rfl, fun h => by omega⟩⟩
  | slnil hρ =>
    rcases ok with ⟨h1, h2, h3⟩ | ⟨b', base', cur, el, h3, h4, h5, h6, h7, h8⟩
    · subst h1
      have hz : z' = z := by
        rw [hρ] at h3
        exact (congrArg Pl.z (Option.some.inj h3)).symm
      subst hz
      exact ⟨rfl, Nat.le_refl _, rfl, ⟨z', 0, none⟩, .slnil (if_pos rfl), .inl ⟨rfl, trivial, if_pos rfl⟩, rfl, rfl, .inl ⟨rfl, rfl, rfl, rfl, hρ⟩⟩
    · rw [hρ] at h3
      have := congrArg Pl.loc (Option.some.inj h3)
      cases this
def frL (w : World) (T : Nat → Prop) (li : Nat) (pl : Pl) (tabs : List (Nat × List AV)) : Fr :=
  ⟨w, fun b i => ∃ base, pl.loc = some (b, base) ∧ base ≤ i ∧ i < base + pl.n * pl.z, T, [lid li], fun _ => pl, tabs⟩
theorem init_lent (k : WInv f w T ρ h) {xs : List AV} {vs : Array Value} {li : Nat} (hli : li < xs.length) (hl : vs.size = xs.length) (hx : ∀ j, j < xs.length → j ≠ li → Rv w T Rho.none (xs.getD j .junk) (vs.getD j undef)) {x : Row} {av : AV} {pl : Pl}
    (hu : un1 Heap.none (lid li) (xs.getD li .junk) = (av, Heap.none.put (lid li) x)) (hxl : x.live = true) (hxa : x.isAp = false) (hv : Rv w T (fun s => if s = lid li then some pl else none) av (vs.getD li undef)) (ok : RowOk w T (fun s => if s = lid li then some pl else none) (lid li) x) :
    WInv (frL w T li pl f.tabs) w T (fun s => if s = lid li then some pl else none) (un (parN [li] 0 xs) xs).h ∧ Env w T (fun s => if s = lid li then some pl else none) (un (parN [li] 0 xs) xs).env ⟨vs, []⟩ := by
  obtain ⟨h1, h2, h3⟩ := parN_one (li := li) xs 0 St.none fun j hj hne g q => un1_rv (hx j hj (by omega)) g q
  have hh : (un (parN [li] 0 xs) xs).h = Heap.none.put (lid li) x := by
    show (unpack (parN [li] 0 xs) xs St.none).h = _
    rw [h1, if_pos (by omega), Nat.sub_zero]
    show (un1 Heap.none (lid li) (xs.getD li .junk)).2 = _
    rw [hu]
  have only : ∀ r y, (Heap.none.put (lid li) x) r = some y → r = lid li ∧ y = x := by
    intro r y hy
    simp only [Heap.put, Heap.none] at hy
    split at hy
    · rename_i e; cases hy; exact ⟨e, rfl⟩
    · cases hy
  refine ⟨?_, fun t => ?_⟩
  · rw [hh]
    refine ⟨Keeps.refl _ _, k.tlt, fun r y hy => ?_, fun r hr => ?_, fun r r' y y' hne hy hy' => ?_, fun r y p b base hy hyl hp hloc => ?_, fun b hb => .inl hb, fun r hr => ?_, fun r y p b base hr hy => ?_, k.tlt, fun r hr y hy => ?_, k.tab⟩
    · obtain ⟨rfl, rfl⟩ := only r y hy; exact ok
    · simp only [Heap.put, Heap.none] at hr
      split at hr
      · cases hr
      · rename_i hne; simp only [hne, if_false]
    · obtain ⟨rfl, rfl⟩ := only r y hy
      obtain ⟨rfl, rfl⟩ := only r' y' hy'
      exact absurd rfl hne
    · obtain ⟨rfl, rfl⟩ := only r y hy
      rw [if_pos rfl] at hp
      cases hp
      exact .inr ⟨fun o h1 h2 => ⟨base, hloc, h1, h2⟩, fun hh => by rw [hxa] at hh; cases hh⟩
    · have : r = lid li := by simpa [frL] using hr
      subst this
      exact if_pos rfl
    · obtain ⟨rfl, rfl⟩ := only r y hy
      exact absurd (by simp [frL]) hr
    · obtain ⟨rfl, rfl⟩ := only r y hy
      exact hxa
  · show Rv w T _ ((unpack (parN [li] 0 xs) xs St.none).env t) (vs.getD t undef)
    by_cases ht : t < xs.length
    · have := h3 t ht
      rw [Nat.zero_add] at this
      rw [this]
      split
      · rename_i e
        subst e
        show Rv w T _ (un1 Heap.none (lid t) (xs.getD t .junk)).1 _
        rw [hu]
        exact hv
      · rename_i hne
        exact (hx t ht hne).any
    · rw [h2 t (by omega)]
      exact .junk
theorem lid_pid {i j n : Nat} (hn : n ≤ 100) (h : j < n) : lid i ≠ pid j := by unfold lid pid; omega
theorem back_facts {fr : Fr} {li : Nat} {res : List (PR × Nat)} {vals : Array Value} {out : List AV} {vr o1 : AV} {T' : Nat → Prop} {ρ' : Rho} (hk : ∀ x ∈ res, x.2 ≤ 1) (hrl : res.length ≤ 100) (hlid : fr.lids = [lid li])
    (hs : vals.size = res.length) (ho : out.length = (resL res [li]).length) (hr : AV.back vr [o1] = retV [li] out)
    (k' : WInv fr w' T' ρ' (un (resL res [li]) out).h) (he' : Env w' T' ρ' (un (resL res [li]) out).env ⟨vals, []⟩) (fl : Flat w' T' (un (resL res [li]) out).env ⟨vals, []⟩) {x : Row} {av : AV} (hu : un1 Heap.none (lid li) o1 = (av, Heap.none.put (lid li) x)) (hxl : x.live = true) :
    (un (resL res [li]) out).h (lid li) = some x ∧ (∀ b, fr.T0 b → T' b) ∧ Rv w' fr.T0 Rho.none (demoteT vr) (oneR vals) ∧ ∀ r1 z1 p1 n1, vr = .sl r1 z1 p1 n1 → Rv w' T' ρ' vr (oneR vals) := by
  have hlen : out.length = 1 + res.length := by
    rw [ho]
    show (kindL 0 res).length + 1 = _
    rw [kindL_length]
    omega
  match out, hlen with
  | [], h => simp only [List.length_nil] at h; omega
  | o2 :: rs, hlen =>
    have hrs : rs.length = res.length := by simp at hlen; omega
    have hret : retV [li] (o2 :: rs) = .back (oneV rs) [o2] := rfl
    rw [hret] at hr
    injection hr with e1 e2
    injection e2 with e2 _
    subst e1
    subst e2
    have hun : un (resL res [li]) (o1 :: rs) = unpack (kindL 0 res) rs ⟨fun _ => .junk, (un1 Heap.none (lid li) o1).2⟩ := rfl
    rw [hu] at hun
    obtain ⟨_, q2, q3⟩ := unpack_kind' res 0 rs ⟨fun _ => .junk, Heap.none.put (lid li) x⟩ hk hrs
    have hrow : (un (resL res [li]) (o1 :: rs)).h (lid li) = some x := by
      rw [hun, q2 (lid li) fun j _ hj => lid_pid hrl (by omega)]
      simp [Heap.put]
    have h0 : ∀ b, fr.T0 b → T' b := fun b hb => (k'.t0 b hb).elim id fun ⟨r, hr, hd⟩ => by
      rw [hlid, List.mem_singleton] at hr
      subst hr
      rw [hd x hrow] at hxl
      cases hxl
    refine ⟨hrow, h0, ?_, fun r1 z1 p1 n1 hvr => ?_⟩
    rotate_left
    · match rs, hrs, hvr with
      | [y], hrs, hvr =>
        have hy : y = .sl r1 z1 p1 n1 := hvr
        have h5 := q3 0 (by rw [← hrs]; simp)
        rw [Nat.zero_add, ← hun] at h5
        have h6 : (un (resL res [li]) [o1, y]).env 0 = y := by
          rw [hy] at h5 ⊢
          exact h5
        have h7 := he' 0
        rw [h6] at h7
        have hone : vals.size = 1 := by rw [hs, ← hrs]; rfl
        have hv : oneR vals = vals.getD 0 undef := by simp [oneR, hone]
        rw [hv]
        exact h7
      | [], _, hvr => cases hvr
      | _ :: _ :: _, _, hvr => cases hvr
    have each : ∀ j, j < res.length → Rv w' fr.T0 Rho.none (demote (rs.getD j .junk)) (vals.getD j undef) := fun j hj => by
      have h5 := q3 j hj
      rw [Nat.zero_add, ← hun] at h5
      exact shown_rv' k' he' fl h0 (by
        rw [hlid, List.mem_singleton]
        exact fun e => lid_pid (i := li) hrl (show j < res.length by omega) e.symm) h5
    exact one_rv hs hrs each
theorem Keeps.cellW {W : Nat → Nat → Prop} (h : Keeps W w w') {b i : Nat} (hb : b < w.heap.size) (hi : ¬ W b i) : w'.cell? ⟨b, i, none⟩ = w.cell? ⟨b, i, none⟩ := by
  rcases h.block b hb with h1 | ⟨c, c', e, fr, h1, h2, h3, h4⟩
  · simp only [World.cell?, h1]
  · simp only [World.cell?, h1, h2]
    cases fr with
    | mk x y => simp only [h4 i hi]
theorem alias_rv {vr : AV} {u : Value} {pl : Pl} {li r oo z n : Nat} (hplace : ρ' (lid li) = some pl) (b3 : Rv w' T Rho.none (demoteT vr) u) (b4 : ∀ r1 z1 p1 n1, vr = .sl r1 z1 p1 n1 → Rv w' T' ρ' vr u) (hz : pl.z = z) (hn : pl.n = n)
    (hq : ∀ b base', pl.loc = some (b, base') → ∃ base m, ρ r = some ⟨z, m, some (b, base)⟩ ∧ oo + n ≤ m ∧ (0 < n → base' = base + oo * z)) : Rv w' T ρ (aliasV li r oo vr) u := by
  by_cases hx : ∃ r1 z1 p1 n1, vr = .sl r1 z1 p1 n1
  · obtain ⟨r1, z1, p1, n1, rfl⟩ := hx
    simp only [aliasV]
    split
    · rename_i hc
      obtain ⟨rfl, h0⟩ := hc
      have h1 := b4 _ _ _ _ rfl
      cases h1 with
      | @sl _ _ _ _ _ m b base' cap hr hnn hc hm hs =>
        rw [hplace] at hr
        cases hr
        simp only at hz hn
        subst hz
        subst hn
        obtain ⟨base, m2, q1, q2, q3⟩ := hq b base' rfl
        have q4 := q3 (by omega)
        subst q4
        obtain ⟨cur, el, fr, s1, s2⟩ := hs
        have := Rv.sl (w := w') (T := T) (ρ := ρ) (r := r) (o := oo + p1) (n := n1) (cap := cap) q1 (by omega) hc hm ⟨cur, el, fr, s1, by
          rw [Nat.add_mul] at s2 ⊢
          rw [Nat.add_mul]
          omega⟩
        rw [Nat.add_mul, ← Nat.add_assoc] at this
        exact this
      | slz => omega
      | slnil => omega
    · split
      · rename_i hc
        subst hc
        have h1 := b4 _ _ _ _ rfl
        cases h1 with
        | sl _ _ _ hm _ => exact .lnil (fun h => by cases h) hm
        | slz => exact .lnil (fun h => by cases h) (Nat.zero_le _)
        | slnil => exact .lnil0
      · exact .junk
  · have : aliasV li r oo vr = demoteT vr := by
      cases vr <;> first | rfl | exact absurd ⟨_, _, _, _, rfl⟩ hx
    rw [this]
    exact b3.any
theorem lent_sl (k : WInv f w T ρ h) {g li : Nat} {res : List (PR × Nat)} {xs : List AV} {vs : Array Value} {r z oo n : Nat} {ap : Bool} {z' : Nat} {es : List (List AV)} (hr : h r = some (.sl ap z' es)) (hli : li < xs.length) (hl : vs.size = xs.length)
    (hv : Rv w T ρ (.sl r z oo n) (vs.getD li undef)) (hx : ∀ j, j < xs.length → j ≠ li → Rv w T Rho.none (xs.getD j .junk) (vs.getD j undef)) (hxl : xs.getD li .junk = .own false z ((es.drop oo).take n))
    (hk : ∀ x ∈ res, x.2 ≤ 1) (hrl : res.length ≤ 100) {vr : AV} {a2 : Bool} {z2 : Nat} {es2 : List (List AV)} (hc : CallOk P g res [li] f.tabs xs (.back vr [.own a2 z2 es2])) (hn2 : es2.length = n) (hz2 : z2 = z') :
    Calls P g vs w fun e w' => ∃ u, e = .returned u ∧ WInv f w' T ρ (h.put r (.sl ap z' (es.take oo ++ es2 ++ es.drop (oo + n)))) ∧ Goes w w' T T ρ ρ ∧ Rv w' T ρ (aliasV li r oo vr) u := by
  obtain ⟨hzz, hle, hwl, pl, p1, p2, p3, p4, p5⟩ := lend_sl k hr hv (lid li)
  subst hzz
  subst hz2
  have hu : un1 Heap.none (lid li) (xs.getD li .junk) = (.sl (lid li) z2 0 n, Heap.none.put (lid li) (.sl false z2 ((es.drop oo).take n))) := by rw [hxl]; simp only [un1, hwl]
  obtain ⟨i1, i2⟩ := init_lent k hli hl hx hu rfl rfl p1 p2
  refine (hc (frL w T li pl f.tabs) _ vs rfl rfl hl i1 i2).mono fun e w' he => ?_
  obtain ⟨out, vals, T', ρ', rfl, hs, ho, hret, k', e', fl⟩ := he
  obtain ⟨b1, b2, b3', b4⟩ := back_facts hk hrl (fr := frL w T li pl f.tabs) rfl hs ho hret k' e' fl (x := .sl a2 z2 es2) (av := .sl (lid li) z2 0 es2.length) rfl rfl
  have hplace : ρ' (lid li) = some pl := k'.lp (lid li) (by simp [frL])
  have b3 : Rv w' T ρ (aliasV li r oo vr) (oneR vals) := alias_rv hplace b3' b4 p3 p4 fun b base' hb => by
    rcases p5 with ⟨q1, _⟩ | ⟨b2, base, base2, q1, q2, q3⟩
    · rw [q1] at hb; cases hb
    · rw [q2] at hb
      cases hb
      exact ⟨base, es.length, q1, hle, q3⟩
  have ok2 := k'.rows _ _ b1
  have hnew : (es.take oo ++ es2 ++ es.drop (oo + n)).length = es.length := by simp only [List.length_append, List.length_take, List.length_drop]; omega
  have go : ∀ {p : Pl} {b base : Nat}, ρ r = some p → p.loc = some (b, base) → Keeps (fun b' i => b' = b ∧ (frL w T li pl f.tabs).W0 b' i) w w' → (f.w0.heap.size ≤ b ∨ ∀ i, (frL w T li pl f.tabs).W0 b i → f.W0 b i) → RowOk w' T ρ r (.sl ap z2 (es.take oo ++ es2 ++ es.drop (oo + n))) →
      ∃ u, Ending.returned (oneR vals) = .returned u ∧ WInv f w' T ρ (h.put r (.sl ap z2 (es.take oo ++ es2 ++ es.drop (oo + n)))) ∧ Goes w w' T T ρ ρ ∧ Rv w' T ρ (aliasV li r oo vr) u := by
    intro p b base hp hloc hkeep hW hok
    have hkeep2 : Keeps (fun b' i => b' = b ∧ (frL w T li pl f.tabs).W0 b i) w w' := ⟨hkeep.os, hkeep.tape, hkeep.output, hkeep.size, fun c hc => (hkeep.block c hc).imp id fun ⟨d, d', e, fr, q1, q2, q3, q4⟩ => ⟨d, d', e, fr, q1, q2, q3, fun o ho => q4 o fun hh => ho ⟨hh.1, by rw [← hh.1]; exact hh.2⟩⟩⟩
    obtain ⟨k2, g2⟩ := k.rewriteK hr rfl hp hloc hkeep2 hW hok (fun hh => hh)
    exact ⟨_, rfl, k2, g2, b3⟩
  rcases p5 with ⟨q1, rfl, rfl, rfl, q5⟩ | ⟨b, base, base', q1, q2, q3⟩
  · -- a nil slice
    have h0 : es2 = [] := List.eq_nil_of_length_eq_zero hn2
    subst h0
    have hold : Old w w' := by
      refine Keeps.old ⟨k'.keeps.os, k'.keeps.tape, k'.keeps.output, k'.keeps.size, fun c hc => (k'.keeps.block c hc).imp id fun ⟨d, d', e, fr, s1, s2, s3, s4⟩ => ⟨d, d', e, fr, s1, s2, s3, fun o ho => s4 o fun hh => ?_⟩⟩
      obtain ⟨bb, hb, _⟩ := hh
      rw [q1] at hb
      cases hb
    have hsame : h.put r (.sl ap z2 (List.take 0 [] ++ [] ++ List.drop (0 + 0) [])) = h := by
      funext q
      simp only [Heap.put]
      split
      · rename_i e; rw [e, hr]; rfl
      · rfl
    rw [hsame]
    exact ⟨_, rfl, k.old hold, Goes.old hold, b3⟩
  · have okr := k.rows r _ hr
    rcases okr with ⟨h1, _, h3⟩ | ⟨b', bs, cur, el, h3, h4, h5, h6, h7, h8⟩
    · rw [q1] at h3
      have := congrArg Pl.loc (Option.some.inj h3)
      cases this
    · rw [q1] at h3
      cases h3
      have hWb : ∀ c i, (frL w T li pl f.tabs).W0 c i → c = b ∧ base' ≤ i ∧ i < base' + n * z2 := by
        rintro c i ⟨bb, hb, hi1, hi2⟩
        rw [q2] at hb
        cases hb
        rw [p3, p4] at hi2
        exact ⟨rfl, hi1, hi2⟩
      have hkeep : Keeps (fun b' i => b' = b ∧ (frL w T li pl f.tabs).W0 b' i) w w' := ⟨k'.keeps.os, k'.keeps.tape, k'.keeps.output, k'.keeps.size, fun c hc => (k'.keeps.block c hc).imp id fun ⟨d, d', e, fr, s1, s2, s3, s4⟩ => ⟨d, d', e, fr, s1, s2, s3, fun o ho => s4 o fun hh => ho ⟨(hWb c o hh).1, hh⟩⟩⟩
      have hsm : Same T w w' := hkeep.same fun c i _ hh => by rw [hh.1]; exact h4
      have hblt : b < w.heap.size := lt_of_cells h5
      have hin : ∀ i, base' ≤ i → i < base' + n * z2 → base + oo * z2 ≤ i ∧ i < base + (oo + n) * z2 := by
        intro i g1 g2
        rcases Nat.eq_zero_or_pos n with hn0 | hn0
        · subst hn0; omega
        · rw [q3 hn0] at g1 g2
          rw [Nat.add_mul]
          omega
      refine go q1 rfl hkeep ?_ ?_
      · rcases k.wr r _ _ _ _ hr rfl q1 rfl with g1 | ⟨g1, _⟩
        · exact .inl g1
        · refine .inr fun i hi => ?_
          obtain ⟨_, g2, g3⟩ := hWb b i hi
          obtain ⟨g4, g5⟩ := hin i g2 g3
          refine g1 i (by omega) ?_
          have := Nat.mul_le_mul_right z2 hle
          show i < base + es.length * z2
          omega
      · obtain ⟨cur', hc1, hc2⟩ := hsm.shape b cur el (0, 0) h5
        refine .inr ⟨b, base, cur', el, by rw [hnew]; exact q1, h4, hc1, by rw [hnew, hc2]; exact h6, h7, ⟨fun j hj => ?_, fun j c hj hcz => ?_⟩⟩
        · rw [hnew] at hj
          rcases Nat.lt_or_ge j oo with g1 | g1
          · rw [List.append_assoc, getD_append_left' _ _ _ _ (by simp only [List.length_take]; omega), List.getD_eq_getElem?_getD, List.getElem?_take_of_lt g1, ← List.getD_eq_getElem?_getD]
            exact h8.len j hj
          · rcases Nat.lt_or_ge j (oo + n) with g2 | g2
            · rw [getD_append_left' _ _ _ _ (by simp only [List.length_append, List.length_take]; omega), getD_append_right' _ _ _ _ (by simp only [List.length_take]; omega), List.length_take, Nat.min_eq_left (by omega)]
              rcases ok2 with ⟨s1, _, _⟩ | ⟨_, _, _, _, _, _, _, _, _, s8⟩
              · rw [s1] at hn2; simp at hn2; omega
              · exact s8.len (j - oo) (by omega)
            · rw [getD_append_right' _ _ _ _ (by simp only [List.length_append, List.length_take]; omega), List.length_append, List.length_take, Nat.min_eq_left (by omega), hn2, List.getD_eq_getElem?_getD, List.getElem?_drop, ← List.getD_eq_getElem?_getD, show oo + n + (j - (oo + n)) = j by omega]
              exact h8.len j hj
        · rw [hnew] at hj
          have outside : (j < oo ∨ oo + n ≤ j) → ∃ v, w'.cell? ⟨b, base + j * z2 + c, none⟩ = some v ∧ v.oneCell' = true ∧ Rv w' T Rho.none ((es.getD j []).getD c .junk) v := by
            intro hj2
            obtain ⟨v, s1, s2, s3⟩ := h8.cell j c hj hcz
            refine ⟨v, ?_, s2, s3.mono hsm (fun _ _ h => h) fun _ _ h => h⟩
            rw [← s1]
            refine k'.keeps.cellW hblt fun hh => ?_
            obtain ⟨_, g2, g3⟩ := hWb _ _ hh
            obtain ⟨g4, g5⟩ := hin _ g2 g3
            rcases hj2 with hj2 | hj2
            · have : (j + 1) * z2 ≤ oo * z2 := Nat.mul_le_mul_right z2 hj2
              rw [Nat.add_mul] at this
              omega
            · have : (oo + n) * z2 ≤ j * z2 := Nat.mul_le_mul_right z2 hj2
              omega
          rcases Nat.lt_or_ge j oo with g1 | g1
          · rw [List.append_assoc, getD_append_left' _ _ _ _ (by simp only [List.length_take]; omega), List.getD_eq_getElem?_getD (l := List.take oo es), List.getElem?_take_of_lt g1, ← List.getD_eq_getElem?_getD]
            exact outside (.inl g1)
          · rcases Nat.lt_or_ge j (oo + n) with g2 | g2
            · rw [getD_append_left' _ _ _ _ (by simp only [List.length_append, List.length_take]; omega), getD_append_right' _ _ _ _ (by simp only [List.length_take]; omega), List.length_take, Nat.min_eq_left (by omega)]
              rcases ok2 with ⟨s1, _, _⟩ | ⟨b9, base9, cur9, el9, s3, s4, s5, s6, s7, s8⟩
              · rw [s1] at hn2; simp at hn2; omega
              · rw [hplace] at s3
                have s3' := congrArg Pl.loc (Option.some.inj s3)
                rw [q2] at s3'
                cases s3'
                obtain ⟨v, t1, t2, t3⟩ := s8.cell (j - oo) c (by omega) hcz
                refine ⟨v, ?_, t2, t3.less fun b _ hb => b2 b hb⟩
                rw [← t1, q3 (by omega)]
                congr 2
                have : j * z2 = oo * z2 + (j - oo) * z2 := by rw [← Nat.add_mul, Nat.add_sub_cancel' g1]
                omega
            · rw [getD_append_right' _ _ _ _ (by simp only [List.length_append, List.length_take]; omega), List.length_append, List.length_take, Nat.min_eq_left (by omega), hn2, List.getD_eq_getElem?_getD (l := List.drop (oo + n) es), List.getElem?_drop, ← List.getD_eq_getElem?_getD, show oo + n + (j - (oo + n)) = j by omega]
              exact outside (.inr g2)
end
end Go.Pe
set_option linter.unusedVariables false
set_option linter.unusedSimpArgs false
namespace Go.Pe
open Go
section
variable {P : Program} {f : Fr} {w w' : World} {T T' : Nat → Prop} {ρ ρ' : Rho} {h : Heap} {e : Nat → AV} {a : Act} {o : Oper}
theorem demote_any {av : AV} {v : Value} (k : Rv w T ρ av v) (h1 : v.oneCell' = true) : Rv w T Rho.none (demote av) v := by
  obtain ⟨n1, n2⟩ := one_of_cell k h1
  cases k with
  | sl => exact .junk
  | slz => exact .junk
  | slnil => exact .junk
  | p => exact .junk
  | junk => exact .junk
  | b => exact .b
  | i => exact .i
  | s => exact .s
  | np => exact .np
  | ns => exact .ns
  | lnil ha hm => exact .lnil ha hm
  | l g a1 a2 a3 a4 a5 a6 a7 => exact .l g a1 a2 a3 a4 a5 a6 a7
  | tp g a1 a2 a3 a4 => exact .tp g a1 a2 a3 a4
  | agg => exact absurd rfl (n1 _)
  | tup => exact absurd rfl (n2 _)
theorem lent_st (k : WInv f w T ρ h) {g li : Nat} {res : List (PR × Nat)} {xs : List AV} {vs : Array Value} {r : Nat} {cs cs' : List AV} (hr : h r = some (.st cs)) (hli : li < xs.length) (hl : vs.size = xs.length)
    (hv : Rv w T ρ (.p r 0 0) (vs.getD li undef)) (hx : ∀ j, j < xs.length → j ≠ li → Rv w T Rho.none (xs.getD j .junk) (vs.getD j undef)) (hxl : xs.getD li .junk = .ownp cs') (hcl : cs'.length = cs.length)
    (hcs : ∀ c, c < cs.length → ∀ v, v.oneCell' = true → Rv w T ρ (cs.getD c .junk) v → Rv w T Rho.none (cs'.getD c .junk) v)
    (hk : ∀ x ∈ res, x.2 ≤ 1) (hrl : res.length ≤ 100) {vr : AV} {cs2 : List AV} (hc : CallOk P g res [li] f.tabs xs (.back vr [.ownp cs2])) (hn2 : cs2.length = cs.length) :
    Calls P g vs w fun e w' => ∃ u, e = .returned u ∧ WInv f w' T ρ (h.put r (.st (cs2.map demote))) ∧ Goes w w' T T ρ ρ ∧ Rv w' T Rho.none (demoteT vr) u := by
  obtain ⟨b, base, cur, el, h3, h4, h5, h6, h7⟩ := k.rows r _ hr
  have hu : un1 Heap.none (lid li) (xs.getD li .junk) = (.p (lid li) 0 0, Heap.none.put (lid li) (.st cs')) := by rw [hxl]; rfl
  have p1 : Rv w T (fun s => if s = lid li then some (⟨cs.length, 1, some (b, base)⟩ : Pl) else none) (.p (lid li) 0 0) (vs.getD li undef) := by
    generalize vs.getD li undef = v at hv
    cases hv with
    | p hρ =>
      rw [h3] at hρ
      cases hρ
      exact .p (if_pos rfl)
  have p2 : RowOk w T (fun s => if s = lid li then some (⟨cs.length, 1, some (b, base)⟩ : Pl) else none) (lid li) (.st cs') := by
    refine ⟨b, base, cur, el, by rw [hcl]; exact if_pos rfl, h4, h5, by rw [hcl]; exact h6, ⟨fun j hj => ?_, fun j c hj hcz => ?_⟩⟩
    · cases j with
      | zero => rfl
      | succ j => simp at hj
    · cases j with
      | succ j => simp at hj
      | zero =>
        rw [hcl] at hcz
        obtain ⟨v, s1, s2, s3⟩ := h7.cell 0 c (by simp) hcz
        exact ⟨v, by simpa only [Nat.zero_mul] using s1, s2, (hcs c hcz v s2 s3).any⟩
  obtain ⟨i1, i2⟩ := init_lent k hli hl hx hu rfl rfl p1 p2
  refine (hc (frL w T li _ f.tabs) _ vs rfl rfl hl i1 i2).mono fun e w' he => ?_
  obtain ⟨out, vals, T', ρ', rfl, hs, ho, hret, k', e', fl⟩ := he
  obtain ⟨b1, b2, b3, _⟩ := back_facts hk hrl (fr := frL w T li _ f.tabs) rfl hs ho hret k' e' fl (x := .st cs2) (av := .p (lid li) 0 0) rfl rfl
  have hplace : ρ' (lid li) = some (⟨cs.length, 1, some (b, base)⟩ : Pl) := k'.lp (lid li) (by simp [frL])
  obtain ⟨b9, base9, cur9, el9, s3, s4, s5, s6, s7⟩ := k'.rows _ _ b1
  rw [hplace] at s3
  have s3' := congrArg Pl.loc (Option.some.inj s3)
  cases s3'
  have hWb : ∀ c i, (frL w T li (⟨cs.length, 1, some (b, base)⟩ : Pl) f.tabs).W0 c i → c = b ∧ base ≤ i ∧ i < base + cs.length := by
    rintro c i ⟨bb, hb, hi1, hi2⟩
    cases hb
    exact ⟨rfl, hi1, by simpa using hi2⟩
  have hkeep : Keeps (fun b' i => b' = b ∧ base ≤ i ∧ i < base + cs.length) w w' := ⟨k'.keeps.os, k'.keeps.tape, k'.keeps.output, k'.keeps.size, fun c hc => (k'.keeps.block c hc).imp id fun ⟨d, d', e, fr, t1, t2, t3, t4⟩ => ⟨d, d', e, fr, t1, t2, t3, fun o ho => t4 o fun hh => ho (hWb c o hh)⟩⟩
  have hsm : Same T w w' := hkeep.same fun c i _ hh => by rw [hh.1]; exact h4
  have hok : RowOk w' T ρ r (.st (cs2.map demote)) := by
    obtain ⟨cur', hc1, hc2⟩ := hsm.shape b cur el (0, 0) h5
    have hlen : (cs2.map demote).length = cs.length := by rw [List.length_map]; exact hn2
    refine ⟨b, base, cur', el, by rw [hlen]; exact h3, h4, hc1, by rw [hlen, hc2]; exact h6, ⟨fun j hj => ?_, fun j c hj hcz => ?_⟩⟩
    · cases j with
      | zero => rfl
      | succ j => simp at hj
    · cases j with
      | succ j => simp at hj
      | zero =>
        rw [hlen] at hcz
        obtain ⟨v, t1, t2, t3⟩ := s7.cell 0 c (by simp) (by omega)
        refine ⟨v, by simpa only [Nat.zero_mul] using t1, t2, ?_⟩
        show Rv w' T ρ ((cs2.map demote).getD c .junk) v
        rw [getD_map_lt demote cs2 c .junk .junk (by omega)]
        exact ((demote_any t3 t2).less fun b _ hb => b2 b hb).any
  obtain ⟨k2, g2⟩ := k.rewriteK hr rfl h3 rfl hkeep ((k.wr r _ _ _ _ hr rfl h3 rfl).imp id fun hh i hi => hh.1 i hi.1 (by
    show i < base + 1 * cs.length
    omega)) hok (fun hh => by cases hh)
  exact ⟨_, rfl, k2, g2, b3⟩
theorem argsL_get {x : AV} : ∀ {li : Nat} {vs : List AV}, (argsL h x li vs).length = vs.length ∧ ∀ j, j < vs.length → (argsL h x li vs).getD j .junk = if j = li then x else tell h (vs.getD j .junk) := by
  intro li
  induction li with
  | zero =>
    intro vs
    cases vs with
    | nil => exact ⟨rfl, fun j hj => by cases hj⟩
    | cons v vs =>
      refine ⟨by simp [argsL], fun j hj => ?_⟩
      cases j with
      | zero => rfl
      | succ j =>
        rw [if_neg (by omega)]
        show (vs.map (tell h)).getD j .junk = tell h (vs.getD j .junk)
        exact getD_map_lt (tell h) vs j .junk .junk (by simpa using hj)
  | succ li ih =>
    intro vs
    cases vs with
    | nil => exact ⟨rfl, fun j hj => by cases hj⟩
    | cons v vs =>
      obtain ⟨h1, h2⟩ := ih (vs := vs)
      refine ⟨by simp [argsL, h1], fun j hj => ?_⟩
      cases j with
      | zero => rw [if_neg (by omega)]; rfl
      | succ j =>
        have := h2 j (by simpa using hj)
        show (argsL h x li vs).getD j .junk = _
        rw [this]
        by_cases hji : j = li
        · rw [if_pos hji, if_pos (by omega)]
        · rw [if_neg hji, if_neg (by omega)]; rfl
theorem refsL_mem {r : Nat} : ∀ {li : Nat} {vs : List AV} {j : Nat}, j < vs.length → j ≠ li → r ∈ ref h (vs.getD j .junk) → r ∈ refsL h li vs := by
  intro li
  induction li with
  | zero =>
    intro vs j hj hne hr
    cases vs with
    | nil => cases hj
    | cons v vs =>
      cases j with
      | zero => exact absurd rfl hne
      | succ j => exact List.mem_flatMap.2 ⟨vs.getD j AV.junk, getD_mem AV.junk (by simpa using hj), show r ∈ ref h (vs.getD j AV.junk) from hr⟩
  | succ li ih =>
    intro vs j hj hne hr
    cases vs with
    | nil => cases hj
    | cons v vs =>
      cases j with
      | zero => exact List.mem_append.2 (.inl hr)
      | succ j => exact List.mem_append.2 (.inr (ih (by simpa using hj) (by omega) hr))
theorem freeze_win0 (rs : List Nat) (r o n : Nat) : ((h.freeze rs) r).bind (Row.win o n) = (h r).bind (Row.win o n) := by
  induction rs with
  | nil => rfl
  | cons q rs ih =>
    simp only [Heap.freeze]
    split
    · rw [← ih]
      cases h.freeze rs r with
      | none => rfl
      | some x => cases x <;> rfl
    · exact ih
theorem freeze_tell0 (rs : List Nat) (v : AV) : tell0 (h.freeze rs) v = tell0 h v := by
  cases v <;> try rfl
  simp only [tell0, freeze_win0]
theorem op_callw (k : WInv f w T ρ h) (he : Env w T ρ e a) {c : Go.Call} {g g' li : Nat} {ys : List At} {res : List (PR × Nat)} {av : AV} {h' : Heap} (call : Call) (ho : o.op = .call c) (hcal : c.callee = .value (.func g')) (hm : mas f.tabs c.args.toList ys = true) (hb : bodied P g' = true) (hli : li < ys.length)
    (hk : ∀ x ∈ res, x.2 ≤ 1) (hrl : res.length ≤ 100) (hc : ∀ xs r, call g xs = some r → CallOk P g' res [li] f.tabs xs r) (hv : PO.ev call (.callw g ys li) e h = some (av, h')) : Goes1 P f o a w T ρ av h' := by
  simp only [PO.ev, callL, Option.bind_eq_some_iff] at hv
  obtain ⟨x, hlend, r, hr, hback⟩ := hv
  obtain ⟨hlen, hrv⟩ := mas_rv k he hm
  have hrun : (execOp a.eval o).run P w = .ok (.enter g' (c.args.map a.eval)) w := by
    simp [execOp, ho, resolve, hcal, Act.eval, Deferred.ofValue, invoke, run_callFunc hb]
  have hvs : ∀ j, (c.args.map a.eval).getD j undef = (c.args.toList.map a.eval).getD j undef := fun j => by simp [List.getD_eq_getElem?_getD]
  have hsz : (c.args.map a.eval).size = (argsL h x li (ys.map (At.ev e))).length := by rw [(argsL_get (h := h) (x := x) (li := li)).1]; simp [← hlen]
  have hll : li < (argsL h x li (ys.map (At.ev e))).length := by rw [(argsL_get (h := h) (x := x) (li := li)).1]; simpa using hli
  have hxl : (argsL h x li (ys.map (At.ev e))).getD li .junk = x := by rw [(argsL_get (h := h) (x := x) (li := li)).2 li (by simpa using hli), if_pos rfl]
  have hli' := hrv li hli
  have others : ∀ {T1 : Nat → Prop}, (∀ b, b < w.heap.size → T1 b → T b) → (∀ r ∈ refsL h li (ys.map (At.ev e)), ∀ b, rowBlk h ρ r b → ¬ T1 b) → ∀ j, j < (argsL h x li (ys.map (At.ev e))).length → j ≠ li → Rv w T1 Rho.none ((argsL h x li (ys.map (At.ev e))).getD j .junk) ((c.args.map a.eval).getD j undef) := by
    intro T1 hless hfree j hj hne
    rw [(argsL_get (h := h) (x := x) (li := li)).1, List.length_map] at hj
    rw [(argsL_get (h := h) (x := x) (li := li)).2 j (by simpa using hj), if_neg hne, hvs]
    exact tell_rv k.rows hless (hrv j hj) fun r hr' b hb => hfree r (refsL_mem (by simpa using hj) hne hr') b hb
  have finish : ∀ {T1 : Nat → Prop} {h2 : Heap} {vr : AV}, Goes w w T T1 ρ ρ → av = vr → h' = h2 → Calls P g' (c.args.map a.eval) w (fun e w' => ∃ u, e = .returned u ∧ WInv f w' T1 ρ h2 ∧ Goes w w' T1 T1 ρ ρ ∧ Rv w' T1 ρ vr u) → Goes1 P f o a w T ρ av h' := by
    intro T1 h2 vr g1 e1 e2 hcalls K Q hK
    subst e1
    subst e2
    unfold Oper.wp
    rw [hrun]
    refine hcalls.mono fun e w' hw => ?_
    obtain ⟨u, rfl, k2, g2, r2⟩ := hw
    exact hK u w' T1 ρ k2 (g1.trans g2) r2
  unfold backL at hback
  split at hback
  · rename_i q z oo n vr a2 z2 es2 hy
    split at hback
    · rename_i ap z' es hrow
      split at hback
      · rename_i hcond
        obtain ⟨c1, c2, c3⟩ := hcond
        cases hback
        rw [hy] at hlend hli'
        simp only [lendL, hrow] at hlend
        cases hlend
        obtain ⟨T1, k1, g1, hfree, _⟩ := k.freeze (refsL h li (ys.map (At.ev e)))
        refine finish g1 rfl rfl ?_
        refine lent_sl k1 (by rw [freeze_notin c1]; exact hrow) hll hsz ?_ (others g1.less hfree) hxl hk hrl (hc _ _ hr) c2 c3
        rw [hvs]
        exact g1.rv hli'
      · cases hback
    · cases hback
  · rename_i q vr cs2 hy
    split at hback
    · rename_i cs hrow
      split at hback
      · rename_i hcond
        obtain ⟨c1, c2⟩ := hcond
        cases hback
        rw [hy] at hlend hli'
        simp only [lendL, hrow] at hlend
        cases hlend
        obtain ⟨T1, k1, g1, hfree, _⟩ := k.freeze (refsL h li (ys.map (At.ev e)) ++ cs.flatMap ref0)
        refine finish g1 rfl rfl ((lent_st k1 (by rw [freeze_notin c1]; exact hrow) hll hsz ?_ (others g1.less fun r hr b hb => hfree r (List.mem_append.2 (.inl hr)) b hb) hxl (by simp) (fun c hcc v hv1 hv2 => ?_) hk hrl (hc _ _ hr) c2).mono fun e w' hw => by obtain ⟨u, e1, k2, g2, r2⟩ := hw; exact ⟨u, e1, k2, g2, r2.any⟩)
        · rw [hvs]
          exact g1.rv hli'
        · rw [getD_map_lt (tell0 h) cs c .junk .junk hcc]
          have := tell0_cell (T' := T1) (h := h.freeze (refsL h li (ys.map (At.ev e)) ++ cs.flatMap ref0)) k1.rows (fun _ _ h => h) hv1 hv2 fun r hr b hb => by
            obtain ⟨x, p, base, hx, hl, hp, hloc⟩ := hb
            have := freeze_live' hx hl
            exact absurd (List.mem_append.2 (.inr (List.mem_flatMap.2 ⟨_, getD_mem .junk hcc, hr⟩))) this.2
          rwa [freeze_tell0] at this
      · cases hback
    · cases hback
  · cases hback
end
end Go.Pe
set_option linter.unusedVariables false
set_option linter.unusedSimpArgs false
namespace Go.Pe
open Go
section
variable {P : Program} {f : Fr} {w w' : World} {T T' : Nat → Prop} {ρ ρ' : Rho} {h : Heap} {e : Nat → AV} {a : Act} {o : Oper}
theorem call_own (k : WInv f w T ρ h) {g : Nat} {res : List (PR × Nat)} {xs : List AV} {vs : Array Value} {ap : Bool} {z : Nat} {es : List (List AV)} (hk : ∀ x ∈ res, x.2 ≤ 1) (hc : CallOk P g res [] f.tabs xs (.own ap z es)) (hl : vs.size = xs.length) (hx : ∀ j, j < xs.length → Rv w T Rho.none (xs.getD j .junk) (vs.getD j undef)) {id : Nat} (hid : h id = none) :
    Calls P g vs w fun e w' => ∃ v T' ρ', e = .returned v ∧ WInv f w' T' ρ' (h.put id (.sl ap z es)) ∧ Goes w w' T T' ρ ρ' ∧ Rv w' T' ρ' (.sl id z 0 es.length) v := by
  obtain ⟨h1, h2⟩ := init_told k hl hx
  refine (hc ⟨w, fun _ _ => False, T, [], fun _ => ⟨0, 0, none⟩, f.tabs⟩ Rho.none vs rfl rfl hl h1 h2).mono fun e w' he => ?_
  obtain ⟨out, vals, T', ρ', rfl, hs, ho, hret, k', e', fl⟩ := he
  have hol : out.length = res.length := by rw [ho]; exact kindL_length res 0
  have hout : out = [.own ap z es] := by
    match out, hret with
    | [x], hret => have : AV.own ap z es = x := hret; rw [this]
    | [], hret => cases hret
    | _ :: _ :: _, hret => cases hret
  subst hout
  have hone : vals.size = 1 := by rw [hs, ← hol]; rfl
  have hv : oneR vals = vals.getD 0 undef := by simp [oneR, hone]
  obtain ⟨_, _, h3⟩ := unpack_kind' res 0 [.own ap z es] St.none hk hol
  obtain ⟨s1, s2⟩ : (un (resL res []) [.own ap z es]).env 0 = .sl (pid 0) z 0 es.length ∧ (un (resL res []) [.own ap z es]).h (pid 0) = some (.sl ap z es) := by
    have := h3 0 (by rw [← hol]; simp)
    exact this
  have hold := k'.keeps.old
  have hrv := e' 0
  rw [s1] at hrv
  have h0 : ∀ b, T b → T' b := fun b hb => (k'.t0 b hb).elim (fun h => h) fun ⟨r, hr, _⟩ => by cases hr
  have ko := k.old hold
  rcases k'.rows _ _ s2 with ⟨r1, r2, r3⟩ | ⟨b, base, cur, el, r3, r4, r5, r6, r7, r8⟩
  · subst r1
    obtain ⟨k2, g2⟩ := ko.newnil hid z (ap := ap)
    refine ⟨_, _, _, rfl, k2, (Goes.old hold).trans g2, ?_⟩
    rw [hv]
    have hrv2 : Rv w' T' ρ' (.sl (pid 0) z 0 0) (vals.getD 0 undef) := hrv
    generalize vals.getD 0 undef = u at hrv2
    cases hrv2 with
    | sl q1 => rw [r3] at q1; have := congrArg Pl.loc (Option.some.inj q1); cases this
    | slz q1 => rw [r3] at q1; have := congrArg Pl.loc (Option.some.inj q1); cases this
    | slnil q1 => exact .slnil (if_pos rfl)
  · have hge : w.heap.size ≤ b := k'.own _ _ _ _ _ (by simp) s2 rfl r3 rfl
    have hlt := lt_of_cells r5
    have less : ∀ c, c < w'.heap.size → (T c ∨ c = b) → T' c := fun c _ hc => hc.elim (h0 c) fun e => e ▸ r4
    obtain ⟨k2, g2⟩ := k.new' hold hid (x := .sl ap z es) (z := z) (n := es.length) (base := base) (by omega) hge hlt (.inr ⟨b, base, cur, el, if_pos rfl, .inr rfl, r5, r6, r7, r8.mono (fun _ => rfl) fun av v hh => hh.less less⟩)
    refine ⟨_, _, _, rfl, k2, g2, ?_⟩
    rw [hv]
    have hrv2 : Rv w' T' ρ' (.sl (pid 0) z 0 es.length) (vals.getD 0 undef) := hrv
    generalize vals.getD 0 undef = u at hrv2
    generalize hn0 : es.length = n0 at *
    cases hrv2 with
    | sl q1 q2 q3 q4 q5 => rw [r3] at q1; cases q1; exact .sl (if_pos rfl) q2 q3 q4 q5
    | slz q1 q2 => rw [r3] at q1; cases q1; exact .slz (if_pos rfl) q2
    | slnil q1 => rw [r3] at q1; have := congrArg Pl.loc (Option.some.inj q1); cases this
theorem op_callo (k : WInv f w T ρ h) (he : Env w T ρ e a) {c : Go.Call} {g g' id : Nat} {ys : List At} {res : List (PR × Nat)} {av : AV} {h' : Heap} (call : Call) (ho : o.op = .call c) (hcal : c.callee = .value (.func g')) (hm : mas f.tabs c.args.toList ys = true) (hb : bodied P g' = true)
    (hk : ∀ x ∈ res, x.2 ≤ 1) (hc : ∀ xs r, call g xs = some r → CallOk P g' res [] f.tabs xs r) (hv : PO.ev call (.callo g ys id) e h = some (av, h')) : Goes1 P f o a w T ρ av h' := by
  simp only [PO.ev, callO, Option.bind_eq_some_iff] at hv
  obtain ⟨r, hr, hv⟩ := hv
  obtain ⟨hlen, hrv⟩ := mas_rv k he hm
  obtain ⟨T1, k1, g1, hfree, _⟩ := k.freeze ((ys.map (At.ev e)).flatMap (ref h))
  have hrun : (execOp a.eval o).run P w = .ok (.enter g' (c.args.map a.eval)) w := by
    simp [execOp, ho, resolve, hcal, Act.eval, Deferred.ofValue, invoke, run_callFunc hb]
  unfold ownR at hv
  split at hv
  · rename_i ap z es
    split at hv
    · rename_i hid
      cases hv
      have hcalls := call_own k1 (vs := c.args.map a.eval) hk (hc _ _ hr) (by simp [← hlen]) (fun j hj => by
        simp only [List.length_map] at hj
        have h1 := hrv j hj
        rw [getD_map_lt (tell h) _ j .junk .junk (by simpa using hj)]
        have h2 : (c.args.map a.eval).getD j undef = (c.args.toList.map a.eval).getD j undef := by simp [List.getD_eq_getElem?_getD]
        rw [h2]
        exact tell_rv k.rows g1.less h1 fun r hr' b hb => hfree r (List.mem_flatMap.2 ⟨_, getD_mem .junk (by simpa using hj), hr'⟩) b hb) (id := id) (freeze_none.2 (by simpa using hid))
      intro K Q hK
      unfold Oper.wp
      rw [hrun]
      refine hcalls.mono fun e w' hw => ?_
      obtain ⟨v, T2, ρ2, rfl, k2, g2, r2⟩ := hw
      exact hK v w' T2 ρ2 k2 (g1.trans g2) r2
    · cases hv
  · cases hv
    have hcalls := call_told k1 (vs := c.args.map a.eval) hk (hc _ _ hr) (by simp [← hlen]) fun j hj => by
      simp only [List.length_map] at hj
      have h1 := hrv j hj
      rw [getD_map_lt (tell h) _ j .junk .junk (by simpa using hj)]
      have h2 : (c.args.map a.eval).getD j undef = (c.args.toList.map a.eval).getD j undef := by simp [List.getD_eq_getElem?_getD]
      rw [h2]
      exact tell_rv k.rows g1.less h1 fun r hr' b hb => hfree r (List.mem_flatMap.2 ⟨_, getD_mem .junk (by simpa using hj), hr'⟩) b hb
    intro K Q hK
    unfold Oper.wp
    rw [hrun]
    refine hcalls.mono fun e w' hw => ?_
    obtain ⟨v, rfl, hold, hrv'⟩ := hw
    exact hK v w' T1 ρ (k1.old hold) (g1.trans (Goes.old hold)) (Rv.any hrv')
  · cases hv
end
end Go.Pe
set_option linter.unusedVariables false
set_option linter.unusedSimpArgs false
namespace Go.Pe
open Go
section
variable {P : Program} {f : Fr} {w : World} {T T' : Nat → Prop} {ρ : Rho} {h : Heap} {e : Nat → AV} {a : Act} {o : Oper}
theorem byteNs_vals {new : List (List AV)} {ns : List Int} (hn : byteNs new = some ns) : ∀ {vs : List Value}, vs.length = new.length * 1 → (∀ j c, j < new.length → c < 1 → Rv w T Rho.none ((new.getD j []).getD c .junk) (vs.getD (j * 1 + c) undef)) → vs = ns.map (Value.int .u8) := by
  induction new generalizing ns with
  | nil =>
    intro vs hl _
    cases hn
    have : vs = [] := List.length_eq_zero_iff.1 (by simpa using hl)
    subst this
    rfl
  | cons x l ih =>
    intro vs hl hr
    unfold byteNs at hn
    split at hn
    · rename_i e; cases e
    · rename_i n l' e
      cases e
      simp only [Option.map_eq_some_iff] at hn
      obtain ⟨ms, hms, rfl⟩ := hn
      cases vs with
      | nil => simp at hl
      | cons v vs =>
        have h0 := hr 0 0 (by simp) (by omega)
        have h1 : v = .int .u8 n := by
          have : Rv w T Rho.none (.i .u8 n) v := h0
          cases this
          rfl
        have h2 := ih hms (vs := vs) (by simpa using hl) fun j c hj hc => by
          have := hr (j + 1) c (by simpa using hj) hc
          rw [show (j + 1) * 1 + c = (j * 1 + c) + 1 by omega] at this
          exact this
        rw [h1, h2]
        rfl
    · cases hn
theorem op_b2s (k : WInv f w T ρ h) (he : Env w T ρ e a) {x : Operand} {x' : At} {s d el : TypeId} {av : AV} {h' : Heap} (call : Call) (ho : o.op = .convert s d x) (hs : P.underlying s = some (.slice el)) (hel : P.underlying el = some (.int .u8)) (hd : P.underlying d = some .string) (h1 : ma f.tabs x x' = true)
    (hv : PO.ev call (.b2s x') e h = some (av, h')) : h' = h ∧ ∃ v, Gives P o a w v ∧ Rv w T ρ av v := by
  have r1 := ma_rv k he h1
  simp only [PO.ev, Option.map_eq_some_iff, Option.bind_eq_some_iff] at hv
  obtain ⟨ns, ⟨new, hnew, hns⟩, hv⟩ := hv
  cases hv
  obtain ⟨vs, src⟩ := esV_src k r1 hnew
  have hvs := byteNs_vals hns src.len fun j c hj hc => (src.rv j c hj hc).1
  refine ⟨rfl, .string (bytesS ns), ?_, .s⟩
  generalize hx : a.eval x = v at src
  rcases src.val with ⟨rfl, rfl⟩ | ⟨ad, cap, rfl, hc⟩
  · cases hns
    simp only [Gives, execOp, ho, hx, Sem.run_bind, run_convert_bytes_string w s d el none 0 0 hs hel hd, Conv.bytesToString, Sem.run_pure, Result.andThen_ok]
    rfl
  · have hl := run_loadCells_list (P := P) w ad vs hc
    have hlen : vs.length = new.length := by rw [src.len]; omega
    rw [hlen, hvs] at hl
    simp only [Gives, execOp, ho, hx, Sem.run_bind, run_convert_bytes_string w s d el (some ad) new.length cap hs hel hd, run_bytesToString w ad new.length cap ns hl, Sem.run_pure, Result.andThen_ok]
    rfl
end
end Go.Pe
set_option linter.unusedVariables false
set_option linter.unusedSimpArgs false
namespace Go.Pe
open Go
section
variable {P : Program} {f : Fr} {w : World} {T : Nat → Prop} {ρ : Rho} {h : Heap} {e : Nat → AV} {a : Act} {o : Oper}
theorem scut_opt (k : WInv f w T ρ h) (he : Env w T ρ e a) {hi : Option Operand} {hi' : Option At} {x : AV} {l : Option Int} {av : AV}
    (hv : (match hi' with | none => scutV x l none | some y => (intV (y.ev e)).bind fun u => scutV x l (some u)) = some av) (hm : mo2 f.tabs hi hi' = true) : ∃ u, scutV x l u = some av ∧ ((hi.map a.eval = none ∧ u = none) ∨ ∃ q n, hi.map a.eval = some (.int q n) ∧ u = some n) := by
  cases hi with
  | none =>
    cases hi' with
    | none => exact ⟨none, hv, .inl ⟨rfl, rfl⟩⟩
    | some y => cases hm
  | some x =>
    cases hi' with
    | none => cases hm
    | some y =>
      simp only [Option.bind_eq_some_iff] at hv
      obtain ⟨u, h1, h2⟩ := hv
      obtain ⟨q, hq⟩ := intV_i h1 (ma_rv k he hm)
      exact ⟨some u, h2, .inr ⟨q, u, by simp [hq], rfl⟩⟩
theorem op_scut (k : WInv f w T ρ h) (he : Env w T ρ e a) {x : Operand} {x' : At} {lo hi : Option Operand} {lo' hi' : Option At} {t : TypeId} {av : AV} {h' : Heap} (call : Call) (ho : o.op = .slice t x lo hi none) (hu : P.underlying t = some .string)
    (h1 : ma f.tabs x x' = true) (hlo : mo2 f.tabs lo lo' = true) (hhi : mo2 f.tabs hi hi' = true)
    (hv : PO.ev call (.scut x' lo' hi') e h = some (av, h')) : h' = h ∧ ∃ v, Gives P o a w v ∧ Rv w T ρ av v := by
  have r1 := ma_rv k he h1
  simp only [PO.ev, Option.map_eq_some_iff] at hv
  obtain ⟨c, hc, hcv⟩ := hv
  cases hcv
  obtain ⟨u, hs, hu2⟩ := scut_opt k he hc hhi
  unfold scutV at hs
  split at hs
  · rename_i y l hq hl
    split at hs
    · rename_i hcond
      cases hs
      rw [hq] at r1
      have hL := opt_l k he hlo hl
      have hL' : (lo.map a.eval = none ∧ l = 0) ∨ ∃ q, lo.map a.eval = some (.int q l) := by
        rcases hL with ⟨g1, _, g3⟩ | g
        · exact .inl ⟨g1, g3⟩
        · exact .inr g
      have hU : (hi.map a.eval = none ∧ (none : Option Value) = none ∧ u.getD (y.size : Int) = (y.size : Int)) ∨ ∃ q, hi.map a.eval = some (.int q (u.getD (y.size : Int))) := by
        rcases hu2 with ⟨g1, rfl⟩ | ⟨q, n, g1, rfl⟩
        · exact .inl ⟨g1, rfl, rfl⟩
        · exact .inr ⟨q, g1⟩
      have hb := run_bounds (P := P) (w := w) (isS := false) (len := y.size) (cap := y.size) hL' hU (.inl ⟨rfl, rfl⟩) hcond.1 hcond.2.1 hcond.2.2 (Int.le_refl _)
      refine ⟨rfl, _, ?_, .s⟩
      simp only [Gives, execOp, ho, inv_s r1, Instr.sliceAt, Instr.slice, Sem.run_bind, run_underlying hu w, Result.andThen_ok, Option.map_none, Option.isSome_none, Bool.false_eq_true, if_false, Sem.run_pure, hb]
    · cases hs
  · cases hs
theorem op_aidx (k : WInv f w T ρ h) (he : Env w T ρ e a) {x y : Operand} {x' y' : At} {t el : TypeId} {n sz : Nat} {ag : Bool} {av : AV} {h' : Heap} (call : Call) (ho : o.op = .index t x y) (hu : P.underlying t = some (.array n el)) (hsz : szT P el = some sz) (hag : aggT P el = some ag)
    (h1 : ma f.tabs x x' = true) (h2 : ma f.tabs y y' = true) (hv : PO.ev call (.aidx ag n sz x' y') e h = some (av, h')) : h' = h ∧ ∃ v, Gives P o a w v ∧ Rv w T ρ av v := by
  have r1 := ma_rv k he h1
  have r2 := ma_rv k he h2
  simp only [PO.ev] at hv
  split at hv
  · rename_i cs j hq hj
    split at hv
    · rename_i hcond
      simp only [Option.map_eq_some_iff] at hv
      obtain ⟨c, hc, hcv⟩ := hv
      cases hcv
      obtain ⟨q, hy⟩ := intV_i hj r2
      rw [hq] at r1
      generalize hx : a.eval x = v at r1
      cases r1 with
      | agg us hl hone hu2 =>
        obtain ⟨v, h3, h4⟩ := part_rv hag hsz hl hone hu2 hc
        refine ⟨rfl, v, ?_, h4⟩
        simp only [Gives, execOp, ho, hx, hy, Instr.index, asIntOf, Sem.run_bind, Sem.run_pure, Result.andThen_ok, run_underlying hu w, if_pos hcond, run_sizeOf' hsz, h3]
    · cases hv
  · cases hv
theorem bytesL_length (s : ByteArray) : (bytesL s).length = s.size := by unfold bytesL; rw [List.length_map, Array.length_toList]; rfl
theorem bytesL_getD (s : ByteArray) (j : Nat) (hj : j < s.data.size) : (bytesL s).getD j [] = [.i .u8 (s.data[j].toNat : Int)] := by
  unfold bytesL
  rw [List.getD_eq_getElem?_getD, List.getElem?_map, Array.getElem?_toList, Array.getElem?_eq_getElem hj]
  rfl
theorem dget (y : ByteArray) (j : Nat) (hj : j < y.data.size) : y.data.getD j 0 = y.data[j] := by rw [Array.getD_eq_getD_getElem?, Array.getElem?_eq_getElem hj]; rfl
theorem op_s2b (k : WInv f w T ρ h) (he : Env w T ρ e a) {x : Operand} {x' : At} {s d el : TypeId} {av : AV} {h' : Heap} (call : Call) (ho : o.op = .convert s d x) (hs : P.underlying s = some .string) (hd : P.underlying d = some (.slice el)) (hel : P.underlying el = some (.int .u8)) (h1 : ma f.tabs x x' = true)
    (hv : PO.ev call (.s2b x') e h = some (av, h')) : Turns P f o a w T ρ av h' := by
  have r1 := ma_rv k he h1
  simp only [PO.ev] at hv
  split at hv
  · rename_i y hq
    split at hv
    · rename_i hcond
      cases hv
      rw [hq] at r1
      have hr := run_bytes_of_string (P := P) w s d el y hs hd hel
      have hold : Old w (w.drew.alloc (.cells (bytesRow y (grownCap w y.size 0 el)) el ((bytesRow y (grownCap w y.size 0 el)).size, (bytesRow y (grownCap w y.size 0 el)).size + 1))) := (Old.drew w).trans (Old.alloc _ _)
      refine ⟨.slice (some ⟨w.heap.size, 0, none⟩) y.size (grownCap w y.size 0 el), _, T, ρ, .inl ?_, k.old hold, ⟨hold.same T, fun _ _ h => h, fun _ _ h => h⟩, ?_⟩
      · simp only [execOp, ho, inv_s r1, Sem.run_bind, hr, Result.andThen_ok, Sem.run_pure]
      · have hnt : ¬ T w.heap.size := fun ht => Nat.lt_irrefl _ (k.tlt _ ht)
        have key := Rv.l (w := w.drew.alloc (.cells (bytesRow y (grownCap w y.size 0 el)) el ((bytesRow y (grownCap w y.size 0 el)).size, (bytesRow y (grownCap w y.size 0 el)).size + 1))) (T := T) (ρ := ρ) (z := 1) (es := bytesL y) (b := w.heap.size) (base := 0) (cap := grownCap w y.size 0 el)
          (fun j _ => .int .u8 ((y.data.getD j 0).toNat : Int)) hnt (by show w.heap.size < (w.heap.push _).size; rw [Array.size_push]; exact Nat.lt_succ_self _) (by rw [bytesL_length]; exact grownCap_ge ..) (grownCap_le_maxLen _ _ _ _ (by simp only [maxLen]; omega))
          (fun j hj => by rw [bytesL_length] at hj; rw [bytesL_getD y j hj]; rfl)
          (fun j c hj hc => by
            rw [bytesL_length] at hj
            have hc0 : c = 0 := by omega
            subst hc0
            refine ⟨?_, rfl⟩
            have e1 := World.cell?_alloc_mark w.drew (bytesRow y (grownCap w y.size 0 el)) el ((bytesRow y (grownCap w y.size 0 el)).size, (bytesRow y (grownCap w y.size 0 el)).size + 1) (0 + j * 1 + 0)
            have e2 : w.drew.heap.size = w.heap.size := rfl
            rw [e2] at e1
            rw [e1, show 0 + j * 1 + 0 = j by omega, bytesRow_at y _ j hj]
            rw [dget y j hj])
          (fun j c hj hc => by
            rw [bytesL_length] at hj
            have hc0 : c = 0 := by omega
            subst hc0
            have hj' : j < y.data.size := hj
            rw [bytesL_getD y j hj']
            rw [dget y j hj']
            exact .i)
        rw [bytesL_length] at key
        exact key
    · cases hv
  · cases hv
end
end Go.Pe
set_option linter.unusedVariables false
set_option linter.unusedSimpArgs false
namespace Go.Pe
open Go
abbrev Fns := (Nat → Option PF) × (Nat → Nat)
def zeroOk (P : Program) (t : TypeId) (z : List AV) : Bool := match P.info? t with
  | some i => match i.zero with
    | some zv => mvs zv.cells.toList z
    | none => false
  | none => false
theorem zeroOk_spec {P : Program} {t : TypeId} {z : List AV} (h : zeroOk P t z = true) : ∃ i zv, P.info? t = some i ∧ i.zero = some zv ∧ mvs zv.cells.toList z = true := by
  unfold zeroOk at h
  split at h
  · rename_i i hi
    split at h
    · rename_i zv hz; exact ⟨i, zv, hi, hz, h⟩
    · cases h
  · cases h
def elT (P : Program) (t : TypeId) : Option TypeId := match P.underlying t with
  | some (.slice el) => some el
  | _ => none
theorem elT_spec {P : Program} {t el : TypeId} (h : elT P t = some el) : P.underlying t = some (.slice el) := by
  unfold elT at h
  split at h
  · rename_i e he; cases h; exact he
  · cases h
def intT (P : Program) (t : TypeId) : Option IntKind := match P.underlying t with
  | some (.int k) => some k
  | _ => none
theorem intT_spec {P : Program} {t : TypeId} {k : IntKind} (h : intT P t = some k) : P.underlying t = some (.int k) := by
  unfold intT at h
  split at h
  · rename_i e he; cases h; exact he
  · cases h
def isBoolT (P : Program) (t : TypeId) : Bool := match P.underlying t with
  | some .bool => true
  | _ => false
theorem isBoolT_spec {P : Program} {t : TypeId} (h : isBoolT P t = true) : P.underlying t = some .bool := by
  unfold isBoolT at h
  split at h
  · rename_i he; exact he
  · cases h
def isStrT (P : Program) (t : TypeId) : Bool := match P.underlying t with
  | some .string => true
  | _ => false
theorem isStrT_spec {P : Program} {t : TypeId} (h : isStrT P t = true) : P.underlying t = some .string := by
  unfold isStrT at h
  split at h
  · rename_i he; exact he
  · cases h
def strT (P : Program) (t : TypeId) : Option (Array Field) := match P.underlying t with
  | some (.struct fs) => some fs
  | _ => none
theorem strT_spec {P : Program} {t : TypeId} {fs : Array Field} (h : strT P t = some fs) : P.underlying t = some (.struct fs) := by
  unfold strT at h
  split at h
  · rename_i e he; cases h; exact he
  · cases h
def arrT (P : Program) (t : TypeId) : Option (Nat × TypeId) := match P.underlying t with
  | some (.array n el) => some (n, el)
  | _ => none
theorem arrT_spec {P : Program} {t el : TypeId} {n : Nat} (h : arrT P t = some (n, el)) : P.underlying t = some (.array n el) := by
  unfold arrT at h
  split at h
  · rename_i a b he; cases h; exact he
  · cases h
def elOk (P : Program) (t : TypeId) (sz : Nat) (bytes : Option Nat) (z : Option (List AV)) : Bool := match elT P t with
  | some el => match P.info? el with
    | some i => decide (i.size = sz) && decide (0 < sz) && (match bytes with | some b => decide (i.bytes = b) && decide (0 < b) | none => true) && (match i.zero with
      | some zv => (match z with | some z => mvs zv.cells.toList z && decide (z.length = sz) | none => decide (zv.cells.size = sz))
      | none => false)
    | none => false
  | none => false
theorem elOk_spec {P : Program} {t : TypeId} {sz : Nat} {bytes : Option Nat} {z : Option (List AV)} (h : elOk P t sz bytes z = true) :
    ∃ el i zv, P.underlying t = some (.slice el) ∧ P.info? el = some i ∧ i.zero = some zv ∧ i.size = sz ∧ 0 < sz ∧ (∀ b, bytes = some b → i.bytes = b ∧ 0 < b) ∧ (∀ y, z = some y → mvs zv.cells.toList y = true ∧ y.length = sz) ∧ (z = none → zv.cells.size = sz) := by
  unfold elOk at h
  split at h
  · rename_i el hel
    split at h
    · rename_i i hi
      simp only [Bool.and_eq_true, decide_eq_true_eq] at h
      obtain ⟨⟨⟨h1, h2⟩, h3⟩, h4⟩ := h
      split at h4
      · rename_i zv hz
        refine ⟨el, i, zv, elT_spec hel, hi, hz, h1, h2, fun b hb => ?_, fun y hy => ?_, fun hn => ?_⟩
        · subst hb; simpa using h3
        · subst hy; simpa using h4
        · subst hn; simpa using h4
      · cases h4
    · cases h
  · cases h
section
variable (P : Program) (F : Fns) (tabs : List (Nat × List AV))
def mCall (g : Nat) (ys : List At) (lent : List Nat) (c : Go.Call) : Bool :=
  (match c.callee with | .value (.func g') => g' == F.2 g | _ => false) && mas tabs c.args.toList ys && bodied P (F.2 g) && (match F.1 g with | some p => decide (p.lent = lent) && p.res.all fun x => decide (x.2 ≤ 1) | none => false)
def bi1 (b : Builtin) (c : Go.Call) : Bool := (match c.callee with | .builtin b' => decide (b' = b) | _ => false)
def mop : PO → Op → Bool
  | .mv y, .move x | .mv y, .assign x => ma tabs x y
  | .pick x' y' z', .pick x y z => ma tabs x x' && ma tabs y y' && ma tabs z z'
  | .box _ sz y, .box _ x => decide (0 < sz) && ma tabs x y
  | .alloc _ z, .alloc t => zeroOk P t z
  | .build z ps, .build t parts => zeroOk P t z && (match strT P t with
    | some fs => (fs.toList.all fun x => (szT P x.type).isSome) && mfields P tabs (placeS P fs) parts.toList ps
    | none => match arrT P t with
      | some (_, el) => (match szT P el with
        | some sz => mfields P tabs (fun i => some (i * sz, sz)) parts.toList ps
        | none => false)
      | none => false)
  | .bsl _ sz z n ps, .buildSlice t n' parts => decide (n' = n) && decide (n * sz ≤ 16777216) && elOk P t sz none (some z) && mparts tabs parts.toList ps
  | .ld ag sz y, .load t x => decide (aggT P t = some ag) && decide (szT P t = some sz) && ma tabs x y
  | .st sz x' y', .store t x y => decide (szT P t = some sz) && decide (0 < sz) && ma tabs x x' && ma tabs y y'
  | .nck y, .nilCheck x => ma tabs x y
  | .bin op x' y', .binOp op' _ x y _ => decide (op' = op) && ma tabs x x' && ma tabs y y'
  | .eqb ng x' y', .binOp op t x y _ => decide (op = if ng then .neq else .eql) && isBoolT P t && ma tabs x x' && ma tabs y y'
  | .not y, .unOp .not _ x => ma tabs x y
  | .neg y, .unOp .neg _ x => ma tabs x y
  | .conv q y, .convert s d x => (intT P s).isSome && decide (intT P d = some q) && ma tabs x y
  | .b2s y, .convert s d x => (match elT P s with | some el => decide (intT P el = some .u8) | none => false) && isStrT P d && ma tabs x y
  | .mk _ sz bytes z y, .makeSlice t x x2 => (match x2, x with | .tmp i, .tmp j => i == j | .const (.int k n), .const (.int k' n') => decide (k = k' ∧ n = n') | _, _ => false) && elOk P t sz (some bytes) (some z) && ma tabs x y
  | .cut z y lo' hi' mx', .slice t x lo hi mx => (match elT P t with | some el => decide (szT P el = some z) | none => false) && ma tabs x y && mo2 tabs lo lo' && mo2 tabs hi hi' && mo2 tabs mx mx' && (mx.isNone || hi.isSome)
  | .fld d y, .fieldAddr t x i => (match strT P t with | some fs => (match fs[i]? with | some fl => decide (fl.offset = d) && (match szT P fl.type with | some (_ + 1) => true | _ => false) | none => false) | none => false) && ma tabs x y
  | .idx z x' y', .indexAddr t x y => (match elT P t with | some el => decide (szT P el = some z) | none => false) && ma tabs x x' && ma tabs y y'
  | .idxa n z x' y', .indexAddr t x y => (match arrT P t with | some (n', el) => decide (n' = n) && decide (szT P el = some z) | none => false) && ma tabs x x' && ma tabs y y'
  | .sidx x' y', .index t x y => isStrT P t && ma tabs x x' && ma tabs y y'
  | .ext n y, .extract x n' => decide (n' = n) && ma tabs x y
  | .fpt ag sz d y, .field t x i => (match strT P t with | some fs => (match fs[i]? with | some fl => decide (fl.offset = d) && decide (szT P fl.type = some sz) && decide (aggT P fl.type = some ag) | none => false) | none => false) && ma tabs x y
  | .len y, .call c => bi1 .len c && (match c.args.toList, c.argTypes.toList with | [x], [t] => (elT P t).isSome && ma tabs x y | _, _ => false)
  | .slen y, .call c => bi1 .len c && (match c.args.toList, c.argTypes.toList with | [x], [t] => isStrT P t && ma tabs x y | _, _ => false)
  | .min x' y', .call c => bi1 .min c && (match c.args.toList with | [x, y] => ma tabs x x' && ma tabs y y' | _ => false)
  | .max x' y', .call c => bi1 .max c && (match c.args.toList with | [x, y] => ma tabs x x' && ma tabs y y' | _ => false)
  | .app _ sz bytes x' y', .call c => bi1 .append c && (match c.args.toList, c.argTypes.toList with | [x, y], [t, t'] => decide (t' = t) && elOk P t sz (some bytes) none && ma tabs x x' && ma tabs y y' | _, _ => false)
  | .call g ys, .call c => mCall P F tabs g ys [] c
  | .callo g ys _, .call c => mCall P F tabs g ys [] c
  | .callw g ys li, .call c => mCall P F tabs g ys [li] c && decide (li < ys.length) && (match F.1 g with | some p => decide (p.res.length ≤ 100) | none => false)
  | .s2b y, .convert s d x => isStrT P s && (match elT P d with | some el => decide (intT P el = some .u8) | none => false) && ma tabs x y
  | .scut y lo' hi', .slice t x lo hi mx => isStrT P t && ma tabs x y && mo2 tabs lo lo' && mo2 tabs hi hi' && mx.isNone
  | .aidx ag n z x' y', .index t x y => (match arrT P t with | some (n', el) => decide (n' = n) && decide (szT P el = some z) && decide (aggT P el = some ag) | none => false) && ma tabs x x' && ma tabs y y'
  | _, _ => false
end
end Go.Pe
set_option linter.unusedVariables false
set_option linter.unusedSimpArgs false
namespace Go.Pe
open Go
section
variable {P : Program} {F : Fns} {f : Fr} {w : World} {T : Nat → Prop} {ρ : Rho} {h : Heap} {e : Nat → AV} {a : Act} {o : Oper}
theorem bi1_spec {b : Builtin} {c : Go.Call} (h : bi1 b c = true) : c.callee = .builtin b := by
  unfold bi1 at h
  split at h
  · rename_i b' hb; simp only [decide_eq_true_eq] at h; rw [hb, h]
  · cases h
theorem arr1 {α : Type} {x : Array α} {a : α} (h : x.toList = [a]) : x = #[a] := by cases x; simp at h; simp [h]
theorem arr2 {α : Type} {x : Array α} {a b : α} (h : x.toList = [a, b]) : x = #[a, b] := by cases x; simp at h; simp [h]
theorem mCall_spec {tabs : List (Nat × List AV)} {g : Nat} {ys : List At} {lent : List Nat} {c : Go.Call} (h : mCall P F tabs g ys lent c = true) :
    c.callee = .value (.func (F.2 g)) ∧ mas tabs c.args.toList ys = true ∧ bodied P (F.2 g) = true ∧ ∃ p, F.1 g = some p ∧ p.lent = lent ∧ ∀ x ∈ p.res, x.2 ≤ 1 := by
  unfold mCall at h
  simp only [Bool.and_eq_true] at h
  obtain ⟨⟨⟨h1, h2⟩, h3⟩, h4⟩ := h
  refine ⟨?_, h2, h3, ?_⟩
  · split at h1
    · rename_i g' hg; simp only [beq_iff_eq] at h1; rw [hg, h1]
    · cases h1
  · split at h4
    · rename_i p hp
      simp only [Bool.and_eq_true, decide_eq_true_eq, List.all_eq_true] at h4
      exact ⟨p, hp, h4.1, h4.2⟩
    · cases h4
theorem op_sound (k : WInv f w T ρ h) (he : Env w T ρ e a) {p : PO} {call : Call} {av : AV} {h' : Heap} (hm : mop P F f.tabs p o.op = true) (hc : ∀ g p xs r, F.1 g = some p → call g xs = some r → CallOk P (F.2 g) p.res p.lent f.tabs xs r)
    (hv : p.ev call e h = some (av, h')) : Goes1 P f o a w T ρ av h' := by
  generalize hop : o.op = op at hm
  unfold mop at hm
  split at hm <;> try simp only [Bool.and_eq_true, decide_eq_true_eq, Bool.or_eq_true] at hm
  · cases hv
    exact goes1_of_gives k ⟨rfl, op_move k he (.inl hop) hm⟩
  · cases hv
    exact goes1_of_gives k ⟨rfl, op_move k he (.inr hop) hm⟩
  · exact goes1_of_gives k (op_pick k he call hop hm.1.1 hm.1.2 hm.2 hv)
  · exact (op_box k he call hop hm.1 hm.2 hv).goes1
  · obtain ⟨i, zv, h1, h2, h3⟩ := zeroOk_spec hm
    exact (op_alloc k call hop h1 h2 h3 hv).goes1
  · obtain ⟨i, zv, h1, h2, h3⟩ := zeroOk_spec hm.1
    obtain ⟨_, hm⟩ := hm
    split at hm
    · rename_i fs hfs
      simp only [Bool.and_eq_true, List.all_eq_true] at hm
      exact goes1_of_gives k (op_build k he call hop h1 h2 h3 hm.2 (.inl ⟨fs, strT_spec hfs, hm.1, rfl⟩) hv)
    · split at hm
      · rename_i n el hel
        split at hm
        · rename_i sz hsz
          exact goes1_of_gives k (op_build k he call hop h1 h2 h3 hm (.inr ⟨n, el, sz, arrT_spec hel, hsz, rfl⟩) hv)
        · cases hm
      · cases hm
  · obtain ⟨⟨⟨rfl, h1⟩, h2⟩, h3⟩ := hm
    obtain ⟨el, i, zv, a1, a2, a3, a4, a5, a6, a7, a8⟩ := elOk_spec h2
    exact (op_bsl k he call hop a1 a2 a3 a4 a5 h1 (a7 _ rfl).1 (a7 _ rfl).2 h3 hv).goes1
  · exact goes1_of_gives k (op_ld k he call hop hm.1.1 hm.1.2 hm.2 hv)
  · exact (op_st k he call hop hm.1.1.1 hm.1.1.2 hm.1.2 hm.2 hv).goes1
  · exact goes1_of_gives k (op_nck k he call hop hm hv)
  · obtain ⟨⟨rfl, h1⟩, h2⟩ := hm
    exact goes1_of_gives k (op_bin k he call hop h1 h2 hv)
  · obtain ⟨⟨⟨rfl, h0⟩, h1⟩, h2⟩ := hm
    exact goes1_of_gives k (op_eqb k he call hop (isBoolT_spec h0) h1 h2 hv)
  · exact goes1_of_gives k (op_not k he call hop hm hv)
  · exact goes1_of_gives k (op_neg k he call hop hm hv)
  · obtain ⟨⟨h1, h2⟩, h3⟩ := hm
    obtain ⟨q', hq'⟩ := Option.isSome_iff_exists.1 h1
    exact goes1_of_gives k (op_conv k he call hop (intT_spec hq') (intT_spec h2) h3 hv)
  · obtain ⟨⟨h1, h2⟩, h3⟩ := hm
    split at h1
    · rename_i el hel
      simp only [decide_eq_true_eq] at h1
      exact goes1_of_gives k (op_b2s k he call hop (elT_spec hel) (intT_spec h1) (isStrT_spec h2) h3 hv)
    · cases h1
  · obtain ⟨⟨h1, h2⟩, h3⟩ := hm
    obtain ⟨el, i, zv, a1, a2, a3, a4, a5, a6, a7, a8⟩ := elOk_spec h2
    split at h1
    · simp only [beq_iff_eq] at h1
      subst h1
      exact (op_mk k he call hop a1 a2 a3 a4 a5 (a6 _ rfl).1 (a6 _ rfl).2 (a7 _ rfl).1 (a7 _ rfl).2 h3 hv).goes1
    · simp only [decide_eq_true_eq] at h1
      obtain ⟨rfl, rfl⟩ := h1
      exact (op_mk k he call hop a1 a2 a3 a4 a5 (a6 _ rfl).1 (a6 _ rfl).2 (a7 _ rfl).1 (a7 _ rfl).2 h3 hv).goes1
    · cases h1
  · obtain ⟨⟨⟨⟨⟨h1, h2⟩, h3⟩, h4⟩, h5⟩, h6⟩ := hm
    split at h1
    · rename_i el hel
      simp only [decide_eq_true_eq] at h1
      refine goes1_of_gives k (op_cut k he call hop (elT_spec hel) h1 h2 h3 h4 h5 ?_ hv)
      rcases h6 with h6 | h6
      · exact .inl (by simpa using h6)
      · exact .inr (Option.isSome_iff_exists.1 h6)
    · cases h1
  · obtain ⟨h1, h2⟩ := hm
    split at h1
    · rename_i fs hfs
      split at h1
      · rename_i fl hfl
        simp only [Bool.and_eq_true, decide_eq_true_eq] at h1
        obtain ⟨h3, h4⟩ := h1
        split at h4
        · rename_i m hm
          exact goes1_of_gives k (op_fld k he call hop (strT_spec hfs) hfl h3 hm h2 hv)
        · cases h4
      · cases h1
    · cases h1
  · obtain ⟨⟨h1, h2⟩, h3⟩ := hm
    split at h1
    · rename_i el hel
      simp only [decide_eq_true_eq] at h1
      exact goes1_of_gives k (op_idx k he call hop (elT_spec hel) h1 h2 h3 hv)
    · cases h1
  · obtain ⟨⟨h1, h2⟩, h3⟩ := hm
    split at h1
    · rename_i n' el hel
      simp only [Bool.and_eq_true, decide_eq_true_eq] at h1
      obtain ⟨rfl, h1⟩ := h1
      exact goes1_of_gives k (op_idxa k he call hop (arrT_spec hel) h1 h2 h3 hv)
    · cases h1
  · exact goes1_of_gives k (op_sidx k he call hop (isStrT_spec hm.1.1) hm.1.2 hm.2 hv)
  · obtain ⟨rfl, h1⟩ := hm
    exact goes1_of_gives k (op_ext k he call hop h1 hv)
  · obtain ⟨h1, h2⟩ := hm
    split at h1
    · rename_i fs hfs
      split at h1
      · rename_i fl hfl
        simp only [Bool.and_eq_true, decide_eq_true_eq] at h1
        exact goes1_of_gives k (op_fpt k he call hop (strT_spec hfs) hfl h1.1.1 h1.1.2 h1.2 h2 hv)
      · cases h1
    · cases h1
  · obtain ⟨h1, h2⟩ := hm
    split at h2
    · rename_i x t hx ht
      simp only [Bool.and_eq_true] at h2
      obtain ⟨el, hel⟩ := Option.isSome_iff_exists.1 h2.1
      exact goes1_of_gives k (op_len k he call hop (bi1_spec h1) (arr1 hx) (arr1 ht) (elT_spec hel) h2.2 hv)
    · cases h2
  · obtain ⟨h1, h2⟩ := hm
    split at h2
    · rename_i x t hx ht
      simp only [Bool.and_eq_true] at h2
      exact goes1_of_gives k (op_slen k he call hop (bi1_spec h1) (arr1 hx) (arr1 ht) (isStrT_spec h2.1) h2.2 hv)
    · cases h2
  · obtain ⟨h1, h2⟩ := hm
    split at h2
    · rename_i x y hx
      simp only [Bool.and_eq_true] at h2
      exact goes1_of_gives k (op_min k he call hop (bi1_spec h1) (arr2 hx) h2.1 h2.2 hv)
    · cases h2
  · obtain ⟨h1, h2⟩ := hm
    split at h2
    · rename_i x y hx
      simp only [Bool.and_eq_true] at h2
      exact goes1_of_gives k (op_max k he call hop (bi1_spec h1) (arr2 hx) h2.1 h2.2 hv)
    · cases h2
  · obtain ⟨h1, h2⟩ := hm
    split at h2
    · rename_i x y t t' hx ht
      simp only [Bool.and_eq_true, decide_eq_true_eq] at h2
      obtain ⟨⟨⟨rfl, h3⟩, h4⟩, h5⟩ := h2
      obtain ⟨el, i, zv, a1, a2, a3, a4, a5, a6, a7, a8⟩ := elOk_spec h3
      exact (op_app k he call hop (bi1_spec h1) (arr2 hx) (arr2 ht) a1 a2 a3 a4 (a6 _ rfl).1 (a8 rfl) a5 (a6 _ rfl).2 h4 h5 hv).goes1
    · cases h2
  · obtain ⟨h1, h2, h3, p, h4, h5, h6⟩ := mCall_spec hm
    exact op_call k he call hop h1 h2 h3 h6 (fun xs r hr => by rw [← h5]; exact hc _ p xs r h4 hr) hv
  · obtain ⟨h1, h2, h3, p, h4, h5, h6⟩ := mCall_spec hm
    exact op_callo k he call hop h1 h2 h3 h6 (fun xs r hr => by rw [← h5]; exact hc _ p xs r h4 hr) hv
  · obtain ⟨⟨hm, h7⟩, h8⟩ := hm
    obtain ⟨h1, h2, h3, p, h4, h5, h6⟩ := mCall_spec hm
    rw [h4] at h8
    exact op_callw k he call hop h1 h2 h3 h7 h6 (by simpa using h8) (fun xs r hr => by rw [← h5]; exact hc _ p xs r h4 hr) hv
  · obtain ⟨⟨h1, h2⟩, h3⟩ := hm
    split at h2
    · rename_i el hel
      simp only [decide_eq_true_eq] at h2
      exact (op_s2b k he call hop (isStrT_spec h1) (elT_spec hel) (intT_spec h2) h3 hv).goes1
    · cases h2
  · obtain ⟨⟨⟨⟨h1, h2⟩, h3⟩, h4⟩, h5⟩ := hm
    have h6 := Option.isNone_iff_eq_none.1 h5
    subst h6
    exact goes1_of_gives k (op_scut k he call hop (isStrT_spec h1) h2 h3 h4 hv)
  · obtain ⟨⟨h1, h2⟩, h3⟩ := hm
    split at h1
    · rename_i n' el hel
      simp only [Bool.and_eq_true, decide_eq_true_eq] at h1
      obtain ⟨⟨rfl, h4⟩, h5⟩ := h1
      exact goes1_of_gives k (op_aidx k he call hop (arrT_spec hel) h4 h5 h2 h3 hv)
    · cases h1
  · cases hm
end
end Go.Pe
set_option linter.unusedVariables false
set_option linter.unusedSimpArgs false
namespace Go.Pe
open Go
def Sim (f : Fr) (nt : Nat) (w : World) (st : St) (a : Act) : Prop := nt ≤ a.tmps.size ∧ a.defers = [] ∧ ∃ T ρ, WInv f w T ρ st.h ∧ Env w T ρ st.env a
def CallsOk (P : Program) (F : Fns) (tabs : List (Nat × List AV)) (call : Call) : Prop := ∀ g p xs r, F.1 g = some p → call g xs = some r → CallOk P (F.2 g) p.res p.lent tabs xs r
section
variable {P : Program} {F : Fns} {f : Fr} {nt : Nat} {w : World} {a : Act}
theorem put_env {T : Nat → Prop} {ρ : Rho} {e : Nat → AV} {av : AV} {v : Value} {d : Option Nat} (he : Env w T ρ e a) (hv : Rv w T ρ av v) (hd : ∀ t, d = some t → t < a.tmps.size) : Env w T ρ (setD e d av) (a.put d v) := by
  cases d with
  | none => exact he
  | some t =>
    intro s
    show Rv w T ρ (upd e t av s) ((a.tmps.setIfInBounds t v).getD s undef)
    unfold upd
    have hlt := hd t rfl
    split
    · rename_i hs
      subst hs
      have : (a.tmps.setIfInBounds s v).getD s undef = v := by simp [hlt]
      rw [this]; exact hv
    · rename_i hs
      have : (a.tmps.setIfInBounds t v).getD s undef = a.tmps.getD s undef := by
        have h2 : ¬ t = s := fun h => hs h.symm
        simp [Array.getElem?_setIfInBounds, h2]
      rw [this]; exact he s
theorem put_size (a : Act) (d : Option Nat) (v : Value) : (a.put d v).tmps.size = a.tmps.size := by cases d <;> simp [Act.put]
theorem put_defers (a : Act) (d : Option Nat) (v : Value) : (a.put d v).defers = a.defers := by cases d <;> rfl
def mpo (P : Program) (F : Fns) (tabs : List (Nat × List AV)) (nt : Nat) (ops : Array Oper) (o : Oper) (p : POp) : Bool :=
  decide (o.dst = p.dst) && (match p.dst with | some d => decide (d < nt) | none => true) && (match o.guard, p.guard with
    | none, none => true
    | some (g, q), some (t, q') => q == q' && decide ((ops[g]?).bind (·.dst) = some t)
    | _, _ => false) && mop P F tabs p.op o.op
theorem wanted_of {ops : Array Oper} {o : Oper} {p : POp} {st : St} {tabs : List (Nat × List AV)} (hs : Sim f nt w st a) (hm : mpo P F tabs nt ops o p = true) {call : Call} {st' : St} (hv : p.ev call st = some st') :
    (Region.wanted o (yielded ops a.tmps) = true ∧ (p.op.ev call st.env st.h).map (fun q => (⟨setD st.env p.dst q.1, q.2⟩ : St)) = some st') ∨ (Region.wanted o (yielded ops a.tmps) = false ∧ st' = ⟨setD st.env p.dst (.tup []), st.h⟩) := by
  simp only [mpo, Bool.and_eq_true] at hm
  obtain ⟨⟨⟨h1, h2⟩, h3⟩, h4⟩ := hm
  unfold POp.ev at hv
  split at h3
  · rename_i h5 h6
    rw [h6] at hv
    refine .inl ⟨?_, hv⟩
    unfold Region.wanted
    rw [h5]
  · rename_i g q t q' h5 h6
    rw [h6] at hv
    simp only [Bool.and_eq_true, beq_iff_eq, decide_eq_true_eq] at h3
    obtain ⟨rfl, h3⟩ := h3
    simp only at hv
    have main : ∀ z, st.env t = .b z → yielded ops a.tmps g = some z := by
      intro z hz
      obtain ⟨_, _, T, ρ, k, he⟩ := hs
      have := he t
      rw [hz] at this
      have hb := inv_b this
      have hy : yielded ops a.tmps g = some z := by
        unfold yielded
        rw [h3]
        show (match (some t).bind (fun x => a.tmps[x]?) with | some (.bool b) => some b | _ => none) = some z
        have : a.tmps[t]? = some (.bool z) := by
          cases hx : a.tmps[t]? with
          | none => simp [hx, undef] at hb
          | some y => simp [hx] at hb; rw [hb]
        simp only [Option.bind_some, this]
      exact hy
    have none_ : st.env t = .tup [] → yielded ops a.tmps g = none := by
      intro hz
      obtain ⟨_, _, T, ρ, k, he⟩ := hs
      have := he t
      rw [hz] at this
      generalize hu : a.tmps.getD t undef = v at this
      cases this with
      | tup vs hl _ =>
        have hv0 : vs = #[] := Array.eq_empty_of_size_eq_zero hl
        subst hv0
        unfold yielded
        rw [h3]
        show (match (some t).bind (fun x => a.tmps[x]?) with | some (.bool b) => some b | _ => none) = none
        simp only [Option.bind_some]
        cases hx : a.tmps[t]? with
        | none => rfl
        | some y =>
          simp [hx] at hu
          rw [hu]
    unfold Region.wanted
    rw [h5]
    simp only
    generalize hav : st.env t = av at hv main none_
    cases av <;> simp only [AV.yes] at hv <;> try (cases hv; done)
    case b z =>
      rw [main z rfl]
      by_cases hzq : z = q
      · subst hzq
        simp only [beq_self_eq_true] at hv
        exact .inl ⟨by simp, hv⟩
      · rw [show (z == q) = false by simpa using hzq] at hv
        cases hv
        exact .inr ⟨by simpa using hzq, rfl⟩
    case tup cs =>
      cases cs with
      | nil =>
        cases hv
        rw [none_ rfl]
        exact .inr ⟨rfl, rfl⟩
      | cons => cases hv
  · cases h3
theorem op_sim {ops : Array Oper} {o : Oper} {p : POp} {st st' : St} (hs : Sim f nt w st a) (hm : mpo P F f.tabs nt ops o p = true) {call : Call} (hc : CallsOk P F f.tabs call) (hv : p.ev call st = some st')
    (K : Act → World → Prop) (Q : Exit → Act → World → Prop) (hK : ∀ a' w', Sim f nt w' st' a' → K a' w') : if Region.wanted o (yielded ops a.tmps) = true then o.wp P a w K Q else K (a.put o.dst undef) w := by
  have hw := wanted_of hs hm hv
  simp only [mpo, Bool.and_eq_true, decide_eq_true_eq] at hm
  obtain ⟨⟨⟨h1, h2⟩, h3⟩, h4⟩ := hm
  obtain ⟨hsz, hdf, T, ρ, k, he⟩ := hs
  have hd : ∀ t, p.dst = some t → t < a.tmps.size := by
    intro t ht
    rw [ht] at h2
    simp only [decide_eq_true_eq] at h2
    omega
  rcases hw with ⟨hw, hv⟩ | ⟨hw, rfl⟩
  · rw [if_pos hw]
    simp only [Option.map_eq_some_iff] at hv
    obtain ⟨⟨av, h'⟩, hv2, rfl⟩ := hv
    refine op_sound k he h4 hc hv2 K Q fun v w' T' ρ' k' g r => hK _ _ ?_
    rw [h1]
    exact ⟨by rw [put_size]; exact hsz, (put_defers _ _ _).trans hdf, T', ρ', k', put_env (he.goes g) r hd⟩
  · rw [if_neg (by simp [hw])]
    refine hK _ _ ?_
    rw [h1]
    exact ⟨by rw [put_size]; exact hsz, (put_defers _ _ _).trans hdf, T, ρ, k, put_env he (.tup #[] rfl fun c hc => by cases hc) hd⟩
theorem wp_ex {o : Oper} {K : Act → World → Prop} (h : o.wp P a w K fun _ _ _ => False) : ∃ a' w', K a' w' := by
  unfold Oper.wp at h
  generalize (execOp a.eval o).run P w = r at h
  have hlets : LetsOut (fun _ _ _ => False) → False := fun ⟨_, _, h⟩ => h
  cases r with
  | ok n w' =>
    cases n <;> simp only [Oper.upon] at h
    case value => exact ⟨_, _, h⟩
    case skip => exact ⟨_, _, h⟩
    case defer => exact ⟨_, _, h⟩
    case enter f args =>
      obtain ⟨e, w'', fr, h1, _⟩ := h []
      cases e with
      | returned v => exact ⟨_, _, h1⟩
      | panicked => exact h1.elim
      | outgrown => exact (hlets h1).elim
    case row r args =>
      obtain ⟨v, w'', h1, _⟩ := h default []
      exact ⟨_, _, h1⟩
  | halt x w' =>
    cases x <;> simp only [Oper.upon] at h
def Real (f : Fr) (nt : Nat) (st : St) : Prop := ∃ w a, Sim f nt w st a
theorem Real.step {ops : Array Oper} {o : Oper} {p : POp} {st st' : St} (hr : Real f nt st) (hm : mpo P F f.tabs nt ops o p = true) {call : Call} (hc : CallsOk P F f.tabs call) (hv : p.ev call st = some st') : Real f nt st' := by
  obtain ⟨w, a, hs⟩ := hr
  have := op_sim hs hm hc hv (fun a' w' => Sim f nt w' st' a') (fun _ _ _ => False) fun _ _ h => h
  split at this
  · obtain ⟨a', w', h⟩ := wp_ex this
    exact ⟨w', a', h⟩
  · exact ⟨_, _, this⟩
def mposL (P : Program) (F : Fns) (tabs : List (Nat × List AV)) (nt : Nat) (ops : Array Oper) : List Oper → List POp → Bool
  | [], [] => true
  | o :: os, p :: ps => mpo P F tabs nt ops o p && mposL P F tabs nt ops os ps
  | _, _ => false
theorem mposL_get {tabs : List (Nat × List AV)} {ops : Array Oper} : ∀ {os : List Oper} {ps : List POp}, mposL P F tabs nt ops os ps = true → os.length = ps.length ∧ ∀ (i : Nat) o p, os[i]? = some o → ps[i]? = some p → mpo P F tabs nt ops o p = true := by
  intro os
  induction os with
  | nil => intro ps h; cases ps with
    | nil => exact ⟨rfl, fun i o p h => by simp at h⟩
    | cons => cases h
  | cons o os ih =>
    intro ps h
    cases ps with
    | nil => cases h
    | cons p ps =>
      simp only [mposL, Bool.and_eq_true] at h
      obtain ⟨h1, h2⟩ := ih h.2
      refine ⟨by simp [h1], fun i o' p' ho hp => ?_⟩
      cases i with
      | zero => simp at ho hp; subst ho; subst hp; exact h.1
      | succ i => simp at ho hp; exact h2 i o' p' ho hp
theorem ops_sim {ops : Array Oper} {ps : List POp} (hm : mposL P F f.tabs nt ops ops.toList ps = true) {call : Call} (hc : CallsOk P F f.tabs call) (Q : Exit → Act → World → Prop) {stf : St} (hQ : ∀ a w, Sim f nt w stf a → Q .normal a w) :
    ∀ (n k : Nat) (w : World) (a : Act) (st : St), k + n = ps.length → Sim f nt w st a → evs call (ps.drop k) st = some stf → wpOps P ops Q (List.range' k n) a w := by
  obtain ⟨hl, hg⟩ := mposL_get hm
  intro n
  induction n with
  | zero =>
    intro k w a st hk hs hv
    rw [List.drop_of_length_le (by omega)] at hv
    cases hv
    exact hQ a w hs
  | succ n ih =>
    intro k w a st hk hs hv
    have hlt : k < ps.length := by omega
    rw [List.drop_eq_getElem_cons hlt] at hv
    simp only [evs, Option.bind_eq_some_iff] at hv
    obtain ⟨st1, h1, h2⟩ := hv
    have hkl : k < ops.toList.length := by omega
    have ho : ops[k]? = some ops.toList[k] := by
      rw [← Array.getElem?_toList]; exact List.getElem?_eq_getElem hkl
    have hmk := hg k _ _ (List.getElem?_eq_getElem hkl) (List.getElem?_eq_getElem hlt)
    rw [List.range'_succ]
    simp only [wpOps, ho]
    have := op_sim hs hmk hc h1 (wpOps P ops Q (List.range' (k + 1) n)) Q fun a' w' h => ih (k + 1) w' a' st1 (by omega) h h2
    split at this
    · rename_i hw; rw [if_pos hw]; exact .inl this
    · rename_i hw; rw [if_neg hw]; exact this
theorem region_seq {ops : Array Oper} {ps : List POp} {id : Nat} (hm : mposL P F f.tabs nt ops ops.toList ps = true) {call : Call} (hc : CallsOk P F f.tabs call) (Q : Exit → Act → World → Prop) {st stf : St} (hQ : ∀ a w, Sim f nt w stf a → Q .normal a w)
    (hs : Sim f nt w st a) (hv : evs call ps st = some stf) : (Code.region id ops false).wp P Q a w := by
  refine wp_region ?_
  rw [List.range_eq_range']
  have hl := (mposL_get hm).1
  exact ops_sim hm hc Q hQ ops.size 0 w a st (by rw [← hl]; simp) hs hv
end
end Go.Pe
set_option linter.unusedVariables false
set_option linter.unusedSimpArgs false
namespace Go.Pe
open Go
def At.tmps : At → List Nat
  | .t n => [n]
  | .c _ => []
def PO.ats : PO → List At
  | .mv x | .box _ _ x | .ld _ _ x | .nck x | .not x | .neg x | .conv _ x | .b2s x | .mk _ _ _ _ x | .fld _ x | .ext _ x | .fpt _ _ _ x | .len x | .slen x | .s2b x => [x]
  | .pick c x y => [c, x, y]
  | .alloc _ _ => []
  | .build _ ps => ps.map fun p => p.2.2
  | .bsl _ _ _ _ ps => ps.map fun p => p.2
  | .st _ x v => [x, v]
  | .bin _ x y | .eqb _ x y | .eqs _ x y | .idx _ x y | .idxa _ _ x y | .sidx x y | .min x y | .max x y | .app _ _ _ x y | .copy x y | .aidx _ _ _ x y => [x, y]
  | .cut _ x lo hi mx => x :: (lo.toList ++ hi.toList ++ mx.toList)
  | .scut x lo hi => x :: (lo.toList ++ hi.toList)
  | .call _ xs | .callw _ xs _ | .callo _ xs _ => xs
def PO.reads (o : PO) : List Nat := o.ats.flatMap At.tmps
theorem At.agree {e e' : Nat → AV} {x : At} (h : ∀ t ∈ x.tmps, e t = e' t) : x.ev e = x.ev e' := by
  cases x with
  | t n => exact h n (by simp [At.tmps])
  | c v => rfl
theorem map_agree {e e' : Nat → AV} {xs : List At} (h : ∀ x ∈ xs, x.ev e = x.ev e') : xs.map (At.ev e) = xs.map (At.ev e') := List.map_congr_left h
theorem buildV_agree {e e' : Nat → AV} : ∀ {ps : List (Nat × Nat × At)} {z : List AV}, (∀ p ∈ ps, p.2.2.ev e = p.2.2.ev e') → buildV e z ps = buildV e' z ps := by
  intro ps
  induction ps with
  | nil => intro z _; rfl
  | cons p ps ih =>
    intro z h
    obtain ⟨off, sz, x⟩ := p
    have h1 : x.ev e = x.ev e' := h (off, sz, x) List.mem_cons_self
    simp only [buildV, h1]
    split
    · exact ih fun p hp => h p (List.mem_cons_of_mem _ hp)
    · rfl
theorem bslV_agree {e e' : Nat → AV} {h : Heap} {sz : Nat} : ∀ {ps : List (Nat × At)} {z : List (List AV)}, (∀ p ∈ ps, p.2.ev e = p.2.ev e') → bslV e h sz z ps = bslV e' h sz z ps := by
  intro ps
  induction ps with
  | nil => intro z _; rfl
  | cons p ps ih =>
    intro z h
    obtain ⟨j, x⟩ := p
    have h1 : x.ev e = x.ev e' := h (j, x) List.mem_cons_self
    simp only [bslV, h1]
    split
    · exact ih fun p hp => h p (List.mem_cons_of_mem _ hp)
    · rfl
theorem optI_agree {e e' : Nat → AV} {d : Option Int} {x : Option At} (h : ∀ y ∈ x.toList, y.ev e = y.ev e') : optI e d x = optI e' d x := by
  cases x with
  | none => rfl
  | some y => simp only [optI, h y (by simp)]
theorem flatMap_agree {α β : Type} {f g : α → List β} {l : List α} (h : ∀ x ∈ l, f x = g x) : l.flatMap f = l.flatMap g := by
  induction l with
  | nil => rfl
  | cons x l ih => rw [List.flatMap_cons, List.flatMap_cons, h x List.mem_cons_self, ih fun y hy => h y (List.mem_cons_of_mem _ hy)]
theorem PO.agree (call : Call) (o : PO) {e e' : Nat → AV} (h : Heap) (hx : ∀ t ∈ o.reads, e t = e' t) : o.ev call e h = o.ev call e' h := by
  have ha : ∀ x ∈ o.ats, x.ev e = x.ev e' := fun x hm => At.agree fun t ht => hx t (List.mem_flatMap.2 ⟨x, hm, ht⟩)
  cases o <;> simp only [PO.ats, List.mem_cons, List.not_mem_nil, or_false, forall_eq_or_imp, forall_eq, List.mem_map, List.mem_append, Option.mem_toList] at ha <;> simp only [PO.ev]
  case mv => rw [ha]
  case pick => rw [ha.1, ha.2.1, ha.2.2]
  case box => rw [ha]
  case build z ps => rw [buildV_agree fun p hp => ha _ ⟨p, hp, rfl⟩]
  case bsl id sz z n ps => rw [bslV_agree fun p hp => ha _ ⟨p, hp, rfl⟩, flatMap_agree fun p hp => (show ref1 h (p.2.ev e) = ref1 h (p.2.ev e') by rw [ha _ ⟨p, hp, rfl⟩])]
  case ld => rw [ha]
  case st => rw [ha.1, ha.2]
  case nck => rw [ha]
  case bin => rw [ha.1, ha.2]
  case eqb => rw [ha.1, ha.2]
  case eqs => rw [ha.1, ha.2]
  case not => rw [ha]
  case neg => rw [ha]
  case conv => rw [ha]
  case b2s => rw [ha]
  case mk => rw [ha]
  case cut sz x lo hi mx =>
    have h1 : optI e (some 0) lo = optI e' (some 0) lo := optI_agree fun y hy => ha.2 y (.inl (.inl (by simpa using hy)))
    have h2 : ∀ d, optI e d hi = optI e' d hi := fun d => optI_agree fun y hy => ha.2 y (.inl (.inr (by simpa using hy)))
    have h3 : ∀ d, optI e d mx = optI e' d mx := fun d => optI_agree fun y hy => ha.2 y (.inr (by simpa using hy))
    simp only [ha.1, h1, h2, h3]
  case scut x lo hi =>
    have h1 : optI e (some 0) lo = optI e' (some 0) lo := optI_agree fun y hy => ha.2 y (.inl (by simpa using hy))
    rw [ha.1, h1]
    cases hi with
    | none => rfl
    | some y => simp only [ha.2 y (.inr rfl)]
  case fld => rw [ha]
  case idx => rw [ha.1, ha.2]
  case idxa => rw [ha.1, ha.2]
  case sidx => rw [ha.1, ha.2]
  case ext => rw [ha]
  case fpt => rw [ha]
  case len => rw [ha]
  case slen => rw [ha]
  case min => rw [ha.1, ha.2]
  case max => rw [ha.1, ha.2]
  case app => rw [ha.1, ha.2]
  case copy => rw [ha.1, ha.2]
  case call => rw [map_agree ha]
  case callw => rw [map_agree ha]
  case callo => rw [map_agree ha]
  case s2b => rw [ha]
  case aidx => rw [ha.1, ha.2]
def PO.kind : PO → Nat
  | .ld _ _ _ | .b2s _ | .call _ _ | .alloc _ _ | .box _ _ _ | .bsl _ _ _ _ _ | .mk _ _ _ _ _ => 1
  | .st _ _ _ | .app _ _ _ _ _ | .copy _ _ | .callw _ _ _ | .callo _ _ _ => 2
  | _ => 0
theorem PO.pure (call : Call) (o : PO) (hk : o.kind = 0) (e : Nat → AV) (h : Heap) : o.ev call e h = (o.ev call e Heap.none).map fun p => (p.1, h) := by
  cases o <;> simp [PO.kind] at hk <;> simp only [PO.ev, Option.map_map, Function.comp_def, Option.map_some, Option.map_none]
  case pick => split <;> rfl
  case nck => split <;> rfl
  case not => split <;> rfl
  case neg => split <;> rfl
  case conv => split <;> rfl
  case cut sz x lo hi mx =>
    cases optI e (some 0) lo with
    | none => rfl
    | some l =>
      simp only [Option.bind_some]
      cases optI e ((lenV (x.ev e)).map fun (n : Nat) => (n : Int)) hi with
      | none => rfl
      | some u =>
        simp only [Option.bind_some]
        cases optI e (some u) mx with
        | none => rfl
        | some m =>
          simp only [Option.bind_some]
          split
          · rw [Option.map_map]; rfl
          · rfl
  case fld => split <;> rfl
  case idx sz x i =>
    cases intV (i.ev e) with
    | none => rfl
    | some j => simp only [Option.bind_some, Option.map_map]; rfl
  case idxa => (repeat' split) <;> rfl
  case sidx => (repeat' split) <;> rfl
  case ext => split <;> first | rfl | (rw [Option.map_map]; rfl)
  case fpt => split <;> first | rfl | (rw [Option.map_map]; rfl)
  case slen => split <;> rfl
  case min => split <;> rfl
  case max => split <;> rfl
  case s2b => (repeat' split) <;> rfl
  case aidx =>
    split
    · split
      · rw [Option.map_map]; rfl
      · rfl
    · rfl
abbrev Comp := AV × List Nat × Option (Nat × Row)
def Comp.app (c : Comp) (h : Heap) : Option (AV × Heap) := match c.2.2 with
  | none => some (c.1, h.freeze c.2.1)
  | some (id, x) => if (h id).isNone then some (c.1, (h.freeze c.2.1).put id x) else none
def PO.comp (call : Call) (o : PO) (e : Nat → AV) (h : Heap) : Option Comp := match o with
  | .ld agg sz x => (ldV h agg sz (x.ev e)).map fun v => (v, [], none)
  | .b2s x => ((esV h 1 (x.ev e)).bind byteNs).map fun ns => (.s (bytesS ns), [], none)
  | .call f xs => (call f ((xs.map (At.ev e)).map (tell h))).map fun r => (demoteT r, if r.scalar then [] else (xs.map (At.ev e)).flatMap (ref h), none)
  | .alloc id z => some (.p id 0 0, [], some (id, .st z))
  | .box id sz x => if (x.ev e).cells.length = sz then some (.p id 0 0, [], some (id, .st (x.ev e).cells)) else none
  | .bsl id sz z n ps => (bslV e h sz (List.replicate n z) ps).map fun es => (.sl id sz 0 n, ps.flatMap fun p => ref1 h (p.2.ev e), some (id, .sl true sz es))
  | .mk id sz bytes z l => match l.ev e with
    | .i .i64 n => if 0 ≤ n ∧ n.toNat * bytes ≤ 281474976710656 then some (.sl id sz 0 n.toNat, [], some (id, .sl true sz (List.replicate n.toNat z))) else none
    | _ => none
  | o => (o.ev call e Heap.none).map fun p => (p.1, [], none)
theorem PO.comp_ev (call : Call) (o : PO) (hk : o.kind ≤ 1) (e : Nat → AV) (h : Heap) : o.ev call e h = (o.comp call e h).bind fun c => c.app h := by
  by_cases h0 : o.kind = 0
  · rw [PO.pure call o h0]
    have : o.comp call e h = (o.ev call e Heap.none).map fun p => (p.1, [], none) := by cases o <;> first | rfl | simp [PO.kind] at h0
    rw [this]
    cases o.ev call e Heap.none <;> rfl
  · cases o <;> simp [PO.kind] at h0 hk <;> simp only [PO.ev, PO.comp]
    case box id sz x =>
      by_cases h1 : (x.ev e).cells.length = sz
      · rw [if_pos h1]
        simp only [Option.bind_some, Comp.app, h1, true_and]
        rfl
      · rw [if_neg h1, if_neg fun h => h1 h.1]; rfl
    case alloc => rfl
    case bsl id sz z n ps =>
      cases bslV e h sz (List.replicate n z) ps with
      | none => simp
      | some es => rfl
    case ld => cases ldV h _ _ (At.ev e _) <;> rfl
    case b2s x => cases (esV h 1 (x.ev e)).bind byteNs <;> rfl
    case mk id sz bytes z l =>
      have key : ∀ x : AV, (match x with
          | .i .i64 n => if 0 ≤ n ∧ n.toNat * bytes ≤ 281474976710656 ∧ (h id).isNone then some (AV.sl id sz 0 n.toNat, h.put id (.sl true sz (List.replicate n.toNat z))) else none
          | _ => none) = (match x with
          | .i .i64 n => if 0 ≤ n ∧ n.toNat * bytes ≤ 281474976710656 then some ((.sl id sz 0 n.toNat, [], some (id, .sl true sz (List.replicate n.toNat z))) : Comp) else none
          | _ => none).bind fun (c : Comp) => c.app h := by
        intro x
        split
        · rename_i n
          by_cases h1 : 0 ≤ n ∧ n.toNat * bytes ≤ 281474976710656
          · simp only [if_pos h1, Option.bind_some, Comp.app, h1.1, h1.2, true_and]
            rfl
          · rw [if_neg h1, if_neg fun h => h1 ⟨h.1, h.2.1⟩]; rfl
        · rename_i hn
          first
            | rfl
            | split
              · rename_i n; exact absurd rfl (hn n)
              · rfl
      exact key _
    case call f xs =>
      simp only [callV]
      cases call f ((xs.map (At.ev e)).map (tell h)) with
      | none => rfl
      | some r =>
        simp only [Option.map_some, Option.bind_some, Comp.app]
        by_cases hs : r.scalar = true
        · simp only [hs, if_true]; rfl
        · simp only [hs]; rfl
end Go.Pe
set_option linter.unusedVariables false
set_option linter.unusedSimpArgs false
namespace Go.Pe
open Go
def Hle (h h' : Heap) : Prop := ∀ r x, h r = some x → h' r = some x ∨ h' r = some x.freeze
def Cl (h : Heap) (l : List Nat) : Prop := ∀ r ∈ l, h r ≠ none
theorem Cl.append {h : Heap} {l m : List Nat} : Cl h (l ++ m) ↔ Cl h l ∧ Cl h m := by
  simp only [Cl, List.mem_append]
  exact ⟨fun k => ⟨fun r hr => k r (.inl hr), fun r hr => k r (.inr hr)⟩, fun ⟨k1, k2⟩ r hr => hr.elim (k1 r) (k2 r)⟩
theorem Cl.flatMap {α : Type} {h : Heap} {l : List α} {g : α → List Nat} (k : Cl h (l.flatMap g)) {x : α} (hx : x ∈ l) : Cl h (g x) := fun r hr => k r (List.mem_flatMap.2 ⟨x, hx, hr⟩)
section
variable {h h' : Heap}
theorem freeze_win (o n : Nat) (x : Row) : x.freeze.win o n = x.win o n := by cases x <;> rfl
theorem freeze_at (e : Nat) (x : Row) : x.freeze.at e = x.at e := by cases x <;> rfl
theorem Hle.win (k : Hle h h') {r : Nat} (hr : h r ≠ none) (o n : Nat) : (h' r).bind (Row.win o n) = (h r).bind (Row.win o n) := by
  cases hx : h r with
  | none => exact absurd hx hr
  | some x => rcases k r x hx with h1 | h1 <;> rw [h1] <;> simp [freeze_win]
theorem Hle.at (k : Hle h h') {r : Nat} (hr : h r ≠ none) (e : Nat) : (h' r).bind (Row.at e) = (h r).bind (Row.at e) := by
  cases hx : h r with
  | none => exact absurd hx hr
  | some x => rcases k r x hx with h1 | h1 <;> rw [h1] <;> simp [freeze_at]
theorem Hle.tell0 (k : Hle h h') {v : AV} (hc : Cl h (ref0 v)) : tell0 h' v = tell0 h v := by
  cases v <;> try rfl
  case sl r z o n => simp only [Go.Pe.tell0, k.win (hc r (by simp [ref0]))]
theorem Hle.tellC (k : Hle h h') {v : AV} (hc : Cl h (refC h v)) : tellC h' v = tellC h v ∧ refC h' v = refC h v := by
  cases v
  case p r e o =>
    have hr := k.at (hc r (by simp [refC])) e
    simp only [Go.Pe.tellC, refC, hr]
    refine ⟨?_, trivial⟩
    cases hb : (h r).bind (Row.at e) with
    | none => rfl
    | some cs =>
      simp only
      have : cs.map (Go.Pe.tell0 h') = cs.map (Go.Pe.tell0 h) := List.map_congr_left fun c hcm => k.tell0 fun q hq => hc q (by
        simp only [refC, hb, List.mem_cons, List.mem_flatMap]
        exact .inr ⟨c, hcm, hq⟩)
      rw [this]
  case sl r z o n => exact ⟨k.tell0 (v := .sl r z o n) hc, rfl⟩
  all_goals exact ⟨rfl, rfl⟩
theorem Hle.mapC (k : Hle h h') {cs : List AV} (hc : Cl h (cs.flatMap (refC h))) : cs.map (Go.Pe.tellC h') = cs.map (Go.Pe.tellC h) ∧ cs.flatMap (refC h') = cs.flatMap (refC h) :=
  ⟨List.map_congr_left fun c hm => (k.tellC (hc.flatMap hm)).1, flatMap_agree fun c hm => (k.tellC (hc.flatMap hm)).2⟩
theorem Hle.tell1 (k : Hle h h') {v : AV} (hc : Cl h (ref1 h v)) : tell1 h' v = tell1 h v ∧ ref1 h' v = ref1 h v := by
  cases v
  case agg cs =>
    obtain ⟨h1, h2⟩ := k.mapC (cs := cs) hc
    exact ⟨congrArg AV.agg h1, h2⟩
  case tup cs => exact ⟨rfl, rfl⟩
  all_goals first | exact k.tellC (v := (AV.junk)) hc | exact k.tellC (v := (AV.b _)) hc | exact k.tellC (v := (AV.i _ _)) hc | exact k.tellC (v := (AV.s _)) hc | exact k.tellC (v := (AV.np)) hc | exact k.tellC (v := (AV.ns _)) hc | exact k.tellC (v := (AV.l _ _)) hc | exact k.tellC (v := (AV.tp _ _)) hc | exact k.tellC (v := (AV.sl _ _ _ _)) hc | exact k.tellC (v := (AV.p _ _ _)) hc | exact k.tellC (v := (AV.own _ _ _)) hc | exact k.tellC (v := (AV.ownp _)) hc | exact k.tellC (v := (AV.back _ _)) hc | exact k.tellC (v := (AV.agg _)) hc | exact k.tellC (v := (AV.tup _)) hc
theorem Hle.tell (k : Hle h h') {v : AV} (hc : Cl h (ref h v)) : tell h' v = tell h v ∧ ref h' v = ref h v := by
  cases v
  case tup cs =>
    have h1 : cs.map (Go.Pe.tell1 h') = cs.map (Go.Pe.tell1 h) := List.map_congr_left fun c hm => (k.tell1 (Cl.flatMap hc hm)).1
    have h2 : cs.flatMap (ref1 h') = cs.flatMap (ref1 h) := flatMap_agree fun c hm => (k.tell1 (Cl.flatMap hc hm)).2
    exact ⟨congrArg AV.tup h1, h2⟩
  case back => exact ⟨rfl, rfl⟩
  all_goals first | exact k.tell1 (v := (AV.junk)) hc | exact k.tell1 (v := (AV.b _)) hc | exact k.tell1 (v := (AV.i _ _)) hc | exact k.tell1 (v := (AV.s _)) hc | exact k.tell1 (v := (AV.np)) hc | exact k.tell1 (v := (AV.ns _)) hc | exact k.tell1 (v := (AV.l _ _)) hc | exact k.tell1 (v := (AV.tp _ _)) hc | exact k.tell1 (v := (AV.sl _ _ _ _)) hc | exact k.tell1 (v := (AV.p _ _ _)) hc | exact k.tell1 (v := (AV.own _ _ _)) hc | exact k.tell1 (v := (AV.ownp _)) hc | exact k.tell1 (v := (AV.back _ _)) hc | exact k.tell1 (v := (AV.agg _)) hc | exact k.tell1 (v := (AV.tup _)) hc
theorem ref_cells {v : AV} (hc : Cl h (ref1 h v)) : Cl h (v.cells.flatMap (refC h)) := by
  cases v
  case agg cs => exact hc
  all_goals
    intro r hr
    simp only [AV.cells, List.flatMap_cons, List.flatMap_nil, List.append_nil, List.not_mem_nil] at hr
  all_goals exact hc r hr
theorem Hle.cells (k : Hle h h') {v : AV} (hc : Cl h (ref1 h v)) : v.cells.map (Go.Pe.tellC h') = v.cells.map (Go.Pe.tellC h) := (k.mapC (ref_cells hc)).1
theorem Hle.ptr (k : Hle h h') {v : AV} (hc : Cl h (refC h v)) : ptrAt h' v = ptrAt h v := by
  cases v <;> try rfl
  case p r e o => simp only [ptrAt, k.at (hc r (by simp [refC]))]
theorem ptr_ref {v : AV} (hc : Cl h (ref h v)) : Cl h (refC h v) := by
  cases v
  case agg => intro r hr; simp [refC, ref0] at hr
  case tup => intro r hr; simp [refC, ref0] at hr
  all_goals exact hc
theorem ref_one {v : AV} (hc : Cl h (ref h v)) : Cl h (ref1 h v) := by
  cases v
  case tup => intro r hr; simp [ref1, refC, ref0] at hr
  all_goals exact hc
theorem Hle.ld (k : Hle h h') {v : AV} (hc : Cl h (ref h v)) (ag : Bool) (sz : Nat) : ldV h' ag sz v = ldV h ag sz v := by
  simp only [ldV, k.ptr (ptr_ref hc)]
theorem Hle.bsl (k : Hle h h') {e : Nat → AV} {sz : Nat} : ∀ {ps : List (Nat × At)} {z : List (List AV)}, (∀ p ∈ ps, Cl h (ref h (p.2.ev e))) → bslV e h' sz z ps = bslV e h sz z ps := by
  intro ps
  induction ps with
  | nil => intro z _; rfl
  | cons p ps ih =>
    intro z hc
    obtain ⟨j, x⟩ := p
    have h1 := k.cells (ref_one (hc (j, x) List.mem_cons_self))
    simp only [bslV] at h1 ⊢
    rw [h1]
    split
    · exact ih fun p hp => hc p (List.mem_cons_of_mem _ hp)
    · rfl
theorem Hle.es (k : Hle h h') {v : AV} (hc : Cl h (ref h v)) (z : Nat) : esV h' z v = esV h z v := by
  cases v <;> try rfl
  case sl r z' o n => simp only [esV, k.win (hc r (by simp [ref, ref1, refC, ref0]))]
theorem PO.comp_le (call : Call) (o : PO) {e : Nat → AV} (k : Hle h h') (hc : ∀ x ∈ o.ats, Cl h (ref h (x.ev e))) : o.comp call e h' = o.comp call e h := by
  cases o <;> try rfl
  case ld ag sz x => simp only [PO.comp, k.ld (hc x (by simp [PO.ats]))]
  case b2s x => simp only [PO.comp, k.es (hc x (by simp [PO.ats]))]
  case bsl id sz z n ps =>
    have h1 : ∀ p ∈ ps, Cl h (ref h (p.2.ev e)) := fun p hp => hc _ (List.mem_map.2 ⟨p, hp, rfl⟩)
    simp only [PO.comp]
    rw [k.bsl h1, flatMap_agree fun p hp => (k.tell1 (ref_one (h1 p hp))).2]
  case call f xs =>
    have h1 : (xs.map (At.ev e)).map (Go.Pe.tell h') = (xs.map (At.ev e)).map (Go.Pe.tell h) := List.map_congr_left fun v hv => by
      obtain ⟨x, hx, rfl⟩ := List.mem_map.1 hv
      exact (k.tell (hc x hx)).1
    have h2 : (xs.map (At.ev e)).flatMap (ref h') = (xs.map (At.ev e)).flatMap (ref h) := flatMap_agree fun v hv => by
      obtain ⟨x, hx, rfl⟩ := List.mem_map.1 hv
      exact (k.tell (hc x hx)).2
    simp only [PO.comp, h1, h2]
theorem comp_cl (call : Call) (o : PO) {e : Nat → AV} (hc : ∀ x ∈ o.ats, Cl h (ref h (x.ev e))) {c : Comp} (hv : o.comp call e h = some c) : Cl h c.2.1 := by
  have nil : Cl h [] := fun r hr => by cases hr
  cases o <;> simp only [PO.comp, Option.map_eq_some_iff] at hv
  case bsl id sz z n ps =>
    obtain ⟨es, _, rfl⟩ := hv
    intro r hr
    obtain ⟨p, hp, hr⟩ := List.mem_flatMap.1 hr
    exact ref_one (hc _ (List.mem_map.2 ⟨p, hp, rfl⟩)) r hr
  case call f xs =>
    obtain ⟨v, _, rfl⟩ := hv
    simp only
    split
    · exact nil
    · intro r hr
      obtain ⟨u, hu, hr⟩ := List.mem_flatMap.1 hr
      obtain ⟨x, hx, rfl⟩ := List.mem_map.1 hu
      exact hc x hx r hr
  case alloc => cases hv; exact nil
  case box =>
    split at hv
    · cases hv; exact nil
    · cases hv
  case mk =>
    split at hv
    · split at hv
      · cases hv; exact nil
      · cases hv
    · cases hv
  all_goals
    obtain ⟨_, _, rfl⟩ := hv
    exact nil
end
section
variable {f : Fr} {w : World} {T : Nat → Prop} {ρ : Rho} {h : Heap}
theorem rv_ref0 (hd : ∀ r, h r = none → ρ r = none) {av : AV} {v : Value} (k : Rv w T ρ av v) : Cl h (ref0 av) := by
  intro r hr hn
  cases k with
  | sl hρ => simp only [ref0, List.mem_singleton] at hr; subst hr; rw [hd _ hn] at hρ; cases hρ
  | slz hρ => simp only [ref0, List.mem_singleton] at hr; subst hr; rw [hd _ hn] at hρ; cases hρ
  | slnil hρ => simp only [ref0, List.mem_singleton] at hr; subst hr; rw [hd _ hn] at hρ; cases hρ
  | _ => simp [ref0] at hr
theorem rv_ref0n {av : AV} {v : Value} (k : Rv w T Rho.none av v) : ref0 av = [] := by
  cases k with
  | sl hρ => cases hρ
  | slz hρ => cases hρ
  | slnil hρ => cases hρ
  | _ => rfl
theorem row_ref0 (hd : ∀ r, h r = none → ρ r = none) {r : Nat} {x : Row} (ok : RowOk w T ρ r x) {e : Nat} {cs : List AV} (hx : x.at e = some cs) : Cl h (cs.flatMap ref0) := by
  intro q hq
  obtain ⟨c, hc, hq⟩ := List.mem_flatMap.1 hq
  obtain ⟨j, hj, rfl⟩ := List.getElem_of_mem hc
  have elems : ∀ {b base z : Nat} {es : List (List AV)}, RowAt w b base z es (Rv w T Rho.none) → es[e]? = some cs → h q ≠ none := by
    intro b base z es hr he
    have hlt : e < es.length := (List.getElem?_eq_some_iff.1 he).1
    have hg : es.getD e [] = cs := by rw [List.getD_eq_getElem?_getD, he]; rfl
    have hl := hr.len e hlt
    rw [hg] at hl
    obtain ⟨v, _, _, h3⟩ := hr.cell e j hlt (by omega)
    rw [hg] at h3
    have : cs.getD j .junk = cs[j] := by simp [hj]
    rw [this] at h3
    rw [rv_ref0n h3] at hq
    cases hq
  have strs : ∀ {b base : Nat} {ds : List AV}, RowAt w b base ds.length [ds] (Rv w T ρ) → (if e = 0 then some ds else none) = some cs → h q ≠ none := by
    intro b base ds hr he
    split at he
    · cases he
      obtain ⟨v, _, _, h3⟩ := hr.cell 0 j (by simp) hj
      have : ([cs].getD 0 []).getD j AV.junk = cs[j] := by simp [hj]
      rw [this] at h3
      exact rv_ref0 hd h3 q hq
    · cases he
  cases x with
  | sl ap z es =>
    rcases ok with ⟨h1, _, _⟩ | ⟨_, _, _, _, _, _, _, _, _, h6⟩
    · subst h1; simp [Row.at] at hx
    · exact elems h6 hx
  | fsl z es =>
    rcases ok with ⟨h1, _⟩ | ⟨_, _, _, _, _, h6⟩
    · subst h1; simp [Row.at] at hx
    · exact elems h6 hx
  | st ds =>
    obtain ⟨_, _, _, _, _, _, _, _, h6⟩ := ok
    exact strs h6 hx
  | fst ds =>
    obtain ⟨_, _, _, _, _, h6⟩ := ok
    exact strs h6 hx
  | dead => simp [Row.at] at hx
theorem rv_refC (hd : ∀ r, h r = none → ρ r = none) (hrows : ∀ r x, h r = some x → RowOk w T ρ r x) {av : AV} {v : Value} (k : Rv w T ρ av v) : Cl h (refC h av) := by
  by_cases hp : ∃ r e o, av = .p r e o
  · obtain ⟨r, e, o, rfl⟩ := hp
    intro q hq
    simp only [refC, List.mem_cons] at hq
    rcases hq with rfl | hq
    · intro hn
      cases k with
      | p hρ => rw [hd _ hn] at hρ; cases hρ
    · cases hx : h r with
      | none => rw [hx] at hq; simp at hq
      | some x =>
        rw [hx] at hq
        simp only [Option.bind_some] at hq
        cases hcs : x.at e with
        | none => rw [hcs] at hq; simp at hq
        | some cs =>
          rw [hcs] at hq
          exact row_ref0 hd (hrows r x hx) hcs q hq
  · have : refC h av = ref0 av := by cases av <;> first | rfl | exact absurd ⟨_, _, _, rfl⟩ hp
    rw [this]
    exact rv_ref0 hd k
theorem rv_ref1 (hd : ∀ r, h r = none → ρ r = none) (hrows : ∀ r x, h r = some x → RowOk w T ρ r x) {av : AV} {v : Value} (k : Rv w T ρ av v) : Cl h (ref1 h av) := by
  by_cases ha : ∃ cs, av = .agg cs
  · obtain ⟨cs, rfl⟩ := ha
    cases k with
    | agg vs hl h1 hv =>
      intro q hq
      obtain ⟨c, hc, hq⟩ := List.mem_flatMap.1 hq
      obtain ⟨j, hj, rfl⟩ := List.getElem_of_mem hc
      have := hv j hj
      have e : cs.getD j .junk = cs[j] := by simp [hj]
      rw [e] at this
      exact rv_refC hd hrows this q hq
  · have : ref1 h av = refC h av := by cases av <;> first | rfl | exact absurd ⟨_, rfl⟩ ha
    rw [this]
    exact rv_refC hd hrows k
theorem rv_ref (hd : ∀ r, h r = none → ρ r = none) (hrows : ∀ r x, h r = some x → RowOk w T ρ r x) {av : AV} {v : Value} (k : Rv w T ρ av v) : Cl h (ref h av) := by
  by_cases ha : ∃ cs, av = .tup cs
  · obtain ⟨cs, rfl⟩ := ha
    cases k with
    | tup vs hl hv =>
      intro q hq
      obtain ⟨c, hc, hq⟩ := List.mem_flatMap.1 hq
      obtain ⟨j, hj, rfl⟩ := List.getElem_of_mem hc
      have := hv j hj
      have e : cs.getD j .junk = cs[j] := by simp [hj]
      rw [e] at this
      exact rv_ref1 hd hrows this q hq
  · have : ref h av = ref1 h av := by cases av <;> first | rfl | exact absurd ⟨_, rfl⟩ ha
    rw [this]
    exact rv_ref1 hd hrows k
end
end Go.Pe
set_option linter.unusedVariables false
set_option linter.unusedSimpArgs false
namespace Go.Pe
open Go
def POp.reads (p : POp) : List Nat := p.op.reads ++ (match p.guard with | some (t, _) => [t] | none => [])
def POp.comp (call : Call) (p : POp) (e : Nat → AV) (h : Heap) : Option Comp := match p.guard with
  | none => p.op.comp call e h
  | some (t, q) => match (e t).yes q with
    | some true => p.op.comp call e h
    | some false => some (.tup [], [], none)
    | none => none
theorem POp.comp_ev (call : Call) (p : POp) (hk : p.op.kind ≤ 1) (st : St) : p.ev call st = (p.comp call st.env st.h).bind fun c => (c.app st.h).map fun q => ⟨setD st.env p.dst q.1, q.2⟩ := by
  unfold POp.ev POp.comp
  cases p.guard with
  | none =>
    simp only [PO.comp_ev call p.op hk, Option.map_bind]
    rfl
  | some g =>
    obtain ⟨t, q⟩ := g
    simp only
    cases (st.env t).yes q with
    | none => rfl
    | some z =>
      cases z
      · rfl
      · simp only [PO.comp_ev call p.op hk, Option.map_bind]
        rfl
theorem POp.agree (call : Call) (p : POp) {e e' : Nat → AV} (h : Heap) (hx : ∀ t ∈ p.reads, e t = e' t) : p.comp call e h = p.comp call e' h := by
  have h1 : p.op.comp call e h = p.op.comp call e' h := by
    have hr : ∀ t ∈ p.op.reads, e t = e' t := fun t ht => hx t (List.mem_append.2 (.inl ht))
    have ha : ∀ x ∈ p.op.ats, x.ev e = x.ev e' := fun x hm => At.agree fun t ht => hr t (List.mem_flatMap.2 ⟨x, hm, ht⟩)
    have hp := PO.agree call p.op Heap.none hr
    generalize p.op = o at ha hp
    cases o <;> simp only [PO.comp] <;> simp only [PO.ats, List.mem_cons, List.not_mem_nil, or_false, forall_eq_or_imp, forall_eq, List.mem_map] at ha <;> try rw [hp]
    case ld => rw [ha]
    case b2s => rw [ha]
    case call => rw [map_agree ha]
    case box => rw [ha]
    case mk => rw [ha]
    case bsl id sz z n ps => rw [bslV_agree fun p hp => ha _ ⟨p, hp, rfl⟩, flatMap_agree fun p hp => (show ref1 h (p.2.ev e) = ref1 h (p.2.ev e') by rw [ha _ ⟨p, hp, rfl⟩])]
  unfold POp.comp
  cases hg : p.guard with
  | none => exact h1
  | some g =>
    obtain ⟨t, q⟩ := g
    have : e t = e' t := hx t (by simp [POp.reads, hg])
    simp only [this, h1]
theorem setD_comm {e : Nat → AV} {d d' : Option Nat} (u v : AV) (h : ∀ t, d = some t → d' ≠ some t) : setD (setD e d u) d' v = setD (setD e d' v) d u := by
  cases d with
  | none => rfl
  | some t =>
    cases d' with
    | none => rfl
    | some t' =>
      have hne : t ≠ t' := fun e => h t rfl (by rw [e])
      funext s
      simp only [setD, upd]
      by_cases h1 : s = t
      · subst h1; simp [hne]
      · simp [h1]
theorem setD_at {e : Nat → AV} {d : Option Nat} {v : AV} {t : Nat} (h : d ≠ some t) : setD e d v t = e t := by
  cases d with
  | none => rfl
  | some s => simp only [setD, upd]; rw [if_neg fun e => h (by rw [e])]
def envApart (x y : POp) : Bool := (match x.dst with | some d => !y.reads.contains d && decide (y.dst ≠ some d) | none => true) && (match y.dst with | some d => !x.reads.contains d | none => true)
theorem envApart_spec {x y : POp} (h : envApart x y = true) : (∀ t ∈ y.reads, x.dst ≠ some t) ∧ (∀ t ∈ x.reads, y.dst ≠ some t) ∧ (∀ t, x.dst = some t → y.dst ≠ some t) := by
  simp only [envApart, Bool.and_eq_true] at h
  obtain ⟨h1, h2⟩ := h
  refine ⟨fun t ht hd => ?_, fun t ht hd => ?_, fun t hd => ?_⟩
  · rw [hd] at h1; simp at h1; exact h1.1 ht
  · rw [hd] at h2; simp at h2; exact h2 ht
  · rw [hd] at h1; simp at h1; exact h1.2
theorem freeze_get (h : Heap) (l : List Nat) (q : Nat) : (h.freeze l) q = if q ∈ l then (h q).map Row.freeze else h q := by
  induction l with
  | nil => rfl
  | cons r l ih =>
    simp only [Heap.freeze]
    by_cases h1 : q = r
    · subst h1
      simp only [if_true, List.mem_cons, true_or]
      rw [ih]
      split
      · cases h q with
        | none => rfl
        | some x => cases x <;> rfl
      · rfl
    · simp only [h1, if_false, List.mem_cons, false_or]
      exact ih
theorem Comp.app_le {c : Comp} {h h' : Heap} {v : AV} (hv : c.app h = some (v, h')) : v = c.1 ∧ Hle h h' ∧ (∀ q, h' q = none → h q = none) ∧ ∀ id x, c.2.2 = some (id, x) → h id = none := by
  obtain ⟨u, A, p⟩ := c
  cases p with
  | none =>
    simp only [Comp.app] at hv
    cases hv
    refine ⟨rfl, fun r x hx => ?_, fun q hq => freeze_none.1 hq, fun id x h => by cases h⟩
    rw [freeze_get, hx]
    split
    · exact .inr rfl
    · exact .inl rfl
  | some p =>
    obtain ⟨id, y⟩ := p
    simp only [Comp.app] at hv
    split at hv
    · rename_i hid
      cases hv
      have hid' : h id = none := by simpa using hid
      refine ⟨rfl, fun r x hx => ?_, fun q hq => ?_, fun id x h => by cases h; exact hid'⟩
      · have hne : r ≠ id := fun e => by rw [e, hid'] at hx; cases hx
        simp only [Heap.put, if_neg hne, freeze_get, hx]
        split
        · exact .inr rfl
        · exact .inl rfl
      · simp only [Heap.put] at hq
        split at hq
        · cases hq
        · exact freeze_none.1 hq
    · cases hv
theorem app_comm {c d : Comp} {h h1 h2 : Heap} {u v : AV} (hc : c.app h = some (u, h1)) (hd : d.app h1 = some (v, h2)) (cc : Cl h c.2.1) (cd : Cl h d.2.1) (hne : ∀ i x j y, c.2.2 = some (i, x) → d.2.2 = some (j, y) → i ≠ j) :
    ∃ h3, d.app h = some (v, h3) ∧ c.app h3 = some (u, h2) := by
  obtain ⟨_, _, n1, m1⟩ := Comp.app_le hc
  obtain ⟨_, _, _, m2⟩ := Comp.app_le hd
  obtain ⟨a, A, p⟩ := c
  obtain ⟨b, B, q⟩ := d
  have idn : ∀ {i : Nat} {l : List Nat}, h i = none → Cl h l → i ∉ l := fun hi hl hm => hl _ hm hi
  have ff : ∀ r, ((h.freeze A).freeze B) r = ((h.freeze B).freeze A) r := by
    intro r
    simp only [freeze_get]
    cases h r with
    | none => by_cases h1 : r ∈ A <;> by_cases h2 : r ∈ B <;> simp [h1, h2]
    | some x => by_cases h1 : r ∈ A <;> by_cases h2 : r ∈ B <;> simp [h1, h2]
  cases p with
  | none =>
    simp only [Comp.app] at hc
    cases hc
    cases q with
    | none =>
      simp only [Comp.app] at hd
      cases hd
      refine ⟨_, rfl, ?_⟩
      simp only [Comp.app]
      rw [funext ff]
    | some q =>
      obtain ⟨j, y⟩ := q
      have hj : h j = none := n1 j (m2 j y rfl)
      simp only [Comp.app] at hd
      split at hd
      · cases hd
        refine ⟨(h.freeze B).put j y, by simp [Comp.app, hj], ?_⟩
        simp only [Comp.app]
        have : ((h.freeze B).put j y).freeze A = ((h.freeze A).freeze B).put j y := by
          funext r
          simp only [freeze_get, Heap.put]
          by_cases h1 : r = j
          · subst h1; simp [idn hj cc]
          · have := ff r
            simp only [freeze_get] at this
            simp only [h1, if_false]
            exact this.symm
        rw [this]
      · cases hd
  | some p =>
    obtain ⟨i, x⟩ := p
    have hi : h i = none := m1 i x rfl
    simp only [Comp.app] at hc
    split at hc
    · cases hc
      cases q with
      | none =>
        simp only [Comp.app] at hd
        cases hd
        refine ⟨_, rfl, ?_⟩
        have h3 : (h.freeze B) i = none := freeze_none.2 hi
        simp only [Comp.app, h3, Option.isNone_none, if_true]
        have : ((h.freeze A).put i x).freeze B = ((h.freeze B).freeze A).put i x := by
          funext r
          simp only [freeze_get, Heap.put]
          by_cases h1 : r = i
          · subst h1; simp [idn hi cd]
          · have := ff r
            simp only [freeze_get] at this
            simp only [h1, if_false]
            exact this
        rw [this]
      | some q =>
        obtain ⟨j, y⟩ := q
        have hij := hne i x j y rfl rfl
        have hj : h j = none := n1 j (m2 j y rfl)
        simp only [Comp.app] at hd
        split at hd
        · cases hd
          refine ⟨(h.freeze B).put j y, by simp [Comp.app, hj], ?_⟩
          have h3 : ((h.freeze B).put j y) i = none := by simp only [Heap.put, if_neg hij]; exact freeze_none.2 hi
          simp only [Comp.app, h3, Option.isNone_none, if_true]
          have : ((((h.freeze A).put i x).freeze B).put j y) = (((h.freeze B).put j y).freeze A).put i x := by
            funext r
            simp only [freeze_get, Heap.put]
            by_cases h1 : r = i
            · subst h1; simp [idn hi cd, hij]
            · by_cases h2 : r = j
              · subst h2; simp [h1, idn hj cc]
              · have := ff r
                simp only [freeze_get] at this
                simp only [h1, h2, if_false]
                exact this
          rw [this]
        · cases hd
    · cases hc
def noRef : AV → Bool
  | .sl _ _ _ _ | .p _ _ _ | .tup _ => false
  | .agg cs => cs.all fun c => match c with | .sl _ _ _ _ | .p _ _ _ => false | _ => true
  | _ => true
theorem noRef_cl {v : AV} (h : Heap) (hn : noRef v = true) : Cl h (ref h v) := by
  have : ref h v = [] := by
    cases v <;> first | rfl | (simp [noRef] at hn; done) | skip
    rename_i cs
    show cs.flatMap (refC h) = []
    simp only [noRef, List.all_eq_true] at hn
    rw [List.flatMap_eq_nil_iff]
    intro c hc
    have := hn c hc
    cases c <;> first | rfl | (simp at this; done)
  rw [this]
  intro r hr
  cases hr
def PO.okc (o : PO) : Bool := o.ats.all fun x => match x with | .c v => noRef v | .t _ => true
theorem Real.closed {f : Fr} {nt : Nat} {st : St} (hr : Real f nt st) {o : PO} (ho : o.okc = true) : ∀ x ∈ o.ats, Cl st.h (ref st.h (x.ev st.env)) := by
  intro x hx
  simp only [PO.okc, List.all_eq_true] at ho
  have := ho x hx
  obtain ⟨w, a, _, _, T, ρ, k, he⟩ := hr
  cases x with
  | c v => exact noRef_cl _ this
  | t n => exact rv_ref k.dom k.rows (he n)
def PO.newId : PO → Option Nat
  | .alloc id _ | .box id _ _ | .bsl id _ _ _ _ | .mk id _ _ _ _ => some id
  | _ => none
theorem comp_id (call : Call) (p : POp) {e : Nat → AV} {h : Heap} {c : Comp} (hv : p.comp call e h = some c) {i : Nat} {x : Row} (hi : c.2.2 = some (i, x)) : p.op.newId = some i := by
  have key : p.op.comp call e h = some c → p.op.newId = some i := by
    intro hv
    generalize p.op = o at hv
    cases o <;> simp only [PO.comp, Option.map_eq_some_iff] at hv
    case alloc => cases hv; cases hi; rfl
    case box => split at hv <;> cases hv; cases hi; rfl
    case bsl => obtain ⟨_, _, rfl⟩ := hv; cases hi; rfl
    case mk =>
      split at hv
      · split at hv
        · cases hv; cases hi; rfl
        · cases hv
      · cases hv
    all_goals
      obtain ⟨_, _, rfl⟩ := hv
      cases hi
  unfold POp.comp at hv
  split at hv
  · exact key hv
  · split at hv
    · exact key hv
    · cases hv; cases hi
    · cases hv
theorem swap_grow {call : Call} {x y : POp} {st s1 s2 : St} (hx : x.op.kind ≤ 1) (hy : y.op.kind ≤ 1) (hap : envApart x y = true) (cx : ∀ z ∈ x.op.ats, Cl st.h (ref st.h (z.ev st.env))) (cy : ∀ z ∈ y.op.ats, Cl st.h (ref st.h (z.ev st.env)))
    (hid : ∀ i, x.op.newId = some i → y.op.newId ≠ some i) (h1 : x.ev call st = some s1) (h2 : y.ev call s1 = some s2) : ∃ s3, y.ev call st = some s3 ∧ x.ev call s3 = some s2 := by
  obtain ⟨a1, a2, a3⟩ := envApart_spec hap
  rw [POp.comp_ev call x hx] at h1
  simp only [Option.bind_eq_some_iff, Option.map_eq_some_iff] at h1
  obtain ⟨c, hc, ⟨u, g1⟩, hg1, rfl⟩ := h1
  rw [POp.comp_ev call y hy] at h2
  simp only [Option.bind_eq_some_iff, Option.map_eq_some_iff] at h2
  obtain ⟨d, hd, ⟨v, g2⟩, hg2, rfl⟩ := h2
  obtain ⟨hu, le1, _, _⟩ := Comp.app_le hg1
  have compLe : ∀ (p : POp) {h h' : Heap} (e : Nat → AV), Hle h h' → (∀ z ∈ p.op.ats, Cl h (ref h (z.ev e))) → p.comp call e h' = p.comp call e h := by
    intro p h h' e hle hcl
    unfold POp.comp
    simp only [PO.comp_le call p.op hle hcl]
  have hd' : y.comp call st.env st.h = some d := by
    rw [← compLe y st.env le1 cy, ← hd]
    refine POp.agree call y g1 fun t ht => ?_
    exact (setD_at (a1 t ht)).symm
  have clc : ∀ (p : POp) {c : Comp}, (∀ z ∈ p.op.ats, Cl st.h (ref st.h (z.ev st.env))) → p.comp call st.env st.h = some c → Cl st.h c.2.1 := by
    intro p c hcl hv
    unfold POp.comp at hv
    split at hv
    · exact comp_cl call p.op hcl hv
    · split at hv
      · exact comp_cl call p.op hcl hv
      · cases hv; intro r hr; cases hr
      · cases hv
  obtain ⟨g3, b1, b2⟩ := app_comm hg1 hg2 (clc x cx hc) (clc y cy hd') fun i _ j _ hi hj e => hid i (comp_id call x hc hi) (by rw [e]; exact comp_id call y hd' hj)
  obtain ⟨_, le3, _, _⟩ := Comp.app_le b1
  refine ⟨⟨setD st.env y.dst v, g3⟩, ?_, ?_⟩
  · rw [POp.comp_ev call y hy, hd']
    simp only [Option.bind_some, b1, Option.map_some]
  · rw [POp.comp_ev call x hx]
    have hc' : x.comp call (setD st.env y.dst v) g3 = some c := by
      rw [← hc, ← compLe x st.env le3 cx]
      exact POp.agree call x g3 fun t ht => setD_at (a2 t ht)
    simp only [hc', Option.bind_some, b2, Option.map_some]
    rw [setD_comm u v a3]
end Go.Pe
set_option linter.unusedVariables false
set_option linter.unusedSimpArgs false
namespace Go.Pe
open Go
theorem POp.ev_at {call : Call} {p : POp} {e : Nat → AV} {h : Heap} {s : St} (hv : p.ev call ⟨e, h⟩ = some s) :
    ∃ v h', s = ⟨setD e p.dst v, h'⟩ ∧ ∀ e', (∀ t ∈ p.reads, e t = e' t) → p.ev call ⟨e', h⟩ = some ⟨setD e' p.dst v, h'⟩ := by
  unfold POp.ev at hv ⊢
  cases hg : p.guard with
  | none =>
    simp only [hg, Option.map_eq_some_iff] at hv
    obtain ⟨⟨v, h'⟩, hv, rfl⟩ := hv
    refine ⟨v, h', rfl, fun e' ha => ?_⟩
    rw [← PO.agree call p.op h fun t ht => ha t (by simp [POp.reads, ht])]
    simp only [hv, Option.map_some]
  | some g =>
    obtain ⟨t, q⟩ := g
    simp only [hg] at hv
    have ht : t ∈ p.reads := by simp [POp.reads, hg]
    split at hv
    · rename_i hz
      simp only [Option.map_eq_some_iff] at hv
      obtain ⟨⟨v, h'⟩, hv, rfl⟩ := hv
      refine ⟨v, h', rfl, fun e' ha => ?_⟩
      simp only [← ha t ht, hz]
      rw [← PO.agree call p.op h fun t ht => ha t (by simp [POp.reads, ht])]
      simp only [hv, Option.map_some]
    · rename_i hz
      cases hv
      refine ⟨.tup [], h, rfl, fun e' ha => ?_⟩
      simp only [← ha t ht, hz]
    · cases hv
theorem POp.pure_at {call : Call} {p : POp} (hk : p.op.kind = 0) {e : Nat → AV} {h : Heap} {s : St} (hv : p.ev call ⟨e, h⟩ = some s) :
    ∃ v, s = ⟨setD e p.dst v, h⟩ ∧ ∀ e' h', (∀ t ∈ p.reads, e t = e' t) → p.ev call ⟨e', h'⟩ = some ⟨setD e' p.dst v, h'⟩ := by
  unfold POp.ev at hv ⊢
  have op : ∀ {v : AV} {h1 : Heap}, p.op.ev call e h = some (v, h1) → h1 = h ∧ ∀ e' h', (∀ t ∈ p.reads, e t = e' t) → p.op.ev call e' h' = some (v, h') := by
    intro v h1 hv
    rw [PO.pure call p.op hk, Option.map_eq_some_iff] at hv
    obtain ⟨q, hq, hv⟩ := hv
    cases hv
    refine ⟨rfl, fun e' h' ha => ?_⟩
    rw [PO.pure call p.op hk, ← PO.agree call p.op Heap.none fun t ht => ha t (by simp [POp.reads, ht]), hq]
    rfl
  cases hg : p.guard with
  | none =>
    simp only [hg, Option.map_eq_some_iff] at hv
    obtain ⟨⟨v, h1⟩, hv, rfl⟩ := hv
    obtain ⟨rfl, h2⟩ := op hv
    exact ⟨v, rfl, fun e' h' ha => by simp only [h2 e' h' ha, Option.map_some]⟩
  | some g =>
    obtain ⟨t, q⟩ := g
    simp only [hg] at hv
    have ht : t ∈ p.reads := by simp [POp.reads, hg]
    split at hv
    · rename_i hz
      simp only [Option.map_eq_some_iff] at hv
      obtain ⟨⟨v, h1⟩, hv, rfl⟩ := hv
      obtain ⟨rfl, h2⟩ := op hv
      exact ⟨v, rfl, fun e' h' ha => by simp only [← ha t ht, hz, h2 e' h' ha, Option.map_some]⟩
    · rename_i hz
      cases hv
      exact ⟨.tup [], rfl, fun e' h' ha => by simp only [← ha t ht, hz]⟩
    · cases hv
theorem swap_pure1 {call : Call} {x y : POp} {st s1 s2 : St} (hx : x.op.kind = 0) (hap : envApart x y = true) (h1 : x.ev call st = some s1) (h2 : y.ev call s1 = some s2) : ∃ s3, y.ev call st = some s3 ∧ x.ev call s3 = some s2 := by
  obtain ⟨a1, a2, a3⟩ := envApart_spec hap
  obtain ⟨u, rfl, hu⟩ := POp.pure_at hx h1
  obtain ⟨v, h', rfl, hv⟩ := POp.ev_at h2
  refine ⟨_, hv st.env fun t ht => setD_at (a1 t ht), ?_⟩
  rw [hu _ h' fun t ht => (setD_at (a2 t ht)).symm, setD_comm u v a3]
theorem swap_pure2 {call : Call} {x y : POp} {st s1 s2 : St} (hy : y.op.kind = 0) (hap : envApart x y = true) (h1 : x.ev call st = some s1) (h2 : y.ev call s1 = some s2) : ∃ s3, y.ev call st = some s3 ∧ x.ev call s3 = some s2 := by
  obtain ⟨a1, a2, a3⟩ := envApart_spec hap
  obtain ⟨u, h', rfl, hu⟩ := POp.ev_at h1
  obtain ⟨v, rfl, hv⟩ := POp.pure_at hy h2
  refine ⟨_, hv st.env st.h fun t ht => setD_at (a1 t ht), ?_⟩
  rw [hu _ fun t ht => (setD_at (a2 t ht)).symm, setD_comm u v a3]
theorem st_ld {h h' : Heap} {sz : Nat} {s l v : AV} (hs : stV h sz s v = some h') (ha : apartV s l = true) (ag : Bool) (z : Nat) : ldV h' ag z l = ldV h ag z l := by
  cases s <;> simp only [stV] at hs <;> try (cases hs; done)
  rename_i r e o
  cases l <;> simp only [apartV] at ha <;> try (cases ha; done)
  · rfl
  · rename_i q e2 o2
    have hne : q ≠ r := fun e => by subst e; simp at ha
    have key : (h' q).bind (Row.at e2) = (h q).bind (Row.at e2) := by
      split at hs
      · split at hs
        · cases hs
          simp only [Heap.put, if_neg hne, freeze_get]
          split
          · cases h q <;> simp [freeze_at]
          · rfl
        · cases hs
      · split at hs
        · cases hs
          simp only [Heap.put, if_neg hne]
        · cases hs
      · cases hs
    simp only [ldV, ptrAt, key]
def ldP (p : POp) : Option Nat := match p.op, p.guard with
  | .ld _ _ (.t l), none => some l
  | _, _ => none
def stP (p : POp) : Option Nat := match p.op, p.guard with
  | .st _ (.t s) _, none => some s
  | _, _ => none
theorem ldP_spec {p : POp} {l : Nat} (h : ldP p = some l) : ∃ ag sz, p.op = .ld ag sz (.t l) ∧ p.guard = none := by
  unfold ldP at h
  split at h
  · rename_i ag sz l' h1 h2; cases h; exact ⟨_, _, h1, h2⟩
  · cases h
theorem stP_spec {p : POp} {s : Nat} (h : stP p = some s) : ∃ sz v, p.op = .st sz (.t s) v ∧ p.guard = none := by
  unfold stP at h
  split at h
  · rename_i ag sz l' h1 h2; cases h; exact ⟨_, _, h1, h2⟩
  · cases h
theorem swap_ldst {call : Call} {x y : POp} {st s1 s2 : St} {l s : Nat} (hx : ldP x = some l) (hy : stP y = some s) (hap : envApart x y = true) (ha : apartV (st.env s) (st.env l) = true) (h1 : x.ev call st = some s1) (h2 : y.ev call s1 = some s2) : ∃ s3, y.ev call st = some s3 ∧ x.ev call s3 = some s2 := by
  obtain ⟨a1, a2, a3⟩ := envApart_spec hap
  obtain ⟨ag, sz, hxo, hxg⟩ := ldP_spec hx
  obtain ⟨sz', v, hyo, hyg⟩ := stP_spec hy
  have h1' := h1
  simp only [POp.ev, hxg, hxo, PO.ev, Option.map_map, Option.map_eq_some_iff] at h1'
  obtain ⟨u, hu, rfl⟩ := h1'
  obtain ⟨v2, h', rfl, hv⟩ := POp.ev_at h2
  have h3 := hv st.env fun t ht => setD_at (a1 t ht)
  refine ⟨_, h3, ?_⟩
  have h4 := h3
  simp only [POp.ev, hyg, hyo, PO.ev, Option.map_map, Option.map_eq_some_iff] at h4
  obtain ⟨g, hg, h4⟩ := h4
  have hg' : g = h' := congrArg St.h h4
  subst hg'
  have e1 : setD st.env y.dst v2 l = st.env l := setD_at (a2 l (by simp [POp.reads, hxo, PO.reads, PO.ats, At.tmps]))
  simp only [POp.ev, hxg, hxo, PO.ev, At.ev] at hu hg ⊢
  rw [e1, st_ld hg ha, hu]
  simp only [Option.map_some]
  rw [setD_comm u v2 a3]
theorem swap_stld {call : Call} {x y : POp} {st s1 s2 : St} {l s : Nat} (hx : stP x = some s) (hy : ldP y = some l) (hap : envApart x y = true) (ha : apartV (st.env s) (st.env l) = true) (h1 : x.ev call st = some s1) (h2 : y.ev call s1 = some s2) : ∃ s3, y.ev call st = some s3 ∧ x.ev call s3 = some s2 := by
  obtain ⟨a1, a2, a3⟩ := envApart_spec hap
  obtain ⟨ag, sz, hyo, hyg⟩ := ldP_spec hy
  obtain ⟨sz', v, hxo, hxg⟩ := stP_spec hx
  obtain ⟨u, h', rfl, hu⟩ := POp.ev_at h1
  have h3 := h1
  simp only [POp.ev, hxg, hxo, PO.ev, Option.map_map, Option.map_eq_some_iff] at h3
  obtain ⟨g, hg, h3⟩ := h3
  have hg' : g = h' := congrArg St.h h3
  subst hg'
  simp only [POp.ev, hyg, hyo, PO.ev, Option.map_map, Option.map_eq_some_iff] at h2
  obtain ⟨v2, hv2, rfl⟩ := h2
  have e1 : setD st.env x.dst u l = st.env l := setD_at (a1 l (by simp [POp.reads, hyo, PO.reads, PO.ats, At.tmps]))
  simp only [At.ev] at hv2 hg
  rw [e1, st_ld hg ha] at hv2
  refine ⟨⟨setD st.env y.dst v2, st.h⟩, ?_, ?_⟩
  · simp only [POp.ev, hyg, hyo, PO.ev, At.ev, hv2, Option.map_some]
  · rw [hu _ fun t ht => (setD_at (a2 t ht)).symm]
    exact congrArg some (congrArg (fun e => St.mk e g) (setD_comm u v2 a3).symm)
def comm (chk : List (Nat × Nat)) (x y : POp) : Bool := envApart x y && (x.op.kind == 0 || y.op.kind == 0 ||
  (decide (x.op.kind ≤ 1) && decide (y.op.kind ≤ 1) && x.op.okc && y.op.okc && (match x.op.newId with | some i => decide (y.op.newId ≠ some i) | none => true)) ||
  (match ldP x, stP y with | some l, some s => chk.contains (s, l) | _, _ => false) || (match stP x, ldP y with | some s, some l => chk.contains (s, l) | _, _ => false))
def ptrT (p : POp) : Option Nat := match ldP p with
  | some l => some l
  | none => stP p
theorem swap {f : Fr} {nt : Nat} {call : Call} {chk : List (Nat × Nat)} {x y : POp} {st s1 s2 : St} (hr : Real f nt st) (hc : comm chk x y = true)
    (ha : ∀ s l, (s, l) ∈ chk → (ptrT x = some s ∧ ptrT y = some l ∨ ptrT x = some l ∧ ptrT y = some s) → apartV (st.env s) (st.env l) = true)
    (h1 : x.ev call st = some s1) (h2 : y.ev call s1 = some s2) : ∃ s3, y.ev call st = some s3 ∧ x.ev call s3 = some s2 := by
  simp only [comm, Bool.and_eq_true, Bool.or_eq_true, beq_iff_eq, decide_eq_true_eq] at hc
  obtain ⟨hap, hc⟩ := hc
  have pl : ∀ {p : POp} {l : Nat}, ldP p = some l → ptrT p = some l := fun h => by unfold ptrT; rw [h]
  have ps : ∀ {p : POp} {s : Nat}, stP p = some s → ptrT p = some s := fun {p s} h => by
    obtain ⟨sz, v, h1, h2⟩ := stP_spec h
    have : ldP p = none := by unfold ldP; rw [h1]
    unfold ptrT; rw [this]; exact h
  rcases hc with ((((hc | hc) | hc) | hc) | hc)
  · exact swap_pure1 hc hap h1 h2
  · exact swap_pure2 hc hap h1 h2
  · obtain ⟨⟨⟨⟨k1, k2⟩, k3⟩, k4⟩, k5⟩ := hc
    refine swap_grow k1 k2 hap (hr.closed k3) (hr.closed k4) (fun i hi => ?_) h1 h2
    rw [hi] at k5
    simpa using k5
  · split at hc
    · rename_i l s hl hs
      simp only [List.contains_iff_mem] at hc
      exact swap_ldst hl hs hap (ha s l hc (.inr ⟨pl hl, ps hs⟩)) h1 h2
    · cases hc
  · split at hc
    · rename_i s l hs hl
      simp only [List.contains_iff_mem] at hc
      exact swap_stld hs hl hap (ha s l hc (.inl ⟨ps hs, pl hl⟩)) h1 h2
    · cases hc
theorem ptrT_reads {p : POp} {t : Nat} (h : ptrT p = some t) : t ∈ p.reads := by
  unfold ptrT at h
  split at h
  · rename_i l hl
    cases h
    obtain ⟨ag, sz, h1, h2⟩ := ldP_spec hl
    simp [POp.reads, h1, PO.reads, PO.ats, At.tmps]
  · obtain ⟨sz, v, h1, h2⟩ := stP_spec h
    simp [POp.reads, h1, PO.reads, PO.ats, At.tmps]
def wfL : List POp → Bool
  | [] => true
  | p :: l => (match ptrT p with | some t => (p :: l).all fun q => decide (q.dst ≠ some t) | none => true) && wfL l
theorem wfL_sub {l m : List POp} (h : l.Sublist m) : wfL m = true → wfL l = true := by
  induction h with
  | slnil => exact fun h => h
  | cons p h ih =>
    intro hm
    simp only [wfL, Bool.and_eq_true] at hm
    exact ih hm.2
  | cons_cons p h ih =>
    intro hm
    simp only [wfL, Bool.and_eq_true] at hm ⊢
    refine ⟨?_, ih hm.2⟩
    split
    · rename_i t ht
      rw [ht] at hm
      simp only [List.all_eq_true, List.mem_cons] at hm ⊢
      intro q hq
      exact hm.1 q (hq.imp id (h.subset ·))
    · rfl
theorem evs_env {call : Call} {t : Nat} : ∀ {l : List POp} {st stf : St}, evs call l st = some stf → (∀ p ∈ l, p.dst ≠ some t) → stf.env t = st.env t := by
  intro l
  induction l with
  | nil => intro st stf h _; cases h; rfl
  | cons p l ih =>
    intro st stf h hd
    simp only [evs, Option.bind_eq_some_iff] at h
    obtain ⟨s1, h1, h2⟩ := h
    obtain ⟨v, h', rfl, _⟩ := POp.ev_at h1
    rw [ih h2 fun p hp => hd p (List.mem_cons_of_mem _ hp)]
    exact setD_at (hd p List.mem_cons_self)
theorem apartL_mem {e : Nat → AV} : ∀ {chk : List (Nat × Nat)}, apartL e chk = true → ∀ s l, (s, l) ∈ chk → apartV (e s) (e l) = true
  | [], _, s, l, h => by cases h
  | (s', l') :: r, h, s, l, hm => by
    simp only [apartL, Bool.and_eq_true] at h
    rcases List.mem_cons.1 hm with e | hm
    · cases e; exact h.1
    · exact apartL_mem h.2 s l hm
theorem move_front {f : Fr} {nt : Nat} {call : Call} {chk : List (Nat × Nat)} {y : POp} {post : List POp} : ∀ {pre : List POp} {st stf : St}, (∀ p ∈ pre, ∀ st st', Real f nt st → p.ev call st = some st' → Real f nt st') →
    Real f nt st → wfL (pre ++ y :: post) = true → (∀ x ∈ pre, comm chk x y = true) → apartL stf.env chk = true → evs call (pre ++ y :: post) st = some stf → evs call (y :: (pre ++ post)) st = some stf := by
  intro pre
  induction pre with
  | nil => intro st stf _ _ _ _ _ h; exact h
  | cons x pre ih =>
    intro st stf hstep hr hwf hcm hap hev
    have hev0 := hev
    simp only [List.cons_append, evs, Option.bind_eq_some_iff] at hev
    obtain ⟨s1, h1, h2⟩ := hev
    have hr1 := hstep x List.mem_cons_self _ _ hr h1
    have h3 := ih (fun p hp => hstep p (List.mem_cons_of_mem _ hp)) hr1 (wfL_sub (List.sublist_cons_self _ _) hwf) (fun z hz => hcm z (List.mem_cons_of_mem _ hz)) hap h2
    simp only [evs, Option.bind_eq_some_iff] at h3
    obtain ⟨s2, h4, h5⟩ := h3
    have hxy := hcm x List.mem_cons_self
    -- pointers are as they are at the end
    have px : ∀ t, ptrT x = some t → stf.env t = st.env t := by
      intro t ht
      refine evs_env hev0 fun p hp => ?_
      simp only [List.cons_append, wfL, ht, Bool.and_eq_true, List.all_eq_true, decide_eq_true_eq] at hwf
      exact hwf.1 p hp
    have py : ∀ t, ptrT y = some t → stf.env t = st.env t := by
      intro t ht
      refine evs_env hev0 fun p hp => ?_
      rcases List.mem_append.1 hp with hp | hp
      · have := hcm p hp
        simp only [comm, Bool.and_eq_true] at this
        exact (envApart_spec this.1).1 t (ptrT_reads ht)
      · have := wfL_sub (List.sublist_append_right (x :: pre) (y :: post)) hwf
        simp only [wfL, ht, Bool.and_eq_true, List.all_eq_true, decide_eq_true_eq] at this
        exact this.1 p hp
    obtain ⟨s3, h6, h7⟩ := swap hr hxy (fun s l hm hh => by
      have := apartL_mem hap s l hm
      rcases hh with ⟨e1, e2⟩ | ⟨e1, e2⟩
      · rwa [px _ e1, py _ e2] at this
      · rwa [py _ e2, px _ e1] at this) h1 h4
    simp only [evs, List.cons_append, h6, h7, Option.bind_some]
    exact h5
end Go.Pe
set_option linter.unusedVariables false
set_option linter.unusedSimpArgs false
namespace Go.Pe
open Go
def preds (o : Oper) : List Nat := (o.after.toList.filter (Region.binds .any)).map (·.on)
def maskOf (M : List Nat) (ps : List Nat) : Nat := ps.foldl (fun m p => m ||| (1 <<< p) ||| M.getD p 0) 0
def ancs (os : List Oper) : List Nat := os.foldl (fun M o => M ++ [maskOf M (preds o)]) []
theorem maskOf_bit {M : List Nat} {j : Nat} : ∀ {ps : List Nat} {m : Nat}, (ps.foldl (fun m p => m ||| (1 <<< p) ||| M.getD p 0) m).testBit j = true → m.testBit j = true ∨ ∃ p ∈ ps, p = j ∨ (M.getD p 0).testBit j = true := by
  intro ps
  induction ps with
  | nil => intro m h; exact .inl h
  | cons p ps ih =>
    intro m h
    rcases ih h with h | ⟨q, hq, h⟩
    · rw [Nat.testBit_or, Nat.testBit_or, Bool.or_eq_true, Bool.or_eq_true] at h
      rcases h with ((h | h) | h)
      · exact .inl h
      · rw [Nat.one_shiftLeft, Nat.testBit_two_pow] at h
        exact .inr ⟨p, List.mem_cons_self, .inl (of_decide_eq_true h)⟩
      · exact .inr ⟨p, List.mem_cons_self, .inr h⟩
    · exact .inr ⟨q, List.mem_cons_of_mem _ hq, h⟩
def drawOk (chk : List (Nat × Nat)) (os : List Oper) (ps : List POp) : Bool :=
  wfL ps && (List.range os.length).all fun i => match os[i]?, ps[i]? with
    | some o, some p => (preds o).all (fun q => decide (q < i)) && decide ((ancs os).getD i 0 = maskOf (ancs os) (preds o)) && (List.range i).all fun j => ((ancs os).getD i 0).testBit j || (match ps[j]? with | some x => comm chk x p | none => false)
    | _, _ => false
theorem drawOk_spec {chk : List (Nat × Nat)} {os : List Oper} {ps : List POp} (h : drawOk chk os ps = true) : wfL ps = true ∧ ∀ (i : Nat) o p, os[i]? = some o → ps[i]? = some p → (∀ q ∈ preds o, q < i) ∧ (ancs os).getD i 0 = maskOf (ancs os) (preds o) ∧ ∀ (j : Nat) x, j < i → ps[j]? = some x → ((ancs os).getD i 0).testBit j = true ∨ comm chk x p = true := by
  simp only [drawOk, Bool.and_eq_true, List.all_eq_true, List.mem_range] at h
  refine ⟨h.1, fun i o p ho hp => ?_⟩
  have := h.2 i (List.getElem?_eq_some_iff.1 ho).1
  rw [ho, hp] at this
  simp only [Bool.and_eq_true, List.all_eq_true, decide_eq_true_eq, List.mem_range, Bool.or_eq_true] at this
  refine ⟨this.1.1, this.1.2, fun j x hj hx => ?_⟩
  have := this.2 j hj
  rw [hx] at this
  exact this
section
variable {P : Program} {F : Fns} {f : Fr} {nt : Nat}
def DownC (ops : Array Oper) (listed : Array Bool) : Prop := ∀ (i : Nat) o, ops[i]? = some o → listed.getD i true = true → ∀ q ∈ preds o, listed.getD q false = true
theorem anc_listed {ops : Array Oper} {listed : Array Bool} (hd : DownC ops listed) (hM : ∀ (i : Nat) o, ops[i]? = some o → (∀ q ∈ preds o, q < i) ∧ (ancs ops.toList).getD i 0 = maskOf (ancs ops.toList) (preds o)) : ∀ (n i : Nat) o, i ≤ n → ops[i]? = some o → (∀ q ∈ preds o, listed.getD q false = true) → ∀ j, ((ancs ops.toList).getD i 0).testBit j = true → listed.getD j false = true := by
  intro n
  induction n with
  | zero =>
    intro i o hi ho hp j hj
    obtain ⟨h1, h2⟩ := hM i o ho
    rw [h2] at hj
    rcases maskOf_bit hj with h | ⟨p, hp', h⟩
    · simp at h
    · have := h1 p hp'; omega
  | succ n ih =>
    intro i o hi ho hp j hj
    obtain ⟨h1, h2⟩ := hM i o ho
    rw [h2] at hj
    rcases maskOf_bit hj with h | ⟨p, hp', h⟩
    · simp at h
    · rcases h with rfl | h
      · exact hp _ hp'
      · have hlt := h1 p hp'
        have hps : p < ops.size := Nat.lt_trans hlt (Array.getElem?_eq_some_iff.1 ho).1
        have hpo : ops[p]? = some ops[p] := Array.getElem?_eq_getElem hps
        refine ih p _ (by omega) hpo (fun q hq => hd p _ hpo ?_ q hq) j h
        have := hp p hp'
        rcases Nat.lt_or_ge p listed.size with h' | h'
        · simp [h'] at this ⊢; exact this
        · simp [h'] at this
def pick (ps : List POp) (l : List Nat) : List POp := l.map fun i => ps.getD i ⟨none, .mv (.c .junk), none⟩
theorem pick_sublist {ps : List POp} : ∀ {l : List Nat} (k : Nat), l.Sublist (List.range' k (ps.length - k)) → k ≤ ps.length → (pick ps l).Sublist (ps.drop k) := by
  intro l k h hk
  have : ps.drop k = pick ps (List.range' k (ps.length - k)) := by
    apply List.ext_getElem?
    intro i
    simp only [pick, List.getElem?_map, List.getElem?_drop, List.getElem?_range']
    by_cases hi : i < ps.length - k
    · simp [hi, List.getD_eq_getElem?_getD, List.getElem?_eq_getElem (show k + i < ps.length by omega)]
    · simp [hi, List.getElem?_eq_none (show ps.length ≤ k + i by omega)]
  rw [this]
  exact h.map _
theorem region_any {ops : Array Oper} {ps : List POp} {chk : List (Nat × Nat)} (hm : mposL P F f.tabs nt ops ops.toList ps = true) (hdr : drawOk chk ops.toList ps = true) {call : Call} (hc : CallsOk P F f.tabs call) (Q : Exit → Act → World → Prop) {stf : St} (hQ : ∀ a w, Sim f nt w stf a → Q .normal a w) (hchk : apartL stf.env chk = true) :
    ∀ (fuel : Nat) (rest : List Nat) (listed : Array Bool) (st : St) (a : Act) (w : World), rest.length = fuel → rest.Sublist (List.range ps.length) → listed.size = ops.size → (∀ i, i < ps.length → (i ∈ rest ↔ listed.getD i true = false)) → DownC ops listed → Sim f nt w st a → evs call (pick ps rest) st = some stf →
      wpAny P .any ops Q fuel listed a w := by
  obtain ⟨hl, hg⟩ := mposL_get hm
  obtain ⟨hwf, hok⟩ := drawOk_spec hdr
  have hsz : ops.size = ps.length := by rw [← hl]; simp
  have hgo : ∀ i, i < ps.length → ∃ o p, ops[i]? = some o ∧ ops.toList[i]? = some o ∧ ps[i]? = some p ∧ ps.getD i ⟨none, .mv (.c .junk), none⟩ = p ∧ mpo P F f.tabs nt ops o p = true := by
    intro i hi
    have h1 : ps[i]? = some ps[i] := List.getElem?_eq_getElem hi
    have h2 : i < ops.toList.length := by rw [hl]; exact hi
    have h3 : ops.toList[i]? = some ops.toList[i] := List.getElem?_eq_getElem h2
    exact ⟨_, _, by rw [← Array.getElem?_toList]; exact h3, h3, h1, by simp [hi], hg i _ _ h3 h1⟩
  have hM : ∀ (i : Nat) o, ops[i]? = some o → (∀ q ∈ preds o, q < i) ∧ (ancs ops.toList).getD i 0 = maskOf (ancs ops.toList) (preds o) := by
    intro i o ho
    have hi : i < ps.length := by rw [← hsz]; exact (Array.getElem?_eq_some_iff.1 ho).1
    obtain ⟨o', p, h1, h2, h3, h4, h5⟩ := hgo i hi
    rw [ho] at h1
    cases h1
    obtain ⟨a1, a2, a3⟩ := hok i o p h2 h3
    exact ⟨a1, a2⟩
  intro fuel
  induction fuel with
  | zero =>
    intro rest listed st a w hlen hsub hls hmem hdn hs hev
    have hnil : rest = [] := List.eq_nil_of_length_eq_zero hlen
    subst hnil
    cases hev
    refine ⟨?_, hQ a w hs⟩
    rw [List.eq_nil_iff_forall_not_mem]
    intro i hi
    obtain ⟨h0, o, ho, _⟩ := mem_ready.1 hi
    have hi' : i < ps.length := by rw [← hsz]; exact (Array.getElem?_eq_some_iff.1 ho).1
    have := (hmem i hi').2 h0
    cases this
  | succ fuel ih =>
    intro rest listed st a w hlen hsub hls hmem hdn hs hev
    refine ⟨fun hn => ?_, fun i hi => ?_⟩
    · -- the first that is left may come up
      exfalso
      cases rest with
      | nil => simp at hlen
      | cons i rest =>
        have hi' : i < ps.length := List.mem_range.1 (hsub.subset List.mem_cons_self)
        have h0 := (hmem i hi').1 List.mem_cons_self
        obtain ⟨o, p, h1, h2, h3, h4, h5⟩ := hgo i hi'
        have hord : ∀ q, q < i → q ∉ rest := by
          intro q hq hqr
          have hs2 : (i :: rest).Pairwise (· < ·) := List.Pairwise.sublist hsub List.pairwise_lt_range
          have := (List.pairwise_cons.1 hs2).1 q hqr
          omega
        have : i ∈ Region.ready .any ops listed := by
          refine mem_ready.2 ⟨h0, o, h1, fun e he hb => ?_⟩
          have hq : e.on ∈ preds o := List.mem_map.2 ⟨e, List.mem_filter.2 ⟨by simpa using he, hb⟩, rfl⟩
          have hlt := (hM i o h1).1 _ hq
          have hne : ¬ e.on ∈ i :: rest := by
            intro h
            rcases List.mem_cons.1 h with h | h
            · omega
            · exact hord _ hlt h
          have := fun h => hne ((hmem e.on (by omega)).2 h)
          have hls' : e.on < listed.size := by omega
          simp [hls'] at this ⊢
          exact this
        rw [hn] at this
        cases this
    · obtain ⟨h0, o, ho, hall⟩ := mem_ready.1 hi
      have hi' : i < ps.length := by rw [← hsz]; exact (Array.getElem?_eq_some_iff.1 ho).1
      obtain ⟨o', p, h1, h2, h3, h4, h5⟩ := hgo i hi'
      rw [ho] at h1
      cases h1
      have hpred : ∀ q ∈ preds o, listed.getD q false = true := by
        intro q hq
        obtain ⟨e, he, rfl⟩ := List.mem_map.1 hq
        obtain ⟨h6, h7⟩ := List.mem_filter.1 he
        exact hall e (by simpa using h6) h7
      obtain ⟨pre, post, rfl⟩ := List.append_of_mem ((hmem i hi').2 h0)
      have hpair : (pre ++ i :: post).Pairwise (· < ·) := List.Pairwise.sublist hsub List.pairwise_lt_range
      have hev2 : evs call (pick ps pre ++ p :: pick ps post) st = some stf := by
        have : pick ps (pre ++ i :: post) = pick ps pre ++ p :: pick ps post := by simp only [pick, List.map_append, List.map_cons, h4]
        rw [← this]; exact hev
      have hsub2 : (pick ps pre ++ p :: pick ps post).Sublist ps := by
        have : pick ps (pre ++ i :: post) = pick ps pre ++ p :: pick ps post := by simp only [pick, List.map_append, List.map_cons, h4]
        rw [← this]
        have := pick_sublist (ps := ps) (l := pre ++ i :: post) 0 (by rw [Nat.sub_zero, ← List.range_eq_range']; exact hsub) (Nat.zero_le _)
        simpa using this
      have hfront := move_front (f := f) (nt := nt) (call := call) (chk := chk) (y := p) (post := pick ps post) (pre := pick ps pre) (st := st) (stf := stf)
        (fun q hq s s' hr hv => by
          obtain ⟨j, hj, rfl⟩ := List.mem_map.1 hq
          have hj' : j < ps.length := List.mem_range.1 (hsub.subset (List.mem_append.2 (.inl hj)))
          obtain ⟨o2, p2, _, _, _, b4, b5⟩ := hgo j hj'
          rw [b4] at hv
          exact hr.step b5 hc hv)
        ⟨w, a, hs⟩ (wfL_sub hsub2 hwf)
        (fun x hx => by
          obtain ⟨j, hj, rfl⟩ := List.mem_map.1 hx
          have hj' : j < ps.length := List.mem_range.1 (hsub.subset (List.mem_append.2 (.inl hj)))
          have hji : j < i := (List.pairwise_append.1 hpair).2.2 j hj i List.mem_cons_self
          obtain ⟨o2, p2, _, _, b3, b4, b5⟩ := hgo j hj'
          rw [b4]
          rcases (hok i o p h2 h3).2.2 j p2 hji b3 with h | h
          · exfalso
            have h6 := anc_listed hdn hM i i o (Nat.le_refl _) ho hpred j h
            have h7 := (hmem j hj').1 (List.mem_append.2 (.inl hj))
            have hls' : j < listed.size := by omega
            simp [hls'] at h6 h7
            rw [h6] at h7
            cases h7
          · exact h)
        hchk hev2
      simp only [evs, Option.bind_eq_some_iff] at hfront
      obtain ⟨s1, h6, h7⟩ := hfront
      have hnext : ∀ a' w', Sim f nt w' s1 a' → wpAny P .any ops Q fuel (listed.setIfInBounds i true) a' w' := by
        intro a' w' hs'
        have hni : i ∉ pre ∧ i ∉ post := by
          obtain ⟨q1, q2, q3⟩ := List.pairwise_append.1 hpair
          refine ⟨fun h => ?_, fun h => ?_⟩
          · exact absurd (q3 i h i List.mem_cons_self) (Nat.lt_irrefl _)
          · exact absurd ((List.pairwise_cons.1 q2).1 i h) (Nat.lt_irrefl _)
        refine ih (pre ++ post) _ s1 a' w' ?_ (List.Sublist.trans ?_ hsub) (by simp [hls]) (fun j hj => ?_) (fun j oj hoj hlj q hq => ?_) hs' ?_
        · simp at hlen ⊢; omega
        · exact List.Sublist.append_left (List.sublist_cons_self _ _) _
        · by_cases hji : j = i
          · subst hji
            have : j < listed.size := by omega
            simp [this, hni]
          · rw [getD_set_ne true (fun h => hji h.symm), ← hmem j hj]
            simp [hji]
        · by_cases hji : j = i
          · subst hji
            rw [hoj] at ho
            cases ho
            exact getD_set_true (hpred q hq)
          · rw [getD_set_ne true (fun h => hji h.symm)] at hlj
            exact getD_set_true (hdn j oj hoj hlj q hq)
        · have : pick ps (pre ++ post) = pick ps pre ++ pick ps post := by simp only [pick, List.map_append]
          rw [this]; exact h7
      have := op_sim hs h5 hc h6 (wpAny P .any ops Q fuel (listed.setIfInBounds i true)) Q hnext
      unfold wpOp
      rw [ho]
      simp only
      split at this
      · rename_i hw; rw [if_pos hw]; exact .inl this
      · rename_i hw; rw [if_neg hw]; exact this
theorem Sim.old {w w' : World} {st : St} {a : Act} (h : Sim f nt w st a) (ho : Old w w') : Sim f nt w' st a := by
  obtain ⟨h1, h2, T, ρ, k, he⟩ := h
  exact ⟨h1, h2, T, ρ, k.old ho, he.goes (Goes.old ho)⟩
theorem region_draw {ops : Array Oper} {ps : List POp} {chk : List (Nat × Nat)} {id : Nat} (hmo : P.follows .mixedOrders = true) (hm : mposL P F f.tabs nt ops ops.toList ps = true) (hdr : drawOk chk ops.toList ps = true) {call : Call} (hc : CallsOk P F f.tabs call) (Q : Exit → Act → World → Prop) {st stf : St} {w : World} {a : Act}
    (hQ : ∀ a w, Sim f nt w stf a → Q .normal a w) (hchk : apartL stf.env chk = true) (hs : Sim f nt w st a) (hv : evs call ps st = some stf) : (Code.region id ops true).wp P Q a w := by
  have hl := (mposL_get hm).1
  have hsz : ops.size = ps.length := by rw [← hl]; simp
  refine wp_region_any hmo ?_
  refine region_any hm hdr hc Q hQ hchk ops.size (List.range ps.length) _ st a _ (by simp [hsz]) (List.Sublist.refl _) (by simp) (fun i hi => ?_) (fun i o ho hl q hq => ?_) (hs.old (Old.drew w)) ?_
  · have : i < ops.size := by omega
    simp [hi, this]
  · have : i < ops.size := (Array.getElem?_eq_some_iff.1 ho).1
    simp [this] at hl
  · have : pick ps (List.range ps.length) = ps := by
      apply List.ext_getElem?
      intro i
      simp only [pick, List.getElem?_map]
      by_cases hi : i < ps.length
      · simp [hi]
      · simp [hi, List.getElem?_eq_none (show ps.length ≤ i by omega)]
    rw [this]; exact hv
end
end Go.Pe
set_option linter.unusedVariables false
set_option linter.unusedSimpArgs false
namespace Go.Pe
open Go
def opIs (o : Oper) (d : Nat) (g : Option (Nat × Bool)) : Bool := decide (o.dst = some d) && decide (o.guard = g)
def oMv (o : Oper) (d s : Nat) (g : Option (Nat × Bool)) : Bool := opIs o d g && (match o.op with | .move (.tmp k) | .assign (.tmp k) => k == s | _ => false)
def oRange (P : Program) (o : Oper) (d s : Nat) : Bool := opIs o d none && (match o.op with | .range t (.tmp k) => k == s && (match P.underlying t with | some .string => true | _ => false) | _ => false)
def oNext (o : Oper) (d s : Nat) : Bool := opIs o d none && (match o.op with | .next (.tmp k) true => k == s | _ => false)
def oExt (o : Oper) (d s n : Nat) : Bool := opIs o d none && (match o.op with | .extract (.tmp k) m => k == s && m == n | _ => false)
def oBin (o : Oper) (b : BinOp) (d s : Nat) (n : Int) (g : Option (Nat × Bool)) : Bool := opIs o d g && (match o.op with | .binOp b' _ (.tmp k) (.const (.int .i32 m)) _ => decide (b' = b) && k == s && decide (m = n) | _ => false)
def oPick (o : Oper) (d c s : Nat) : Bool := opIs o d none && (match o.op with | .pick (.tmp k) (.const (.bool true)) (.tmp m) => k == c && m == s | _ => false)
def digO (P : Program) : List Oper → List Oper → List Oper → List Oper → Bool
  | [p1, p2], [q1, q2], [r1, r2], [s1, s2, s3, s4, s5, s6] => oMv p1 13 0 none && oRange P p2 14 13 && oNext q1 15 14 && oExt q2 16 15 0 && oExt r1 17 15 2 && oMv r2 5 17 none
    && oMv s1 18 5 none && oBin s2 .lss 19 18 48 none && oMv s3 20 19 none && oMv s4 21 5 (some (2, false)) && oBin s5 .gtr 22 21 57 (some (2, false)) && oPick s6 23 20 22
  | _, _, _, _ => false
def digM (P : Program) : Code → Option Code
  | .seq (.region _ o3 false) (.block b0 (.loop (.seq (.region _ o4 false) (.seq (.cond (.tmp 16) .skip (.exit b1)) (.block _ (.seq (.region _ o5 false) (.seq (.region _ o6 false) (.cond (.tmp 23) y .skip)))))))) =>
    if b0 == b1 && digO P o3.toList o4.toList o5.toList o6.toList then some y else none
  | _ => none
section
variable {P : Program} {a : Act} {w : World}
theorem opIs_spec {o : Oper} {d : Nat} {g : Option (Nat × Bool)} (h : opIs o d g = true) : o.dst = some d ∧ o.guard = g := by simpa [opIs] using h
theorem oMv_run {o : Oper} {d s : Nat} {g : Option (Nat × Bool)} (h : oMv o d s g = true) : (o.dst = some d ∧ o.guard = g) ∧ ∀ (a : Act) (w : World), (execOp a.eval o).run P w = .ok (.value (a.tmps.getD s undef)) w := by
  simp only [oMv, Bool.and_eq_true] at h
  refine ⟨opIs_spec h.1, fun a w => ?_⟩
  have h2 := h.2
  split at h2
  · rename_i k ho; simp only [beq_iff_eq] at h2; subst h2; simp [execOp, ho, Act.eval]
  · rename_i k ho; simp only [beq_iff_eq] at h2; subst h2; simp [execOp, ho, Act.eval]
  · cases h2
theorem oRange_run {o : Oper} {d s : Nat} (h : oRange P o d s = true) : (o.dst = some d ∧ o.guard = none) ∧ ∀ (a : Act) (w : World) (x : ByteArray), a.tmps.getD s undef = .string x → (execOp a.eval o).run P w = .ok (.value (.pointer (some ⟨w.heap.size, 0, none⟩))) (w.iter x 0) := by
  simp only [oRange, Bool.and_eq_true] at h
  refine ⟨opIs_spec h.1, fun a w x hx => ?_⟩
  have h2 := h.2
  split at h2
  · rename_i t k ho
    simp only [Bool.and_eq_true, beq_iff_eq] at h2
    obtain ⟨rfl, h2⟩ := h2
    split at h2
    · rename_i hu
      have hx' : a.eval (.tmp k) = .string x := hx
      simp only [execOp, ho, hx', Sem.run_bind, run_range_string w t x hu, Result.andThen_ok, Sem.run_pure]
    · cases h2
  · cases h2
theorem oNext_run {o : Oper} {d s : Nat} (h : oNext o d s = true) : (o.dst = some d ∧ o.guard = none) ∧ ∀ (a : Act) (w : World) (x : ByteArray) (pos : Nat), a.tmps.getD s undef = .pointer (some ⟨w.heap.size, 0, none⟩) →
    (∀ hp : pos < x.size, (execOp a.eval o).run P (w.iter x pos) = .ok (.value (.tuple #[.bool true, .int .i64 pos, .int .i32 (Utf8.decode x pos).1])) (w.iter x (pos + (Utf8.decode x pos).2))) ∧ (¬ pos < x.size → (execOp a.eval o).run P (w.iter x pos) = .ok (.value (.tuple #[.bool false])) (w.iter x pos)) := by
  simp only [oNext, Bool.and_eq_true] at h
  refine ⟨opIs_spec h.1, fun a w x pos hx => ?_⟩
  have h2 := h.2
  split at h2
  · rename_i k ho
    simp only [beq_iff_eq] at h2
    subst h2
    have hx' : a.eval (.tmp k) = .pointer (some ⟨w.heap.size, 0, none⟩) := hx
    refine ⟨fun hp => ?_, fun hp => ?_⟩
    · simp only [execOp, ho, hx', Sem.run_bind, run_next_any w x pos _ hp, Result.andThen_ok, Sem.run_pure]
    · simp only [execOp, ho, hx', Sem.run_bind, run_next_end w x pos _ hp, Result.andThen_ok, Sem.run_pure]
  · cases h2
theorem oExt_run {o : Oper} {d s n : Nat} (h : oExt o d s n = true) : (o.dst = some d ∧ o.guard = none) ∧ ∀ (a : Act) (w : World) (vs : Array Value) (v : Value), a.tmps.getD s undef = .tuple vs → vs[n]? = some v → (execOp a.eval o).run P w = .ok (.value v) w := by
  simp only [oExt, Bool.and_eq_true] at h
  refine ⟨opIs_spec h.1, fun a w vs v hx hv => ?_⟩
  have h2 := h.2
  split at h2
  · rename_i k m ho
    simp only [Bool.and_eq_true, beq_iff_eq] at h2
    obtain ⟨rfl, rfl⟩ := h2
    have hx' : a.eval (.tmp k) = .tuple vs := hx
    simp [execOp, ho, hx', Instr.extract, hv]
  · cases h2
theorem oBin_run {o : Oper} {b : BinOp} {d s : Nat} {n : Int} {g : Option (Nat × Bool)} (h : oBin o b d s n g = true) : (o.dst = some d ∧ o.guard = g) ∧ ∀ (a : Act) (w : World) (c : Int), a.tmps.getD s undef = .int .i32 c →
    (b = .lss → (execOp a.eval o).run P w = .ok (.value (.bool (decide (c < n)))) w) ∧ (b = .gtr → (execOp a.eval o).run P w = .ok (.value (.bool (decide (n < c)))) w) := by
  simp only [oBin, Bool.and_eq_true] at h
  refine ⟨opIs_spec h.1, fun a w c hx => ?_⟩
  have h2 := h.2
  split at h2
  · rename_i b' t k m t' ho
    simp only [Bool.and_eq_true, beq_iff_eq, decide_eq_true_eq] at h2
    obtain ⟨⟨rfl, rfl⟩, rfl⟩ := h2
    have hx' : a.eval (.tmp k) = .int .i32 c := hx
    have e2 : a.eval (.const (.int .i32 m)) = .int .i32 m := rfl
    refine ⟨fun hb => ?_, fun hb => ?_⟩
    · subst hb
      obtain ⟨v, h3, h4⟩ := run_binI (P := P) (w := w) (T := fun _ => False) (ρ := Rho.none) (t := t) (op := .lss) (q := .i32) (x := c) (y := m) rfl ⟨by decide, by decide⟩
      rw [inv_b h4] at h3
      simp only [execOp, ho, hx', e2, eqG, Sem.run_bind, Sem.run_pure, Result.andThen_ok, h3]
    · subst hb
      obtain ⟨v, h3, h4⟩ := run_binI (P := P) (w := w) (T := fun _ => False) (ρ := Rho.none) (t := t) (op := .gtr) (q := .i32) (x := c) (y := m) rfl ⟨by decide, by decide⟩
      rw [inv_b h4] at h3
      simp only [execOp, ho, hx', e2, eqG, Sem.run_bind, Sem.run_pure, Result.andThen_ok, h3]
  · cases h2
theorem oPick_run {o : Oper} {d c s : Nat} (h : oPick o d c s = true) : (o.dst = some d ∧ o.guard = none) ∧ ∀ (a : Act) (w : World) (z : Bool), a.tmps.getD c undef = .bool z → (execOp a.eval o).run P w = .ok (.value (if z then .bool true else a.tmps.getD s undef)) w := by
  simp only [oPick, Bool.and_eq_true] at h
  refine ⟨opIs_spec h.1, fun a w z hx => ?_⟩
  have h2 := h.2
  split at h2
  · rename_i k m ho
    simp only [Bool.and_eq_true, beq_iff_eq] at h2
    obtain ⟨rfl, rfl⟩ := h2
    have hx' : a.eval (.tmp k) = .bool z := hx
    simp only [execOp, ho, hx', asBool]
    cases z <;> simp [Act.eval]
  · cases h2
variable {ops : Array Oper} {Q : Exit → Act → World → Prop} {i : Nat} {rest : List Nat} {o : Oper} {v : Value} {w' : World}
theorem ops1 (ho : ops[i]? = some o) {d : Nat} (hd : o.dst = some d ∧ o.guard = none) (hr : (execOp a.eval o).run P w = .ok (.value v) w') (h : wpOps P ops Q rest (a.put (some d) v) w') : wpOps P ops Q (i :: rest) a w := by
  simp only [wpOps, ho, Region.wanted, hd.2, if_true]
  refine .inl ?_
  unfold Oper.wp
  rw [hr]
  show wpOps P ops Q rest (a.put o.dst v) w'
  rw [hd.1]
  exact h
theorem yield_at {g d : Nat} {z : Bool} (hg : (ops[g]?).bind (·.dst) = some d) (hz : a.tmps.getD d undef = .bool z) : yielded ops a.tmps g = some z := by
  unfold yielded
  rw [hg]
  show (match (some d).bind (fun x => a.tmps[x]?) with | some (.bool b) => some b | _ => none) = some z
  have : a.tmps[d]? = some (.bool z) := by
    cases hx : a.tmps[d]? with
    | none => simp [hx, undef] at hz
    | some y => simp [hx] at hz; rw [hz]
  simp only [Option.bind_some, this]
theorem ops2 (ho : ops[i]? = some o) {d g : Nat} {q : Bool} (hd : o.dst = some d ∧ o.guard = some (g, q)) (hy : yielded ops a.tmps g = some q) (hr : (execOp a.eval o).run P w = .ok (.value v) w') (h : wpOps P ops Q rest (a.put (some d) v) w') : wpOps P ops Q (i :: rest) a w := by
  simp only [wpOps, ho, Region.wanted, hd.2, hy, beq_self_eq_true, if_true]
  refine .inl ?_
  unfold Oper.wp
  rw [hr]
  show wpOps P ops Q rest (a.put o.dst v) w'
  rw [hd.1]
  exact h
theorem ops3 (ho : ops[i]? = some o) {d g : Nat} {q z : Bool} (hd : o.dst = some d ∧ o.guard = some (g, q)) (hy : yielded ops a.tmps g = some z) (hz : z ≠ q) (h : wpOps P ops Q rest (a.put (some d) undef) w) : wpOps P ops Q (i :: rest) a w := by
  have : (some z == some q) = false := by simpa using hz
  simp only [wpOps, ho, Region.wanted, hd.2, hy, this, Bool.false_eq_true, if_false, hd.1]
  exact h
theorem put_at {d t : Nat} (hd : d < a.tmps.size) : (a.put (some d) v).tmps.getD t undef = if t = d then v else a.tmps.getD t undef := by
  show (a.tmps.setIfInBounds d v).getD t undef = _
  by_cases h : t = d
  · subst h; simp [hd]
  · have h2 : ¬ d = t := fun e => h e.symm
    simp [Array.getElem?_setIfInBounds, h2, h]
def AE (a a' : Act) : Prop := a'.tmps.size = a.tmps.size ∧ a'.defers = a.defers ∧ ∀ t, t ∉ digT → a'.tmps.getD t undef = a.tmps.getD t undef
theorem AE.refl (a : Act) : AE a a := ⟨rfl, rfl, fun _ _ => rfl⟩
theorem AE.put {a' : Act} (h : AE a a') (hs : 24 ≤ a.tmps.size) {d : Nat} (hd : d ∈ digT) (v : Value) : AE a (a'.put (some d) v) := by
  have hlt : d < a'.tmps.size := by
    rw [h.1]
    have : ∀ x ∈ digT, x < 24 := by decide
    exact Nat.lt_of_lt_of_le (this d hd) hs
  refine ⟨by rw [← h.1]; simp [Act.put], h.2.1, fun t ht => ?_⟩
  have hne : ¬ t = d := by
    intro e
    subst e
    exact ht hd
  rw [put_at hlt, if_neg hne, h.2.2 t ht]
theorem digit_of (s : ByteArray) (pos : Nat) (h : pos < s.size) : (48 ≤ (Utf8.decode s pos).1 ∧ (Utf8.decode s pos).1 ≤ 57 → (Utf8.decode s pos).2 = 1 ∧ 48 ≤ (s[pos]'h).toNat ∧ (s[pos]'h).toNat ≤ 57) ∧ (¬ (48 ≤ (Utf8.decode s pos).1 ∧ (Utf8.decode s pos).1 ≤ 57) → ¬ (48 ≤ (s[pos]'h).toNat ∧ (s[pos]'h).toNat ≤ 57)) := by
  rcases Nat.lt_or_ge (s[pos]'h).toNat 128 with h1 | h1
  · rw [decode_ascii s pos h h1]
    exact ⟨fun g => ⟨rfl, g⟩, fun g => g⟩
  · have := decode_high s pos h h1
    exact ⟨fun g => by omega, fun g => by omega⟩
theorem digsB_iff (s : ByteArray) : digsB s = true ↔ ∀ i (h : i < s.size), 48 ≤ (s[i]'h).toNat ∧ (s[i]'h).toNat ≤ 57 := by
  unfold digsB
  simp only [List.all_eq_true, Bool.and_eq_true, decide_eq_true_eq]
  constructor
  · intro h i hi
    exact h _ (by
      have : i < s.data.toList.length := by rw [Array.length_toList]; exact hi
      have := List.getElem_mem this
      rwa [Array.getElem_toList] at this)
  · intro h b hb
    obtain ⟨i, hi, rfl⟩ := List.getElem_of_mem hb
    rw [Array.getElem_toList]
    exact h i (by rw [Array.length_toList] at hi; exact hi)
theorem arrL {α : Type} {x : Array α} {l : List α} (h : x.toList = l) : x = l.toArray := by subst h; simp
theorem old_iter (w : World) (s : ByteArray) (pos : Nat) : Old w (w.iter s pos) := Old.alloc w _
theorem digs_wp {c y : Code} (hm : digM P c = some y) {s : ByteArray} (hx : a.tmps.getD 0 undef = .string s) (hs : 24 ≤ a.tmps.size) {Q : Exit → Act → World → Prop}
    (h1 : digsB s = true → ∀ a' w', Old w w' → AE a a' → Q .normal a' w')
    (h2 : digsB s = false → ∀ a' w', Old w w' → AE a a' → y.wp P (fun e a w => e = .ret ∧ Q .ret a w) a' w') : c.wp P Q a w := by
  unfold digM at hm
  split at hm
  · rename_i i3 o3 b0 i4 o4 b1 ib i5 o5 i6 o6 y'
    split at hm
    · rename_i hd
      cases hm
      simp only [Bool.and_eq_true, beq_iff_eq] at hd
      obtain ⟨rfl, hd⟩ := hd
      unfold digO at hd
      split at hd
      · rename_i p1 p2 q1 q2 r1 r2 s1 s2 s3 s4 s5 s6 e3 e4 e5 e6
        simp only [Bool.and_eq_true] at hd
        obtain ⟨⟨⟨⟨⟨⟨⟨⟨⟨⟨⟨m1, m2⟩, m3⟩, m4⟩, m5⟩, m6⟩, m7⟩, m8⟩, m9⟩, m10⟩, m11⟩, m12⟩ := hd
        have m1 := oMv_run (P := P) m1
        have m2 := oRange_run m2
        have m3 := oNext_run (P := P) m3
        have m4 := oExt_run (P := P) m4
        have m5 := oExt_run (P := P) m5
        have m6 := oMv_run (P := P) m6
        have m7 := oMv_run (P := P) m7
        have m8 := oBin_run (P := P) m8
        have m9 := oMv_run (P := P) m9
        have m10 := oMv_run (P := P) m10
        have m11 := oBin_run (P := P) m11
        have m12 := oPick_run (P := P) m12
        have e3 := arrL e3
        have e4 := arrL e4
        have e5 := arrL e5
        have e6 := arrL e6
        subst e3 e4 e5 e6
        have lt : ∀ {a' : Act} (h : AE a a') (d : Nat), d < 24 → d < a'.tmps.size := fun h d hd => by rw [h.1]; exact Nat.lt_of_lt_of_le hd hs
        have aA := (AE.refl a).put hs (show 13 ∈ digT by decide) (.string s)
        have aB := aA.put hs (show 14 ∈ digT by decide) (.pointer (some ⟨w.heap.size, 0, none⟩))
        refine wp_seq (wp_region ?_)
        show wpOps P [p1, p2].toArray _ [0, 1] a w
        refine ops1 rfl m1.1 (m1.2 a w) ?_
        rw [hx]
        refine ops1 rfl m2.1 (m2.2 _ w s ?_) ?_
        · rw [put_at (lt (AE.refl a) 13 (by decide)), if_pos rfl]
        simp only [wpOps]
        refine wp_block ?_
        refine wp_loop_ghost (fun j a' w' => ∃ pos, j + pos = s.size ∧ w' = w.iter s pos ∧ AE a a' ∧ a'.tmps.getD 14 undef = .pointer (some ⟨w.heap.size, 0, none⟩) ∧ ∀ i (h : i < s.size), i < pos → 48 ≤ (s[i]'h).toNat ∧ (s[i]'h).toNat ≤ 57) s.size
          ⟨0, rfl, rfl, aB, by rw [put_at (lt aA 14 (by decide)), if_pos rfl], fun i h hi => by omega⟩ ?_
        rintro j a' w' ⟨pos, hj, rfl, hae, h14, hdig⟩
        refine wp_seq (wp_region ?_)
        show wpOps P [q1, q2].toArray _ [0, 1] a' _
        by_cases hp : pos < s.size
        · refine ops1 rfl m3.1 ((m3.2 a' w s pos h14).1 hp) ?_
          have a1 := hae.put hs (show 15 ∈ digT by decide) (.tuple #[.bool true, .int .i64 pos, .int .i32 (Utf8.decode s pos).1])
          have g15 : (a'.put (some 15) (.tuple #[.bool true, .int .i64 pos, .int .i32 (Utf8.decode s pos).1])).tmps.getD 15 undef = .tuple #[.bool true, .int .i64 pos, .int .i32 (Utf8.decode s pos).1] := by rw [put_at (lt hae 15 (by decide)), if_pos rfl]
          have g14 : (a'.put (some 15) (.tuple #[.bool true, .int .i64 pos, .int .i32 (Utf8.decode s pos).1])).tmps.getD 14 undef = .pointer (some ⟨w.heap.size, 0, none⟩) := by rw [put_at (lt hae 15 (by decide)), if_neg (by decide), h14]
          generalize a'.put (some 15) (.tuple #[.bool true, .int .i64 pos, .int .i32 (Utf8.decode s pos).1]) = b1 at a1 g15 g14
          refine ops1 rfl m4.1 (m4.2 _ _ _ (.bool true) g15 rfl) ?_
          have a2 := a1.put hs (show 16 ∈ digT by decide) (.bool true)
          have k15 : (b1.put (some 16) (.bool true)).tmps.getD 15 undef = .tuple #[.bool true, .int .i64 pos, .int .i32 (Utf8.decode s pos).1] := by rw [put_at (lt a1 16 (by decide)), if_neg (by decide), g15]
          have k14 : (b1.put (some 16) (.bool true)).tmps.getD 14 undef = .pointer (some ⟨w.heap.size, 0, none⟩) := by rw [put_at (lt a1 16 (by decide)), if_neg (by decide), g14]
          have k16 : (b1.put (some 16) (.bool true)).tmps.getD 16 undef = .bool true := by rw [put_at (lt a1 16 (by decide)), if_pos rfl]
          generalize b1.put (some 16) (.bool true) = b2 at a2 k15 k14 k16
          simp only [wpOps]
          refine wp_seq (wp_cond (show Act.eval b2 (.tmp 16) = .bool true from k16) (wp_skip ?_))
          refine wp_block ?_
          refine wp_seq (wp_region ?_)
          show wpOps P [r1, r2].toArray _ [0, 1] b2 _
          refine ops1 rfl m5.1 (m5.2 _ _ _ (.int .i32 (Utf8.decode s pos).1) k15 rfl) ?_
          have a3 := a2.put hs (show 17 ∈ digT by decide) (.int .i32 (Utf8.decode s pos).1)
          have l17 : (b2.put (some 17) (.int .i32 (Utf8.decode s pos).1)).tmps.getD 17 undef = .int .i32 (Utf8.decode s pos).1 := by rw [put_at (lt a2 17 (by decide)), if_pos rfl]
          have l14 : (b2.put (some 17) (.int .i32 (Utf8.decode s pos).1)).tmps.getD 14 undef = .pointer (some ⟨w.heap.size, 0, none⟩) := by rw [put_at (lt a2 17 (by decide)), if_neg (by decide), k14]
          generalize b2.put (some 17) (.int .i32 (Utf8.decode s pos).1) = b3 at a3 l17 l14
          refine ops1 rfl m6.1 (m6.2 _ _) ?_
          rw [l17]
          have a4 := a3.put hs (show 5 ∈ digT by decide) (.int .i32 (Utf8.decode s pos).1)
          have n5 : (b3.put (some 5) (.int .i32 (Utf8.decode s pos).1)).tmps.getD 5 undef = .int .i32 (Utf8.decode s pos).1 := by rw [put_at (lt a3 5 (by decide)), if_pos rfl]
          have n14 : (b3.put (some 5) (.int .i32 (Utf8.decode s pos).1)).tmps.getD 14 undef = .pointer (some ⟨w.heap.size, 0, none⟩) := by rw [put_at (lt a3 5 (by decide)), if_neg (by decide), l14]
          generalize b3.put (some 5) (.int .i32 (Utf8.decode s pos).1) = b4 at a4 n5 n14
          simp only [wpOps]
          refine wp_seq (wp_region ?_)
          show wpOps P [s1, s2, s3, s4, s5, s6].toArray _ [0, 1, 2, 3, 4, 5] b4 _
          refine ops1 rfl m7.1 (m7.2 _ _) ?_
          rw [n5]
          have a5 := a4.put hs (show 18 ∈ digT by decide) (.int .i32 (Utf8.decode s pos).1)
          have q5 : (b4.put (some 18) (.int .i32 (Utf8.decode s pos).1)).tmps.getD 5 undef = .int .i32 (Utf8.decode s pos).1 := by rw [put_at (lt a4 18 (by decide)), if_neg (by decide), n5]
          have q18 : (b4.put (some 18) (.int .i32 (Utf8.decode s pos).1)).tmps.getD 18 undef = .int .i32 (Utf8.decode s pos).1 := by rw [put_at (lt a4 18 (by decide)), if_pos rfl]
          have q14 : (b4.put (some 18) (.int .i32 (Utf8.decode s pos).1)).tmps.getD 14 undef = .pointer (some ⟨w.heap.size, 0, none⟩) := by rw [put_at (lt a4 18 (by decide)), if_neg (by decide), n14]
          generalize b4.put (some 18) (.int .i32 (Utf8.decode s pos).1) = b5 at a5 q5 q18 q14
          refine ops1 rfl m8.1 ((m8.2 _ _ _ q18).1 rfl) ?_
          generalize hz : decide (((Utf8.decode s pos).1 : Int) < 48) = z
          have a6 := a5.put hs (show 19 ∈ digT by decide) (.bool z)
          have t5 : (b5.put (some 19) (.bool z)).tmps.getD 5 undef = .int .i32 (Utf8.decode s pos).1 := by rw [put_at (lt a5 19 (by decide)), if_neg (by decide), q5]
          have t19 : (b5.put (some 19) (.bool z)).tmps.getD 19 undef = .bool z := by rw [put_at (lt a5 19 (by decide)), if_pos rfl]
          have t14 : (b5.put (some 19) (.bool z)).tmps.getD 14 undef = .pointer (some ⟨w.heap.size, 0, none⟩) := by rw [put_at (lt a5 19 (by decide)), if_neg (by decide), q14]
          generalize b5.put (some 19) (.bool z) = b6 at a6 t5 t19 t14
          refine ops1 rfl m9.1 (m9.2 _ _) ?_
          rw [t19]
          have a7 := a6.put hs (show 20 ∈ digT by decide) (.bool z)
          have u5 : (b6.put (some 20) (.bool z)).tmps.getD 5 undef = .int .i32 (Utf8.decode s pos).1 := by rw [put_at (lt a6 20 (by decide)), if_neg (by decide), t5]
          have u20 : (b6.put (some 20) (.bool z)).tmps.getD 20 undef = .bool z := by rw [put_at (lt a6 20 (by decide)), if_pos rfl]
          have u14 : (b6.put (some 20) (.bool z)).tmps.getD 14 undef = .pointer (some ⟨w.heap.size, 0, none⟩) := by rw [put_at (lt a6 20 (by decide)), if_neg (by decide), t14]
          generalize b6.put (some 20) (.bool z) = b7 at a7 u5 u20 u14
          have hdst : ([s1, s2, s3, s4, s5, s6].toArray[2]?).bind (·.dst) = some 20 := m9.1.1
          have hc48 := hz
          have nodig : ¬ (48 ≤ (Utf8.decode s pos).1 ∧ (Utf8.decode s pos).1 ≤ 57) → digsB s = false := by
            intro hn
            cases hb : digsB s with
            | false => rfl
            | true => exact absurd ((digsB_iff s).1 hb pos hp) ((digit_of s pos hp).2 hn)
          cases z with
          | true =>
            refine ops3 (z := true) rfl m10.1 (yield_at hdst u20) (by decide) ?_
            have a8 := a7.put hs (show 21 ∈ digT by decide) undef
            have v20 : (b7.put (some 21) undef).tmps.getD 20 undef = .bool true := by rw [put_at (lt a7 21 (by decide)), if_neg (by decide), u20]
            generalize b7.put (some 21) undef = b8 at a8 v20
            refine ops3 (z := true) rfl m11.1 (yield_at hdst v20) (by decide) ?_
            have a9 := a8.put hs (show 22 ∈ digT by decide) undef
            have x20 : (b8.put (some 22) undef).tmps.getD 20 undef = .bool true := by rw [put_at (lt a8 22 (by decide)), if_neg (by decide), v20]
            generalize b8.put (some 22) undef = b9 at a9 x20
            refine ops1 rfl m12.1 (m12.2 _ _ _ x20) ?_
            simp only [if_true]
            have a10 := a9.put hs (show 23 ∈ digT by decide) (.bool true)
            have y23 : (b9.put (some 23) (.bool true)).tmps.getD 23 undef = .bool true := by rw [put_at (lt a9 23 (by decide)), if_pos rfl]
            generalize b9.put (some 23) (.bool true) = b10 at a10 y23
            simp only [wpOps]
            refine wp_cond (show Act.eval b10 (.tmp 23) = .bool true from y23) ?_
            show y.wp P _ _ _
            refine wp_mono (h2 (nodig (by have := of_decide_eq_true hc48; omega)) _ _ (old_iter w s _) a10) ?_
            rintro e a3 w3 ⟨rfl, hq⟩
            exact hq
          | false =>
            have hlow : 48 ≤ (Utf8.decode s pos).1 := by have := of_decide_eq_false hc48; omega
            refine ops2 rfl m10.1 (yield_at hdst u20) (m10.2 _ _) ?_
            rw [u5]
            have a8 := a7.put hs (show 21 ∈ digT by decide) (.int .i32 (Utf8.decode s pos).1)
            have v20 : (b7.put (some 21) (.int .i32 (Utf8.decode s pos).1)).tmps.getD 20 undef = .bool false := by rw [put_at (lt a7 21 (by decide)), if_neg (by decide), u20]
            have v21 : (b7.put (some 21) (.int .i32 (Utf8.decode s pos).1)).tmps.getD 21 undef = .int .i32 (Utf8.decode s pos).1 := by rw [put_at (lt a7 21 (by decide)), if_pos rfl]
            have v14 : (b7.put (some 21) (.int .i32 (Utf8.decode s pos).1)).tmps.getD 14 undef = .pointer (some ⟨w.heap.size, 0, none⟩) := by rw [put_at (lt a7 21 (by decide)), if_neg (by decide), u14]
            generalize b7.put (some 21) (.int .i32 (Utf8.decode s pos).1) = b8 at a8 v20 v21 v14
            refine ops2 rfl m11.1 (yield_at hdst v20) ((m11.2 _ _ _ v21).2 rfl) ?_
            generalize hz2 : decide (57 < ((Utf8.decode s pos).1 : Int)) = z2
            have a9 := a8.put hs (show 22 ∈ digT by decide) (.bool z2)
            have x20 : (b8.put (some 22) (.bool z2)).tmps.getD 20 undef = .bool false := by rw [put_at (lt a8 22 (by decide)), if_neg (by decide), v20]
            have x22 : (b8.put (some 22) (.bool z2)).tmps.getD 22 undef = .bool z2 := by rw [put_at (lt a8 22 (by decide)), if_pos rfl]
            have x14 : (b8.put (some 22) (.bool z2)).tmps.getD 14 undef = .pointer (some ⟨w.heap.size, 0, none⟩) := by rw [put_at (lt a8 22 (by decide)), if_neg (by decide), v14]
            generalize b8.put (some 22) (.bool z2) = b9 at a9 x20 x22 x14
            refine ops1 rfl m12.1 (m12.2 _ _ _ x20) ?_
            simp only [Bool.false_eq_true, if_false]
            rw [x22]
            have a10 := a9.put hs (show 23 ∈ digT by decide) (.bool z2)
            have y23 : (b9.put (some 23) (.bool z2)).tmps.getD 23 undef = .bool z2 := by rw [put_at (lt a9 23 (by decide)), if_pos rfl]
            have y14 : (b9.put (some 23) (.bool z2)).tmps.getD 14 undef = .pointer (some ⟨w.heap.size, 0, none⟩) := by rw [put_at (lt a9 23 (by decide)), if_neg (by decide), x14]
            generalize b9.put (some 23) (.bool z2) = b10 at a10 y23 y14
            simp only [wpOps]
            refine wp_cond (show Act.eval b10 (.tmp 23) = .bool z2 from y23) ?_
            cases z2 with
            | true =>
              have hc2 := of_decide_eq_true hz2
              show y.wp P _ _ _
              refine wp_mono (h2 (nodig (by omega)) _ _ (old_iter w s _) a10) ?_
              rintro e a3 w3 ⟨rfl, hq⟩
              exact hq
            | false =>
              have hc2 := of_decide_eq_false hz2
              have hdg := (digit_of s pos hp).1 ⟨hlow, by omega⟩
              show (Code.skip).wp P _ _ _
              refine wp_skip ?_
              refine ⟨j - 1, by omega, pos + 1, by omega, by rw [hdg.1], a10, y14, fun i h hi => ?_⟩
              rcases Nat.lt_or_ge i pos with h3 | h3
              · exact hdig i h h3
              · have : i = pos := by omega
                subst this
                exact hdg.2
        · refine ops1 rfl m3.1 ((m3.2 a' w s pos h14).2 hp) ?_
          have a1 := hae.put hs (show 15 ∈ digT by decide) (.tuple #[.bool false])
          refine ops1 rfl m4.1 (m4.2 _ _ _ (.bool false) (by rw [put_at (lt hae 15 (by decide)), if_pos rfl]) rfl) ?_
          have a2 := a1.put hs (show 16 ∈ digT by decide) (.bool false)
          have k16 := put_at (a := a'.put (some 15) (.tuple #[.bool false])) (v := .bool false) (d := 16) (t := 16) (lt a1 16 (by decide))
          rw [if_pos rfl] at k16
          simp only [wpOps]
          refine wp_seq (wp_cond (show Act.eval _ (.tmp 16) = .bool false from k16) (wp_exit ?_))
          have hall : digsB s = true := (digsB_iff s).2 fun i h => hdig i h (by omega)
          show if b0 = b0 then Q .normal _ _ else _
          rw [if_pos rfl]
          exact h1 hall _ _ (old_iter w s _) a2
      · cases hd
    · cases hm
  · cases hm
end
end Go.Pe
set_option linter.unusedVariables false
set_option linter.unusedSimpArgs false
namespace Go.Pe
open Go
def nodB : List Nat → Bool
  | [] => true
  | x :: l => !l.contains x && nodB l
theorem nodB_spec : ∀ {l : List Nat}, nodB l = true → l.Nodup
  | [], _ => List.nodup_nil
  | x :: l, h => by
    simp only [nodB, Bool.and_eq_true, Bool.not_eq_true', List.contains_eq_mem, decide_eq_false_iff_not] at h
    exact List.nodup_cons.2 ⟨h.1, nodB_spec h.2⟩
def listOk (lids : List Nat) (l : List (Nat × Nat)) : Bool := okL lids [] l && nodB (l.map idOf)
def toExit : Ex → Exit
  | .normal => .normal
  | .exit i => .exit i
  | .ret => .ret
def mt (P : Program) (F : Fns) (tabs : List (Nat × List AV)) (lids : List Nat) (nt : Nat) : PC → Code → Bool
  | .skip, .skip => true
  | .reg chk ps, .region _ ops draw => mposL P F tabs nt ops ops.toList ps && (!draw || drawOk chk ops.toList ps)
  | .seq x y, .seq c d => mt P F tabs lids nt x c && mt P F tabs lids nt y d
  | .cond b x y, .cond b' c d => ma tabs b' b && mt P F tabs lids nt x c && mt P F tabs lids nt y d
  | .block i x, .block j c => i == j && mt P F tabs lids nt x c
  | .loop live out x, .loop c => listOk lids live && listOk lids out && mt P F tabs lids nt x c
  | .join out x, c => listOk lids out && mt P F tabs lids nt x c
  | .exit i, .exit j => i == j
  | .ret, .ret => true
  | .digs y, c => decide (24 ≤ nt) && (match digM P c with | some d => mt P F tabs lids nt y d | none => false)
  | _, _ => false
section
variable {P : Program} {F : Fns} {f : Fr} {nt : Nat}
theorem canon_sim {w : World} {st : St} {a : Act} (hs : Sim f nt w st a) {l : List (Nat × Nat)} (hl : listOk f.lids l = true) {vs : List AV} (hp : pack st.env [] st.h l = some vs) : Sim f nt w (un l vs) a := by
  simp only [listOk, Bool.and_eq_true] at hl
  obtain ⟨h1, h2, T, ρ, k, he⟩ := hs
  obtain ⟨T', ρ', k', e', _⟩ := canon k he hl.1 (nodB_spec hl.2) hp
  exact ⟨h1, h2, T', ρ', k', e'⟩
def LoopsOk (P : Program) (F : Fns) (f : Fr) (nt : Nat) (lp : List (Nat × Nat) → List (Nat × Nat) → PC → List AV → Option (Ex × List AV)) : Prop :=
  ∀ live out x c vs ex outs, listOk f.lids live = true → listOk f.lids out = true → mt P F f.tabs f.lids nt x c = true → lp live out x vs = some (ex, outs) →
    ∀ (w : World) (a : Act) (Q : Exit → Act → World → Prop), Sim f nt w (un live vs) a → (∀ a' w', Sim f nt w' (un out outs) a' → Q (toExit ex) a' w') → (Code.loop c).wp P Q a w
theorem pc_sound (hmo : P.follows .mixedOrders = true) {call : Call} (hc : CallsOk P F f.tabs call) {lp : List (Nat × Nat) → List (Nat × Nat) → PC → List AV → Option (Ex × List AV)} (hlp : LoopsOk P F f nt lp) :
    ∀ (x : PC) (c : Code), mt P F f.tabs f.lids nt x c = true → ∀ (st : St) (ex : Ex) (st' : St), PC.ev call lp x st = some (ex, st') →
      ∀ (w : World) (a : Act) (Q : Exit → Act → World → Prop), Sim f nt w st a → (∀ a' w', Sim f nt w' st' a' → Q (toExit ex) a' w') → c.wp P Q a w := by
  intro x
  induction x with
  | skip =>
    intro c hm st ex st' hv w a Q hs hQ
    cases c <;> simp only [mt] at hm <;> try (cases hm; done)
    simp only [PC.ev] at hv
    cases hv
    exact wp_skip (hQ a w hs)
  | ret =>
    intro c hm st ex st' hv w a Q hs hQ
    cases c <;> simp only [mt] at hm <;> try (cases hm; done)
    simp only [PC.ev] at hv
    cases hv
    exact wp_ret (hQ a w hs)
  | exit i =>
    intro c hm st ex st' hv w a Q hs hQ
    cases c <;> simp only [mt] at hm <;> try (cases hm; done)
    simp only [beq_iff_eq] at hm
    subst hm
    simp only [PC.ev] at hv
    cases hv
    exact wp_exit (hQ a w hs)
  | reg chk ps =>
    intro c hm st ex st' hv w a Q hs hQ
    cases c <;> simp only [mt] at hm <;> try (cases hm; done)
    rename_i id ops draw
    simp only [Bool.and_eq_true, Bool.or_eq_true, Bool.not_eq_true'] at hm
    simp only [PC.ev, Option.bind_eq_some_iff] at hv
    obtain ⟨s1, h1, h2⟩ := hv
    split at h2
    · rename_i hap
      cases h2
      cases draw with
      | false => exact region_seq hm.1 hc Q (fun a w hs => hQ a w hs) hs h1
      | true => exact region_draw hmo hm.1 (by simpa using hm.2) hc Q (fun a w hs => hQ a w hs) hap hs h1
    · cases h2
  | seq x y hx hy =>
    intro c hm st ex st' hv w a Q hs hQ
    cases c <;> simp only [mt] at hm <;> try (cases hm; done)
    simp only [Bool.and_eq_true] at hm
    simp only [PC.ev, Option.bind_eq_some_iff] at hv
    obtain ⟨⟨e1, s1⟩, h1, h2⟩ := hv
    refine wp_seq (hx _ hm.1 st e1 s1 h1 w a _ hs fun a' w' hs' => ?_)
    cases e1 with
    | normal => exact hy _ hm.2 s1 ex st' h2 w' a' Q hs' hQ
    | exit i => cases h2; exact hQ a' w' hs'
    | ret => cases h2; exact hQ a' w' hs'
  | cond b x y hx hy =>
    intro c hm st ex st' hv w a Q hs hQ
    cases c <;> simp only [mt] at hm <;> try (cases hm; done)
    simp only [Bool.and_eq_true] at hm
    obtain ⟨⟨hb, hmx⟩, hmy⟩ := hm
    simp only [PC.ev] at hv
    split at hv
    · rename_i q hq
      have hs0 := hs
      obtain ⟨_, _, T, ρ, k, he⟩ := hs0
      have := ma_rv k he hb
      rw [hq] at this
      refine wp_cond (inv_b this) ?_
      cases q with
      | true => exact hx _ hmx st ex st' hv w a Q hs hQ
      | false => exact hy _ hmy st ex st' hv w a Q hs hQ
    · cases hv
  | block i x hx =>
    intro c hm st ex st' hv w a Q hs hQ
    cases c <;> simp only [mt] at hm <;> try (cases hm; done)
    simp only [Bool.and_eq_true, beq_iff_eq] at hm
    obtain ⟨rfl, hm⟩ := hm
    simp only [PC.ev, Option.map_eq_some_iff] at hv
    obtain ⟨⟨e1, s1⟩, h1, h2⟩ := hv
    refine wp_block (hx _ hm st e1 s1 h1 w a _ hs fun a' w' hs' => ?_)
    cases e1 with
    | normal => cases h2; exact hQ a' w' hs'
    | ret => cases h2; exact hQ a' w' hs'
    | exit j =>
      show if j = i then Q .normal a' w' else Q (.exit j) a' w'
      simp only at h2
      split at h2
      · rename_i hj; rw [if_pos hj]; cases h2; exact hQ a' w' hs'
      · rename_i hj; rw [if_neg hj]; cases h2; exact hQ a' w' hs'
  | loop live out x hx =>
    intro c hm st ex st' hv w a Q hs hQ
    cases c <;> simp only [mt] at hm <;> try (cases hm; done)
    simp only [Bool.and_eq_true] at hm
    obtain ⟨⟨hl, ho⟩, hm⟩ := hm
    simp only [PC.ev, Option.bind_eq_some_iff, Option.map_eq_some_iff] at hv
    obtain ⟨vs, h1, ⟨e1, outs⟩, h2, h3⟩ := hv
    cases h3
    exact hlp live out x _ vs e1 outs hl ho hm h2 w a Q (canon_sim hs hl h1) hQ
  | join out x hx =>
    intro c hm st ex st' hv w a Q hs hQ
    simp only [mt, Bool.and_eq_true] at hm
    simp only [PC.ev, Option.bind_eq_some_iff, Option.map_eq_some_iff] at hv
    obtain ⟨⟨e1, s1⟩, h1, vs, h2, h3⟩ := hv
    cases h3
    exact hx c hm.2 st e1 s1 h1 w a Q hs fun a' w' hs' => hQ a' w' (canon_sim hs' hm.1 h2)
  | digs y hy =>
    intro c hm st ex st' hv w a Q hs hQ
    simp only [mt, Bool.and_eq_true, decide_eq_true_eq] at hm
    obtain ⟨hnt, hm⟩ := hm
    split at hm
    · rename_i d hd
      simp only [PC.ev] at hv
      split at hv
      · rename_i s hst
        have hs0 := hs
        obtain ⟨hsz, hdf, T, ρ, k, he⟩ := hs0
        have h0 := he 0
        rw [hst] at h0
        have hsim : ∀ a' w', Old w w' → AE a a' → Sim f nt w' ⟨junkE digT st.env, st.h⟩ a' := by
          intro a' w' ho hae
          have := hs.old ho
          obtain ⟨g1, g2, T', ρ', k', e'⟩ := this
          refine ⟨by rw [hae.1]; exact g1, by rw [hae.2.1]; exact g2, T', ρ', k', fun t => ?_⟩
          show Rv w' T' ρ' (if t ∈ digT then .junk else st.env t) _
          split
          · exact .junk
          · rename_i ht
            rw [hae.2.2 t ht]
            exact e' t
        refine digs_wp hd (inv_s h0) (Nat.le_trans hnt hsz) (fun hb a' w' ho hae => ?_) fun hb a' w' ho hae => ?_
        · rw [if_pos hb] at hv
          cases hv
          exact hQ a' w' (hsim a' w' ho hae)
        · rw [if_neg (by simp [hb])] at hv
          simp only [Option.bind_eq_some_iff] at hv
          obtain ⟨⟨e1, s1⟩, h1, h2⟩ := hv
          cases e1 with
          | ret =>
            cases h2
            exact hy _ hm _ _ _ h1 w' a' _ (hsim a' w' ho hae) fun a3 w3 hs3 => ⟨rfl, hQ a3 w3 hs3⟩
          | normal => cases h2
          | exit i => cases h2
      · cases hv
    · cases hm
theorem loops_ok (hmo : P.follows .mixedOrders = true) {call : Call} (hc : CallsOk P F f.tabs call) : ∀ n k, k ≤ n → LoopsOk P F f nt (loopF call k) := by
  intro n
  induction n with
  | zero =>
    intro k hk live out x c vs ex outs _ _ _ hv
    have : k = 0 := by omega
    subst this
    cases hv
  | succ n ih =>
    intro k hk live out x c vs ex outs hl ho hm hv w a Q hs hQ
    refine wp_loop_ghost (fun j a w => j ≤ k ∧ ∃ vs, loopF call j live out x vs = some (ex, outs) ∧ Sim f nt w (un live vs) a) k ⟨Nat.le_refl _, vs, hv, hs⟩ ?_
    rintro j a w ⟨hj, vs, hv, hs⟩
    cases j with
    | zero => cases hv
    | succ j =>
      simp only [loopF, Option.bind_eq_some_iff] at hv
      obtain ⟨⟨e1, s1⟩, h1, h2⟩ := hv
      refine pc_sound hmo hc (ih j (by omega)) x c hm (un live vs) e1 s1 h1 w a _ hs fun a' w' hs' => ?_
      cases e1 with
      | normal =>
        simp only [round, Option.bind_eq_some_iff] at h2
        obtain ⟨vs', h3, h4⟩ := h2
        exact ⟨j, Nat.lt_succ_self j, by omega, vs', h4, canon_sim hs' hl h3⟩
      | exit i =>
        simp only [round, Option.map_eq_some_iff] at h2
        obtain ⟨vs', h3, h4⟩ := h2
        cases h4
        exact hQ a' w' (canon_sim hs' ho h3)
      | ret =>
        simp only [round, Option.map_eq_some_iff] at h2
        obtain ⟨vs', h3, h4⟩ := h2
        cases h4
        exact hQ a' w' (canon_sim hs' ho h3)
end
end Go.Pe
set_option linter.unusedVariables false
set_option linter.unusedSimpArgs false
namespace Go.Pe
open Go
def mres (P : Program) : List ResultVar → List (PR × Nat) → Bool
  | [], [] => true
  | .tmp t :: l, (.tmp t', _) :: m => t == t' && mres P l m
  | .cell t ty :: l, (.cell t' ag sz, _) :: m => t == t' && decide (aggT P ty = some ag) && decide (szT P ty = some sz) && mres P l m
  | _, _ => false
def fnOk (P : Program) (F : Fns) (tabs : List (Nat × List AV)) (f : Nat) (p : PF) : Bool := match P.funcs[F.2 f]? with
  | some fn => match fn.body with
    | some c => mt P F tabs (p.lent.map lid) fn.ntmps p.body c && mres P fn.results.toList p.res && listOk (p.lent.map lid) (resL p.res p.lent)
    | none => false
  | none => false
section
variable {P : Program} {F : Fns} {f : Fr} {nt : Nat} {w : World} {T : Nat → Prop} {ρ : Rho} {h : Heap} {e : Nat → AV} {a : Act}
def resOne (P : Program) (tmps : Array Value) : ResultVar → Sem Value
  | .tmp t => pure (tmps.getD t undef)
  | .cell a t => do loadVar t (← asAddr (tmps.getD a undef))
theorem res_run (k : WInv f w T ρ h) (he : Env w T ρ e a) : ∀ {l : List ResultVar} {m : List (PR × Nat)} {rs : List AV}, mres P l m = true → resV ⟨e, h⟩ m = some rs →
    ∃ vs : List Value, (l.mapM (resOne P a.tmps)).run P w = .ok vs w ∧ vs.length = l.length ∧ l.length = m.length ∧ rs.length = m.length ∧ ∀ j, j < rs.length → Rv w T ρ (rs.getD j .junk) (vs.getD j undef) := by
  intro l
  induction l with
  | nil =>
    intro m rs hm hr
    cases m with
    | nil => cases hr; exact ⟨[], rfl, rfl, rfl, rfl, fun j hj => by cases hj⟩
    | cons => cases hm
  | cons x l ih =>
    intro m rs hm hr
    cases m with
    | nil => cases x <;> cases hm
    | cons y m =>
      obtain ⟨pr, q⟩ := y
      simp only [resV, Option.bind_eq_some_iff, Option.map_eq_some_iff] at hr
      obtain ⟨v, h1, rs', h2, rfl⟩ := hr
      have one : (∃ u, (resOne P a.tmps x).run P w = .ok u w ∧ Rv w T ρ v u) ∧ mres P l m = true := by
        cases x with
        | tmp t =>
          cases pr with
          | cell => cases hm
          | tmp t' =>
            simp only [mres, Bool.and_eq_true, beq_iff_eq] at hm
            obtain ⟨rfl, hm⟩ := hm
            cases h1
            exact ⟨⟨_, rfl, he t⟩, hm⟩
        | cell t ty =>
          cases pr with
          | tmp => cases hm
          | cell t' ag sz =>
            simp only [mres, Bool.and_eq_true, beq_iff_eq, decide_eq_true_eq] at hm
            obtain ⟨⟨⟨rfl, h3⟩, h4⟩, hm⟩ := hm
            refine ⟨?_, hm⟩
            simp only [PR.ev, ldV, Option.bind_eq_some_iff] at h1
            obtain ⟨⟨cs, i⟩, hp, hc⟩ := h1
            obtain ⟨b, base, hx, hcell⟩ := ptr_cells k (he t) hp
            obtain ⟨u, h5, h6, _⟩ := load_var h3 h4 hcell hc
            have hx' : a.tmps.getD t undef = .pointer (some ⟨b, base + i, none⟩) := hx
            exact ⟨u, by simp only [resOne, hx', asAddr]; simpa using h5, h6⟩
      obtain ⟨⟨u, h3, h4⟩, hm'⟩ := one
      obtain ⟨vs, h5, h6, h7, h8, h9⟩ := ih hm' h2
      refine ⟨u :: vs, ?_, by simp [h6], by simp [h7], by simp [h8], fun j hj => ?_⟩
      · simp [h3, h5]
      · cases j with
        | zero => exact h4
        | succ j => exact h9 j (by simpa using hj)
theorem results_run (k : WInv f w T ρ h) (he : Env w T ρ e a) {fn : Func} {m : List (PR × Nat)} {rs : List AV} (hm : mres P fn.results.toList m = true) (hr : resV ⟨e, h⟩ m = some rs) :
    ∃ vs : Array Value, (results fn a.tmps).run P w = .ok (oneR vs) w ∧ vs.size = m.length ∧ rs.length = m.length ∧ ∀ j, j < rs.length → Rv w T ρ (rs.getD j .junk) (vs.getD j undef) := by
  obtain ⟨vs, h1, h2, h3, h4, h5⟩ := res_run k he hm hr
  refine ⟨vs.toArray, ?_, by simp [h2, h3], h4, fun j hj => by simpa [List.getD_eq_getElem?_getD] using h5 j hj⟩
  have e1 : results fn a.tmps = (fn.results.mapM (resOne P a.tmps) >>= fun vs => pure (oneR vs)) := rfl
  have e2 : fn.results.mapM (resOne P a.tmps) = List.toArray <$> fn.results.toList.mapM (resOne P a.tmps) := by
    rw [← List.mapM_toArray]
  rw [e1, e2]
  simp [h1]
theorem envL_get : ∀ (l : List AV) (k t : Nat), envL k l t = if k ≤ t then l.getD (t - k) .junk else .junk := by
  intro l
  induction l with
  | nil => intro k t; simp [envL]
  | cons x l ih =>
    intro k t
    simp only [envL, upd, ih]
    by_cases h1 : t = k
    · subst h1; simp
    · simp only [h1, if_false]
      by_cases h2 : k + 1 ≤ t
      · rw [if_pos h2, if_pos (by omega), show t - k = (t - (k + 1)) + 1 by omega]; rfl
      · rw [if_neg h2, if_neg (by omega)]
theorem pack_length {e : Nat → AV} : ∀ {l : List (Nat × Nat)} {ls : List Nat} {h : Heap} {vs : List AV}, pack e ls h l = some vs → vs.length = l.length := by
  intro l
  induction l with
  | nil => intro ls h vs hp; cases hp; rfl
  | cons p l ih =>
    intro ls h vs hp
    obtain ⟨t, q⟩ := p
    match q with
    | 0 =>
      simp only [pack, Option.map_eq_some_iff] at hp
      obtain ⟨us, h1, rfl⟩ := hp
      simp [ih h1]
    | 1 =>
      simp only [pack, Option.bind_eq_some_iff, Option.map_eq_some_iff] at hp
      obtain ⟨q, _, us, h1, rfl⟩ := hp
      simp [ih h1]
    | n + 2 =>
      simp only [pack, Option.bind_eq_some_iff, Option.map_eq_some_iff] at hp
      obtain ⟨q, _, us, h1, rfl⟩ := hp
      simp [ih h1]
theorem fn_sound (hmo : P.follows .mixedOrders = true) {tabs : List (Nat × List AV)} {g : Nat} {p : PF} (hf : fnOk P F tabs g p = true) {call : Call} (hc : CallsOk P F tabs call) {n : Nat} {xs : List AV} {r : AV}
    (hv : (p.body.ev call (loopF call n) (un (parN p.lent 0 xs) xs)).bind (finE p) = some r) : CallOk P (F.2 g) p.res p.lent tabs xs r := by
  intro fr ρ vs ht hl hsz hw he
  unfold fnOk at hf
  cases hfn : P.funcs[F.2 g]? with
  | none => rw [hfn] at hf; cases hf
  | some fn =>
    rw [hfn] at hf
    simp only at hf
    cases hb : fn.body with
    | none => rw [hb] at hf; cases hf
    | some c =>
      rw [hb] at hf
      simp only [Bool.and_eq_true] at hf
      obtain ⟨⟨h1, h2⟩, h3⟩ := hf
      subst ht
      rw [← hl] at h1 h3
      simp only [Option.bind_eq_some_iff] at hv
      obtain ⟨⟨ex, st⟩, h4, h5⟩ := hv
      refine calls_of_wp hfn hb ?_
      have hs : Sim fr fn.ntmps fr.w0 (un (parN p.lent 0 xs) xs) { tmps := vs ++ Array.replicate (fn.ntmps - vs.size) undef, defers := [] } := by
        refine ⟨by simp; omega, rfl, fr.T0, ρ, hw, fun t => ?_⟩
        have := he t
        have e1 : (vs ++ Array.replicate (fn.ntmps - vs.size) undef).getD t undef = vs.getD t undef := by
          by_cases h : t < vs.size
          · simp [Array.getElem?_append, h]
          · simp only [Array.getD_eq_getD_getElem?, Array.getElem?_append, h, if_false]
            rw [Array.getElem?_eq_none (show vs.size ≤ t by omega)]
            cases hq : (Array.replicate (fn.ntmps - vs.size) undef)[t - vs.size]? with
            | none => rfl
            | some u =>
              have := Array.getElem?_eq_some_iff.1 hq
              obtain ⟨h6, h7⟩ := this
              simp at h7
              simp [← h7]
        rw [e1]
        exact this
      refine pc_sound hmo hc (loops_ok hmo hc n n (Nat.le_refl _)) p.body c h1 _ ex st h4 fr.w0 _ _ hs fun a' w' hs' => ?_
      have fine : finE p (.ret, st) = some r → a'.defers = [] ∧ ∃ v, (results fn a'.tmps).run P w' = .ok v w' ∧ ∃ out vals T' ρ', Ending.returned v = .returned (oneR vals) ∧ vals.size = p.res.length ∧ out.length = (resL p.res p.lent).length ∧ r = retV p.lent out ∧
          WInv fr w' T' ρ' (un (resL p.res p.lent) out).h ∧ Env w' T' ρ' (un (resL p.res p.lent) out).env ⟨vals, []⟩ ∧ Flat w' T' (un (resL p.res p.lent) out).env ⟨vals, []⟩ := by
        intro h5
        obtain ⟨_, hd, T, ρ1, k, he1⟩ := hs'
        refine ⟨hd, ?_⟩
        simp only [finE, fin, Option.bind_eq_some_iff, Option.map_eq_some_iff] at h5
        obtain ⟨rs, h6, out, h7, rfl⟩ := h5
        obtain ⟨vals, h8, h9, h10, h11⟩ := results_run k he1 h2 h6
        have he2 : Env w' T ρ1 (envL 0 rs) ⟨vals, []⟩ := by
          intro t
          rw [envL_get]
          simp only [Nat.zero_le, if_true, Nat.sub_zero]
          by_cases h12 : t < rs.length
          · exact h11 t h12
          · rw [List.getD_eq_getElem?_getD, List.getElem?_eq_none (by omega)]; exact .junk
        simp only [listOk, Bool.and_eq_true] at h3
        obtain ⟨T', ρ', k', e', fl⟩ := canon k he2 h3.1 (nodB_spec h3.2) h7
        exact ⟨oneR vals, h8, out, vals, T', ρ', rfl, h9, pack_length h7, rfl, k', e', fl⟩
      cases ex with
      | exit i => cases h5
      | normal => exact fine h5
      | ret => exact fine h5
theorem runF_okE (hmo : P.follows .mixedOrders = true) {tabs : List (Nat × List AV)} {G : Nat → Option PF} (hF : ∀ g p, F.1 g = some p → (fnOk P F tabs g p = true ∧ G g = some p) ∨ ∀ xs r, R G g xs = some r → CallOk P (F.2 g) p.res p.lent tabs xs r) : ∀ k, CallsOk P F tabs (runF G k) := by
  intro k
  induction k with
  | zero => intro g p xs r _ hv; cases hv
  | succ k ih =>
    intro g p xs r hp hv
    rcases hF g p hp with ⟨h1, h2⟩ | h1
    · simp only [runF, h2, Option.bind_some] at hv
      exact fn_sound hmo h1 ih hv
    · exact h1 xs r ((R_some G).2 ⟨k + 1, hv⟩)
theorem runF_ok (hmo : P.follows .mixedOrders = true) {tabs : List (Nat × List AV)} {G : Nat → Option PF} (hF : ∀ g p, F.1 g = some p → fnOk P F tabs g p = true ∧ G g = some p) : ∀ k, CallsOk P F tabs (runF G k) := runF_okE hmo fun g p hp => .inl (hF g p hp)
theorem R_ok (hmo : P.follows .mixedOrders = true) {tabs : List (Nat × List AV)} {G : Nat → Option PF} (hF : ∀ g p, F.1 g = some p → fnOk P F tabs g p = true ∧ G g = some p) : CallsOk P F tabs (R G) := by
  intro g p xs r hp hv
  obtain ⟨k, hk⟩ := (R_some G).1 hv
  exact runF_ok hmo hF k g p xs r hp hk
end
end Go.Pe
namespace Go.Pe
open Go Go.Proofs
set_option maxRecDepth 100000
def tabs0 : List (Nat × List AV) := []
def FD : Nat → Option PF
  | 37 => some p37
  | 38 => some p38
  | 39 => some p39
  | 44 => some p44
  | 47 => some p47
  | 48 => some p48
  | 73 => some p73
  | 79 => some p79
  | 81 => some p81
  | 82 => some p82
  | 84 => some p84
  | 87 => some p87
  | 88 => some p88
  | 90 => some p90
  | 91 => some p91
  | 92 => some p92
  | 93 => some p93
  | 106 => some p106
  | 109 => some p109
  | 110 => some p110
  | 111 => some p111
  | 113 => some p113
  | 114 => some p114
  | 115 => some p115
  | 116 => some p116
  | 117 => some p117
  | 118 => some p118
  | 119 => some p119
  | 120 => some p120
  | 121 => some p121
  | 129 => some p129
  | 130 => some p130
  | 131 => some p131
  | 132 => some p132
  | 137 => some p137
  | 138 => some p138
  | 139 => some p139
  | 140 => some p140
  | 141 => some p141
  | 285 => some p285
  | 293 => some p293
  | 305 => some p305
  | 306 => some p306
  | 309 => some p309
  | 310 => some p310
  | 312 => some p312
  | _ => none
def nuD : Nat → Nat
  | 37 => 12
  | 38 => 14
  | 39 => 31
  | 44 => 15
  | 47 => 24
  | 48 => 17
  | 73 => 48
  | 79 => 51
  | 81 => 27
  | 82 => 22
  | 84 => 13
  | 87 => 52
  | 88 => 55
  | 90 => 62
  | 91 => 25
  | 92 => 50
  | 93 => 42
  | 106 => 59
  | 109 => 81
  | 110 => 68
  | 111 => 79
  | 113 => 73
  | 114 => 72
  | 115 => 46
  | 116 => 47
  | 117 => 49
  | 118 => 53
  | 119 => 75
  | 120 => 74
  | 121 => 64
  | 129 => 71
  | 130 => 69
  | 131 => 70
  | 132 => 76
  | 137 => 78
  | 138 => 80
  | 139 => 82
  | 140 => 83
  | 141 => 84
  | 285 => 72
  | 293 => 10
  | 305 => 43
  | 306 => 44
  | 309 => 65
  | 310 => 66
  | 312 => 77
  | _ => 0
theorem M37 : fnOk Try.prog (FD, nuD) tabs0 37 p37 = true := by kernel_rfl
theorem M38 : fnOk Try.prog (FD, nuD) tabs0 38 p38 = true := by kernel_rfl
theorem M39 : fnOk Try.prog (FD, nuD) tabs0 39 p39 = true := by kernel_rfl
theorem M44 : fnOk Try.prog (FD, nuD) tabs0 44 p44 = true := by kernel_rfl
theorem M47 : fnOk Try.prog (FD, nuD) tabs0 47 p47 = true := by kernel_rfl
theorem M48 : fnOk Try.prog (FD, nuD) tabs0 48 p48 = true := by kernel_rfl
theorem M73 : fnOk Try.prog (FD, nuD) tabs0 73 p73 = true := by kernel_rfl
theorem M79 : fnOk Try.prog (FD, nuD) tabs0 79 p79 = true := by kernel_rfl
theorem M81 : fnOk Try.prog (FD, nuD) tabs0 81 p81 = true := by kernel_rfl
theorem M82 : fnOk Try.prog (FD, nuD) tabs0 82 p82 = true := by kernel_rfl
theorem M84 : fnOk Try.prog (FD, nuD) tabs0 84 p84 = true := by kernel_rfl
theorem M87 : fnOk Try.prog (FD, nuD) tabs0 87 p87 = true := by kernel_rfl
theorem M88 : fnOk Try.prog (FD, nuD) tabs0 88 p88 = true := by kernel_rfl
theorem M90 : fnOk Try.prog (FD, nuD) tabs0 90 p90 = true := by kernel_rfl
theorem M91 : fnOk Try.prog (FD, nuD) tabs0 91 p91 = true := by kernel_rfl
theorem M92 : fnOk Try.prog (FD, nuD) tabs0 92 p92 = true := by kernel_rfl
theorem M93 : fnOk Try.prog (FD, nuD) tabs0 93 p93 = true := by kernel_rfl
theorem M106 : fnOk Try.prog (FD, nuD) tabs0 106 p106 = true := by kernel_rfl
theorem M109 : fnOk Try.prog (FD, nuD) tabs0 109 p109 = true := by kernel_rfl
theorem M110 : fnOk Try.prog (FD, nuD) tabs0 110 p110 = true := by kernel_rfl
theorem M111 : fnOk Try.prog (FD, nuD) tabs0 111 p111 = true := by kernel_rfl
theorem M113 : fnOk Try.prog (FD, nuD) tabs0 113 p113 = true := by kernel_rfl
theorem M114 : fnOk Try.prog (FD, nuD) tabs0 114 p114 = true := by kernel_rfl
theorem M115 : fnOk Try.prog (FD, nuD) tabs0 115 p115 = true := by kernel_rfl
theorem M116 : fnOk Try.prog (FD, nuD) tabs0 116 p116 = true := by kernel_rfl
theorem M117 : fnOk Try.prog (FD, nuD) tabs0 117 p117 = true := by kernel_rfl
theorem M118 : fnOk Try.prog (FD, nuD) tabs0 118 p118 = true := by kernel_rfl
theorem M119 : fnOk Try.prog (FD, nuD) tabs0 119 p119 = true := by kernel_rfl
theorem M120 : fnOk Try.prog (FD, nuD) tabs0 120 p120 = true := by kernel_rfl
theorem M121 : fnOk Try.prog (FD, nuD) tabs0 121 p121 = true := by kernel_rfl
theorem M129 : fnOk Try.prog (FD, nuD) tabs0 129 p129 = true := by kernel_rfl
theorem M130 : fnOk Try.prog (FD, nuD) tabs0 130 p130 = true := by kernel_rfl
theorem M131 : fnOk Try.prog (FD, nuD) tabs0 131 p131 = true := by kernel_rfl
theorem M132 : fnOk Try.prog (FD, nuD) tabs0 132 p132 = true := by kernel_rfl
theorem M137 : fnOk Try.prog (FD, nuD) tabs0 137 p137 = true := by kernel_rfl
theorem M138 : fnOk Try.prog (FD, nuD) tabs0 138 p138 = true := by kernel_rfl
theorem M139 : fnOk Try.prog (FD, nuD) tabs0 139 p139 = true := by kernel_rfl
theorem M140 : fnOk Try.prog (FD, nuD) tabs0 140 p140 = true := by kernel_rfl
theorem M141 : fnOk Try.prog (FD, nuD) tabs0 141 p141 = true := by kernel_rfl
theorem M285 : fnOk Try.prog (FD, nuD) tabs0 285 p285 = true := by kernel_rfl
theorem M293 : fnOk Try.prog (FD, nuD) tabs0 293 p293 = true := by kernel_rfl
theorem M305 : fnOk Try.prog (FD, nuD) tabs0 305 p305 = true := by kernel_rfl
theorem M306 : fnOk Try.prog (FD, nuD) tabs0 306 p306 = true := by kernel_rfl
theorem M309 : fnOk Try.prog (FD, nuD) tabs0 309 p309 = true := by kernel_rfl
theorem M310 : fnOk Try.prog (FD, nuD) tabs0 310 p310 = true := by kernel_rfl
theorem M312 : fnOk Try.prog (FD, nuD) tabs0 312 p312 = true := by kernel_rfl
theorem FD_ok (g : Nat) (p : PF) (h : FD g = some p) : fnOk Try.prog (FD, nuD) tabs0 g p = true ∧ FF g = some p := by
  unfold FD at h
  split at h
  · cases h; exact ⟨M37, rfl⟩
  · cases h; exact ⟨M38, rfl⟩
  · cases h; exact ⟨M39, rfl⟩
  · cases h; exact ⟨M44, rfl⟩
  · cases h; exact ⟨M47, rfl⟩
  · cases h; exact ⟨M48, rfl⟩
  · cases h; exact ⟨M73, rfl⟩
  · cases h; exact ⟨M79, rfl⟩
  · cases h; exact ⟨M81, rfl⟩
  · cases h; exact ⟨M82, rfl⟩
  · cases h; exact ⟨M84, rfl⟩
  · cases h; exact ⟨M87, rfl⟩
  · cases h; exact ⟨M88, rfl⟩
  · cases h; exact ⟨M90, rfl⟩
  · cases h; exact ⟨M91, rfl⟩
  · cases h; exact ⟨M92, rfl⟩
  · cases h; exact ⟨M93, rfl⟩
  · cases h; exact ⟨M106, rfl⟩
  · cases h; exact ⟨M109, rfl⟩
  · cases h; exact ⟨M110, rfl⟩
  · cases h; exact ⟨M111, rfl⟩
  · cases h; exact ⟨M113, rfl⟩
  · cases h; exact ⟨M114, rfl⟩
  · cases h; exact ⟨M115, rfl⟩
  · cases h; exact ⟨M116, rfl⟩
  · cases h; exact ⟨M117, rfl⟩
  · cases h; exact ⟨M118, rfl⟩
  · cases h; exact ⟨M119, rfl⟩
  · cases h; exact ⟨M120, rfl⟩
  · cases h; exact ⟨M121, rfl⟩
  · cases h; exact ⟨M129, rfl⟩
  · cases h; exact ⟨M130, rfl⟩
  · cases h; exact ⟨M131, rfl⟩
  · cases h; exact ⟨M132, rfl⟩
  · cases h; exact ⟨M137, rfl⟩
  · cases h; exact ⟨M138, rfl⟩
  · cases h; exact ⟨M139, rfl⟩
  · cases h; exact ⟨M140, rfl⟩
  · cases h; exact ⟨M141, rfl⟩
  · cases h; exact ⟨M285, rfl⟩
  · cases h; exact ⟨M293, rfl⟩
  · cases h; exact ⟨M305, rfl⟩
  · cases h; exact ⟨M306, rfl⟩
  · cases h; exact ⟨M309, rfl⟩
  · cases h; exact ⟨M310, rfl⟩
  · cases h; exact ⟨M312, rfl⟩
  · cases h
theorem followsD : Try.prog.follows .mixedOrders = true := by kernel_rfl
theorem callsD : CallsOk Try.prog (FD, nuD) tabs0 (R FF) := R_ok followsD FD_ok
end Go.Pe
set_option linter.unusedVariables false
set_option linter.unusedSimpArgs false
namespace Go.Pe
open Go
inductive CK where
  | int (k : IntKind)
  | bool
  | str
  | sl (cs : List CK)
  deriving Inhabited
inductive Fit : CK → AV → Prop
  | int {k n} (h : (Lit.int k n).wf = true) : Fit (.int k) (.i k n)
  | bool {b} : Fit .bool (.b b)
  | str {s : ByteArray} (h : s.size ≤ maxLen) : Fit .str (.s s)
  | sl {cs es} (hl : es.length ≤ maxLen) (hz : ∀ j, j < es.length → (es.getD j []).length = cs.length) (hv : ∀ j c, j < es.length → c < cs.length → Fit (cs.getD c default) ((es.getD j []).getD c .junk)) : Fit (.sl cs) (.l cs.length es)
def fieldsOk (r : TypeId → List CK → Bool) (P : Program) : List Field → Nat → List CK → Bool
  | [], _, cs => cs.isEmpty
  | f :: fs, o, cs => decide (f.offset = o) && decide (P.cellsOf f.type ≤ cs.length) && r f.type (cs.take (P.cellsOf f.type)) && fieldsOk r P fs (o + P.cellsOf f.type) (cs.drop (P.cellsOf f.type))
def tyOk (P : Program) : Nat → TypeId → List CK → Bool
  | 0, _, _ => false
  | n + 1, t, cs => match P.underlying t, cs with
    | some .bool, [.bool] => true
    | some (.int k), [.int k'] => decide (k = k')
    | some .string, [.str] => true
    | some (.slice e), [.sl ds] => decide (P.cellsOf e = ds.length) && decide (0 < ds.length) && tyOk P n e ds
    | some (.struct fs), cs => decide (cs.length = P.cellsOf t) && fieldsOk (tyOk P n) P fs.toList 0 cs
    | _, _ => false
structure CellsRv (w : World) (ks : List CK) (acs : List AV) (cs : List Value) : Prop where
  l1 : acs.length = ks.length
  l2 : cs.length = ks.length
  fit : ∀ c, c < ks.length → Fit (ks.getD c default) (acs.getD c .junk)
  rv : ∀ c, c < ks.length → Rv w (fun _ => False) Rho.none (acs.getD c .junk) (cs.getD c undef) ∧ (cs.getD c undef).oneCell' = true
theorem CellsRv.one {w : World} {k : CK} {x : AV} {v : Value} (h1 : Fit k x) (h2 : Rv w (fun _ => False) Rho.none x v) (h3 : v.oneCell' = true) : CellsRv w [k] [x] [v] := by
  refine ⟨rfl, rfl, fun c hc => ?_, fun c hc => ?_⟩
  · cases c with
    | zero => exact h1
    | succ c => simp at hc
  · cases c with
    | zero => exact ⟨h2, h3⟩
    | succ c => simp at hc
theorem CellsRv.append {w : World} {k1 k2 : List CK} {a1 a2 : List AV} {c1 c2 : List Value} (x : CellsRv w k1 a1 c1) (y : CellsRv w k2 a2 c2) : CellsRv w (k1 ++ k2) (a1 ++ a2) (c1 ++ c2) := by
  have g : ∀ {α : Type} (l m : List α) (i : Nat) (d : α), (l ++ m).getD i d = if i < l.length then l.getD i d else m.getD (i - l.length) d := by
    intro α l m i d
    simp only [List.getD_eq_getElem?_getD, List.getElem?_append]
    split <;> rfl
  refine ⟨by simp [x.l1, y.l1], by simp [x.l2, y.l2], fun c hc => ?_, fun c hc => ?_⟩
  · rw [g, g, x.l1]
    rw [List.length_append] at hc
    split
    · rename_i h; exact x.fit c h
    · exact y.fit _ (by omega)
  · rw [g, g, x.l1, x.l2]
    rw [List.length_append] at hc
    split
    · rename_i h; exact x.rv c h
    · exact y.rv _ (by omega)
section
variable {H : Type} {enc : TypeId × Value → H} {P : Program} {w : World} {base : Nat} {spare : Nat → Bool} {held : Bool}
theorem fields_rv {fuel : Nat} {r : TypeId → List CK → Bool} (ih : ∀ t cs x ks, DataW.trod enc P w base spare held fuel t cs = some x → r t ks = true → ∃ acs, CellsRv w ks acs cs) {cs : List Value} : ∀ (fs : List Field) (o : Nat) (ks : List CK), fieldsOk r P fs o ks = true →
    (∀ f ∈ fs, ∃ y, DataW.trod enc P w base spare held fuel f.type ((cs.drop f.offset).take (P.cellsOf f.type)) = some y) → cs.length = o + ks.length → ∃ acs, CellsRv w ks acs (cs.drop o) := by
  intro fs
  induction fs with
  | nil =>
    intro o ks hf _ hl
    have : ks = [] := by simpa [fieldsOk] using hf
    subst this
    rw [List.drop_of_length_le (by simp at hl; omega)]
    exact ⟨[], rfl, rfl, fun c hc => (by cases hc), fun c hc => (by cases hc)⟩
  | cons f fs ihf =>
    intro o ks hf hy hl
    simp only [fieldsOk, Bool.and_eq_true, decide_eq_true_eq] at hf
    obtain ⟨⟨⟨h1, h2⟩, h3⟩, h4⟩ := hf
    obtain ⟨y, hy1⟩ := hy f List.mem_cons_self
    rw [h1] at hy1
    obtain ⟨a1, r1⟩ := ih _ _ _ _ hy1 h3
    obtain ⟨a2, r2⟩ := ihf _ _ h4 (fun f hf => hy f (List.mem_cons_of_mem _ hf)) (by rw [List.length_drop]; omega)
    have := r1.append r2
    rw [List.take_append_drop] at this
    refine ⟨a1 ++ a2, ?_⟩
    have e : (cs.drop o).take (P.cellsOf f.type) ++ cs.drop (o + P.cellsOf f.type) = cs.drop o := by
      rw [← List.drop_drop, List.take_append_drop]
    rw [e] at this
    exact this
theorem choose_list {α : Type} (d : α) {n : Nat} {Q : Nat → α → Prop} (h : ∀ j, j < n → ∃ x, Q j x) : ∃ l : List α, l.length = n ∧ ∀ j, j < n → Q j (l.getD j d) := by
  induction n with
  | zero => exact ⟨[], rfl, fun j hj => by cases hj⟩
  | succ n ih =>
    obtain ⟨l, h1, h2⟩ := ih fun j hj => h j (by omega)
    obtain ⟨x, hx⟩ := h n (by omega)
    refine ⟨l ++ [x], by simp [h1], fun j hj => ?_⟩
    rcases Nat.lt_or_ge j n with hlt | hge
    · rw [List.getD_eq_getElem?_getD, List.getElem?_append_left (by omega), ← List.getD_eq_getElem?_getD]
      exact h2 j hlt
    · have : j = n := by omega
      subst this
      rw [List.getD_eq_getElem?_getD, List.getElem?_append_right (by omega), h1, Nat.sub_self]
      exact hx
theorem cells?_each {a : Addr} {n : Nat} {l : List Value} (h : w.cells? base a n = some l) : l.length = n ∧ ∀ i, i < n → w.cell? (a.add i) = l[i]? := by
  unfold World.cells? at h
  split at h
  · exact ⟨by simpa using mapM_some_length h, fun i hi => by simpa using mapM_some_get h i i (by simp [hi])⟩
  · cases h
theorem spot_none {a : Addr} {v : Value} (h : w.cell? a = some v) : a.spot = none := by
  unfold World.cell? at h
  split at h
  · cases hs : a.spot with
    | none => rfl
    | some s => rw [hs] at h; simp at h
  · cases h
theorem cell_lt {a : Addr} {v : Value} (h : w.cell? a = some v) : a.block < w.heap.size := by
  unfold World.cell? at h
  split at h
  · rename_i c e fr hc
    exact (Array.getElem?_eq_some_iff.1 hc).1
  · cases h
theorem trod_rv : ∀ (fuel n : Nat) (t : TypeId) (cs : List Value) (x : DataW H × List MemPlace) (ks : List CK), DataW.trod enc P w base spare held fuel t cs = some x → tyOk P n t ks = true → ∃ acs, CellsRv w ks acs cs := by
  intro fuel
  induction fuel with
  | zero => intro n t cs x ks h; simp [DataW.trod] at h
  | succ fuel ih =>
    intro n t cs x ks h hty
    cases n with
    | zero => simp [tyOk] at hty
    | succ n =>
      have h0 := h
      unfold tyOk at hty
      split at hty
      · rename_i hu
        unfold DataW.trod at h
        rw [hu] at h
        split at h <;> simp_all
        exact ⟨_, .one .bool .b rfl⟩
      · rename_i k k' hu
        simp only [decide_eq_true_eq] at hty
        subst hty
        unfold DataW.trod at h
        rw [hu] at h
        split at h <;> simp_all
        obtain ⟨⟨rfl, hw⟩, _⟩ := h
        exact ⟨_, .one (.int hw) .i rfl⟩
      · rename_i hu
        unfold DataW.trod at h
        rw [hu] at h
        split at h <;> simp_all
        exact ⟨_, .one (.str h.1) .s rfl⟩
      · rename_i e ds hu
        simp only [Bool.and_eq_true, decide_eq_true_eq] at hty
        obtain ⟨⟨hz, hpos⟩, hty⟩ := hty
        rcases DataW.trod_slice hu h0 with ⟨rfl, _⟩ | ⟨a, len, cap, elems, rest, m, hm, rfl, _, hb, hl, hc, hlen, hel, _, _⟩
        · exact ⟨[.l ds.length []], .one (.sl (Nat.zero_le _) (fun j hj => by cases hj) (fun j c hj => by cases hj)) .lnil0 rfl⟩
        · have : m = fuel := by omega
          subst this
          rcases Nat.eq_zero_or_pos len with hz0 | hpos0
          · subst hz0
            exact ⟨[.l ds.length []], .one (.sl (Nat.zero_le _) (fun j hj => by cases hj) (fun j c hj => by cases hj)) (.lnil (fun h => by cases h) hc) rfl⟩
          · have each : ∀ i, i < len → ∃ acs, ∃ ci : List Value, CellsRv w ds acs ci ∧ ∀ c, c < ds.length → w.cell? ((a.add (i * ds.length)).add c) = ci[c]? := by
              intro i hi
              have h1 := hel i hi
              rw [hz] at h1
              have h2 : ∃ y, elems[i]? = some y := ⟨elems[i]'(by omega), List.getElem?_eq_getElem (by omega)⟩
              obtain ⟨y, hy⟩ := h2
              rw [hy, Option.bind_eq_some_iff] at h1
              obtain ⟨ci, h3, h4⟩ := h1
              obtain ⟨acs, h5⟩ := ih n e ci y ds h4 hty
              exact ⟨acs, ci, h5, (cells?_each h3).2⟩
            obtain ⟨es, hes, hq⟩ := choose_list (α := List AV) [] each
            have first : ∃ v, w.cell? ((a.add (0 * ds.length)).add 0) = some v := by
              obtain ⟨ci, h1, h2⟩ := hq 0 hpos0
              have h3 := h2 0 hpos
              rw [List.getElem?_eq_getElem (by rw [h1.l2]; exact hpos)] at h3
              exact ⟨_, h3⟩
            obtain ⟨v0, hv0⟩ := first
            have hsp := spot_none hv0
            rw [show (a.add (0 * ds.length)).add 0 = a by simp [Addr.add]] at hsp
            obtain ⟨ab, ao, asp⟩ := a
            simp only at hsp
            subst hsp
            have hlt := cell_lt hv0
            rw [add_at, add_at] at hlt
            have hcell : ∀ j c, j < es.length → c < ds.length → ∃ v, w.cell? ⟨ab, ao + j * ds.length + c, none⟩ = some v ∧ v.oneCell' = true ∧ Rv w (fun _ => False) Rho.none ((es.getD j []).getD c .junk) v := by
              intro j c hj hc'
              obtain ⟨ci, h1, h2⟩ := hq j (by omega)
              have h3 := h2 c hc'
              rw [add_at, add_at] at h3
              have h4 := h1.rv c hc'
              rw [List.getElem?_eq_getElem (by rw [h1.l2]; exact hc')] at h3
              have h5 : ci.getD c undef = ci[c]'(by rw [h1.l2]; exact hc') := by
                rw [List.getD_eq_getElem?_getD, List.getElem?_eq_getElem (by rw [h1.l2]; exact hc')]; rfl
              rw [h5] at h4
              exact ⟨_, h3, h4.2, h4.1⟩
            refine ⟨[.l ds.length es], .one (.sl (by omega) (fun j hj => ?_) (fun j c hj hc' => ?_)) ?_ rfl⟩
            · obtain ⟨ci, h1, h2⟩ := hq j (by omega)
              exact h1.l1
            · obtain ⟨ci, h1, h2⟩ := hq j (by omega)
              exact h1.fit c hc'
            · have := Rv.l (w := w) (T := fun _ => False) (ρ := Rho.none) (z := ds.length) (es := es) (b := ab) (base := ao) (cap := cap) (fun j c => (w.cell? ⟨ab, ao + j * ds.length + c, none⟩).getD undef) (fun h => h) hlt (by omega) hc
                (fun j hj => by
                  obtain ⟨ci, h1, h2⟩ := hq j (by omega)
                  exact h1.l1)
                (fun j c hj hc' => by
                  obtain ⟨v, h1, h2, h3⟩ := hcell j c hj hc'
                  rw [h1]
                  exact ⟨rfl, h2⟩)
                (fun j c hj hc' => by
                  obtain ⟨v, h1, h2, h3⟩ := hcell j c hj hc'
                  rw [h1]
                  exact h3)
              rw [hes] at this
              exact this
      · rename_i ks _ _ fs hu
        simp only [Bool.and_eq_true, decide_eq_true_eq] at hty
        obtain ⟨hl, hty⟩ := hty
        have h1 : cs.length = P.cellsOf t ∧ ∀ f ∈ fs.toList, ∃ y, DataW.trod enc P w base spare held fuel f.type ((cs.drop f.offset).take (P.cellsOf f.type)) = some y := by
          unfold DataW.trod at h
          rw [hu] at h
          simp only at h
          split at h
          · rename_i hcl
            simp only [Option.map_eq_some_iff] at h
            obtain ⟨ys, hys, _⟩ := h
            refine ⟨hcl, fun f hf => ?_⟩
            obtain ⟨i, hi, rfl⟩ := List.getElem_of_mem hf
            have h2 := mapM_some_get hys i _ (List.getElem?_eq_getElem hi)
            have h3 := mapM_some_length hys
            exact ⟨_, h2.trans (List.getElem?_eq_getElem (by omega))⟩
          · cases h
        obtain ⟨acs, h2⟩ := fields_rv (fun t cs x ks => ih n t cs x ks) fs.toList 0 ks hty h1.2 (by omega)
        rw [List.drop_zero] at h2
        exact ⟨acs, h2⟩
      · cases hty
end
end Go.Pe
set_option linter.unusedVariables false
set_option linter.unusedSimpArgs false
namespace Go.Pe
open Go
theorem Old.below {w w' : World} (h : Old w w') : RowKit.Below w.heap.size w w' := ⟨h.os, h.tape, h.output, h.size, h.block⟩
theorem law_calls {P : Program} {F : Fns} {C : Call} {tabs : List (Nat × List AV)} (hC : CallsOk P F tabs C) {g : Nat} {p : PF} (hg : F.1 g = some p) (hl : p.lent = []) (hk : ∀ x ∈ p.res, x.2 ≤ 1) {xs : List AV} {r : AV} (hr : C g xs = some r) {w : World} {vs : Array Value}
    (ht : ∀ q ∈ tabs, Rv w (fun _ => False) Rho.none (.tp q.2 0) (.pointer (some ⟨q.1, 0, none⟩))) (hvl : vs.size = xs.length) (hx : ∀ j, j < xs.length → Rv w (fun _ => False) Rho.none (xs.getD j .junk) (vs.getD j undef)) :
    Calls P (F.2 g) vs w fun e w' => ∃ v, e = .returned v ∧ Old w w' ∧ Rv w' (fun _ => False) Rho.none (demoteT r) v := by
  have hc := hC g p xs r hg hr
  rw [hl] at hc
  have k : WInv ⟨w, fun _ _ => False, fun _ => False, [], fun _ => ⟨0, 0, none⟩, tabs⟩ w (fun _ => False) Rho.none Heap.none :=
    ⟨Keeps.refl _ _, fun b hb => hb.elim, fun _ _ h => (by cases h), fun _ _ => rfl, fun _ _ _ _ _ h => (by cases h), fun _ _ _ _ _ h => (by cases h), fun b hb => hb.elim, fun _ h => (by cases h), fun _ _ _ _ _ _ h => (by cases h), fun b hb => hb.elim, fun _ h => (by cases h), ht⟩
  exact call_told k hk hc hvl hx
theorem law_true {P : Program} {F : Fns} {C : Call} {tabs : List (Nat × List AV)} (hC : CallsOk P F tabs C) {g : Nat} {p : PF} (hg : F.1 g = some p) (hl : p.lent = []) (hk : ∀ x ∈ p.res, x.2 ≤ 1) {xs : List AV} (hr : C g xs = some (.b true)) {w : World} {vs : Array Value}
    (ht : ∀ q ∈ tabs, Rv w (fun _ => False) Rho.none (.tp q.2 0) (.pointer (some ⟨q.1, 0, none⟩))) (hvl : vs.size = xs.length) (hx : ∀ j, j < xs.length → Rv w (fun _ => False) Rho.none (xs.getD j .junk) (vs.getD j undef)) :
    Calls P (F.2 g) vs w fun e w' => e = .returned (.bool true) ∧ RowKit.Below w.heap.size w w' := by
  refine (law_calls hC hg hl hk hr ht hvl hx).mono fun e w' hh => ?_
  obtain ⟨v, rfl, ho, hv⟩ := hh
  have h2 : Rv w' (fun _ => False) Rho.none (.b true) v := hv
  cases h2
  exact ⟨rfl, ho.below⟩
def isStr (P : Program) (t : TypeId) : Bool := match P.underlying t with
  | some (.struct _) => true
  | _ => false
theorem CellsRv.single {w : World} {ks : List CK} {acs : List AV} {v : Value} (h : CellsRv w ks acs [v]) : Rv w (fun _ => False) Rho.none (acs.getD 0 .junk) v := by
  have h2 := h.l2
  exact (h.rv 0 (by simp at h2; omega)).1
theorem arg_rv {H : Type} {enc : TypeId × Value → H} {P : Program} {w : World} {base b0 : Nat} {spare : Nat → Bool} {held : Bool} {r : Reach} {t : TypeId} {v : Value} {d : DataW H} {ps : List MemPlace} {n : Nat} {ks : List CK}
    (hval : Value.okWide P w r b0 t v) (hd : DataW.Trod enc P w base spare held t v d ps) (hty : tyOk P (n + 1) t ks = true) :
    ∃ acs : List AV, acs.length = ks.length ∧ (∀ c, c < ks.length → Fit (ks.getD c default) (acs.getD c .junk)) ∧ Rv w (fun _ => False) Rho.none (if isStr P t then .agg acs else acs.getD 0 .junk) v := by
  obtain ⟨fuel, hf⟩ := hd
  obtain ⟨acs, h⟩ := trod_rv fuel (n + 1) t _ _ ks hf hty
  refine ⟨acs, h.l1, h.fit, ?_⟩
  unfold tyOk at hty
  unfold isStr
  split at hty
  · rename_i hu
    obtain ⟨b, rfl⟩ := WideShapes.okWide_bool hu hval
    rw [hu]
    exact h.single
  · rename_i k k' hu
    obtain ⟨m, rfl⟩ := WideShapes.okWide_int hu hval
    rw [hu]
    exact h.single
  · rename_i hu
    obtain ⟨m, rfl⟩ := WideShapes.okWide_string hu hval
    rw [hu]
    exact h.single
  · rename_i e ds hu
    obtain ⟨a, len, cap, rfl⟩ := WideShapes.okWide_slice hu hval
    rw [hu]
    exact h.single
  · rename_i ks _ _ fs hu
    obtain ⟨cs, rfl, hcs⟩ := WideShapes.okWide_struct hu hval
    rw [hu]
    have h' : CellsRv w ks acs cs.toList := h
    refine .agg cs (by rw [h'.l1, ← h'.l2]; simp) (fun c hc => ?_) fun c hc => ?_
    · rw [toList_getD]; exact (h'.rv c (by rw [← h'.l1]; exact hc)).2
    · rw [toList_getD]; exact (h'.rv c (by rw [← h'.l1]; exact hc)).1
  · cases hty
theorem Fit.inv_int {k : IntKind} {x : AV} (h : Fit (.int k) x) : ∃ n, x = .i k n ∧ (Lit.int k n).wf = true := by cases h; exact ⟨_, rfl, by assumption⟩
theorem Fit.inv_bool {x : AV} (h : Fit .bool x) : ∃ b, x = .b b := by cases h; exact ⟨_, rfl⟩
theorem Fit.inv_sl {ks : List CK} {x : AV} (h : Fit (.sl ks) x) {α : Type} [Inhabited α] (f : α → List AV) (Q : α → Prop) (hf : ∀ acs : List AV, acs.length = ks.length → (∀ c, c < ks.length → Fit (ks.getD c default) (acs.getD c .junk)) → ∃ a, acs = f a ∧ Q a) :
    ∃ l : List α, x = .l ks.length (l.map f) ∧ l.length ≤ maxLen ∧ ∀ a ∈ l, Q a := by
  cases h with
  | @sl _ es hl hz hv =>
    have each : ∀ j, j < es.length → ∃ a, es.getD j [] = f a ∧ Q a := fun j hj => hf _ (hz j hj) fun c hc => hv j c hj hc
    obtain ⟨l, h1, h2⟩ := choose_list (α := α) default each
    have e : es = l.map f := by
      apply List.ext_getElem (by simp [h1])
      intro j hj hj2
      have := (h2 j hj).1
      rw [List.getD_eq_getElem?_getD, List.getElem?_eq_getElem hj, List.getD_eq_getElem?_getD, List.getElem?_eq_getElem (by omega)] at this
      simpa using this
    refine ⟨l, by rw [← e], by omega, fun a ha => ?_⟩
    obtain ⟨j, hj, rfl⟩ := List.getElem_of_mem ha
    have := (h2 j (by omega)).2
    rw [List.getD_eq_getElem?_getD, List.getElem?_eq_getElem hj] at this
    simpa using this
end Go.Pe
set_option linter.unusedVariables false
set_option linter.unusedSimpArgs false
namespace Go.Pe
open Go
theorem maxLen_eq : maxLen = maxL := by decide
abbrev Fits (ks : List CK) (acs : List AV) : Prop := acs.length = ks.length ∧ ∀ c, c < ks.length → Fit (ks.getD c default) (acs.getD c .junk)
theorem Fits.one {k : CK} {acs : List AV} (h : Fits [k] acs) : ∃ x, acs = [x] ∧ Fit k x := by
  obtain ⟨h1, h2⟩ := h
  match acs, h1 with
  | [x], _ => exact ⟨x, rfl, h2 0 (by simp)⟩
theorem Fits.cons {k : CK} {ks : List CK} {acs : List AV} (h : Fits (k :: ks) acs) : ∃ x r, acs = x :: r ∧ Fit k x ∧ Fits ks r := by
  obtain ⟨h1, h2⟩ := h
  match acs, h1 with
  | x :: r, h1 => exact ⟨x, r, rfl, h2 0 (by simp), by simpa using h1, fun c hc => by simpa using h2 (c + 1) (by simpa using hc)⟩
theorem Fits.nil {acs : List AV} (h : Fits [] acs) : acs = [] := List.length_eq_zero_iff.1 h.1
theorem Fits.split {k1 k2 : List CK} {acs : List AV} (h : Fits (k1 ++ k2) acs) : ∃ a b, acs = a ++ b ∧ Fits k1 a ∧ Fits k2 b := by
  obtain ⟨h1, h2⟩ := h
  rw [List.length_append] at h1 h2
  refine ⟨acs.take k1.length, acs.drop k1.length, (List.take_append_drop _ _).symm, ⟨by rw [List.length_take]; omega, fun c hc => ?_⟩, ⟨by rw [List.length_drop]; omega, fun c hc => ?_⟩⟩
  · have := h2 c (by omega)
    rw [List.getD_eq_getElem?_getD, List.getElem?_append_left hc, ← List.getD_eq_getElem?_getD] at this
    rw [show (List.take k1.length acs).getD c AV.junk = acs.getD c AV.junk by rw [List.getD_eq_getElem?_getD, List.getElem?_take_of_lt hc, ← List.getD_eq_getElem?_getD]]
    exact this
  · have := h2 (k1.length + c) (by omega)
    rw [List.getD_eq_getElem?_getD, List.getElem?_append_right (by omega), ← List.getD_eq_getElem?_getD, Nat.add_sub_cancel_left] at this
    rw [show (List.drop k1.length acs).getD c AV.junk = acs.getD (k1.length + c) AV.junk by rw [List.getD_eq_getElem?_getD, List.getElem?_drop, ← List.getD_eq_getElem?_getD]]
    exact this
theorem open_list {ks : List CK} {x : AV} (h : Fit (.sl ks) x) {α : Type} [Inhabited α] (f : α → List AV) (Q : α → Prop) (hf : ∀ acs, Fits ks acs → ∃ a, acs = f a ∧ Q a) : ∃ l : List α, x = .l ks.length (l.map f) ∧ l.length ≤ maxL ∧ ∀ a ∈ l, Q a := by
  obtain ⟨l, h1, h2, h3⟩ := h.inv_sl f Q fun acs h1 h2 => hf acs ⟨h1, h2⟩
  exact ⟨l, h1, by rw [← maxLen_eq]; exact h2, h3⟩
def kN : CK := .sl [.int .u64]
theorem open_N {x : AV} (h : Fit kN x) : ∃ l : List Int, x = .l 1 (l.map u) ∧ U l ∧ l.length ≤ maxL := by
  obtain ⟨l, h1, h2, h3⟩ := open_list h u (fun x => 0 ≤ x ∧ x ≤ 18446744073709551615) fun acs ha => by
    obtain ⟨y, rfl, hy⟩ := ha.one
    obtain ⟨n, rfl, hn⟩ := hy.inv_int
    exact ⟨n, rfl, wf_u64 hn⟩
  exact ⟨l, h1, h3, h2⟩
def kI : List CK := [.bool, kN]
theorem open_I {acs : List AV} (h : Fits kI acs) : ∃ x, acs = eI x ∧ OkI x := by
  obtain ⟨a, r, rfl, h1, h⟩ := h.cons
  obtain ⟨b, rfl, h2⟩ := h.one
  obtain ⟨q, rfl⟩ := h1.inv_bool
  obtain ⟨l, rfl, h3, h4⟩ := open_N h2
  exact ⟨(q, l), rfl, h3, h4⟩
end Go.Pe
namespace Go.Proofs.Ytkhclncjncdfaaa.wholeTexts
open Go.Pe
open Go.ChangeShapes Go.WideShapes Go.ChangeAt Go.RowKit
set_option linter.unusedVariables false
theorem own : ownKnob Try.prog.godebug = none := by kernel_rfl
theorem laidOut : laidOutB Try.prog = true := by kernel_rfl
set_option maxRecDepth 100000 in
theorem lifted (os : Os) (started : os.Started) (H : Type) (enc : TypeId × Value → H) :
    ReturnsInHanded {} Try.checked os 10 .any (Rows.wholeTextsSpec.pre6 enc Try.prog Try.f10 Rows.wholeTextsRow.domain false) (Rows.wholeTextsSpec.post enc Try.prog Try.f10 false true false false) := by
  refine returnsInHanded_of_change_sized (C := Try.checked) own started (by kernel_rfl) Try.func10
    (ChangeSpec.witness6 (enc := enc) (C := Try.checked) false ⟨#[], #[.agg #[.bool false, .slice none 0 0]], []⟩ 8 (by kernel_rfl) (by kernel_rfl) (by kernel_rfl) (by kernel_rfl)) ?_
  intro W base args ds gs before hval0 hW hcnd hsz0 _
  have hval : ∀ (j : Nat) t v, Try.f10.params[j]? = some t → args[j]? = some v → Value.okWide Try.prog W .any base t v := hval0
  have hW' := hW
  obtain ⟨p, q, hA0, hV, rfl, hfz, hnd⟩ := hW
  have hA : DataW.TrodAll enc Try.prog W 0 (fun _ => true) true Try.f10.params.toList args.toList ds p := hA0
  rw [Try.params10] at hA hval
  obtain ⟨v0, vs0, d0, ds0, pl0, ql0, hargs, rfl, rfl, h0, r0⟩ := trodAll_cons hA
  obtain ⟨rfl, rfl, rfl⟩ := trodAll_nil r0
  obtain rfl : args = #[v0] := by cases args; simp_all
  obtain ⟨rfl, rfl⟩ := trodVars_none hV
  have lt0 : ∀ x ∈ pl0, x.block < W.heap.size := by obtain ⟨m, hm⟩ := h0; exact DataW.trod_lt m _ _ _ hm
  obtain ⟨acs0, la0, fa0, rv0⟩ := arg_rv (n := 12) (ks := kI) (hval 0 25 v0 rfl rfl) h0 (by kernel_rfl)
  rw [show isStr Try.prog 25 = true by kernel_rfl] at rv0
  obtain ⟨x0, rfl, ok0⟩ := open_I ⟨la0, fa0⟩
  clear hA0 hval0 hsz0
  have hlaw := law_WholeTexts x0 ok0
  have hx : ∀ j, j < 1 → Rv W (fun _ => False) Rho.none ([AV.agg (eI x0)].getD j .junk) (#[v0].getD j undef) := by
    intro j hj
    match j, hj with
    | 0, _ => exact rv0
  refine (law_true (F := (FD, nuD)) callsD (g := 293) (p := p293) rfl rfl (by decide) hlaw (w := W) (vs := #[v0]) (fun q hq => by cases hq) rfl hx).mono fun e W' ⟨he, bel⟩ => ?_
  subst he
  exact ⟨_, rfl, _, _, _, [], _, [], hW', trodAll_mk1 (shut_bool Try.underlying4 _), (trodAll_cons_mk (Below.trod laidOut (by kernel_rfl) (of_decide_eq_true (by kernel_rfl)) h0 bel lt0) trodAll_mk0), rfl, bel.frame _, fun h => by cases h⟩
theorem over : Rows.wholeTextsRow.holds Try.pinned (OpenSpec.ofChange Rows.wholeTextsSpec) :=
  OpenClaim.holds_of_wide 10 Try.f10 rfl rfl rfl rfl rfl rfl rfl ⟨rfl, rfl, rfl, rfl, rfl⟩ rfl rfl rfl rfl rfl (by kernel_rfl) Try.func10 (by kernel_rfl)
    (of_decide_eq_true (by kernel_rfl)) (by unfold Func.isWrapper; first | (rw [if_pos (by decide +kernel)]; kernel_rfl) | (rw [if_neg (by decide +kernel)]; exact ⟨rfl, rfl⟩))
    (fun os started H enc _ => lifted os started H enc)
theorem proved : Rows.WholeTextsSaid := over
#print axioms proved
end Go.Proofs.Ytkhclncjncdfaaa.wholeTexts
namespace Go.Proofs.Ytkhclncjncdfaaa
theorem wholeTexts_holds : Rows.WholeTextsSaid := wholeTexts.proved
end Go.Proofs.Ytkhclncjncdfaaa
