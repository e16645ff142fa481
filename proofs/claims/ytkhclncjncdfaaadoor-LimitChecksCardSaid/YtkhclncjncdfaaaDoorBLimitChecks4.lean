/- Proved: whether any request (up to 6 rows of up to 8 entries) is within any limits is the law's, for every input. No conditions. -/
import Derived.Test.YtkhclncjncdfaaaDoorBLimitChecks3
import Derived.Deep.LoopGhost
import Derived.Laws.RangeAny
import Derived.ChangeArms
import Derived.DataReads
import Derived.WideShapes
import Derived.Below
import Derived.Test.YtkhclncjncdfaaaDoorChecked
import Derived.WalkKit
import Derived.KernelRfl
import Derived.Laws.LoneSync
import Derived.BigQuiet
import Derived.Deep.QuietTactic
import Derived.WalkSmall
import Derived.Test.YtkhclncjncdfaaaDoorRows
import Derived.ProofKit
import Derived.OpenShut
import Derived.ShutString
import Derived.ChangeOld
import Derived.SizedLaws
import Derived.Test.YtkhclncjncdfaaaDoorCards
import Derived.Test.YtkhclncjncdfaaaDoorTie
import Derived.LaidMore
import Derived.Lay
import Derived.SevenTiedAt
import Derived.Stop.Joined
import Derived.Handed
import Derived.LaidLaws
set_option linter.unusedVariables false
set_option linter.unusedSimpArgs false
set_option linter.unusedVariables false
set_option linter.unusedSimpArgs false
namespace Go.Pe
open Go
def POp.reads (p : POp) : List Nat := p.op.reads ++ (match p.guard with | some (t, _) => [t] | none => [])
def POp.comp (call : Call) (p : POp) (e : Nat → AV) (h : Heap) : Option Comp := match p.guard with
  | none => p.op.comp call e h
  | some (t, q) => match (e t).yes q with
    | some true => p.op.comp call e h
    | some false => some (.tup [], [], none)
    | none => none
theorem POp.comp_ev (call : Call) (p : POp) (hk : p.op.kind ≤ 1) (st : St) : p.ev call st = (p.comp call st.env st.h).bind fun c => (c.app st.h).map fun q => ⟨setD st.env p.dst q.1, q.2⟩ := by
  unfold POp.ev POp.comp
  cases p.guard with
  | none =>
    simp only [PO.comp_ev call p.op hk, Option.map_bind]
    rfl
  | some g =>
    obtain ⟨t, q⟩ := g
    simp only
    cases (st.env t).yes q with
    | none => rfl
    | some z =>
      cases z
      · rfl
      · simp only [PO.comp_ev call p.op hk, Option.map_bind]
        rfl
theorem POp.agree (call : Call) (p : POp) {e e' : Nat → AV} (h : Heap) (hx : ∀ t ∈ p.reads, e t = e' t) : p.comp call e h = p.comp call e' h := by
  have h1 : p.op.comp call e h = p.op.comp call e' h := by
    have hr : ∀ t ∈ p.op.reads, e t = e' t := fun t ht => hx t (List.mem_append.2 (.inl ht))
    have ha : ∀ x ∈ p.op.ats, x.ev e = x.ev e' := fun x hm => At.agree fun t ht => hr t (List.mem_flatMap.2 ⟨x, hm, ht⟩)
    have hp := PO.agree call p.op Heap.none hr
    generalize p.op = o at ha hp
    cases o <;> simp only [PO.comp] <;> simp only [PO.ats, List.mem_cons, List.not_mem_nil, or_false, forall_eq_or_imp, forall_eq, List.mem_map] at ha <;> try rw [hp]
    case ld => rw [ha]
    case b2s => rw [ha]
    case call => rw [map_agree ha]
    case box => rw [ha]
    case mk => rw [ha]
    case bsl id sz z n ps => rw [bslV_agree fun p hp => ha _ ⟨p, hp, rfl⟩, flatMap_agree fun p hp => (show ref1 h (p.2.ev e) = ref1 h (p.2.ev e') by rw [ha _ ⟨p, hp, rfl⟩])]
  unfold POp.comp
  cases hg : p.guard with
  | none => exact h1
  | some g =>
    obtain ⟨t, q⟩ := g
    have : e t = e' t := hx t (by simp [POp.reads, hg])
    simp only [this, h1]
theorem setD_comm {e : Nat → AV} {d d' : Option Nat} (u v : AV) (h : ∀ t, d = some t → d' ≠ some t) : setD (setD e d u) d' v = setD (setD e d' v) d u := by
  cases d with
  | none => rfl
  | some t =>
    cases d' with
    | none => rfl
    | some t' =>
      have hne : t ≠ t' := fun e => h t rfl (by rw [e])
      funext s
      simp only [setD, upd]
      by_cases h1 : s = t
      · subst h1; simp [hne]
      · simp [h1]
theorem setD_at {e : Nat → AV} {d : Option Nat} {v : AV} {t : Nat} (h : d ≠ some t) : setD e d v t = e t := by
  cases d with
  | none => rfl
  | some s => simp only [setD, upd]; rw [if_neg fun e => h (by rw [e])]
def envApart (x y : POp) : Bool := (match x.dst with | some d => !y.reads.contains d && decide (y.dst ≠ some d) | none => true) && (match y.dst with | some d => !x.reads.contains d | none => true)
theorem envApart_spec {x y : POp} (h : envApart x y = true) : (∀ t ∈ y.reads, x.dst ≠ some t) ∧ (∀ t ∈ x.reads, y.dst ≠ some t) ∧ (∀ t, x.dst = some t → y.dst ≠ some t) := by
  simp only [envApart, Bool.and_eq_true] at h
  obtain ⟨h1, h2⟩ := h
  refine ⟨fun t ht hd => ?_, fun t ht hd => ?_, fun t hd => ?_⟩
  · rw [hd] at h1; simp at h1; exact h1.1 ht
  · rw [hd] at h2; simp at h2; exact h2 ht
  · rw [hd] at h1; simp at h1; exact h1.2
theorem freeze_get (h : Heap) (l : List Nat) (q : Nat) : (h.freeze l) q = if q ∈ l then (h q).map Row.freeze else h q := by
  induction l with
  | nil => rfl
  | cons r l ih =>
    simp only [Heap.freeze]
    by_cases h1 : q = r
    · subst h1
      simp only [if_true, List.mem_cons, true_or]
      rw [ih]
      split
      · cases h q with
        | none => rfl
        | some x => cases x <;> rfl
      · rfl
    · simp only [h1, if_false, List.mem_cons, false_or]
      exact ih
theorem Comp.app_le {c : Comp} {h h' : Heap} {v : AV} (hv : c.app h = some (v, h')) : v = c.1 ∧ Hle h h' ∧ (∀ q, h' q = none → h q = none) ∧ ∀ id x, c.2.2 = some (id, x) → h id = none := by
  obtain ⟨u, A, p⟩ := c
  cases p with
  | none =>
    simp only [Comp.app] at hv
    cases hv
    refine ⟨rfl, fun r x hx => ?_, fun q hq => freeze_none.1 hq, fun id x h => by cases h⟩
    rw [freeze_get, hx]
    split
    · exact .inr rfl
    · exact .inl rfl
  | some p =>
    obtain ⟨id, y⟩ := p
    simp only [Comp.app] at hv
    split at hv
    · rename_i hid
      cases hv
      have hid' : h id = none := by simpa using hid
      refine ⟨rfl, fun r x hx => ?_, fun q hq => ?_, fun id x h => by cases h; exact hid'⟩
      · have hne : r ≠ id := fun e => by rw [e, hid'] at hx; cases hx
        simp only [Heap.put, if_neg hne, freeze_get, hx]
        split
        · exact .inr rfl
        · exact .inl rfl
      · simp only [Heap.put] at hq
        split at hq
        · cases hq
        · exact freeze_none.1 hq
    · cases hv
theorem app_comm {c d : Comp} {h h1 h2 : Heap} {u v : AV} (hc : c.app h = some (u, h1)) (hd : d.app h1 = some (v, h2)) (cc : Cl h c.2.1) (cd : Cl h d.2.1) (hne : ∀ i x j y, c.2.2 = some (i, x) → d.2.2 = some (j, y) → i ≠ j) :
    ∃ h3, d.app h = some (v, h3) ∧ c.app h3 = some (u, h2) := by
  obtain ⟨_, _, n1, m1⟩ := Comp.app_le hc
  obtain ⟨_, _, _, m2⟩ := Comp.app_le hd
  obtain ⟨a, A, p⟩ := c
  obtain ⟨b, B, q⟩ := d
  have idn : ∀ {i : Nat} {l : List Nat}, h i = none → Cl h l → i ∉ l := fun hi hl hm => hl _ hm hi
  have ff : ∀ r, ((h.freeze A).freeze B) r = ((h.freeze B).freeze A) r := by
    intro r
    simp only [freeze_get]
    cases h r with
    | none => by_cases h1 : r ∈ A <;> by_cases h2 : r ∈ B <;> simp [h1, h2]
    | some x => by_cases h1 : r ∈ A <;> by_cases h2 : r ∈ B <;> simp [h1, h2]
  cases p with
  | none =>
    simp only [Comp.app] at hc
    cases hc
    cases q with
    | none =>
      simp only [Comp.app] at hd
      cases hd
      refine ⟨_, rfl, ?_⟩
      simp only [Comp.app]
      rw [funext ff]
    | some q =>
      obtain ⟨j, y⟩ := q
      have hj : h j = none := n1 j (m2 j y rfl)
      simp only [Comp.app] at hd
      split at hd
      · cases hd
        refine ⟨(h.freeze B).put j y, by simp [Comp.app, hj], ?_⟩
        simp only [Comp.app]
        have : ((h.freeze B).put j y).freeze A = ((h.freeze A).freeze B).put j y := by
          funext r
          simp only [freeze_get, Heap.put]
          by_cases h1 : r = j
          · subst h1; simp [idn hj cc]
          · have := ff r
            simp only [freeze_get] at this
            simp only [h1, if_false]
            exact this.symm
        rw [this]
      · cases hd
  | some p =>
    obtain ⟨i, x⟩ := p
    have hi : h i = none := m1 i x rfl
    simp only [Comp.app] at hc
    split at hc
    · cases hc
      cases q with
      | none =>
        simp only [Comp.app] at hd
        cases hd
        refine ⟨_, rfl, ?_⟩
        have h3 : (h.freeze B) i = none := freeze_none.2 hi
        simp only [Comp.app, h3, Option.isNone_none, if_true]
        have : ((h.freeze A).put i x).freeze B = ((h.freeze B).freeze A).put i x := by
          funext r
          simp only [freeze_get, Heap.put]
          by_cases h1 : r = i
          · subst h1; simp [idn hi cd]
          · have := ff r
            simp only [freeze_get] at this
            simp only [h1, if_false]
            exact this
        rw [this]
      | some q =>
        obtain ⟨j, y⟩ := q
        have hij := hne i x j y rfl rfl
        have hj : h j = none := n1 j (m2 j y rfl)
        simp only [Comp.app] at hd
        split at hd
        · cases hd
          refine ⟨(h.freeze B).put j y, by simp [Comp.app, hj], ?_⟩
          have h3 : ((h.freeze B).put j y) i = none := by simp only [Heap.put, if_neg hij]; exact freeze_none.2 hi
          simp only [Comp.app, h3, Option.isNone_none, if_true]
          have : ((((h.freeze A).put i x).freeze B).put j y) = (((h.freeze B).put j y).freeze A).put i x := by
            funext r
            simp only [freeze_get, Heap.put]
            by_cases h1 : r = i
            · subst h1; simp [idn hi cd, hij]
            · by_cases h2 : r = j
              · subst h2; simp [h1, idn hj cc]
              · have := ff r
                simp only [freeze_get] at this
                simp only [h1, h2, if_false]
                exact this
          rw [this]
        · cases hd
    · cases hc
def noRef : AV → Bool
  | .sl _ _ _ _ | .p _ _ _ | .tup _ => false
  | .agg cs => cs.all fun c => match c with | .sl _ _ _ _ | .p _ _ _ => false | _ => true
  | _ => true
theorem noRef_cl {v : AV} (h : Heap) (hn : noRef v = true) : Cl h (ref h v) := by
  have : ref h v = [] := by
    cases v <;> first | rfl | (simp [noRef] at hn; done) | skip
    rename_i cs
    show cs.flatMap (refC h) = []
    simp only [noRef, List.all_eq_true] at hn
    rw [List.flatMap_eq_nil_iff]
    intro c hc
    have := hn c hc
    cases c <;> first | rfl | (simp at this; done)
  rw [this]
  intro r hr
  cases hr
def PO.okc (o : PO) : Bool := o.ats.all fun x => match x with | .c v => noRef v | .t _ => true
theorem Real.closed {f : Fr} {nt : Nat} {st : St} (hr : Real f nt st) {o : PO} (ho : o.okc = true) : ∀ x ∈ o.ats, Cl st.h (ref st.h (x.ev st.env)) := by
  intro x hx
  simp only [PO.okc, List.all_eq_true] at ho
  have := ho x hx
  obtain ⟨w, a, _, _, T, ρ, k, he⟩ := hr
  cases x with
  | c v => exact noRef_cl _ this
  | t n => exact rv_ref k.dom k.rows (he n)
def PO.newId : PO → Option Nat
  | .alloc id _ | .box id _ _ | .bsl id _ _ _ _ | .mk id _ _ _ _ => some id
  | _ => none
theorem comp_id (call : Call) (p : POp) {e : Nat → AV} {h : Heap} {c : Comp} (hv : p.comp call e h = some c) {i : Nat} {x : Row} (hi : c.2.2 = some (i, x)) : p.op.newId = some i := by
  have key : p.op.comp call e h = some c → p.op.newId = some i := by
    intro hv
    generalize p.op = o at hv
    cases o <;> simp only [PO.comp, Option.map_eq_some_iff] at hv
    case alloc => cases hv; cases hi; rfl
    case box => split at hv <;> cases hv; cases hi; rfl
    case bsl => obtain ⟨_, _, rfl⟩ := hv; cases hi; rfl
    case mk =>
      split at hv
      · split at hv
        · cases hv; cases hi; rfl
        · cases hv
      · cases hv
    all_goals
      obtain ⟨_, _, rfl⟩ := hv
      cases hi
  unfold POp.comp at hv
  split at hv
  · exact key hv
  · split at hv
    · exact key hv
    · cases hv; cases hi
    · cases hv
theorem swap_grow {call : Call} {x y : POp} {st s1 s2 : St} (hx : x.op.kind ≤ 1) (hy : y.op.kind ≤ 1) (hap : envApart x y = true) (cx : ∀ z ∈ x.op.ats, Cl st.h (ref st.h (z.ev st.env))) (cy : ∀ z ∈ y.op.ats, Cl st.h (ref st.h (z.ev st.env)))
    (hid : ∀ i, x.op.newId = some i → y.op.newId ≠ some i) (h1 : x.ev call st = some s1) (h2 : y.ev call s1 = some s2) : ∃ s3, y.ev call st = some s3 ∧ x.ev call s3 = some s2 := by
  obtain ⟨a1, a2, a3⟩ := envApart_spec hap
  rw [POp.comp_ev call x hx] at h1
  simp only [Option.bind_eq_some_iff, Option.map_eq_some_iff] at h1
  obtain ⟨c, hc, ⟨u, g1⟩, hg1, rfl⟩ := h1
  rw [POp.comp_ev call y hy] at h2
  simp only [Option.bind_eq_some_iff, Option.map_eq_some_iff] at h2
  obtain ⟨d, hd, ⟨v, g2⟩, hg2, rfl⟩ := h2
  obtain ⟨hu, le1, _, _⟩ := Comp.app_le hg1
  have compLe : ∀ (p : POp) {h h' : Heap} (e : Nat → AV), Hle h h' → (∀ z ∈ p.op.ats, Cl h (ref h (z.ev e))) → p.comp call e h' = p.comp call e h := by
    intro p h h' e hle hcl
    unfold POp.comp
    simp only [PO.comp_le call p.op hle hcl]
  have hd' : y.comp call st.env st.h = some d := by
    rw [← compLe y st.env le1 cy, ← hd]
    refine POp.agree call y g1 fun t ht => ?_
    exact (setD_at (a1 t ht)).symm
  have clc : ∀ (p : POp) {c : Comp}, (∀ z ∈ p.op.ats, Cl st.h (ref st.h (z.ev st.env))) → p.comp call st.env st.h = some c → Cl st.h c.2.1 := by
    intro p c hcl hv
    unfold POp.comp at hv
    split at hv
    · exact comp_cl call p.op hcl hv
    · split at hv
      · exact comp_cl call p.op hcl hv
      · cases hv; intro r hr; cases hr
      · cases hv
  obtain ⟨g3, b1, b2⟩ := app_comm hg1 hg2 (clc x cx hc) (clc y cy hd') fun i _ j _ hi hj e => hid i (comp_id call x hc hi) (by rw [e]; exact comp_id call y hd' hj)
  obtain ⟨_, le3, _, _⟩ := Comp.app_le b1
  refine ⟨⟨setD st.env y.dst v, g3⟩, ?_, ?_⟩
  · rw [POp.comp_ev call y hy, hd']
    simp only [Option.bind_some, b1, Option.map_some]
  · rw [POp.comp_ev call x hx]
    have hc' : x.comp call (setD st.env y.dst v) g3 = some c := by
      rw [← hc, ← compLe x st.env le3 cx]
      exact POp.agree call x g3 fun t ht => setD_at (a2 t ht)
    simp only [hc', Option.bind_some, b2, Option.map_some]
    rw [setD_comm u v a3]
end Go.Pe
set_option linter.unusedVariables false
set_option linter.unusedSimpArgs false
namespace Go.Pe
open Go
theorem POp.ev_at {call : Call} {p : POp} {e : Nat → AV} {h : Heap} {s : St} (hv : p.ev call ⟨e, h⟩ = some s) :
    ∃ v h', s = ⟨setD e p.dst v, h'⟩ ∧ ∀ e', (∀ t ∈ p.reads, e t = e' t) → p.ev call ⟨e', h⟩ = some ⟨setD e' p.dst v, h'⟩ := by
  unfold POp.ev at hv ⊢
  cases hg : p.guard with
  | none =>
    simp only [hg, Option.map_eq_some_iff] at hv
    obtain ⟨⟨v, h'⟩, hv, rfl⟩ := hv
    refine ⟨v, h', rfl, fun e' ha => ?_⟩
    rw [← PO.agree call p.op h fun t ht => ha t (by simp [POp.reads, ht])]
    simp only [hv, Option.map_some]
  | some g =>
    obtain ⟨t, q⟩ := g
    simp only [hg] at hv
    have ht : t ∈ p.reads := by simp [POp.reads, hg]
    split at hv
    · rename_i hz
      simp only [Option.map_eq_some_iff] at hv
      obtain ⟨⟨v, h'⟩, hv, rfl⟩ := hv
      refine ⟨v, h', rfl, fun e' ha => ?_⟩
      simp only [← ha t ht, hz]
      rw [← PO.agree call p.op h fun t ht => ha t (by simp [POp.reads, ht])]
      simp only [hv, Option.map_some]
    · rename_i hz
      cases hv
      refine ⟨.tup [], h, rfl, fun e' ha => ?_⟩
      simp only [← ha t ht, hz]
    · cases hv
theorem POp.pure_at {call : Call} {p : POp} (hk : p.op.kind = 0) {e : Nat → AV} {h : Heap} {s : St} (hv : p.ev call ⟨e, h⟩ = some s) :
    ∃ v, s = ⟨setD e p.dst v, h⟩ ∧ ∀ e' h', (∀ t ∈ p.reads, e t = e' t) → p.ev call ⟨e', h'⟩ = some ⟨setD e' p.dst v, h'⟩ := by
  unfold POp.ev at hv ⊢
  have op : ∀ {v : AV} {h1 : Heap}, p.op.ev call e h = some (v, h1) → h1 = h ∧ ∀ e' h', (∀ t ∈ p.reads, e t = e' t) → p.op.ev call e' h' = some (v, h') := by
    intro v h1 hv
    rw [PO.pure call p.op hk, Option.map_eq_some_iff] at hv
    obtain ⟨q, hq, hv⟩ := hv
    cases hv
    refine ⟨rfl, fun e' h' ha => ?_⟩
    rw [PO.pure call p.op hk, ← PO.agree call p.op Heap.none fun t ht => ha t (by simp [POp.reads, ht]), hq]
    rfl
  cases hg : p.guard with
  | none =>
    simp only [hg, Option.map_eq_some_iff] at hv
    obtain ⟨⟨v, h1⟩, hv, rfl⟩ := hv
    obtain ⟨rfl, h2⟩ := op hv
    exact ⟨v, rfl, fun e' h' ha => by simp only [h2 e' h' ha, Option.map_some]⟩
  | some g =>
    obtain ⟨t, q⟩ := g
    simp only [hg] at hv
    have ht : t ∈ p.reads := by simp [POp.reads, hg]
    split at hv
    · rename_i hz
      simp only [Option.map_eq_some_iff] at hv
      obtain ⟨⟨v, h1⟩, hv, rfl⟩ := hv
      obtain ⟨rfl, h2⟩ := op hv
      exact ⟨v, rfl, fun e' h' ha => by simp only [← ha t ht, hz, h2 e' h' ha, Option.map_some]⟩
    · rename_i hz
      cases hv
      exact ⟨.tup [], rfl, fun e' h' ha => by simp only [← ha t ht, hz]⟩
    · cases hv
theorem swap_pure1 {call : Call} {x y : POp} {st s1 s2 : St} (hx : x.op.kind = 0) (hap : envApart x y = true) (h1 : x.ev call st = some s1) (h2 : y.ev call s1 = some s2) : ∃ s3, y.ev call st = some s3 ∧ x.ev call s3 = some s2 := by
  obtain ⟨a1, a2, a3⟩ := envApart_spec hap
  obtain ⟨u, rfl, hu⟩ := POp.pure_at hx h1
  obtain ⟨v, h', rfl, hv⟩ := POp.ev_at h2
  refine ⟨_, hv st.env fun t ht => setD_at (a1 t ht), ?_⟩
  rw [hu _ h' fun t ht => (setD_at (a2 t ht)).symm, setD_comm u v a3]
theorem swap_pure2 {call : Call} {x y : POp} {st s1 s2 : St} (hy : y.op.kind = 0) (hap : envApart x y = true) (h1 : x.ev call st = some s1) (h2 : y.ev call s1 = some s2) : ∃ s3, y.ev call st = some s3 ∧ x.ev call s3 = some s2 := by
  obtain ⟨a1, a2, a3⟩ := envApart_spec hap
  obtain ⟨u, h', rfl, hu⟩ := POp.ev_at h1
  obtain ⟨v, rfl, hv⟩ := POp.pure_at hy h2
  refine ⟨_, hv st.env st.h fun t ht => setD_at (a1 t ht), ?_⟩
  rw [hu _ fun t ht => (setD_at (a2 t ht)).symm, setD_comm u v a3]
theorem st_ld {h h' : Heap} {sz : Nat} {s l v : AV} (hs : stV h sz s v = some h') (ha : apartV s l = true) (ag : Bool) (z : Nat) : ldV h' ag z l = ldV h ag z l := by
  cases s <;> simp only [stV] at hs <;> try (cases hs; done)
  rename_i r e o
  cases l <;> simp only [apartV] at ha <;> try (cases ha; done)
  · rfl
  · rename_i q e2 o2
    have hne : q ≠ r := fun e => by subst e; simp at ha
    have key : (h' q).bind (Row.at e2) = (h q).bind (Row.at e2) := by
      split at hs
      · split at hs
        · cases hs
          simp only [Heap.put, if_neg hne, freeze_get]
          split
          · cases h q <;> simp [freeze_at]
          · rfl
        · cases hs
      · split at hs
        · cases hs
          simp only [Heap.put, if_neg hne]
        · cases hs
      · cases hs
    simp only [ldV, ptrAt, key]
def ldP (p : POp) : Option Nat := match p.op, p.guard with
  | .ld _ _ (.t l), none => some l
  | _, _ => none
def stP (p : POp) : Option Nat := match p.op, p.guard with
  | .st _ (.t s) _, none => some s
  | _, _ => none
theorem ldP_spec {p : POp} {l : Nat} (h : ldP p = some l) : ∃ ag sz, p.op = .ld ag sz (.t l) ∧ p.guard = none := by
  unfold ldP at h
  split at h
  · rename_i ag sz l' h1 h2; cases h; exact ⟨_, _, h1, h2⟩
  · cases h
theorem stP_spec {p : POp} {s : Nat} (h : stP p = some s) : ∃ sz v, p.op = .st sz (.t s) v ∧ p.guard = none := by
  unfold stP at h
  split at h
  · rename_i ag sz l' h1 h2; cases h; exact ⟨_, _, h1, h2⟩
  · cases h
theorem swap_ldst {call : Call} {x y : POp} {st s1 s2 : St} {l s : Nat} (hx : ldP x = some l) (hy : stP y = some s) (hap : envApart x y = true) (ha : apartV (st.env s) (st.env l) = true) (h1 : x.ev call st = some s1) (h2 : y.ev call s1 = some s2) : ∃ s3, y.ev call st = some s3 ∧ x.ev call s3 = some s2 := by
  obtain ⟨a1, a2, a3⟩ := envApart_spec hap
  obtain ⟨ag, sz, hxo, hxg⟩ := ldP_spec hx
  obtain ⟨sz', v, hyo, hyg⟩ := stP_spec hy
  have h1' := h1
  simp only [POp.ev, hxg, hxo, PO.ev, Option.map_map, Option.map_eq_some_iff] at h1'
  obtain ⟨u, hu, rfl⟩ := h1'
  obtain ⟨v2, h', rfl, hv⟩ := POp.ev_at h2
  have h3 := hv st.env fun t ht => setD_at (a1 t ht)
  refine ⟨_, h3, ?_⟩
  have h4 := h3
  simp only [POp.ev, hyg, hyo, PO.ev, Option.map_map, Option.map_eq_some_iff] at h4
  obtain ⟨g, hg, h4⟩ := h4
  have hg' : g = h' := congrArg St.h h4
  subst hg'
  have e1 : setD st.env y.dst v2 l = st.env l := setD_at (a2 l (by simp [POp.reads, hxo, PO.reads, PO.ats, At.tmps]))
  simp only [POp.ev, hxg, hxo, PO.ev, At.ev] at hu hg ⊢
  rw [e1, st_ld hg ha, hu]
  simp only [Option.map_some]
  rw [setD_comm u v2 a3]
theorem swap_stld {call : Call} {x y : POp} {st s1 s2 : St} {l s : Nat} (hx : stP x = some s) (hy : ldP y = some l) (hap : envApart x y = true) (ha : apartV (st.env s) (st.env l) = true) (h1 : x.ev call st = some s1) (h2 : y.ev call s1 = some s2) : ∃ s3, y.ev call st = some s3 ∧ x.ev call s3 = some s2 := by
  obtain ⟨a1, a2, a3⟩ := envApart_spec hap
  obtain ⟨ag, sz, hyo, hyg⟩ := ldP_spec hy
  obtain ⟨sz', v, hxo, hxg⟩ := stP_spec hx
  obtain ⟨u, h', rfl, hu⟩ := POp.ev_at h1
  have h3 := h1
  simp only [POp.ev, hxg, hxo, PO.ev, Option.map_map, Option.map_eq_some_iff] at h3
  obtain ⟨g, hg, h3⟩ := h3
  have hg' : g = h' := congrArg St.h h3
  subst hg'
  simp only [POp.ev, hyg, hyo, PO.ev, Option.map_map, Option.map_eq_some_iff] at h2
  obtain ⟨v2, hv2, rfl⟩ := h2
  have e1 : setD st.env x.dst u l = st.env l := setD_at (a1 l (by simp [POp.reads, hyo, PO.reads, PO.ats, At.tmps]))
  simp only [At.ev] at hv2 hg
  rw [e1, st_ld hg ha] at hv2
  refine ⟨⟨setD st.env y.dst v2, st.h⟩, ?_, ?_⟩
  · simp only [POp.ev, hyg, hyo, PO.ev, At.ev, hv2, Option.map_some]
  · rw [hu _ fun t ht => (setD_at (a2 t ht)).symm]
    exact congrArg some (congrArg (fun e => St.mk e g) (setD_comm u v2 a3).symm)
def comm (chk : List (Nat × Nat)) (x y : POp) : Bool := envApart x y && (x.op.kind == 0 || y.op.kind == 0 ||
  (decide (x.op.kind ≤ 1) && decide (y.op.kind ≤ 1) && x.op.okc && y.op.okc && (match x.op.newId with | some i => decide (y.op.newId ≠ some i) | none => true)) ||
  (match ldP x, stP y with | some l, some s => chk.contains (s, l) | _, _ => false) || (match stP x, ldP y with | some s, some l => chk.contains (s, l) | _, _ => false))
def ptrT (p : POp) : Option Nat := match ldP p with
  | some l => some l
  | none => stP p
theorem swap {f : Fr} {nt : Nat} {call : Call} {chk : List (Nat × Nat)} {x y : POp} {st s1 s2 : St} (hr : Real f nt st) (hc : comm chk x y = true)
    (ha : ∀ s l, (s, l) ∈ chk → (ptrT x = some s ∧ ptrT y = some l ∨ ptrT x = some l ∧ ptrT y = some s) → apartV (st.env s) (st.env l) = true)
    (h1 : x.ev call st = some s1) (h2 : y.ev call s1 = some s2) : ∃ s3, y.ev call st = some s3 ∧ x.ev call s3 = some s2 := by
  simp only [comm, Bool.and_eq_true, Bool.or_eq_true, beq_iff_eq, decide_eq_true_eq] at hc
  obtain ⟨hap, hc⟩ := hc
  have pl : ∀ {p : POp} {l : Nat}, ldP p = some l → ptrT p = some l := fun h => by unfold ptrT; rw [h]
  have ps : ∀ {p : POp} {s : Nat}, stP p = some s → ptrT p = some s := fun {p s} h => by
    obtain ⟨sz, v, h1, h2⟩ := stP_spec h
    have : ldP p = none := by unfold ldP; rw [h1]
    unfold ptrT; rw [this]; exact h
  rcases hc with ((((hc | hc) | hc) | hc) | hc)
  · exact swap_pure1 hc hap h1 h2
  · exact swap_pure2 hc hap h1 h2
  · obtain ⟨⟨⟨⟨k1, k2⟩, k3⟩, k4⟩, k5⟩ := hc
    refine swap_grow k1 k2 hap (hr.closed k3) (hr.closed k4) (fun i hi => ?_) h1 h2
    rw [hi] at k5
    simpa using k5
  · split at hc
    · rename_i l s hl hs
      simp only [List.contains_iff_mem] at hc
      exact swap_ldst hl hs hap (ha s l hc (.inr ⟨pl hl, ps hs⟩)) h1 h2
    · cases hc
  · split at hc
    · rename_i s l hs hl
      simp only [List.contains_iff_mem] at hc
      exact swap_stld hs hl hap (ha s l hc (.inl ⟨ps hs, pl hl⟩)) h1 h2
    · cases hc
theorem ptrT_reads {p : POp} {t : Nat} (h : ptrT p = some t) : t ∈ p.reads := by
  unfold ptrT at h
  split at h
  · rename_i l hl
    cases h
    obtain ⟨ag, sz, h1, h2⟩ := ldP_spec hl
    simp [POp.reads, h1, PO.reads, PO.ats, At.tmps]
  · obtain ⟨sz, v, h1, h2⟩ := stP_spec h
    simp [POp.reads, h1, PO.reads, PO.ats, At.tmps]
def wfL : List POp → Bool
  | [] => true
  | p :: l => (match ptrT p with | some t => (p :: l).all fun q => decide (q.dst ≠ some t) | none => true) && wfL l
theorem wfL_sub {l m : List POp} (h : l.Sublist m) : wfL m = true → wfL l = true := by
  induction h with
  | slnil => exact fun h => h
  | cons p h ih =>
    intro hm
    simp only [wfL, Bool.and_eq_true] at hm
    exact ih hm.2
  | cons_cons p h ih =>
    intro hm
    simp only [wfL, Bool.and_eq_true] at hm ⊢
    refine ⟨?_, ih hm.2⟩
    split
    · rename_i t ht
      rw [ht] at hm
      simp only [List.all_eq_true, List.mem_cons] at hm ⊢
      intro q hq
      exact hm.1 q (hq.imp id (h.subset ·))
    · rfl
theorem evs_env {call : Call} {t : Nat} : ∀ {l : List POp} {st stf : St}, evs call l st = some stf → (∀ p ∈ l, p.dst ≠ some t) → stf.env t = st.env t := by
  intro l
  induction l with
  | nil => intro st stf h _; cases h; rfl
  | cons p l ih =>
    intro st stf h hd
    simp only [evs, Option.bind_eq_some_iff] at h
    obtain ⟨s1, h1, h2⟩ := h
    obtain ⟨v, h', rfl, _⟩ := POp.ev_at h1
    rw [ih h2 fun p hp => hd p (List.mem_cons_of_mem _ hp)]
    exact setD_at (hd p List.mem_cons_self)
theorem apartL_mem {e : Nat → AV} : ∀ {chk : List (Nat × Nat)}, apartL e chk = true → ∀ s l, (s, l) ∈ chk → apartV (e s) (e l) = true
  | [], _, s, l, h => by cases h
  | (s', l') :: r, h, s, l, hm => by
    simp only [apartL, Bool.and_eq_true] at h
    rcases List.mem_cons.1 hm with e | hm
    · cases e; exact h.1
    · exact apartL_mem h.2 s l hm
theorem move_front {f : Fr} {nt : Nat} {call : Call} {chk : List (Nat × Nat)} {y : POp} {post : List POp} : ∀ {pre : List POp} {st stf : St}, (∀ p ∈ pre, ∀ st st', Real f nt st → p.ev call st = some st' → Real f nt st') →
    Real f nt st → wfL (pre ++ y :: post) = true → (∀ x ∈ pre, comm chk x y = true) → apartL stf.env chk = true → evs call (pre ++ y :: post) st = some stf → evs call (y :: (pre ++ post)) st = some stf := by
  intro pre
  induction pre with
  | nil => intro st stf _ _ _ _ _ h; exact h
  | cons x pre ih =>
    intro st stf hstep hr hwf hcm hap hev
    have hev0 := hev
    simp only [List.cons_append, evs, Option.bind_eq_some_iff] at hev
    obtain ⟨s1, h1, h2⟩ := hev
    have hr1 := hstep x List.mem_cons_self _ _ hr h1
    have h3 := ih (fun p hp => hstep p (List.mem_cons_of_mem _ hp)) hr1 (wfL_sub (List.sublist_cons_self _ _) hwf) (fun z hz => hcm z (List.mem_cons_of_mem _ hz)) hap h2
    simp only [evs, Option.bind_eq_some_iff] at h3
    obtain ⟨s2, h4, h5⟩ := h3
    have hxy := hcm x List.mem_cons_self
    -- pointers are as they are at the end
    have px : ∀ t, ptrT x = some t → stf.env t = st.env t := by
      intro t ht
      refine evs_env hev0 fun p hp => ?_
      simp only [List.cons_append, wfL, ht, Bool.and_eq_true, List.all_eq_true, decide_eq_true_eq] at hwf
      exact hwf.1 p hp
    have py : ∀ t, ptrT y = some t → stf.env t = st.env t := by
      intro t ht
      refine evs_env hev0 fun p hp => ?_
      rcases List.mem_append.1 hp with hp | hp
      · have := hcm p hp
        simp only [comm, Bool.and_eq_true] at this
        exact (envApart_spec this.1).1 t (ptrT_reads ht)
      · have := wfL_sub (List.sublist_append_right (x :: pre) (y :: post)) hwf
        simp only [wfL, ht, Bool.and_eq_true, List.all_eq_true, decide_eq_true_eq] at this
        exact this.1 p hp
    obtain ⟨s3, h6, h7⟩ := swap hr hxy (fun s l hm hh => by
      have := apartL_mem hap s l hm
      rcases hh with ⟨e1, e2⟩ | ⟨e1, e2⟩
      · rwa [px _ e1, py _ e2] at this
      · rwa [py _ e2, px _ e1] at this) h1 h4
    simp only [evs, List.cons_append, h6, h7, Option.bind_some]
    exact h5
end Go.Pe
set_option linter.unusedVariables false
set_option linter.unusedSimpArgs false
namespace Go.Pe
open Go
def preds (o : Oper) : List Nat := (o.after.toList.filter (Region.binds .any)).map (·.on)
def maskOf (M : List Nat) (ps : List Nat) : Nat := ps.foldl (fun m p => m ||| (1 <<< p) ||| M.getD p 0) 0
def ancs (os : List Oper) : List Nat := os.foldl (fun M o => M ++ [maskOf M (preds o)]) []
theorem maskOf_bit {M : List Nat} {j : Nat} : ∀ {ps : List Nat} {m : Nat}, (ps.foldl (fun m p => m ||| (1 <<< p) ||| M.getD p 0) m).testBit j = true → m.testBit j = true ∨ ∃ p ∈ ps, p = j ∨ (M.getD p 0).testBit j = true := by
  intro ps
  induction ps with
  | nil => intro m h; exact .inl h
  | cons p ps ih =>
    intro m h
    rcases ih h with h | ⟨q, hq, h⟩
    · rw [Nat.testBit_or, Nat.testBit_or, Bool.or_eq_true, Bool.or_eq_true] at h
      rcases h with ((h | h) | h)
      · exact .inl h
      · rw [Nat.one_shiftLeft, Nat.testBit_two_pow] at h
        exact .inr ⟨p, List.mem_cons_self, .inl (of_decide_eq_true h)⟩
      · exact .inr ⟨p, List.mem_cons_self, .inr h⟩
    · exact .inr ⟨q, List.mem_cons_of_mem _ hq, h⟩
def drawOk (chk : List (Nat × Nat)) (os : List Oper) (ps : List POp) : Bool :=
  wfL ps && (List.range os.length).all fun i => match os[i]?, ps[i]? with
    | some o, some p => (preds o).all (fun q => decide (q < i)) && decide ((ancs os).getD i 0 = maskOf (ancs os) (preds o)) && (List.range i).all fun j => ((ancs os).getD i 0).testBit j || (match ps[j]? with | some x => comm chk x p | none => false)
    | _, _ => false
theorem drawOk_spec {chk : List (Nat × Nat)} {os : List Oper} {ps : List POp} (h : drawOk chk os ps = true) : wfL ps = true ∧ ∀ (i : Nat) o p, os[i]? = some o → ps[i]? = some p → (∀ q ∈ preds o, q < i) ∧ (ancs os).getD i 0 = maskOf (ancs os) (preds o) ∧ ∀ (j : Nat) x, j < i → ps[j]? = some x → ((ancs os).getD i 0).testBit j = true ∨ comm chk x p = true := by
  simp only [drawOk, Bool.and_eq_true, List.all_eq_true, List.mem_range] at h
  refine ⟨h.1, fun i o p ho hp => ?_⟩
  have := h.2 i (List.getElem?_eq_some_iff.1 ho).1
  rw [ho, hp] at this
  simp only [Bool.and_eq_true, List.all_eq_true, decide_eq_true_eq, List.mem_range, Bool.or_eq_true] at this
  refine ⟨this.1.1, this.1.2, fun j x hj hx => ?_⟩
  have := this.2 j hj
  rw [hx] at this
  exact this
section
variable {P : Program} {F : Fns} {f : Fr} {nt : Nat}
def DownC (ops : Array Oper) (listed : Array Bool) : Prop := ∀ (i : Nat) o, ops[i]? = some o → listed.getD i true = true → ∀ q ∈ preds o, listed.getD q false = true
theorem anc_listed {ops : Array Oper} {listed : Array Bool} (hd : DownC ops listed) (hM : ∀ (i : Nat) o, ops[i]? = some o → (∀ q ∈ preds o, q < i) ∧ (ancs ops.toList).getD i 0 = maskOf (ancs ops.toList) (preds o)) : ∀ (n i : Nat) o, i ≤ n → ops[i]? = some o → (∀ q ∈ preds o, listed.getD q false = true) → ∀ j, ((ancs ops.toList).getD i 0).testBit j = true → listed.getD j false = true := by
  intro n
  induction n with
  | zero =>
    intro i o hi ho hp j hj
    obtain ⟨h1, h2⟩ := hM i o ho
    rw [h2] at hj
    rcases maskOf_bit hj with h | ⟨p, hp', h⟩
    · simp at h
    · have := h1 p hp'; omega
  | succ n ih =>
    intro i o hi ho hp j hj
    obtain ⟨h1, h2⟩ := hM i o ho
    rw [h2] at hj
    rcases maskOf_bit hj with h | ⟨p, hp', h⟩
    · simp at h
    · rcases h with rfl | h
      · exact hp _ hp'
      · have hlt := h1 p hp'
        have hps : p < ops.size := Nat.lt_trans hlt (Array.getElem?_eq_some_iff.1 ho).1
        have hpo : ops[p]? = some ops[p] := Array.getElem?_eq_getElem hps
        refine ih p _ (by omega) hpo (fun q hq => hd p _ hpo ?_ q hq) j h
        have := hp p hp'
        rcases Nat.lt_or_ge p listed.size with h' | h'
        · simp [h'] at this ⊢; exact this
        · simp [h'] at this
def pick (ps : List POp) (l : List Nat) : List POp := l.map fun i => ps.getD i ⟨none, .mv (.c .junk), none⟩
theorem pick_sublist {ps : List POp} : ∀ {l : List Nat} (k : Nat), l.Sublist (List.range' k (ps.length - k)) → k ≤ ps.length → (pick ps l).Sublist (ps.drop k) := by
  intro l k h hk
  have : ps.drop k = pick ps (List.range' k (ps.length - k)) := by
    apply List.ext_getElem?
    intro i
    simp only [pick, List.getElem?_map, List.getElem?_drop, List.getElem?_range']
    by_cases hi : i < ps.length - k
    · simp [hi, List.getD_eq_getElem?_getD, List.getElem?_eq_getElem (show k + i < ps.length by omega)]
    · simp [hi, List.getElem?_eq_none (show ps.length ≤ k + i by omega)]
  rw [this]
  exact h.map _
theorem region_any {ops : Array Oper} {ps : List POp} {chk : List (Nat × Nat)} (hm : mposL P F f.tabs nt ops ops.toList ps = true) (hdr : drawOk chk ops.toList ps = true) {call : Call} (hc : CallsOk P F f.tabs call) (Q : Exit → Act → World → Prop) {stf : St} (hQ : ∀ a w, Sim f nt w stf a → Q .normal a w) (hchk : apartL stf.env chk = true) :
    ∀ (fuel : Nat) (rest : List Nat) (listed : Array Bool) (st : St) (a : Act) (w : World), rest.length = fuel → rest.Sublist (List.range ps.length) → listed.size = ops.size → (∀ i, i < ps.length → (i ∈ rest ↔ listed.getD i true = false)) → DownC ops listed → Sim f nt w st a → evs call (pick ps rest) st = some stf →
      wpAny P .any ops Q fuel listed a w := by
  obtain ⟨hl, hg⟩ := mposL_get hm
  obtain ⟨hwf, hok⟩ := drawOk_spec hdr
  have hsz : ops.size = ps.length := by rw [← hl]; simp
  have hgo : ∀ i, i < ps.length → ∃ o p, ops[i]? = some o ∧ ops.toList[i]? = some o ∧ ps[i]? = some p ∧ ps.getD i ⟨none, .mv (.c .junk), none⟩ = p ∧ mpo P F f.tabs nt ops o p = true := by
    intro i hi
    have h1 : ps[i]? = some ps[i] := List.getElem?_eq_getElem hi
    have h2 : i < ops.toList.length := by rw [hl]; exact hi
    have h3 : ops.toList[i]? = some ops.toList[i] := List.getElem?_eq_getElem h2
    exact ⟨_, _, by rw [← Array.getElem?_toList]; exact h3, h3, h1, by simp [hi], hg i _ _ h3 h1⟩
  have hM : ∀ (i : Nat) o, ops[i]? = some o → (∀ q ∈ preds o, q < i) ∧ (ancs ops.toList).getD i 0 = maskOf (ancs ops.toList) (preds o) := by
    intro i o ho
    have hi : i < ps.length := by rw [← hsz]; exact (Array.getElem?_eq_some_iff.1 ho).1
    obtain ⟨o', p, h1, h2, h3, h4, h5⟩ := hgo i hi
    rw [ho] at h1
    cases h1
    obtain ⟨a1, a2, a3⟩ := hok i o p h2 h3
    exact ⟨a1, a2⟩
  intro fuel
  induction fuel with
  | zero =>
    intro rest listed st a w hlen hsub hls hmem hdn hs hev
    have hnil : rest = [] := List.eq_nil_of_length_eq_zero hlen
    subst hnil
    cases hev
    refine ⟨?_, hQ a w hs⟩
    rw [List.eq_nil_iff_forall_not_mem]
    intro i hi
    obtain ⟨h0, o, ho, _⟩ := mem_ready.1 hi
    have hi' : i < ps.length := by rw [← hsz]; exact (Array.getElem?_eq_some_iff.1 ho).1
    have := (hmem i hi').2 h0
    cases this
  | succ fuel ih =>
    intro rest listed st a w hlen hsub hls hmem hdn hs hev
    refine ⟨fun hn => ?_, fun i hi => ?_⟩
    · -- the first that is left may come up
      exfalso
      cases rest with
      | nil => simp at hlen
      | cons i rest =>
        have hi' : i < ps.length := List.mem_range.1 (hsub.subset List.mem_cons_self)
        have h0 := (hmem i hi').1 List.mem_cons_self
        obtain ⟨o, p, h1, h2, h3, h4, h5⟩ := hgo i hi'
        have hord : ∀ q, q < i → q ∉ rest := by
          intro q hq hqr
          have hs2 : (i :: rest).Pairwise (· < ·) := List.Pairwise.sublist hsub List.pairwise_lt_range
          have := (List.pairwise_cons.1 hs2).1 q hqr
          omega
        have : i ∈ Region.ready .any ops listed := by
          refine mem_ready.2 ⟨h0, o, h1, fun e he hb => ?_⟩
          have hq : e.on ∈ preds o := List.mem_map.2 ⟨e, List.mem_filter.2 ⟨by simpa using he, hb⟩, rfl⟩
          have hlt := (hM i o h1).1 _ hq
          have hne : ¬ e.on ∈ i :: rest := by
            intro h
            rcases List.mem_cons.1 h with h | h
            · omega
            · exact hord _ hlt h
          have := fun h => hne ((hmem e.on (by omega)).2 h)
          have hls' : e.on < listed.size := by omega
          simp [hls'] at this ⊢
          exact this
        rw [hn] at this
        cases this
    · obtain ⟨h0, o, ho, hall⟩ := mem_ready.1 hi
      have hi' : i < ps.length := by rw [← hsz]; exact (Array.getElem?_eq_some_iff.1 ho).1
      obtain ⟨o', p, h1, h2, h3, h4, h5⟩ := hgo i hi'
      rw [ho] at h1
      cases h1
      have hpred : ∀ q ∈ preds o, listed.getD q false = true := by
        intro q hq
        obtain ⟨e, he, rfl⟩ := List.mem_map.1 hq
        obtain ⟨h6, h7⟩ := List.mem_filter.1 he
        exact hall e (by simpa using h6) h7
      obtain ⟨pre, post, rfl⟩ := List.append_of_mem ((hmem i hi').2 h0)
      have hpair : (pre ++ i :: post).Pairwise (· < ·) := List.Pairwise.sublist hsub List.pairwise_lt_range
      have hev2 : evs call (pick ps pre ++ p :: pick ps post) st = some stf := by
        have : pick ps (pre ++ i :: post) = pick ps pre ++ p :: pick ps post := by simp only [pick, List.map_append, List.map_cons, h4]
        rw [← this]; exact hev
      have hsub2 : (pick ps pre ++ p :: pick ps post).Sublist ps := by
        have : pick ps (pre ++ i :: post) = pick ps pre ++ p :: pick ps post := by simp only [pick, List.map_append, List.map_cons, h4]
        rw [← this]
        have := pick_sublist (ps := ps) (l := pre ++ i :: post) 0 (by rw [Nat.sub_zero, ← List.range_eq_range']; exact hsub) (Nat.zero_le _)
        simpa using this
      have hfront := move_front (f := f) (nt := nt) (call := call) (chk := chk) (y := p) (post := pick ps post) (pre := pick ps pre) (st := st) (stf := stf)
        (fun q hq s s' hr hv => by
          obtain ⟨j, hj, rfl⟩ := List.mem_map.1 hq
          have hj' : j < ps.length := List.mem_range.1 (hsub.subset (List.mem_append.2 (.inl hj)))
          obtain ⟨o2, p2, _, _, _, b4, b5⟩ := hgo j hj'
          rw [b4] at hv
          exact hr.step b5 hc hv)
        ⟨w, a, hs⟩ (wfL_sub hsub2 hwf)
        (fun x hx => by
          obtain ⟨j, hj, rfl⟩ := List.mem_map.1 hx
          have hj' : j < ps.length := List.mem_range.1 (hsub.subset (List.mem_append.2 (.inl hj)))
          have hji : j < i := (List.pairwise_append.1 hpair).2.2 j hj i List.mem_cons_self
          obtain ⟨o2, p2, _, _, b3, b4, b5⟩ := hgo j hj'
          rw [b4]
          rcases (hok i o p h2 h3).2.2 j p2 hji b3 with h | h
          · exfalso
            have h6 := anc_listed hdn hM i i o (Nat.le_refl _) ho hpred j h
            have h7 := (hmem j hj').1 (List.mem_append.2 (.inl hj))
            have hls' : j < listed.size := by omega
            simp [hls'] at h6 h7
            rw [h6] at h7
            cases h7
          · exact h)
        hchk hev2
      simp only [evs, Option.bind_eq_some_iff] at hfront
      obtain ⟨s1, h6, h7⟩ := hfront
      have hnext : ∀ a' w', Sim f nt w' s1 a' → wpAny P .any ops Q fuel (listed.setIfInBounds i true) a' w' := by
        intro a' w' hs'
        have hni : i ∉ pre ∧ i ∉ post := by
          obtain ⟨q1, q2, q3⟩ := List.pairwise_append.1 hpair
          refine ⟨fun h => ?_, fun h => ?_⟩
          · exact absurd (q3 i h i List.mem_cons_self) (Nat.lt_irrefl _)
          · exact absurd ((List.pairwise_cons.1 q2).1 i h) (Nat.lt_irrefl _)
        refine ih (pre ++ post) _ s1 a' w' ?_ (List.Sublist.trans ?_ hsub) (by simp [hls]) (fun j hj => ?_) (fun j oj hoj hlj q hq => ?_) hs' ?_
        · simp at hlen ⊢; omega
        · exact List.Sublist.append_left (List.sublist_cons_self _ _) _
        · by_cases hji : j = i
          · subst hji
            have : j < listed.size := by omega
            simp [this, hni]
          · rw [getD_set_ne true (fun h => hji h.symm), ← hmem j hj]
            simp [hji]
        · by_cases hji : j = i
          · subst hji
            rw [hoj] at ho
            cases ho
            exact getD_set_true (hpred q hq)
          · rw [getD_set_ne true (fun h => hji h.symm)] at hlj
            exact getD_set_true (hdn j oj hoj hlj q hq)
        · have : pick ps (pre ++ post) = pick ps pre ++ pick ps post := by simp only [pick, List.map_append]
          rw [this]; exact h7
      have := op_sim hs h5 hc h6 (wpAny P .any ops Q fuel (listed.setIfInBounds i true)) Q hnext
      unfold wpOp
      rw [ho]
      simp only
      split at this
      · rename_i hw; rw [if_pos hw]; exact .inl this
      · rename_i hw; rw [if_neg hw]; exact this
theorem Sim.old {w w' : World} {st : St} {a : Act} (h : Sim f nt w st a) (ho : Old w w') : Sim f nt w' st a := by
  obtain ⟨h1, h2, T, ρ, k, he⟩ := h
  exact ⟨h1, h2, T, ρ, k.old ho, he.goes (Goes.old ho)⟩
theorem region_draw {ops : Array Oper} {ps : List POp} {chk : List (Nat × Nat)} {id : Nat} (hmo : P.follows .mixedOrders = true) (hm : mposL P F f.tabs nt ops ops.toList ps = true) (hdr : drawOk chk ops.toList ps = true) {call : Call} (hc : CallsOk P F f.tabs call) (Q : Exit → Act → World → Prop) {st stf : St} {w : World} {a : Act}
    (hQ : ∀ a w, Sim f nt w stf a → Q .normal a w) (hchk : apartL stf.env chk = true) (hs : Sim f nt w st a) (hv : evs call ps st = some stf) : (Code.region id ops true).wp P Q a w := by
  have hl := (mposL_get hm).1
  have hsz : ops.size = ps.length := by rw [← hl]; simp
  refine wp_region_any hmo ?_
  refine region_any hm hdr hc Q hQ hchk ops.size (List.range ps.length) _ st a _ (by simp [hsz]) (List.Sublist.refl _) (by simp) (fun i hi => ?_) (fun i o ho hl q hq => ?_) (hs.old (Old.drew w)) ?_
  · have : i < ops.size := by omega
    simp [hi, this]
  · have : i < ops.size := (Array.getElem?_eq_some_iff.1 ho).1
    simp [this] at hl
  · have : pick ps (List.range ps.length) = ps := by
      apply List.ext_getElem?
      intro i
      simp only [pick, List.getElem?_map]
      by_cases hi : i < ps.length
      · simp [hi]
      · simp [hi, List.getElem?_eq_none (show ps.length ≤ i by omega)]
    rw [this]; exact hv
end
end Go.Pe
set_option linter.unusedVariables false
set_option linter.unusedSimpArgs false
namespace Go.Pe
open Go
def opIs (o : Oper) (d : Nat) (g : Option (Nat × Bool)) : Bool := decide (o.dst = some d) && decide (o.guard = g)
def oMv (o : Oper) (d s : Nat) (g : Option (Nat × Bool)) : Bool := opIs o d g && (match o.op with | .move (.tmp k) | .assign (.tmp k) => k == s | _ => false)
def oRange (P : Program) (o : Oper) (d s : Nat) : Bool := opIs o d none && (match o.op with | .range t (.tmp k) => k == s && (match P.underlying t with | some .string => true | _ => false) | _ => false)
def oNext (o : Oper) (d s : Nat) : Bool := opIs o d none && (match o.op with | .next (.tmp k) true => k == s | _ => false)
def oExt (o : Oper) (d s n : Nat) : Bool := opIs o d none && (match o.op with | .extract (.tmp k) m => k == s && m == n | _ => false)
def oBin (o : Oper) (b : BinOp) (d s : Nat) (n : Int) (g : Option (Nat × Bool)) : Bool := opIs o d g && (match o.op with | .binOp b' _ (.tmp k) (.const (.int .i32 m)) _ => decide (b' = b) && k == s && decide (m = n) | _ => false)
def oPick (o : Oper) (d c s : Nat) : Bool := opIs o d none && (match o.op with | .pick (.tmp k) (.const (.bool true)) (.tmp m) => k == c && m == s | _ => false)
def digO (P : Program) : List Oper → List Oper → List Oper → List Oper → Bool
  | [p1, p2], [q1, q2], [r1, r2], [s1, s2, s3, s4, s5, s6] => oMv p1 13 0 none && oRange P p2 14 13 && oNext q1 15 14 && oExt q2 16 15 0 && oExt r1 17 15 2 && oMv r2 5 17 none
    && oMv s1 18 5 none && oBin s2 .lss 19 18 48 none && oMv s3 20 19 none && oMv s4 21 5 (some (2, false)) && oBin s5 .gtr 22 21 57 (some (2, false)) && oPick s6 23 20 22
  | _, _, _, _ => false
def digM (P : Program) : Code → Option Code
  | .seq (.region _ o3 false) (.block b0 (.loop (.seq (.region _ o4 false) (.seq (.cond (.tmp 16) .skip (.exit b1)) (.block _ (.seq (.region _ o5 false) (.seq (.region _ o6 false) (.cond (.tmp 23) y .skip)))))))) =>
    if b0 == b1 && digO P o3.toList o4.toList o5.toList o6.toList then some y else none
  | _ => none
section
variable {P : Program} {a : Act} {w : World}
theorem opIs_spec {o : Oper} {d : Nat} {g : Option (Nat × Bool)} (h : opIs o d g = true) : o.dst = some d ∧ o.guard = g := by simpa [opIs] using h
theorem oMv_run {o : Oper} {d s : Nat} {g : Option (Nat × Bool)} (h : oMv o d s g = true) : (o.dst = some d ∧ o.guard = g) ∧ ∀ (a : Act) (w : World), (execOp a.eval o).run P w = .ok (.value (a.tmps.getD s undef)) w := by
  simp only [oMv, Bool.and_eq_true] at h
  refine ⟨opIs_spec h.1, fun a w => ?_⟩
  have h2 := h.2
  split at h2
  · rename_i k ho; simp only [beq_iff_eq] at h2; subst h2; simp [execOp, ho, Act.eval]
  · rename_i k ho; simp only [beq_iff_eq] at h2; subst h2; simp [execOp, ho, Act.eval]
  · cases h2
theorem oRange_run {o : Oper} {d s : Nat} (h : oRange P o d s = true) : (o.dst = some d ∧ o.guard = none) ∧ ∀ (a : Act) (w : World) (x : ByteArray), a.tmps.getD s undef = .string x → (execOp a.eval o).run P w = .ok (.value (.pointer (some ⟨w.heap.size, 0, none⟩))) (w.iter x 0) := by
  simp only [oRange, Bool.and_eq_true] at h
  refine ⟨opIs_spec h.1, fun a w x hx => ?_⟩
  have h2 := h.2
  split at h2
  · rename_i t k ho
    simp only [Bool.and_eq_true, beq_iff_eq] at h2
    obtain ⟨rfl, h2⟩ := h2
    split at h2
    · rename_i hu
      have hx' : a.eval (.tmp k) = .string x := hx
      simp only [execOp, ho, hx', Sem.run_bind, run_range_string w t x hu, Result.andThen_ok, Sem.run_pure]
    · cases h2
  · cases h2
theorem oNext_run {o : Oper} {d s : Nat} (h : oNext o d s = true) : (o.dst = some d ∧ o.guard = none) ∧ ∀ (a : Act) (w : World) (x : ByteArray) (pos : Nat), a.tmps.getD s undef = .pointer (some ⟨w.heap.size, 0, none⟩) →
    (∀ hp : pos < x.size, (execOp a.eval o).run P (w.iter x pos) = .ok (.value (.tuple #[.bool true, .int .i64 pos, .int .i32 (Utf8.decode x pos).1])) (w.iter x (pos + (Utf8.decode x pos).2))) ∧ (¬ pos < x.size → (execOp a.eval o).run P (w.iter x pos) = .ok (.value (.tuple #[.bool false])) (w.iter x pos)) := by
  simp only [oNext, Bool.and_eq_true] at h
  refine ⟨opIs_spec h.1, fun a w x pos hx => ?_⟩
  have h2 := h.2
  split at h2
  · rename_i k ho
    simp only [beq_iff_eq] at h2
    subst h2
    have hx' : a.eval (.tmp k) = .pointer (some ⟨w.heap.size, 0, none⟩) := hx
    refine ⟨fun hp => ?_, fun hp => ?_⟩
    · simp only [execOp, ho, hx', Sem.run_bind, run_next_any w x pos _ hp, Result.andThen_ok, Sem.run_pure]
    · simp only [execOp, ho, hx', Sem.run_bind, run_next_end w x pos _ hp, Result.andThen_ok, Sem.run_pure]
  · cases h2
theorem oExt_run {o : Oper} {d s n : Nat} (h : oExt o d s n = true) : (o.dst = some d ∧ o.guard = none) ∧ ∀ (a : Act) (w : World) (vs : Array Value) (v : Value), a.tmps.getD s undef = .tuple vs → vs[n]? = some v → (execOp a.eval o).run P w = .ok (.value v) w := by
  simp only [oExt, Bool.and_eq_true] at h
  refine ⟨opIs_spec h.1, fun a w vs v hx hv => ?_⟩
  have h2 := h.2
  split at h2
  · rename_i k m ho
    simp only [Bool.and_eq_true, beq_iff_eq] at h2
    obtain ⟨rfl, rfl⟩ := h2
    have hx' : a.eval (.tmp k) = .tuple vs := hx
    simp [execOp, ho, hx', Instr.extract, hv]
  · cases h2
theorem oBin_run {o : Oper} {b : BinOp} {d s : Nat} {n : Int} {g : Option (Nat × Bool)} (h : oBin o b d s n g = true) : (o.dst = some d ∧ o.guard = g) ∧ ∀ (a : Act) (w : World) (c : Int), a.tmps.getD s undef = .int .i32 c →
    (b = .lss → (execOp a.eval o).run P w = .ok (.value (.bool (decide (c < n)))) w) ∧ (b = .gtr → (execOp a.eval o).run P w = .ok (.value (.bool (decide (n < c)))) w) := by
  simp only [oBin, Bool.and_eq_true] at h
  refine ⟨opIs_spec h.1, fun a w c hx => ?_⟩
  have h2 := h.2
  split at h2
  · rename_i b' t k m t' ho
    simp only [Bool.and_eq_true, beq_iff_eq, decide_eq_true_eq] at h2
    obtain ⟨⟨rfl, rfl⟩, rfl⟩ := h2
    have hx' : a.eval (.tmp k) = .int .i32 c := hx
    have e2 : a.eval (.const (.int .i32 m)) = .int .i32 m := rfl
    refine ⟨fun hb => ?_, fun hb => ?_⟩
    · subst hb
      obtain ⟨v, h3, h4⟩ := run_binI (P := P) (w := w) (T := fun _ => False) (ρ := Rho.none) (t := t) (op := .lss) (q := .i32) (x := c) (y := m) rfl ⟨by decide, by decide⟩
      rw [inv_b h4] at h3
      simp only [execOp, ho, hx', e2, eqG, Sem.run_bind, Sem.run_pure, Result.andThen_ok, h3]
    · subst hb
      obtain ⟨v, h3, h4⟩ := run_binI (P := P) (w := w) (T := fun _ => False) (ρ := Rho.none) (t := t) (op := .gtr) (q := .i32) (x := c) (y := m) rfl ⟨by decide, by decide⟩
      rw [inv_b h4] at h3
      simp only [execOp, ho, hx', e2, eqG, Sem.run_bind, Sem.run_pure, Result.andThen_ok, h3]
  · cases h2
theorem oPick_run {o : Oper} {d c s : Nat} (h : oPick o d c s = true) : (o.dst = some d ∧ o.guard = none) ∧ ∀ (a : Act) (w : World) (z : Bool), a.tmps.getD c undef = .bool z → (execOp a.eval o).run P w = .ok (.value (if z then .bool true else a.tmps.getD s undef)) w := by
  simp only [oPick, Bool.and_eq_true] at h
  refine ⟨opIs_spec h.1, fun a w z hx => ?_⟩
  have h2 := h.2
  split at h2
  · rename_i k m ho
    simp only [Bool.and_eq_true, beq_iff_eq] at h2
    obtain ⟨rfl, rfl⟩ := h2
    have hx' : a.eval (.tmp k) = .bool z := hx
    simp only [execOp, ho, hx', asBool]
    cases z <;> simp [Act.eval]
  · cases h2
variable {ops : Array Oper} {Q : Exit → Act → World → Prop} {i : Nat} {rest : List Nat} {o : Oper} {v : Value} {w' : World}
theorem ops1 (ho : ops[i]? = some o) {d : Nat} (hd : o.dst = some d ∧ o.guard = none) (hr : (execOp a.eval o).run P w = .ok (.value v) w') (h : wpOps P ops Q rest (a.put (some d) v) w') : wpOps P ops Q (i :: rest) a w := by
  simp only [wpOps, ho, Region.wanted, hd.2, if_true]
  refine .inl ?_
  unfold Oper.wp
  rw [hr]
  show wpOps P ops Q rest (a.put o.dst v) w'
  rw [hd.1]
  exact h
theorem yield_at {g d : Nat} {z : Bool} (hg : (ops[g]?).bind (·.dst) = some d) (hz : a.tmps.getD d undef = .bool z) : yielded ops a.tmps g = some z := by
  unfold yielded
  rw [hg]
  show (match (some d).bind (fun x => a.tmps[x]?) with | some (.bool b) => some b | _ => none) = some z
  have : a.tmps[d]? = some (.bool z) := by
    cases hx : a.tmps[d]? with
    | none => simp [hx, undef] at hz
    | some y => simp [hx] at hz; rw [hz]
  simp only [Option.bind_some, this]
theorem ops2 (ho : ops[i]? = some o) {d g : Nat} {q : Bool} (hd : o.dst = some d ∧ o.guard = some (g, q)) (hy : yielded ops a.tmps g = some q) (hr : (execOp a.eval o).run P w = .ok (.value v) w') (h : wpOps P ops Q rest (a.put (some d) v) w') : wpOps P ops Q (i :: rest) a w := by
  simp only [wpOps, ho, Region.wanted, hd.2, hy, beq_self_eq_true, if_true]
  refine .inl ?_
  unfold Oper.wp
  rw [hr]
  show wpOps P ops Q rest (a.put o.dst v) w'
  rw [hd.1]
  exact h
theorem ops3 (ho : ops[i]? = some o) {d g : Nat} {q z : Bool} (hd : o.dst = some d ∧ o.guard = some (g, q)) (hy : yielded ops a.tmps g = some z) (hz : z ≠ q) (h : wpOps P ops Q rest (a.put (some d) undef) w) : wpOps P ops Q (i :: rest) a w := by
  have : (some z == some q) = false := by simpa using hz
  simp only [wpOps, ho, Region.wanted, hd.2, hy, this, Bool.false_eq_true, if_false, hd.1]
  exact h
theorem put_at {d t : Nat} (hd : d < a.tmps.size) : (a.put (some d) v).tmps.getD t undef = if t = d then v else a.tmps.getD t undef := by
  show (a.tmps.setIfInBounds d v).getD t undef = _
  by_cases h : t = d
  · subst h; simp [hd]
  · have h2 : ¬ d = t := fun e => h e.symm
    simp [Array.getElem?_setIfInBounds, h2, h]
def AE (a a' : Act) : Prop := a'.tmps.size = a.tmps.size ∧ a'.defers = a.defers ∧ ∀ t, t ∉ digT → a'.tmps.getD t undef = a.tmps.getD t undef
theorem AE.refl (a : Act) : AE a a := ⟨rfl, rfl, fun _ _ => rfl⟩
theorem AE.put {a' : Act} (h : AE a a') (hs : 24 ≤ a.tmps.size) {d : Nat} (hd : d ∈ digT) (v : Value) : AE a (a'.put (some d) v) := by
  have hlt : d < a'.tmps.size := by
    rw [h.1]
    have : ∀ x ∈ digT, x < 24 := by decide
    exact Nat.lt_of_lt_of_le (this d hd) hs
  refine ⟨by rw [← h.1]; simp [Act.put], h.2.1, fun t ht => ?_⟩
  have hne : ¬ t = d := by
    intro e
    subst e
    exact ht hd
  rw [put_at hlt, if_neg hne, h.2.2 t ht]
theorem digit_of (s : ByteArray) (pos : Nat) (h : pos < s.size) : (48 ≤ (Utf8.decode s pos).1 ∧ (Utf8.decode s pos).1 ≤ 57 → (Utf8.decode s pos).2 = 1 ∧ 48 ≤ (s[pos]'h).toNat ∧ (s[pos]'h).toNat ≤ 57) ∧ (¬ (48 ≤ (Utf8.decode s pos).1 ∧ (Utf8.decode s pos).1 ≤ 57) → ¬ (48 ≤ (s[pos]'h).toNat ∧ (s[pos]'h).toNat ≤ 57)) := by
  rcases Nat.lt_or_ge (s[pos]'h).toNat 128 with h1 | h1
  · rw [decode_ascii s pos h h1]
    exact ⟨fun g => ⟨rfl, g⟩, fun g => g⟩
  · have := decode_high s pos h h1
    exact ⟨fun g => by omega, fun g => by omega⟩
theorem digsB_iff (s : ByteArray) : digsB s = true ↔ ∀ i (h : i < s.size), 48 ≤ (s[i]'h).toNat ∧ (s[i]'h).toNat ≤ 57 := by
  unfold digsB
  simp only [List.all_eq_true, Bool.and_eq_true, decide_eq_true_eq]
  constructor
  · intro h i hi
    exact h _ (by
      have : i < s.data.toList.length := by rw [Array.length_toList]; exact hi
      have := List.getElem_mem this
      rwa [Array.getElem_toList] at this)
  · intro h b hb
    obtain ⟨i, hi, rfl⟩ := List.getElem_of_mem hb
    rw [Array.getElem_toList]
    exact h i (by rw [Array.length_toList] at hi; exact hi)
theorem arrL {α : Type} {x : Array α} {l : List α} (h : x.toList = l) : x = l.toArray := by subst h; simp
theorem old_iter (w : World) (s : ByteArray) (pos : Nat) : Old w (w.iter s pos) := Old.alloc w _
theorem digs_wp {c y : Code} (hm : digM P c = some y) {s : ByteArray} (hx : a.tmps.getD 0 undef = .string s) (hs : 24 ≤ a.tmps.size) {Q : Exit → Act → World → Prop}
    (h1 : digsB s = true → ∀ a' w', Old w w' → AE a a' → Q .normal a' w')
    (h2 : digsB s = false → ∀ a' w', Old w w' → AE a a' → y.wp P (fun e a w => e = .ret ∧ Q .ret a w) a' w') : c.wp P Q a w := by
  unfold digM at hm
  split at hm
  · rename_i i3 o3 b0 i4 o4 b1 ib i5 o5 i6 o6 y'
    split at hm
    · rename_i hd
      cases hm
      simp only [Bool.and_eq_true, beq_iff_eq] at hd
      obtain ⟨rfl, hd⟩ := hd
      unfold digO at hd
      split at hd
      · rename_i p1 p2 q1 q2 r1 r2 s1 s2 s3 s4 s5 s6 e3 e4 e5 e6
        simp only [Bool.and_eq_true] at hd
        obtain ⟨⟨⟨⟨⟨⟨⟨⟨⟨⟨⟨m1, m2⟩, m3⟩, m4⟩, m5⟩, m6⟩, m7⟩, m8⟩, m9⟩, m10⟩, m11⟩, m12⟩ := hd
        have m1 := oMv_run (P := P) m1
        have m2 := oRange_run m2
        have m3 := oNext_run (P := P) m3
        have m4 := oExt_run (P := P) m4
        have m5 := oExt_run (P := P) m5
        have m6 := oMv_run (P := P) m6
        have m7 := oMv_run (P := P) m7
        have m8 := oBin_run (P := P) m8
        have m9 := oMv_run (P := P) m9
        have m10 := oMv_run (P := P) m10
        have m11 := oBin_run (P := P) m11
        have m12 := oPick_run (P := P) m12
        have e3 := arrL e3
        have e4 := arrL e4
        have e5 := arrL e5
        have e6 := arrL e6
        subst e3 e4 e5 e6
        have lt : ∀ {a' : Act} (h : AE a a') (d : Nat), d < 24 → d < a'.tmps.size := fun h d hd => by rw [h.1]; exact Nat.lt_of_lt_of_le hd hs
        have aA := (AE.refl a).put hs (show 13 ∈ digT by decide) (.string s)
        have aB := aA.put hs (show 14 ∈ digT by decide) (.pointer (some ⟨w.heap.size, 0, none⟩))
        refine wp_seq (wp_region ?_)
        show wpOps P [p1, p2].toArray _ [0, 1] a w
        refine ops1 rfl m1.1 (m1.2 a w) ?_
        rw [hx]
        refine ops1 rfl m2.1 (m2.2 _ w s ?_) ?_
        · rw [put_at (lt (AE.refl a) 13 (by decide)), if_pos rfl]
        simp only [wpOps]
        refine wp_block ?_
        refine wp_loop_ghost (fun j a' w' => ∃ pos, j + pos = s.size ∧ w' = w.iter s pos ∧ AE a a' ∧ a'.tmps.getD 14 undef = .pointer (some ⟨w.heap.size, 0, none⟩) ∧ ∀ i (h : i < s.size), i < pos → 48 ≤ (s[i]'h).toNat ∧ (s[i]'h).toNat ≤ 57) s.size
          ⟨0, rfl, rfl, aB, by rw [put_at (lt aA 14 (by decide)), if_pos rfl], fun i h hi => by omega⟩ ?_
        rintro j a' w' ⟨pos, hj, rfl, hae, h14, hdig⟩
        refine wp_seq (wp_region ?_)
        show wpOps P [q1, q2].toArray _ [0, 1] a' _
        by_cases hp : pos < s.size
        · refine ops1 rfl m3.1 ((m3.2 a' w s pos h14).1 hp) ?_
          have a1 := hae.put hs (show 15 ∈ digT by decide) (.tuple #[.bool true, .int .i64 pos, .int .i32 (Utf8.decode s pos).1])
          have g15 : (a'.put (some 15) (.tuple #[.bool true, .int .i64 pos, .int .i32 (Utf8.decode s pos).1])).tmps.getD 15 undef = .tuple #[.bool true, .int .i64 pos, .int .i32 (Utf8.decode s pos).1] := by rw [put_at (lt hae 15 (by decide)), if_pos rfl]
          have g14 : (a'.put (some 15) (.tuple #[.bool true, .int .i64 pos, .int .i32 (Utf8.decode s pos).1])).tmps.getD 14 undef = .pointer (some ⟨w.heap.size, 0, none⟩) := by rw [put_at (lt hae 15 (by decide)), if_neg (by decide), h14]
          generalize a'.put (some 15) (.tuple #[.bool true, .int .i64 pos, .int .i32 (Utf8.decode s pos).1]) = b1 at a1 g15 g14
          refine ops1 rfl m4.1 (m4.2 _ _ _ (.bool true) g15 rfl) ?_
          have a2 := a1.put hs (show 16 ∈ digT by decide) (.bool true)
          have k15 : (b1.put (some 16) (.bool true)).tmps.getD 15 undef = .tuple #[.bool true, .int .i64 pos, .int .i32 (Utf8.decode s pos).1] := by rw [put_at (lt a1 16 (by decide)), if_neg (by decide), g15]
          have k14 : (b1.put (some 16) (.bool true)).tmps.getD 14 undef = .pointer (some ⟨w.heap.size, 0, none⟩) := by rw [put_at (lt a1 16 (by decide)), if_neg (by decide), g14]
          have k16 : (b1.put (some 16) (.bool true)).tmps.getD 16 undef = .bool true := by rw [put_at (lt a1 16 (by decide)), if_pos rfl]
          generalize b1.put (some 16) (.bool true) = b2 at a2 k15 k14 k16
          simp only [wpOps]
          refine wp_seq (wp_cond (show Act.eval b2 (.tmp 16) = .bool true from k16) (wp_skip ?_))
          refine wp_block ?_
          refine wp_seq (wp_region ?_)
          show wpOps P [r1, r2].toArray _ [0, 1] b2 _
          refine ops1 rfl m5.1 (m5.2 _ _ _ (.int .i32 (Utf8.decode s pos).1) k15 rfl) ?_
          have a3 := a2.put hs (show 17 ∈ digT by decide) (.int .i32 (Utf8.decode s pos).1)
          have l17 : (b2.put (some 17) (.int .i32 (Utf8.decode s pos).1)).tmps.getD 17 undef = .int .i32 (Utf8.decode s pos).1 := by rw [put_at (lt a2 17 (by decide)), if_pos rfl]
          have l14 : (b2.put (some 17) (.int .i32 (Utf8.decode s pos).1)).tmps.getD 14 undef = .pointer (some ⟨w.heap.size, 0, none⟩) := by rw [put_at (lt a2 17 (by decide)), if_neg (by decide), k14]
          generalize b2.put (some 17) (.int .i32 (Utf8.decode s pos).1) = b3 at a3 l17 l14
          refine ops1 rfl m6.1 (m6.2 _ _) ?_
          rw [l17]
          have a4 := a3.put hs (show 5 ∈ digT by decide) (.int .i32 (Utf8.decode s pos).1)
          have n5 : (b3.put (some 5) (.int .i32 (Utf8.decode s pos).1)).tmps.getD 5 undef = .int .i32 (Utf8.decode s pos).1 := by rw [put_at (lt a3 5 (by decide)), if_pos rfl]
          have n14 : (b3.put (some 5) (.int .i32 (Utf8.decode s pos).1)).tmps.getD 14 undef = .pointer (some ⟨w.heap.size, 0, none⟩) := by rw [put_at (lt a3 5 (by decide)), if_neg (by decide), l14]
          generalize b3.put (some 5) (.int .i32 (Utf8.decode s pos).1) = b4 at a4 n5 n14
          simp only [wpOps]
          refine wp_seq (wp_region ?_)
          show wpOps P [s1, s2, s3, s4, s5, s6].toArray _ [0, 1, 2, 3, 4, 5] b4 _
          refine ops1 rfl m7.1 (m7.2 _ _) ?_
          rw [n5]
          have a5 := a4.put hs (show 18 ∈ digT by decide) (.int .i32 (Utf8.decode s pos).1)
          have q5 : (b4.put (some 18) (.int .i32 (Utf8.decode s pos).1)).tmps.getD 5 undef = .int .i32 (Utf8.decode s pos).1 := by rw [put_at (lt a4 18 (by decide)), if_neg (by decide), n5]
          have q18 : (b4.put (some 18) (.int .i32 (Utf8.decode s pos).1)).tmps.getD 18 undef = .int .i32 (Utf8.decode s pos).1 := by rw [put_at (lt a4 18 (by decide)), if_pos rfl]
          have q14 : (b4.put (some 18) (.int .i32 (Utf8.decode s pos).1)).tmps.getD 14 undef = .pointer (some ⟨w.heap.size, 0, none⟩) := by rw [put_at (lt a4 18 (by decide)), if_neg (by decide), n14]
          generalize b4.put (some 18) (.int .i32 (Utf8.decode s pos).1) = b5 at a5 q5 q18 q14
          refine ops1 rfl m8.1 ((m8.2 _ _ _ q18).1 rfl) ?_
          generalize hz : decide (((Utf8.decode s pos).1 : Int) < 48) = z
          have a6 := a5.put hs (show 19 ∈ digT by decide) (.bool z)
          have t5 : (b5.put (some 19) (.bool z)).tmps.getD 5 undef = .int .i32 (Utf8.decode s pos).1 := by rw [put_at (lt a5 19 (by decide)), if_neg (by decide), q5]
          have t19 : (b5.put (some 19) (.bool z)).tmps.getD 19 undef = .bool z := by rw [put_at (lt a5 19 (by decide)), if_pos rfl]
          have t14 : (b5.put (some 19) (.bool z)).tmps.getD 14 undef = .pointer (some ⟨w.heap.size, 0, none⟩) := by rw [put_at (lt a5 19 (by decide)), if_neg (by decide), q14]
          generalize b5.put (some 19) (.bool z) = b6 at a6 t5 t19 t14
          refine ops1 rfl m9.1 (m9.2 _ _) ?_
          rw [t19]
          have a7 := a6.put hs (show 20 ∈ digT by decide) (.bool z)
          have u5 : (b6.put (some 20) (.bool z)).tmps.getD 5 undef = .int .i32 (Utf8.decode s pos).1 := by rw [put_at (lt a6 20 (by decide)), if_neg (by decide), t5]
          have u20 : (b6.put (some 20) (.bool z)).tmps.getD 20 undef = .bool z := by rw [put_at (lt a6 20 (by decide)), if_pos rfl]
          have u14 : (b6.put (some 20) (.bool z)).tmps.getD 14 undef = .pointer (some ⟨w.heap.size, 0, none⟩) := by rw [put_at (lt a6 20 (by decide)), if_neg (by decide), t14]
          generalize b6.put (some 20) (.bool z) = b7 at a7 u5 u20 u14
          have hdst : ([s1, s2, s3, s4, s5, s6].toArray[2]?).bind (·.dst) = some 20 := m9.1.1
          have hc48 := hz
          have nodig : ¬ (48 ≤ (Utf8.decode s pos).1 ∧ (Utf8.decode s pos).1 ≤ 57) → digsB s = false := by
            intro hn
            cases hb : digsB s with
            | false => rfl
            | true => exact absurd ((digsB_iff s).1 hb pos hp) ((digit_of s pos hp).2 hn)
          cases z with
          | true =>
            refine ops3 (z := true) rfl m10.1 (yield_at hdst u20) (by decide) ?_
            have a8 := a7.put hs (show 21 ∈ digT by decide) undef
            have v20 : (b7.put (some 21) undef).tmps.getD 20 undef = .bool true := by rw [put_at (lt a7 21 (by decide)), if_neg (by decide), u20]
            generalize b7.put (some 21) undef = b8 at a8 v20
            refine ops3 (z := true) rfl m11.1 (yield_at hdst v20) (by decide) ?_
            have a9 := a8.put hs (show 22 ∈ digT by decide) undef
            have x20 : (b8.put (some 22) undef).tmps.getD 20 undef = .bool true := by rw [put_at (lt a8 22 (by decide)), if_neg (by decide), v20]
            generalize b8.put (some 22) undef = b9 at a9 x20
            refine ops1 rfl m12.1 (m12.2 _ _ _ x20) ?_
            simp only [if_true]
            have a10 := a9.put hs (show 23 ∈ digT by decide) (.bool true)
            have y23 : (b9.put (some 23) (.bool true)).tmps.getD 23 undef = .bool true := by rw [put_at (lt a9 23 (by decide)), if_pos rfl]
            generalize b9.put (some 23) (.bool true) = b10 at a10 y23
            simp only [wpOps]
            refine wp_cond (show Act.eval b10 (.tmp 23) = .bool true from y23) ?_
            show y.wp P _ _ _
            refine wp_mono (h2 (nodig (by have := of_decide_eq_true hc48; omega)) _ _ (old_iter w s _) a10) ?_
            rintro e a3 w3 ⟨rfl, hq⟩
            exact hq
          | false =>
            have hlow : 48 ≤ (Utf8.decode s pos).1 := by have := of_decide_eq_false hc48; omega
            refine ops2 rfl m10.1 (yield_at hdst u20) (m10.2 _ _) ?_
            rw [u5]
            have a8 := a7.put hs (show 21 ∈ digT by decide) (.int .i32 (Utf8.decode s pos).1)
            have v20 : (b7.put (some 21) (.int .i32 (Utf8.decode s pos).1)).tmps.getD 20 undef = .bool false := by rw [put_at (lt a7 21 (by decide)), if_neg (by decide), u20]
            have v21 : (b7.put (some 21) (.int .i32 (Utf8.decode s pos).1)).tmps.getD 21 undef = .int .i32 (Utf8.decode s pos).1 := by rw [put_at (lt a7 21 (by decide)), if_pos rfl]
            have v14 : (b7.put (some 21) (.int .i32 (Utf8.decode s pos).1)).tmps.getD 14 undef = .pointer (some ⟨w.heap.size, 0, none⟩) := by rw [put_at (lt a7 21 (by decide)), if_neg (by decide), u14]
            generalize b7.put (some 21) (.int .i32 (Utf8.decode s pos).1) = b8 at a8 v20 v21 v14
            refine ops2 rfl m11.1 (yield_at hdst v20) ((m11.2 _ _ _ v21).2 rfl) ?_
            generalize hz2 : decide (57 < ((Utf8.decode s pos).1 : Int)) = z2
            have a9 := a8.put hs (show 22 ∈ digT by decide) (.bool z2)
            have x20 : (b8.put (some 22) (.bool z2)).tmps.getD 20 undef = .bool false := by rw [put_at (lt a8 22 (by decide)), if_neg (by decide), v20]
            have x22 : (b8.put (some 22) (.bool z2)).tmps.getD 22 undef = .bool z2 := by rw [put_at (lt a8 22 (by decide)), if_pos rfl]
            have x14 : (b8.put (some 22) (.bool z2)).tmps.getD 14 undef = .pointer (some ⟨w.heap.size, 0, none⟩) := by rw [put_at (lt a8 22 (by decide)), if_neg (by decide), v14]
            generalize b8.put (some 22) (.bool z2) = b9 at a9 x20 x22 x14
            refine ops1 rfl m12.1 (m12.2 _ _ _ x20) ?_
            simp only [Bool.false_eq_true, if_false]
            rw [x22]
            have a10 := a9.put hs (show 23 ∈ digT by decide) (.bool z2)
            have y23 : (b9.put (some 23) (.bool z2)).tmps.getD 23 undef = .bool z2 := by rw [put_at (lt a9 23 (by decide)), if_pos rfl]
            have y14 : (b9.put (some 23) (.bool z2)).tmps.getD 14 undef = .pointer (some ⟨w.heap.size, 0, none⟩) := by rw [put_at (lt a9 23 (by decide)), if_neg (by decide), x14]
            generalize b9.put (some 23) (.bool z2) = b10 at a10 y23 y14
            simp only [wpOps]
            refine wp_cond (show Act.eval b10 (.tmp 23) = .bool z2 from y23) ?_
            cases z2 with
            | true =>
              have hc2 := of_decide_eq_true hz2
              show y.wp P _ _ _
              refine wp_mono (h2 (nodig (by omega)) _ _ (old_iter w s _) a10) ?_
              rintro e a3 w3 ⟨rfl, hq⟩
              exact hq
            | false =>
              have hc2 := of_decide_eq_false hz2
              have hdg := (digit_of s pos hp).1 ⟨hlow, by omega⟩
              show (Code.skip).wp P _ _ _
              refine wp_skip ?_
              refine ⟨j - 1, by omega, pos + 1, by omega, by rw [hdg.1], a10, y14, fun i h hi => ?_⟩
              rcases Nat.lt_or_ge i pos with h3 | h3
              · exact hdig i h h3
              · have : i = pos := by omega
                subst this
                exact hdg.2
        · refine ops1 rfl m3.1 ((m3.2 a' w s pos h14).2 hp) ?_
          have a1 := hae.put hs (show 15 ∈ digT by decide) (.tuple #[.bool false])
          refine ops1 rfl m4.1 (m4.2 _ _ _ (.bool false) (by rw [put_at (lt hae 15 (by decide)), if_pos rfl]) rfl) ?_
          have a2 := a1.put hs (show 16 ∈ digT by decide) (.bool false)
          have k16 := put_at (a := a'.put (some 15) (.tuple #[.bool false])) (v := .bool false) (d := 16) (t := 16) (lt a1 16 (by decide))
          rw [if_pos rfl] at k16
          simp only [wpOps]
          refine wp_seq (wp_cond (show Act.eval _ (.tmp 16) = .bool false from k16) (wp_exit ?_))
          have hall : digsB s = true := (digsB_iff s).2 fun i h => hdig i h (by omega)
          show if b0 = b0 then Q .normal _ _ else _
          rw [if_pos rfl]
          exact h1 hall _ _ (old_iter w s _) a2
      · cases hd
    · cases hm
  · cases hm
end
end Go.Pe
set_option linter.unusedVariables false
set_option linter.unusedSimpArgs false
namespace Go.Pe
open Go
def nodB : List Nat → Bool
  | [] => true
  | x :: l => !l.contains x && nodB l
theorem nodB_spec : ∀ {l : List Nat}, nodB l = true → l.Nodup
  | [], _ => List.nodup_nil
  | x :: l, h => by
    simp only [nodB, Bool.and_eq_true, Bool.not_eq_true', List.contains_eq_mem, decide_eq_false_iff_not] at h
    exact List.nodup_cons.2 ⟨h.1, nodB_spec h.2⟩
def listOk (lids : List Nat) (l : List (Nat × Nat)) : Bool := okL lids [] l && nodB (l.map idOf)
def toExit : Ex → Exit
  | .normal => .normal
  | .exit i => .exit i
  | .ret => .ret
def mt (P : Program) (F : Fns) (tabs : List (Nat × List AV)) (lids : List Nat) (nt : Nat) : PC → Code → Bool
  | .skip, .skip => true
  | .reg chk ps, .region _ ops draw => mposL P F tabs nt ops ops.toList ps && (!draw || drawOk chk ops.toList ps)
  | .seq x y, .seq c d => mt P F tabs lids nt x c && mt P F tabs lids nt y d
  | .cond b x y, .cond b' c d => ma tabs b' b && mt P F tabs lids nt x c && mt P F tabs lids nt y d
  | .block i x, .block j c => i == j && mt P F tabs lids nt x c
  | .loop live out x, .loop c => listOk lids live && listOk lids out && mt P F tabs lids nt x c
  | .join out x, c => listOk lids out && mt P F tabs lids nt x c
  | .exit i, .exit j => i == j
  | .ret, .ret => true
  | .digs y, c => decide (24 ≤ nt) && (match digM P c with | some d => mt P F tabs lids nt y d | none => false)
  | _, _ => false
section
variable {P : Program} {F : Fns} {f : Fr} {nt : Nat}
theorem canon_sim {w : World} {st : St} {a : Act} (hs : Sim f nt w st a) {l : List (Nat × Nat)} (hl : listOk f.lids l = true) {vs : List AV} (hp : pack st.env [] st.h l = some vs) : Sim f nt w (un l vs) a := by
  simp only [listOk, Bool.and_eq_true] at hl
  obtain ⟨h1, h2, T, ρ, k, he⟩ := hs
  obtain ⟨T', ρ', k', e', _⟩ := canon k he hl.1 (nodB_spec hl.2) hp
  exact ⟨h1, h2, T', ρ', k', e'⟩
def LoopsOk (P : Program) (F : Fns) (f : Fr) (nt : Nat) (lp : List (Nat × Nat) → List (Nat × Nat) → PC → List AV → Option (Ex × List AV)) : Prop :=
  ∀ live out x c vs ex outs, listOk f.lids live = true → listOk f.lids out = true → mt P F f.tabs f.lids nt x c = true → lp live out x vs = some (ex, outs) →
    ∀ (w : World) (a : Act) (Q : Exit → Act → World → Prop), Sim f nt w (un live vs) a → (∀ a' w', Sim f nt w' (un out outs) a' → Q (toExit ex) a' w') → (Code.loop c).wp P Q a w
theorem pc_sound (hmo : P.follows .mixedOrders = true) {call : Call} (hc : CallsOk P F f.tabs call) {lp : List (Nat × Nat) → List (Nat × Nat) → PC → List AV → Option (Ex × List AV)} (hlp : LoopsOk P F f nt lp) :
    ∀ (x : PC) (c : Code), mt P F f.tabs f.lids nt x c = true → ∀ (st : St) (ex : Ex) (st' : St), PC.ev call lp x st = some (ex, st') →
      ∀ (w : World) (a : Act) (Q : Exit → Act → World → Prop), Sim f nt w st a → (∀ a' w', Sim f nt w' st' a' → Q (toExit ex) a' w') → c.wp P Q a w := by
  intro x
  induction x with
  | skip =>
    intro c hm st ex st' hv w a Q hs hQ
    cases c <;> simp only [mt] at hm <;> try (cases hm; done)
    simp only [PC.ev] at hv
    cases hv
    exact wp_skip (hQ a w hs)
  | ret =>
    intro c hm st ex st' hv w a Q hs hQ
    cases c <;> simp only [mt] at hm <;> try (cases hm; done)
    simp only [PC.ev] at hv
    cases hv
    exact wp_ret (hQ a w hs)
  | exit i =>
    intro c hm st ex st' hv w a Q hs hQ
    cases c <;> simp only [mt] at hm <;> try (cases hm; done)
    simp only [beq_iff_eq] at hm
    subst hm
    simp only [PC.ev] at hv
    cases hv
    exact wp_exit (hQ a w hs)
  | reg chk ps =>
    intro c hm st ex st' hv w a Q hs hQ
    cases c <;> simp only [mt] at hm <;> try (cases hm; done)
    rename_i id ops draw
    simp only [Bool.and_eq_true, Bool.or_eq_true, Bool.not_eq_true'] at hm
    simp only [PC.ev, Option.bind_eq_some_iff] at hv
    obtain ⟨s1, h1, h2⟩ := hv
    split at h2
    · rename_i hap
      cases h2
      cases draw with
      | false => exact region_seq hm.1 hc Q (fun a w hs => hQ a w hs) hs h1
      | true => exact region_draw hmo hm.1 (by simpa using hm.2) hc Q (fun a w hs => hQ a w hs) hap hs h1
    · cases h2
  | seq x y hx hy =>
    intro c hm st ex st' hv w a Q hs hQ
    cases c <;> simp only [mt] at hm <;> try (cases hm; done)
    simp only [Bool.and_eq_true] at hm
    simp only [PC.ev, Option.bind_eq_some_iff] at hv
    obtain ⟨⟨e1, s1⟩, h1, h2⟩ := hv
    refine wp_seq (hx _ hm.1 st e1 s1 h1 w a _ hs fun a' w' hs' => ?_)
    cases e1 with
    | normal => exact hy _ hm.2 s1 ex st' h2 w' a' Q hs' hQ
    | exit i => cases h2; exact hQ a' w' hs'
    | ret => cases h2; exact hQ a' w' hs'
  | cond b x y hx hy =>
    intro c hm st ex st' hv w a Q hs hQ
    cases c <;> simp only [mt] at hm <;> try (cases hm; done)
    simp only [Bool.and_eq_true] at hm
    obtain ⟨⟨hb, hmx⟩, hmy⟩ := hm
    simp only [PC.ev] at hv
    split at hv
    · rename_i q hq
      have hs0 := hs
      obtain ⟨_, _, T, ρ, k, he⟩ := hs0
      have := ma_rv k he hb
      rw [hq] at this
      refine wp_cond (inv_b this) ?_
      cases q with
      | true => exact hx _ hmx st ex st' hv w a Q hs hQ
      | false => exact hy _ hmy st ex st' hv w a Q hs hQ
    · cases hv
  | block i x hx =>
    intro c hm st ex st' hv w a Q hs hQ
    cases c <;> simp only [mt] at hm <;> try (cases hm; done)
    simp only [Bool.and_eq_true, beq_iff_eq] at hm
    obtain ⟨rfl, hm⟩ := hm
    simp only [PC.ev, Option.map_eq_some_iff] at hv
    obtain ⟨⟨e1, s1⟩, h1, h2⟩ := hv
    refine wp_block (hx _ hm st e1 s1 h1 w a _ hs fun a' w' hs' => ?_)
    cases e1 with
    | normal => cases h2; exact hQ a' w' hs'
    | ret => cases h2; exact hQ a' w' hs'
    | exit j =>
      show if j = i then Q .normal a' w' else Q (.exit j) a' w'
      simp only at h2
      split at h2
      · rename_i hj; rw [if_pos hj]; cases h2; exact hQ a' w' hs'
      · rename_i hj; rw [if_neg hj]; cases h2; exact hQ a' w' hs'
  | loop live out x hx =>
    intro c hm st ex st' hv w a Q hs hQ
    cases c <;> simp only [mt] at hm <;> try (cases hm; done)
    simp only [Bool.and_eq_true] at hm
    obtain ⟨⟨hl, ho⟩, hm⟩ := hm
    simp only [PC.ev, Option.bind_eq_some_iff, Option.map_eq_some_iff] at hv
    obtain ⟨vs, h1, ⟨e1, outs⟩, h2, h3⟩ := hv
    cases h3
    exact hlp live out x _ vs e1 outs hl ho hm h2 w a Q (canon_sim hs hl h1) hQ
  | join out x hx =>
    intro c hm st ex st' hv w a Q hs hQ
    simp only [mt, Bool.and_eq_true] at hm
    simp only [PC.ev, Option.bind_eq_some_iff, Option.map_eq_some_iff] at hv
    obtain ⟨⟨e1, s1⟩, h1, vs, h2, h3⟩ := hv
    cases h3
    exact hx c hm.2 st e1 s1 h1 w a Q hs fun a' w' hs' => hQ a' w' (canon_sim hs' hm.1 h2)
  | digs y hy =>
    intro c hm st ex st' hv w a Q hs hQ
    simp only [mt, Bool.and_eq_true, decide_eq_true_eq] at hm
    obtain ⟨hnt, hm⟩ := hm
    split at hm
    · rename_i d hd
      simp only [PC.ev] at hv
      split at hv
      · rename_i s hst
        have hs0 := hs
        obtain ⟨hsz, hdf, T, ρ, k, he⟩ := hs0
        have h0 := he 0
        rw [hst] at h0
        have hsim : ∀ a' w', Old w w' → AE a a' → Sim f nt w' ⟨junkE digT st.env, st.h⟩ a' := by
          intro a' w' ho hae
          have := hs.old ho
          obtain ⟨g1, g2, T', ρ', k', e'⟩ := this
          refine ⟨by rw [hae.1]; exact g1, by rw [hae.2.1]; exact g2, T', ρ', k', fun t => ?_⟩
          show Rv w' T' ρ' (if t ∈ digT then .junk else st.env t) _
          split
          · exact .junk
          · rename_i ht
            rw [hae.2.2 t ht]
            exact e' t
        refine digs_wp hd (inv_s h0) (Nat.le_trans hnt hsz) (fun hb a' w' ho hae => ?_) fun hb a' w' ho hae => ?_
        · rw [if_pos hb] at hv
          cases hv
          exact hQ a' w' (hsim a' w' ho hae)
        · rw [if_neg (by simp [hb])] at hv
          simp only [Option.bind_eq_some_iff] at hv
          obtain ⟨⟨e1, s1⟩, h1, h2⟩ := hv
          cases e1 with
          | ret =>
            cases h2
            exact hy _ hm _ _ _ h1 w' a' _ (hsim a' w' ho hae) fun a3 w3 hs3 => ⟨rfl, hQ a3 w3 hs3⟩
          | normal => cases h2
          | exit i => cases h2
      · cases hv
    · cases hm
theorem loops_ok (hmo : P.follows .mixedOrders = true) {call : Call} (hc : CallsOk P F f.tabs call) : ∀ n k, k ≤ n → LoopsOk P F f nt (loopF call k) := by
  intro n
  induction n with
  | zero =>
    intro k hk live out x c vs ex outs _ _ _ hv
    have : k = 0 := by omega
    subst this
    cases hv
  | succ n ih =>
    intro k hk live out x c vs ex outs hl ho hm hv w a Q hs hQ
    refine wp_loop_ghost (fun j a w => j ≤ k ∧ ∃ vs, loopF call j live out x vs = some (ex, outs) ∧ Sim f nt w (un live vs) a) k ⟨Nat.le_refl _, vs, hv, hs⟩ ?_
    rintro j a w ⟨hj, vs, hv, hs⟩
    cases j with
    | zero => cases hv
    | succ j =>
      simp only [loopF, Option.bind_eq_some_iff] at hv
      obtain ⟨⟨e1, s1⟩, h1, h2⟩ := hv
      refine pc_sound hmo hc (ih j (by omega)) x c hm (un live vs) e1 s1 h1 w a _ hs fun a' w' hs' => ?_
      cases e1 with
      | normal =>
        simp only [round, Option.bind_eq_some_iff] at h2
        obtain ⟨vs', h3, h4⟩ := h2
        exact ⟨j, Nat.lt_succ_self j, by omega, vs', h4, canon_sim hs' hl h3⟩
      | exit i =>
        simp only [round, Option.map_eq_some_iff] at h2
        obtain ⟨vs', h3, h4⟩ := h2
        cases h4
        exact hQ a' w' (canon_sim hs' ho h3)
      | ret =>
        simp only [round, Option.map_eq_some_iff] at h2
        obtain ⟨vs', h3, h4⟩ := h2
        cases h4
        exact hQ a' w' (canon_sim hs' ho h3)
end
end Go.Pe
set_option linter.unusedVariables false
set_option linter.unusedSimpArgs false
namespace Go.Pe
open Go
def mres (P : Program) : List ResultVar → List (PR × Nat) → Bool
  | [], [] => true
  | .tmp t :: l, (.tmp t', _) :: m => t == t' && mres P l m
  | .cell t ty :: l, (.cell t' ag sz, _) :: m => t == t' && decide (aggT P ty = some ag) && decide (szT P ty = some sz) && mres P l m
  | _, _ => false
def fnOk (P : Program) (F : Fns) (tabs : List (Nat × List AV)) (f : Nat) (p : PF) : Bool := match P.funcs[F.2 f]? with
  | some fn => match fn.body with
    | some c => mt P F tabs (p.lent.map lid) fn.ntmps p.body c && mres P fn.results.toList p.res && listOk (p.lent.map lid) (resL p.res p.lent)
    | none => false
  | none => false
section
variable {P : Program} {F : Fns} {f : Fr} {nt : Nat} {w : World} {T : Nat → Prop} {ρ : Rho} {h : Heap} {e : Nat → AV} {a : Act}
def resOne (P : Program) (tmps : Array Value) : ResultVar → Sem Value
  | .tmp t => pure (tmps.getD t undef)
  | .cell a t => do loadVar t (← asAddr (tmps.getD a undef))
theorem res_run (k : WInv f w T ρ h) (he : Env w T ρ e a) : ∀ {l : List ResultVar} {m : List (PR × Nat)} {rs : List AV}, mres P l m = true → resV ⟨e, h⟩ m = some rs →
    ∃ vs : List Value, (l.mapM (resOne P a.tmps)).run P w = .ok vs w ∧ vs.length = l.length ∧ l.length = m.length ∧ rs.length = m.length ∧ ∀ j, j < rs.length → Rv w T ρ (rs.getD j .junk) (vs.getD j undef) := by
  intro l
  induction l with
  | nil =>
    intro m rs hm hr
    cases m with
    | nil => cases hr; exact ⟨[], rfl, rfl, rfl, rfl, fun j hj => by cases hj⟩
    | cons => cases hm
  | cons x l ih =>
    intro m rs hm hr
    cases m with
    | nil => cases x <;> cases hm
    | cons y m =>
      obtain ⟨pr, q⟩ := y
      simp only [resV, Option.bind_eq_some_iff, Option.map_eq_some_iff] at hr
      obtain ⟨v, h1, rs', h2, rfl⟩ := hr
      have one : (∃ u, (resOne P a.tmps x).run P w = .ok u w ∧ Rv w T ρ v u) ∧ mres P l m = true := by
        cases x with
        | tmp t =>
          cases pr with
          | cell => cases hm
          | tmp t' =>
            simp only [mres, Bool.and_eq_true, beq_iff_eq] at hm
            obtain ⟨rfl, hm⟩ := hm
            cases h1
            exact ⟨⟨_, rfl, he t⟩, hm⟩
        | cell t ty =>
          cases pr with
          | tmp => cases hm
          | cell t' ag sz =>
            simp only [mres, Bool.and_eq_true, beq_iff_eq, decide_eq_true_eq] at hm
            obtain ⟨⟨⟨rfl, h3⟩, h4⟩, hm⟩ := hm
            refine ⟨?_, hm⟩
            simp only [PR.ev, ldV, Option.bind_eq_some_iff] at h1
            obtain ⟨⟨cs, i⟩, hp, hc⟩ := h1
            obtain ⟨b, base, hx, hcell⟩ := ptr_cells k (he t) hp
            obtain ⟨u, h5, h6, _⟩ := load_var h3 h4 hcell hc
            have hx' : a.tmps.getD t undef = .pointer (some ⟨b, base + i, none⟩) := hx
            exact ⟨u, by simp only [resOne, hx', asAddr]; simpa using h5, h6⟩
      obtain ⟨⟨u, h3, h4⟩, hm'⟩ := one
      obtain ⟨vs, h5, h6, h7, h8, h9⟩ := ih hm' h2
      refine ⟨u :: vs, ?_, by simp [h6], by simp [h7], by simp [h8], fun j hj => ?_⟩
      · simp [h3, h5]
      · cases j with
        | zero => exact h4
        | succ j => exact h9 j (by simpa using hj)
theorem results_run (k : WInv f w T ρ h) (he : Env w T ρ e a) {fn : Func} {m : List (PR × Nat)} {rs : List AV} (hm : mres P fn.results.toList m = true) (hr : resV ⟨e, h⟩ m = some rs) :
    ∃ vs : Array Value, (results fn a.tmps).run P w = .ok (oneR vs) w ∧ vs.size = m.length ∧ rs.length = m.length ∧ ∀ j, j < rs.length → Rv w T ρ (rs.getD j .junk) (vs.getD j undef) := by
  obtain ⟨vs, h1, h2, h3, h4, h5⟩ := res_run k he hm hr
  refine ⟨vs.toArray, ?_, by simp [h2, h3], h4, fun j hj => by simpa [List.getD_eq_getElem?_getD] using h5 j hj⟩
  have e1 : results fn a.tmps = (fn.results.mapM (resOne P a.tmps) >>= fun vs => pure (oneR vs)) := rfl
  have e2 : fn.results.mapM (resOne P a.tmps) = List.toArray <$> fn.results.toList.mapM (resOne P a.tmps) := by
    rw [← List.mapM_toArray]
  rw [e1, e2]
  simp [h1]
theorem envL_get : ∀ (l : List AV) (k t : Nat), envL k l t = if k ≤ t then l.getD (t - k) .junk else .junk := by
  intro l
  induction l with
  | nil => intro k t; simp [envL]
  | cons x l ih =>
    intro k t
    simp only [envL, upd, ih]
    by_cases h1 : t = k
    · subst h1; simp
    · simp only [h1, if_false]
      by_cases h2 : k + 1 ≤ t
      · rw [if_pos h2, if_pos (by omega), show t - k = (t - (k + 1)) + 1 by omega]; rfl
      · rw [if_neg h2, if_neg (by omega)]
theorem pack_length {e : Nat → AV} : ∀ {l : List (Nat × Nat)} {ls : List Nat} {h : Heap} {vs : List AV}, pack e ls h l = some vs → vs.length = l.length := by
  intro l
  induction l with
  | nil => intro ls h vs hp; cases hp; rfl
  | cons p l ih =>
    intro ls h vs hp
    obtain ⟨t, q⟩ := p
    match q with
    | 0 =>
      simp only [pack, Option.map_eq_some_iff] at hp
      obtain ⟨us, h1, rfl⟩ := hp
      simp [ih h1]
    | 1 =>
      simp only [pack, Option.bind_eq_some_iff, Option.map_eq_some_iff] at hp
      obtain ⟨q, _, us, h1, rfl⟩ := hp
      simp [ih h1]
    | n + 2 =>
      simp only [pack, Option.bind_eq_some_iff, Option.map_eq_some_iff] at hp
      obtain ⟨q, _, us, h1, rfl⟩ := hp
      simp [ih h1]
theorem fn_sound (hmo : P.follows .mixedOrders = true) {tabs : List (Nat × List AV)} {g : Nat} {p : PF} (hf : fnOk P F tabs g p = true) {call : Call} (hc : CallsOk P F tabs call) {n : Nat} {xs : List AV} {r : AV}
    (hv : (p.body.ev call (loopF call n) (un (parN p.lent 0 xs) xs)).bind (finE p) = some r) : CallOk P (F.2 g) p.res p.lent tabs xs r := by
  intro fr ρ vs ht hl hsz hw he
  unfold fnOk at hf
  cases hfn : P.funcs[F.2 g]? with
  | none => rw [hfn] at hf; cases hf
  | some fn =>
    rw [hfn] at hf
    simp only at hf
    cases hb : fn.body with
    | none => rw [hb] at hf; cases hf
    | some c =>
      rw [hb] at hf
      simp only [Bool.and_eq_true] at hf
      obtain ⟨⟨h1, h2⟩, h3⟩ := hf
      subst ht
      rw [← hl] at h1 h3
      simp only [Option.bind_eq_some_iff] at hv
      obtain ⟨⟨ex, st⟩, h4, h5⟩ := hv
      refine calls_of_wp hfn hb ?_
      have hs : Sim fr fn.ntmps fr.w0 (un (parN p.lent 0 xs) xs) { tmps := vs ++ Array.replicate (fn.ntmps - vs.size) undef, defers := [] } := by
        refine ⟨by simp; omega, rfl, fr.T0, ρ, hw, fun t => ?_⟩
        have := he t
        have e1 : (vs ++ Array.replicate (fn.ntmps - vs.size) undef).getD t undef = vs.getD t undef := by
          by_cases h : t < vs.size
          · simp [Array.getElem?_append, h]
          · simp only [Array.getD_eq_getD_getElem?, Array.getElem?_append, h, if_false]
            rw [Array.getElem?_eq_none (show vs.size ≤ t by omega)]
            cases hq : (Array.replicate (fn.ntmps - vs.size) undef)[t - vs.size]? with
            | none => rfl
            | some u =>
              have := Array.getElem?_eq_some_iff.1 hq
              obtain ⟨h6, h7⟩ := this
              simp at h7
              simp [← h7]
        rw [e1]
        exact this
      refine pc_sound hmo hc (loops_ok hmo hc n n (Nat.le_refl _)) p.body c h1 _ ex st h4 fr.w0 _ _ hs fun a' w' hs' => ?_
      have fine : finE p (.ret, st) = some r → a'.defers = [] ∧ ∃ v, (results fn a'.tmps).run P w' = .ok v w' ∧ ∃ out vals T' ρ', Ending.returned v = .returned (oneR vals) ∧ vals.size = p.res.length ∧ out.length = (resL p.res p.lent).length ∧ r = retV p.lent out ∧
          WInv fr w' T' ρ' (un (resL p.res p.lent) out).h ∧ Env w' T' ρ' (un (resL p.res p.lent) out).env ⟨vals, []⟩ ∧ Flat w' T' (un (resL p.res p.lent) out).env ⟨vals, []⟩ := by
        intro h5
        obtain ⟨_, hd, T, ρ1, k, he1⟩ := hs'
        refine ⟨hd, ?_⟩
        simp only [finE, fin, Option.bind_eq_some_iff, Option.map_eq_some_iff] at h5
        obtain ⟨rs, h6, out, h7, rfl⟩ := h5
        obtain ⟨vals, h8, h9, h10, h11⟩ := results_run k he1 h2 h6
        have he2 : Env w' T ρ1 (envL 0 rs) ⟨vals, []⟩ := by
          intro t
          rw [envL_get]
          simp only [Nat.zero_le, if_true, Nat.sub_zero]
          by_cases h12 : t < rs.length
          · exact h11 t h12
          · rw [List.getD_eq_getElem?_getD, List.getElem?_eq_none (by omega)]; exact .junk
        simp only [listOk, Bool.and_eq_true] at h3
        obtain ⟨T', ρ', k', e', fl⟩ := canon k he2 h3.1 (nodB_spec h3.2) h7
        exact ⟨oneR vals, h8, out, vals, T', ρ', rfl, h9, pack_length h7, rfl, k', e', fl⟩
      cases ex with
      | exit i => cases h5
      | normal => exact fine h5
      | ret => exact fine h5
theorem runF_okE (hmo : P.follows .mixedOrders = true) {tabs : List (Nat × List AV)} {G : Nat → Option PF} (hF : ∀ g p, F.1 g = some p → (fnOk P F tabs g p = true ∧ G g = some p) ∨ ∀ xs r, xs.length = arOf P (F.2 g) → R G g xs = some r → CallOk P (F.2 g) p.res p.lent tabs xs r) : ∀ k, CallsOk P F tabs (runF G k) := by
  intro k
  induction k with
  | zero => intro g p xs r _ _ hv; cases hv
  | succ k ih =>
    intro g p xs r hp har hv
    rcases hF g p hp with ⟨h1, h2⟩ | h1
    · simp only [runF, h2, Option.bind_some] at hv
      exact fn_sound hmo h1 ih hv
    · exact h1 xs r har ((R_some G).2 ⟨k + 1, hv⟩)
theorem R_okE (hmo : P.follows .mixedOrders = true) {tabs : List (Nat × List AV)} {G : Nat → Option PF} (hF : ∀ g p, F.1 g = some p → (fnOk P F tabs g p = true ∧ G g = some p) ∨ ∀ xs r, xs.length = arOf P (F.2 g) → R G g xs = some r → CallOk P (F.2 g) p.res p.lent tabs xs r) : CallsOk P F tabs (R G) := by
  intro g p xs r hp har hv
  obtain ⟨k, hk⟩ := (R_some G).1 hv
  exact runF_okE hmo hF k g p xs r hp har hk
end
end Go.Pe
set_option linter.unusedVariables false
set_option linter.unusedSimpArgs false
namespace Go.Pe
open Go
inductive CK where
  | int (k : IntKind)
  | bool
  | str
  | sl (cs : List CK)
  deriving Inhabited
inductive Fit : CK → AV → Prop
  | int {k n} (h : (Lit.int k n).wf = true) : Fit (.int k) (.i k n)
  | bool {b} : Fit .bool (.b b)
  | str {s : ByteArray} (h : s.size ≤ maxLen) : Fit .str (.s s)
  | sl {cs es} (hl : es.length ≤ maxLen) (hz : ∀ j, j < es.length → (es.getD j []).length = cs.length) (hv : ∀ j c, j < es.length → c < cs.length → Fit (cs.getD c default) ((es.getD j []).getD c .junk)) : Fit (.sl cs) (.l cs.length es)
def fieldsOk (r : TypeId → List CK → Bool) (P : Program) : List Field → Nat → List CK → Bool
  | [], _, cs => cs.isEmpty
  | f :: fs, o, cs => decide (f.offset = o) && decide (P.cellsOf f.type ≤ cs.length) && r f.type (cs.take (P.cellsOf f.type)) && fieldsOk r P fs (o + P.cellsOf f.type) (cs.drop (P.cellsOf f.type))
def tyOk (P : Program) : Nat → TypeId → List CK → Bool
  | 0, _, _ => false
  | n + 1, t, cs => match P.underlying t, cs with
    | some .bool, [.bool] => true
    | some (.int k), [.int k'] => decide (k = k')
    | some .string, [.str] => true
    | some (.slice e), [.sl ds] => decide (P.cellsOf e = ds.length) && decide (0 < ds.length) && tyOk P n e ds
    | some (.struct fs), cs => decide (cs.length = P.cellsOf t) && fieldsOk (tyOk P n) P fs.toList 0 cs
    | _, _ => false
structure CellsRv (w : World) (ks : List CK) (acs : List AV) (cs : List Value) : Prop where
  l1 : acs.length = ks.length
  l2 : cs.length = ks.length
  fit : ∀ c, c < ks.length → Fit (ks.getD c default) (acs.getD c .junk)
  rv : ∀ c, c < ks.length → Rv w (fun _ => False) Rho.none (acs.getD c .junk) (cs.getD c undef) ∧ (cs.getD c undef).oneCell' = true
theorem CellsRv.one {w : World} {k : CK} {x : AV} {v : Value} (h1 : Fit k x) (h2 : Rv w (fun _ => False) Rho.none x v) (h3 : v.oneCell' = true) : CellsRv w [k] [x] [v] := by
  refine ⟨rfl, rfl, fun c hc => ?_, fun c hc => ?_⟩
  · cases c with
    | zero => exact h1
    | succ c => simp at hc
  · cases c with
    | zero => exact ⟨h2, h3⟩
    | succ c => simp at hc
theorem CellsRv.append {w : World} {k1 k2 : List CK} {a1 a2 : List AV} {c1 c2 : List Value} (x : CellsRv w k1 a1 c1) (y : CellsRv w k2 a2 c2) : CellsRv w (k1 ++ k2) (a1 ++ a2) (c1 ++ c2) := by
  have g : ∀ {α : Type} (l m : List α) (i : Nat) (d : α), (l ++ m).getD i d = if i < l.length then l.getD i d else m.getD (i - l.length) d := by
    intro α l m i d
    simp only [List.getD_eq_getElem?_getD, List.getElem?_append]
    split <;> rfl
  refine ⟨by simp [x.l1, y.l1], by simp [x.l2, y.l2], fun c hc => ?_, fun c hc => ?_⟩
  · rw [g, g, x.l1]
    rw [List.length_append] at hc
    split
    · rename_i h; exact x.fit c h
    · exact y.fit _ (by omega)
  · rw [g, g, x.l1, x.l2]
    rw [List.length_append] at hc
    split
    · rename_i h; exact x.rv c h
    · exact y.rv _ (by omega)
section
variable {H : Type} {enc : TypeId × Value → H} {P : Program} {w : World} {base : Nat} {spare : Nat → Bool} {held : Bool}
theorem fields_rv {fuel : Nat} {r : TypeId → List CK → Bool} (ih : ∀ t cs x ks, DataW.trod enc P w base spare held fuel t cs = some x → r t ks = true → ∃ acs, CellsRv w ks acs cs) {cs : List Value} : ∀ (fs : List Field) (o : Nat) (ks : List CK), fieldsOk r P fs o ks = true →
    (∀ f ∈ fs, ∃ y, DataW.trod enc P w base spare held fuel f.type ((cs.drop f.offset).take (P.cellsOf f.type)) = some y) → cs.length = o + ks.length → ∃ acs, CellsRv w ks acs (cs.drop o) := by
  intro fs
  induction fs with
  | nil =>
    intro o ks hf _ hl
    have : ks = [] := by simpa [fieldsOk] using hf
    subst this
    rw [List.drop_of_length_le (by simp at hl; omega)]
    exact ⟨[], rfl, rfl, fun c hc => (by cases hc), fun c hc => (by cases hc)⟩
  | cons f fs ihf =>
    intro o ks hf hy hl
    simp only [fieldsOk, Bool.and_eq_true, decide_eq_true_eq] at hf
    obtain ⟨⟨⟨h1, h2⟩, h3⟩, h4⟩ := hf
    obtain ⟨y, hy1⟩ := hy f List.mem_cons_self
    rw [h1] at hy1
    obtain ⟨a1, r1⟩ := ih _ _ _ _ hy1 h3
    obtain ⟨a2, r2⟩ := ihf _ _ h4 (fun f hf => hy f (List.mem_cons_of_mem _ hf)) (by rw [List.length_drop]; omega)
    have := r1.append r2
    rw [List.take_append_drop] at this
    refine ⟨a1 ++ a2, ?_⟩
    have e : (cs.drop o).take (P.cellsOf f.type) ++ cs.drop (o + P.cellsOf f.type) = cs.drop o := by
      rw [← List.drop_drop, List.take_append_drop]
    rw [e] at this
    exact this
theorem choose_list {α : Type} (d : α) {n : Nat} {Q : Nat → α → Prop} (h : ∀ j, j < n → ∃ x, Q j x) : ∃ l : List α, l.length = n ∧ ∀ j, j < n → Q j (l.getD j d) := by
  induction n with
  | zero => exact ⟨[], rfl, fun j hj => by cases hj⟩
  | succ n ih =>
    obtain ⟨l, h1, h2⟩ := ih fun j hj => h j (by omega)
    obtain ⟨x, hx⟩ := h n (by omega)
    refine ⟨l ++ [x], by simp [h1], fun j hj => ?_⟩
    rcases Nat.lt_or_ge j n with hlt | hge
    · rw [List.getD_eq_getElem?_getD, List.getElem?_append_left (by omega), ← List.getD_eq_getElem?_getD]
      exact h2 j hlt
    · have : j = n := by omega
      subst this
      rw [List.getD_eq_getElem?_getD, List.getElem?_append_right (by omega), h1, Nat.sub_self]
      exact hx
theorem cells?_each {a : Addr} {n : Nat} {l : List Value} (h : w.cells? base a n = some l) : l.length = n ∧ ∀ i, i < n → w.cell? (a.add i) = l[i]? := by
  unfold World.cells? at h
  split at h
  · exact ⟨by simpa using mapM_some_length h, fun i hi => by simpa using mapM_some_get h i i (by simp [hi])⟩
  · cases h
theorem spot_none {a : Addr} {v : Value} (h : w.cell? a = some v) : a.spot = none := by
  unfold World.cell? at h
  split at h
  · cases hs : a.spot with
    | none => rfl
    | some s => rw [hs] at h; simp at h
  · cases h
theorem cell_lt {a : Addr} {v : Value} (h : w.cell? a = some v) : a.block < w.heap.size := by
  unfold World.cell? at h
  split at h
  · rename_i c e fr hc
    exact (Array.getElem?_eq_some_iff.1 hc).1
  · cases h
theorem trod_rv : ∀ (fuel n : Nat) (t : TypeId) (cs : List Value) (x : DataW H × List MemPlace) (ks : List CK), DataW.trod enc P w base spare held fuel t cs = some x → tyOk P n t ks = true → ∃ acs, CellsRv w ks acs cs := by
  intro fuel
  induction fuel with
  | zero => intro n t cs x ks h; simp [DataW.trod] at h
  | succ fuel ih =>
    intro n t cs x ks h hty
    cases n with
    | zero => simp [tyOk] at hty
    | succ n =>
      have h0 := h
      unfold tyOk at hty
      split at hty
      · rename_i hu
        unfold DataW.trod at h
        rw [hu] at h
        split at h <;> simp_all
        exact ⟨_, .one .bool .b rfl⟩
      · rename_i k k' hu
        simp only [decide_eq_true_eq] at hty
        subst hty
        unfold DataW.trod at h
        rw [hu] at h
        split at h <;> simp_all
        obtain ⟨⟨rfl, hw⟩, _⟩ := h
        exact ⟨_, .one (.int hw) .i rfl⟩
      · rename_i hu
        unfold DataW.trod at h
        rw [hu] at h
        split at h <;> simp_all
        exact ⟨_, .one (.str h.1) .s rfl⟩
      · rename_i e ds hu
        simp only [Bool.and_eq_true, decide_eq_true_eq] at hty
        obtain ⟨⟨hz, hpos⟩, hty⟩ := hty
        rcases DataW.trod_slice hu h0 with ⟨rfl, _⟩ | ⟨a, len, cap, elems, rest, m, hm, rfl, _, hb, hl, hc, hlen, hel, _, _⟩
        · exact ⟨[.l ds.length []], .one (.sl (Nat.zero_le _) (fun j hj => by cases hj) (fun j c hj => by cases hj)) .lnil0 rfl⟩
        · have : m = fuel := by omega
          subst this
          rcases Nat.eq_zero_or_pos len with hz0 | hpos0
          · subst hz0
            exact ⟨[.l ds.length []], .one (.sl (Nat.zero_le _) (fun j hj => by cases hj) (fun j c hj => by cases hj)) (.lnil (fun h => by cases h) hc) rfl⟩
          · have each : ∀ i, i < len → ∃ acs, ∃ ci : List Value, CellsRv w ds acs ci ∧ ∀ c, c < ds.length → w.cell? ((a.add (i * ds.length)).add c) = ci[c]? := by
              intro i hi
              have h1 := hel i hi
              rw [hz] at h1
              have h2 : ∃ y, elems[i]? = some y := ⟨elems[i]'(by omega), List.getElem?_eq_getElem (by omega)⟩
              obtain ⟨y, hy⟩ := h2
              rw [hy, Option.bind_eq_some_iff] at h1
              obtain ⟨ci, h3, h4⟩ := h1
              obtain ⟨acs, h5⟩ := ih n e ci y ds h4 hty
              exact ⟨acs, ci, h5, (cells?_each h3).2⟩
            obtain ⟨es, hes, hq⟩ := choose_list (α := List AV) [] each
            have first : ∃ v, w.cell? ((a.add (0 * ds.length)).add 0) = some v := by
              obtain ⟨ci, h1, h2⟩ := hq 0 hpos0
              have h3 := h2 0 hpos
              rw [List.getElem?_eq_getElem (by rw [h1.l2]; exact hpos)] at h3
              exact ⟨_, h3⟩
            obtain ⟨v0, hv0⟩ := first
            have hsp := spot_none hv0
            rw [show (a.add (0 * ds.length)).add 0 = a by simp [Addr.add]] at hsp
            obtain ⟨ab, ao, asp⟩ := a
            simp only at hsp
            subst hsp
            have hlt := cell_lt hv0
            rw [add_at, add_at] at hlt
            have hcell : ∀ j c, j < es.length → c < ds.length → ∃ v, w.cell? ⟨ab, ao + j * ds.length + c, none⟩ = some v ∧ v.oneCell' = true ∧ Rv w (fun _ => False) Rho.none ((es.getD j []).getD c .junk) v := by
              intro j c hj hc'
              obtain ⟨ci, h1, h2⟩ := hq j (by omega)
              have h3 := h2 c hc'
              rw [add_at, add_at] at h3
              have h4 := h1.rv c hc'
              rw [List.getElem?_eq_getElem (by rw [h1.l2]; exact hc')] at h3
              have h5 : ci.getD c undef = ci[c]'(by rw [h1.l2]; exact hc') := by
                rw [List.getD_eq_getElem?_getD, List.getElem?_eq_getElem (by rw [h1.l2]; exact hc')]; rfl
              rw [h5] at h4
              exact ⟨_, h3, h4.2, h4.1⟩
            refine ⟨[.l ds.length es], .one (.sl (by omega) (fun j hj => ?_) (fun j c hj hc' => ?_)) ?_ rfl⟩
            · obtain ⟨ci, h1, h2⟩ := hq j (by omega)
              exact h1.l1
            · obtain ⟨ci, h1, h2⟩ := hq j (by omega)
              exact h1.fit c hc'
            · have := Rv.l (w := w) (T := fun _ => False) (ρ := Rho.none) (z := ds.length) (es := es) (b := ab) (base := ao) (cap := cap) (fun j c => (w.cell? ⟨ab, ao + j * ds.length + c, none⟩).getD undef) (fun h => h) hlt (by omega) hc
                (fun j hj => by
                  obtain ⟨ci, h1, h2⟩ := hq j (by omega)
                  exact h1.l1)
                (fun j c hj hc' => by
                  obtain ⟨v, h1, h2, h3⟩ := hcell j c hj hc'
                  rw [h1]
                  exact ⟨rfl, h2⟩)
                (fun j c hj hc' => by
                  obtain ⟨v, h1, h2, h3⟩ := hcell j c hj hc'
                  rw [h1]
                  exact h3)
              rw [hes] at this
              exact this
      · rename_i ks _ _ fs hu
        simp only [Bool.and_eq_true, decide_eq_true_eq] at hty
        obtain ⟨hl, hty⟩ := hty
        have h1 : cs.length = P.cellsOf t ∧ ∀ f ∈ fs.toList, ∃ y, DataW.trod enc P w base spare held fuel f.type ((cs.drop f.offset).take (P.cellsOf f.type)) = some y := by
          unfold DataW.trod at h
          rw [hu] at h
          simp only at h
          split at h
          · rename_i hcl
            simp only [Option.map_eq_some_iff] at h
            obtain ⟨ys, hys, _⟩ := h
            refine ⟨hcl, fun f hf => ?_⟩
            obtain ⟨i, hi, rfl⟩ := List.getElem_of_mem hf
            have h2 := mapM_some_get hys i _ (List.getElem?_eq_getElem hi)
            have h3 := mapM_some_length hys
            exact ⟨_, h2.trans (List.getElem?_eq_getElem (by omega))⟩
          · cases h
        obtain ⟨acs, h2⟩ := fields_rv (fun t cs x ks => ih n t cs x ks) fs.toList 0 ks hty h1.2 (by omega)
        rw [List.drop_zero] at h2
        exact ⟨acs, h2⟩
      · cases hty
end
end Go.Pe
set_option linter.unusedVariables false
set_option linter.unusedSimpArgs false
namespace Go.Pe
open Go
theorem Old.below {w w' : World} (h : Old w w') : RowKit.Below w.heap.size w w' := ⟨h.os, h.tape, h.output, h.size, h.block⟩
theorem law_calls {P : Program} {F : Fns} {C : Call} {tabs : List (Nat × List AV)} (hC : CallsOk P F tabs C) {g : Nat} {p : PF} (hg : F.1 g = some p) (hl : p.lent = []) (hk : ∀ x ∈ p.res, x.2 ≤ 1) {xs : List AV} {r : AV} (har : xs.length = arOf P (F.2 g)) (hr : C g xs = some r) {w : World} {vs : Array Value}
    (ht : ∀ q ∈ tabs, Rv w (fun _ => False) Rho.none (.tp q.2 0) (.pointer (some ⟨q.1, 0, none⟩))) (hvl : vs.size = xs.length) (hx : ∀ j, j < xs.length → Rv w (fun _ => False) Rho.none (xs.getD j .junk) (vs.getD j undef)) :
    Calls P (F.2 g) vs w fun e w' => ∃ v, e = .returned v ∧ Old w w' ∧ Rv w' (fun _ => False) Rho.none (demoteT r) v := by
  have hc := hC g p xs r hg har hr
  rw [hl] at hc
  have k : WInv ⟨w, fun _ _ => False, fun _ => False, [], fun _ => ⟨0, 0, none⟩, tabs⟩ w (fun _ => False) Rho.none Heap.none :=
    ⟨Keeps.refl _ _, fun b hb => hb.elim, fun _ _ h => (by cases h), fun _ _ => rfl, fun _ _ _ _ _ h => (by cases h), fun _ _ _ _ _ h => (by cases h), fun b hb => hb.elim, fun _ h => (by cases h), fun _ _ _ _ _ _ h => (by cases h), fun b hb => hb.elim, fun _ h => (by cases h), ht⟩
  exact call_told k hk hc hvl hx
theorem law_true {P : Program} {F : Fns} {C : Call} {tabs : List (Nat × List AV)} (hC : CallsOk P F tabs C) {g : Nat} {p : PF} (hg : F.1 g = some p) (hl : p.lent = []) (hk : ∀ x ∈ p.res, x.2 ≤ 1) {xs : List AV} (har : xs.length = arOf P (F.2 g)) (hr : C g xs = some (.b true)) {w : World} {vs : Array Value}
    (ht : ∀ q ∈ tabs, Rv w (fun _ => False) Rho.none (.tp q.2 0) (.pointer (some ⟨q.1, 0, none⟩))) (hvl : vs.size = xs.length) (hx : ∀ j, j < xs.length → Rv w (fun _ => False) Rho.none (xs.getD j .junk) (vs.getD j undef)) :
    Calls P (F.2 g) vs w fun e w' => e = .returned (.bool true) ∧ RowKit.Below w.heap.size w w' := by
  refine (law_calls hC hg hl hk har hr ht hvl hx).mono fun e w' hh => ?_
  obtain ⟨v, rfl, ho, hv⟩ := hh
  have h2 : Rv w' (fun _ => False) Rho.none (.b true) v := hv
  cases h2
  exact ⟨rfl, ho.below⟩
def isStr (P : Program) (t : TypeId) : Bool := match P.underlying t with
  | some (.struct _) => true
  | _ => false
theorem CellsRv.single {w : World} {ks : List CK} {acs : List AV} {v : Value} (h : CellsRv w ks acs [v]) : Rv w (fun _ => False) Rho.none (acs.getD 0 .junk) v := by
  have h2 := h.l2
  exact (h.rv 0 (by simp at h2; omega)).1
theorem arg_rv {H : Type} {enc : TypeId × Value → H} {P : Program} {w : World} {base b0 : Nat} {spare : Nat → Bool} {held : Bool} {r : Reach} {t : TypeId} {v : Value} {d : DataW H} {ps : List MemPlace} {n : Nat} {ks : List CK}
    (hval : Value.okWide P w r b0 t v) (hd : DataW.Trod enc P w base spare held t v d ps) (hty : tyOk P (n + 1) t ks = true) :
    ∃ acs : List AV, acs.length = ks.length ∧ (∀ c, c < ks.length → Fit (ks.getD c default) (acs.getD c .junk)) ∧ Rv w (fun _ => False) Rho.none (if isStr P t then .agg acs else acs.getD 0 .junk) v := by
  obtain ⟨fuel, hf⟩ := hd
  obtain ⟨acs, h⟩ := trod_rv fuel (n + 1) t _ _ ks hf hty
  refine ⟨acs, h.l1, h.fit, ?_⟩
  unfold tyOk at hty
  unfold isStr
  split at hty
  · rename_i hu
    obtain ⟨b, rfl⟩ := WideShapes.okWide_bool hu hval
    rw [hu]
    exact h.single
  · rename_i k k' hu
    obtain ⟨m, rfl⟩ := WideShapes.okWide_int hu hval
    rw [hu]
    exact h.single
  · rename_i hu
    obtain ⟨m, rfl⟩ := WideShapes.okWide_string hu hval
    rw [hu]
    exact h.single
  · rename_i e ds hu
    obtain ⟨a, len, cap, rfl⟩ := WideShapes.okWide_slice hu hval
    rw [hu]
    exact h.single
  · rename_i ks _ _ fs hu
    obtain ⟨cs, rfl, hcs⟩ := WideShapes.okWide_struct hu hval
    rw [hu]
    have h' : CellsRv w ks acs cs.toList := h
    refine .agg cs (by rw [h'.l1, ← h'.l2]; simp) (fun c hc => ?_) fun c hc => ?_
    · rw [toList_getD]; exact (h'.rv c (by rw [← h'.l1]; exact hc)).2
    · rw [toList_getD]; exact (h'.rv c (by rw [← h'.l1]; exact hc)).1
  · cases hty
theorem Fit.inv_int {k : IntKind} {x : AV} (h : Fit (.int k) x) : ∃ n, x = .i k n ∧ (Lit.int k n).wf = true := by cases h; exact ⟨_, rfl, by assumption⟩
theorem Fit.inv_bool {x : AV} (h : Fit .bool x) : ∃ b, x = .b b := by cases h; exact ⟨_, rfl⟩
theorem Fit.inv_sl {ks : List CK} {x : AV} (h : Fit (.sl ks) x) {α : Type} [Inhabited α] (f : α → List AV) (Q : α → Prop) (hf : ∀ acs : List AV, acs.length = ks.length → (∀ c, c < ks.length → Fit (ks.getD c default) (acs.getD c .junk)) → ∃ a, acs = f a ∧ Q a) :
    ∃ l : List α, x = .l ks.length (l.map f) ∧ l.length ≤ maxLen ∧ ∀ a ∈ l, Q a := by
  cases h with
  | @sl _ es hl hz hv =>
    have each : ∀ j, j < es.length → ∃ a, es.getD j [] = f a ∧ Q a := fun j hj => hf _ (hz j hj) fun c hc => hv j c hj hc
    obtain ⟨l, h1, h2⟩ := choose_list (α := α) default each
    have e : es = l.map f := by
      apply List.ext_getElem (by simp [h1])
      intro j hj hj2
      have := (h2 j hj).1
      rw [List.getD_eq_getElem?_getD, List.getElem?_eq_getElem hj, List.getD_eq_getElem?_getD, List.getElem?_eq_getElem (by omega)] at this
      simpa using this
    refine ⟨l, by rw [← e], by omega, fun a ha => ?_⟩
    obtain ⟨j, hj, rfl⟩ := List.getElem_of_mem ha
    have := (h2 j (by omega)).2
    rw [List.getD_eq_getElem?_getD, List.getElem?_eq_getElem hj] at this
    simpa using this
end Go.Pe
set_option linter.unusedVariables false
set_option linter.unusedSimpArgs false
namespace Go.Pe
open Go
theorem maxLen_eq : maxLen = maxL := by decide
abbrev Fits (ks : List CK) (acs : List AV) : Prop := acs.length = ks.length ∧ ∀ c, c < ks.length → Fit (ks.getD c default) (acs.getD c .junk)
theorem Fits.one {k : CK} {acs : List AV} (h : Fits [k] acs) : ∃ x, acs = [x] ∧ Fit k x := by
  obtain ⟨h1, h2⟩ := h
  match acs, h1 with
  | [x], _ => exact ⟨x, rfl, h2 0 (by simp)⟩
theorem Fits.cons {k : CK} {ks : List CK} {acs : List AV} (h : Fits (k :: ks) acs) : ∃ x r, acs = x :: r ∧ Fit k x ∧ Fits ks r := by
  obtain ⟨h1, h2⟩ := h
  match acs, h1 with
  | x :: r, h1 => exact ⟨x, r, rfl, h2 0 (by simp), by simpa using h1, fun c hc => by simpa using h2 (c + 1) (by simpa using hc)⟩
theorem Fits.nil {acs : List AV} (h : Fits [] acs) : acs = [] := List.length_eq_zero_iff.1 h.1
theorem Fits.split {k1 k2 : List CK} {acs : List AV} (h : Fits (k1 ++ k2) acs) : ∃ a b, acs = a ++ b ∧ Fits k1 a ∧ Fits k2 b := by
  obtain ⟨h1, h2⟩ := h
  rw [List.length_append] at h1 h2
  refine ⟨acs.take k1.length, acs.drop k1.length, (List.take_append_drop _ _).symm, ⟨by rw [List.length_take]; omega, fun c hc => ?_⟩, ⟨by rw [List.length_drop]; omega, fun c hc => ?_⟩⟩
  · have := h2 c (by omega)
    rw [List.getD_eq_getElem?_getD, List.getElem?_append_left hc, ← List.getD_eq_getElem?_getD] at this
    rw [show (List.take k1.length acs).getD c AV.junk = acs.getD c AV.junk by rw [List.getD_eq_getElem?_getD, List.getElem?_take_of_lt hc, ← List.getD_eq_getElem?_getD]]
    exact this
  · have := h2 (k1.length + c) (by omega)
    rw [List.getD_eq_getElem?_getD, List.getElem?_append_right (by omega), ← List.getD_eq_getElem?_getD, Nat.add_sub_cancel_left] at this
    rw [show (List.drop k1.length acs).getD c AV.junk = acs.getD (k1.length + c) AV.junk by rw [List.getD_eq_getElem?_getD, List.getElem?_drop, ← List.getD_eq_getElem?_getD]]
    exact this
theorem open_list {ks : List CK} {x : AV} (h : Fit (.sl ks) x) {α : Type} [Inhabited α] (f : α → List AV) (Q : α → Prop) (hf : ∀ acs, Fits ks acs → ∃ a, acs = f a ∧ Q a) : ∃ l : List α, x = .l ks.length (l.map f) ∧ l.length ≤ maxL ∧ ∀ a ∈ l, Q a := by
  obtain ⟨l, h1, h2, h3⟩ := h.inv_sl f Q fun acs h1 h2 => hf acs ⟨h1, h2⟩
  exact ⟨l, h1, by rw [← maxLen_eq]; exact h2, h3⟩
def kN : CK := .sl [.int .u64]
theorem open_N {x : AV} (h : Fit kN x) : ∃ l : List Int, x = .l 1 (l.map u) ∧ U l ∧ l.length ≤ maxL := by
  obtain ⟨l, h1, h2, h3⟩ := open_list h u (fun x => 0 ≤ x ∧ x ≤ 18446744073709551615) fun acs ha => by
    obtain ⟨y, rfl, hy⟩ := ha.one
    obtain ⟨n, rfl, hn⟩ := hy.inv_int
    exact ⟨n, rfl, wf_u64 hn⟩
  exact ⟨l, h1, h3, h2⟩
end Go.Pe
set_option linter.unusedVariables false
set_option linter.unusedSimpArgs false
namespace Go.Pe
open Go
def kQ : List CK := [.bool, kN, kN]
theorem open_Q {acs : List AV} (h : Fits kQ acs) : ∃ x, acs = eQ x ∧ OkQ x := by
  obtain ⟨a, r, rfl, h1, h⟩ := h.cons
  obtain ⟨b, r, rfl, h2, h⟩ := h.cons
  obtain ⟨c, rfl, h3⟩ := h.one
  obtain ⟨q, rfl⟩ := h1.inv_bool
  obtain ⟨l, rfl, g1, g2⟩ := open_N h2
  obtain ⟨d, rfl, g3, g4⟩ := open_N h3
  exact ⟨(q, l, d), rfl, ⟨g1, g2⟩, g3, g4⟩
def kC : List CK := [.bool, .bool, kN, kN]
theorem open_C {acs : List AV} (h : Fits kC acs) : ∃ x, acs = eC x ∧ OkC x := by
  obtain ⟨a, r, rfl, h1, hr⟩ := h.cons
  obtain ⟨m, rfl⟩ := h1.inv_bool
  obtain ⟨x, rfl, g⟩ := open_Q hr
  exact ⟨(m, x), rfl, g⟩
theorem open_LC {x : AV} (h : Fit (.sl kC) x) : ∃ l : List RC, x = .l 4 (l.map eC) ∧ l.length ≤ maxL ∧ ∀ a ∈ l, OkC a := open_list h eC OkC fun acs ha => open_C ha
end Go.Pe
set_option linter.unusedVariables false
set_option linter.unusedSimpArgs false
namespace Go.Pe
open Go
theorem awake30 : R FF 61 [] = some (.b true) := (R_some FF).2 ⟨5, by kernel_rfl⟩
theorem chk_l1 {all : List (List RC)} {i : Nat} {k : Nat} (hk : k ≤ 10000) (h1k : 1 ≤ k) (hi : i < all.length) (hs : SmC (all.getD i []) k) (hl : (all.getD i []).length ≤ 1000000000) {a b c m e : Int} (hm : 1 ≤ m) : ∀ (d j : Nat) (o : Bool), j + d = (all.getD i []).length →
    LP FF [(2, 0), (5, 0), (6, 0), (7, 0), (8, 0), (9, 0)] [(2, 0), (5, 0), (6, 0), (7, 0), (8, 0)] b11_1 [.tp (lims a b c m) 0, (AV.i .i64 e), .b o, .l 1 (all.map eRw), (AV.i .i64 ((i : Int))), (AV.i .i64 ((j : Int)))] = some (.exit 2, [.tp (lims a b c m) 0, (AV.i .i64 e), .b (o || ((all.getD i []).drop j).any (bad m)), .l 1 (all.map eRw), (AV.i .i64 ((i : Int)))]) := by
  have c0 : (i : Int) < (all.length : Int) := by omega
  intro d
  induction d with
  | zero =>
    intro j o hj
    rw [List.drop_of_length_le (by omega), List.any_nil, Bool.or_false]
    have c1 : ¬ (j : Int) < ((all.getD i []).length : Int) := by omega
    rw [LP_go FF b11_1.eq_1]
    simp only [RB, un, St.none, Nat.reduceEqDiff, Nat.reduceAdd, Nat.reduceMul, Nat.reduceLeDiff, Nat.reduceLT, Int.reduceLT, Int.reduceLE, Int.reduceEq, Int.reduceToNat, Int.reduceSub, Int.reduceNeg, Int.reduceAdd, ↓reduceIte, reduceCtorEq, ite_self, eq_self, if_true, if_false, pack, pid, parN, List.not_mem_nil, List.mem_cons, lid, chkK, apartV, List.map_nil, List.flatMap_nil, List.append_nil, List.nil_append, List.drop_zero, List.length_set, List.length_replicate, List.length_append, List.take_length, List.take_zero, List.drop_length, Option.isNone_none, Heap.none, c0, c1, eRw_rules, eRw_row, Int.natCast_nonneg]
  | succ d ih =>
    intro j o hj
    have hlt : j < (all.getD i []).length := by omega
    have hdr : (all.getD i []).drop j = (all.getD i []).getD j dC :: (all.getD i []).drop (j + 1) := by
      rw [List.drop_eq_getElem_cons hlt, List.getD_eq_getElem?_getD (l := all.getD i []) (i := j), List.getElem?_eq_getElem hlt]
      rfl
    have hx := hs _ (getD_mem' dC hlt)
    have f1 := lng_c (q := ((all.getD i []).getD j dC).2.1) hk h1k hx hm
    have e3 : IntKind.i64.wrap ((j : Int) + 1) = ((j + 1 : Nat) : Int) := w64succ (by omega)
    have c1 : (j : Int) < ((all.getD i []).length : Int) := by omega
    rw [hdr, List.any_cons]
    have h9 := fun o => ih (j + 1) o (by omega)
    cases o with
    | true =>
      have h8 := h9 true
      simp only [Bool.true_or] at h8 ⊢
      rw [← h8]
      conv => lhs; rw [LP_go FF b11_1.eq_1]
      simp only [RB, un, St.none, Nat.reduceEqDiff, Nat.reduceAdd, Nat.reduceMul, Nat.reduceLeDiff, Nat.reduceLT, Int.reduceLT, Int.reduceLE, Int.reduceEq, Int.reduceToNat, Int.reduceSub, Int.reduceNeg, Int.reduceAdd, ↓reduceIte, reduceCtorEq, ite_self, eq_self, if_true, if_false, pack, pid, parN, List.not_mem_nil, List.mem_cons, lid, chkK, apartV, List.map_nil, List.flatMap_nil, List.append_nil, List.nil_append, List.drop_zero, List.length_set, List.length_replicate, List.length_append, List.take_length, List.take_zero, List.drop_length, Option.isNone_none, Heap.none, c0, c1, eRw_rules, eRw_row, eC_rules, eC_row, Int.natCast_nonneg, e3]
    | false =>
      rw [Bool.false_or]
      by_cases hmi : ((all.getD i []).getD j dC).1 = true
      · have hb : bad m ((all.getD i []).getD j dC) = false := by unfold bad; rw [hmi]; rfl
        have h8 := h9 false
        rw [hb]
        rw [Bool.false_or] at h8 ⊢
        rw [← h8]
        conv => lhs; rw [LP_go FF b11_1.eq_1]
        simp only [RB, un, St.none, Nat.reduceEqDiff, Nat.reduceAdd, Nat.reduceMul, Nat.reduceLeDiff, Nat.reduceLT, Int.reduceLT, Int.reduceLE, Int.reduceEq, Int.reduceToNat, Int.reduceSub, Int.reduceNeg, Int.reduceAdd, ↓reduceIte, reduceCtorEq, ite_self, eq_self, if_true, if_false, pack, pid, parN, List.not_mem_nil, List.mem_cons, lid, chkK, apartV, List.map_nil, List.flatMap_nil, List.append_nil, List.nil_append, List.drop_zero, List.length_set, List.length_replicate, List.length_append, List.take_length, List.take_zero, List.drop_length, Option.isNone_none, Heap.none, c0, c1, eRw_rules, eRw_row, eC_rules, eC_row, Int.natCast_nonneg, e3, hmi]
      · have hmf : ((all.getD i []).getD j dC).1 = false := by simpa using hmi
        have hb : bad m ((all.getD i []).getD j dC) = decide (m < (dgQ (qv ((all.getD i []).getD j dC).2.1 ((all.getD i []).getD j dC).2.2.1 ((all.getD i []).getD j dC).2.2.2) : Int)) := by unfold bad; rw [hmf]; rfl
        rw [hb]
        have h8 := h9 (decide (m < (dgQ (qv ((all.getD i []).getD j dC).2.1 ((all.getD i []).getD j dC).2.2.1 ((all.getD i []).getD j dC).2.2.2) : Int)))
        rw [← h8]
        conv => lhs; rw [LP_go FF b11_1.eq_1]
        simp only [RB, un, St.none, Nat.reduceEqDiff, Nat.reduceAdd, Nat.reduceMul, Nat.reduceLeDiff, Nat.reduceLT, Int.reduceLT, Int.reduceLE, Int.reduceEq, Int.reduceToNat, Int.reduceSub, Int.reduceNeg, Int.reduceAdd, ↓reduceIte, reduceCtorEq, ite_self, eq_self, if_true, if_false, pack, pid, parN, List.not_mem_nil, List.mem_cons, lid, chkK, apartV, List.map_nil, List.flatMap_nil, List.append_nil, List.nil_append, List.drop_zero, List.length_set, List.length_replicate, List.length_append, List.take_length, List.take_zero, List.drop_length, Option.isNone_none, Heap.none, c0, c1, eRw_rules, eRw_row, eC_rules, eC_row, Int.natCast_nonneg, e3, hmf, f1]
theorem chk_l0 {all : List (List RC)} {k : Nat} (hk : k ≤ 10000) (h1k : 1 ≤ k) (hs : ∀ r ∈ all, SmC r k ∧ r.length ≤ 1000000000) (hal : all.length ≤ 1000000000) {a b c m e : Int} (hm : 1 ≤ m) : ∀ (d i : Nat) (o : Bool), i + d = all.length →
    LP FF [(2, 0), (5, 0), (6, 0), (7, 0), (8, 0)] [(5, 0), (6, 0)] b11_0 [.tp (lims a b c m) 0, (AV.i .i64 e), .b o, .l 1 (all.map eRw), (AV.i .i64 ((i : Int)))] = some (.exit 0, [(AV.i .i64 e), .b (o || (all.drop i).any (·.any (bad m)))]) := by
  intro d
  induction d with
  | zero =>
    intro i o hi
    rw [List.drop_of_length_le (by omega), List.any_nil, Bool.or_false]
    have c1 : ¬ (i : Int) < (all.length : Int) := by omega
    rw [LP_go FF b11_0.eq_1]
    simp only [RB, un, St.none, Nat.reduceEqDiff, Nat.reduceAdd, Nat.reduceMul, Nat.reduceLeDiff, Nat.reduceLT, Int.reduceLT, Int.reduceLE, Int.reduceEq, Int.reduceToNat, Int.reduceSub, Int.reduceNeg, Int.reduceAdd, ↓reduceIte, reduceCtorEq, ite_self, eq_self, if_true, if_false, pack, pid, parN, List.not_mem_nil, List.mem_cons, lid, chkK, apartV, List.map_nil, List.flatMap_nil, List.append_nil, List.nil_append, List.drop_zero, List.length_set, List.length_replicate, List.length_append, List.take_length, List.take_zero, List.drop_length, Option.isNone_none, Heap.none, c1]
  | succ d ih =>
    intro i o hi
    have hlt : i < all.length := by omega
    have hdr : all.drop i = all.getD i [] :: all.drop (i + 1) := by
      rw [List.drop_eq_getElem_cons hlt, List.getD_eq_getElem?_getD, List.getElem?_eq_getElem hlt]
      rfl
    have hx := hs _ (getD_mem' ([] : List RC) hlt)
    have c1 : (i : Int) < (all.length : Int) := by omega
    have e3 : IntKind.i64.wrap ((i : Int) + 1) = ((i + 1 : Nat) : Int) := w64succ (by omega)
    have h1 := chk_l1 hk h1k hlt hx.1 hx.2 (a := a) (b := b) (c := c) (m := m) (e := e) hm (all.getD i []).length 0 o (by omega)
    rw [List.drop_zero, Int.ofNat_zero] at h1
    have h9 := ih (i + 1) (o || (all.getD i []).any (bad m)) (by omega)
    rw [hdr, List.any_cons, ← Bool.or_assoc, ← h9]
    conv => lhs; rw [LP_go FF b11_0.eq_1]
    simp only [RB, un, St.none, Nat.reduceEqDiff, Nat.reduceAdd, Nat.reduceMul, Nat.reduceLeDiff, Nat.reduceLT, Int.reduceLT, Int.reduceLE, Int.reduceEq, Int.reduceToNat, Int.reduceSub, Int.reduceNeg, Int.reduceAdd, ↓reduceIte, reduceCtorEq, ite_self, eq_self, if_true, if_false, pack, pid, parN, List.not_mem_nil, List.mem_cons, lid, chkK, apartV, List.map_nil, List.flatMap_nil, List.append_nil, List.nil_append, List.drop_zero, List.length_set, List.length_replicate, List.length_append, List.take_length, List.take_zero, List.drop_length, Option.isNone_none, Heap.none, c1, h1, e3]
theorem limitChecks_c {r g : List RC} {rs : List (List RC)} {k : Nat} (hk : k ≤ 10000) (h1k : 1 ≤ k) (hr : SmC r k ∧ r.length ≤ 1000000000) (hg : SmC g k ∧ g.length ≤ 1000000000) (hs : ∀ r ∈ rs, SmC r k ∧ r.length ≤ 1000000000) (hl : rs.length ≤ 1000000) {a b c m x y x' y' : Int} {r' g' : List RC} {rs' : List (List RC)}
    (hf : R FF 58 [.agg (ask x' y' r' rs' g')] = some (.agg (ask x y r rs g))) :
    R FF 11 [.agg (lims a b c m), .agg (ask x' y' r' rs' g')] = some (.b true) := by
  have h1 := check_c (by omega) h1k hr hg hs (by omega) (a := a) (b := b) (c := c) (m := m) (x := x) (y := y)
  have h2 := right30_c a b c m
  have aw := awake30
  cases hR : rgL a b c m with
  | false =>
    rw [hR] at h1 h2
    rw [if_neg (by decide)] at h1
    rw [R_go FF F11 c11.eq_1]
    simp only [RB, un, St.none, Nat.reduceEqDiff, Nat.reduceAdd, Nat.reduceMul, Nat.reduceLeDiff, Nat.reduceLT, Int.reduceLT, Int.reduceLE, Int.reduceEq, Int.reduceToNat, Int.reduceSub, Int.reduceNeg, Int.reduceAdd, ↓reduceIte, reduceCtorEq, ite_self, eq_self, if_true, if_false, pack, pid, parN, List.not_mem_nil, List.mem_cons, lid, chkK, apartV, List.map_nil, List.flatMap_nil, List.append_nil, List.nil_append, List.drop_zero, List.length_set, List.length_replicate, List.length_append, List.take_length, List.take_zero, List.drop_length, Option.isNone_none, Heap.none, hf, h1, h2, aw]
  | true =>
    rw [hR] at h1 h2
    rw [if_pos rfl] at h1
    have hm : 1 ≤ m := by unfold rgL at hR; have := of_decide_eq_true hR; omega
    have h3 := chk_l0 (all := r :: g :: rs) hk h1k (by
      intro z hz
      rcases List.mem_cons.1 hz with h | h
      · subst h; exact hr
      · rcases List.mem_cons.1 h with h | h
        · subst h; exact hg
        · exact hs z h) (by simp only [List.length_cons]; omega) (a := a) (b := b) (c := c) (m := m) (e := if beyond b c m r rs g then 16 else 0) hm (r :: g :: rs).length 0 (decide (b < (rs.length : Int)) || decide (c < (g.length : Int))) (by omega)
    rw [List.drop_zero, Int.ofNat_zero] at h3
    have hb : ((decide (b < (rs.length : Int)) || decide (c < (g.length : Int))) || (r :: g :: rs).any (·.any (bad m))) = beyond b c m r rs g := by
      unfold beyond
      rw [List.any_cons, List.any_cons]
    rw [hb] at h3
    have htk : List.take (2 + rs.length) ([[AV.l 4 (r.map eC)], [AV.l 4 (g.map eC)]] ++ rs.map eRw) = (r :: g :: rs).map eRw := List.take_of_length_le (by simp only [List.length_append, List.length_cons, List.length_nil, List.length_map]; omega)
    have b3 : (2 + rs.length) * 24 ≤ 140737488355328 := by omega
    by_cases c1 : b < (rs.length : Int)
    · rw [decide_eq_true c1] at h3
      simp only [Bool.true_or] at h3
      have hB : beyond b c m r rs g = true := by unfold beyond; rw [decide_eq_true c1]; rfl
      rw [hB] at h1 h3
      rw [R_go FF F11 c11.eq_1]
      simp only [RB, un, St.none, Nat.reduceEqDiff, Nat.reduceAdd, Nat.reduceMul, Nat.reduceLeDiff, Nat.reduceLT, Int.reduceLT, Int.reduceLE, Int.reduceEq, Int.reduceToNat, Int.reduceSub, Int.reduceNeg, Int.reduceAdd, ↓reduceIte, reduceCtorEq, ite_self, eq_self, if_true, if_false, pack, pid, parN, List.not_mem_nil, List.mem_cons, lid, chkK, apartV, List.map_nil, List.flatMap_nil, List.append_nil, List.nil_append, List.drop_zero, List.length_set, List.length_replicate, List.length_append, List.take_length, List.take_zero, List.drop_length, Option.isNone_none, Heap.none, hf, h1, h2, aw, c1]
      rw [if_pos b3, htk]
      simp only [RB, un, St.none, Nat.reduceEqDiff, Nat.reduceAdd, Nat.reduceMul, Nat.reduceLeDiff, Nat.reduceLT, Int.reduceLT, Int.reduceLE, Int.reduceEq, Int.reduceToNat, Int.reduceSub, Int.reduceNeg, Int.reduceAdd, ↓reduceIte, reduceCtorEq, ite_self, eq_self, if_true, if_false, pack, pid, parN, List.not_mem_nil, List.mem_cons, lid, chkK, apartV, List.map_nil, List.flatMap_nil, List.append_nil, List.nil_append, List.drop_zero, List.length_set, List.length_replicate, List.length_append, List.take_length, List.take_zero, List.drop_length, Option.isNone_none, Heap.none] at h3
      simp only [RB, un, St.none, Nat.reduceEqDiff, Nat.reduceAdd, Nat.reduceMul, Nat.reduceLeDiff, Nat.reduceLT, Int.reduceLT, Int.reduceLE, Int.reduceEq, Int.reduceToNat, Int.reduceSub, Int.reduceNeg, Int.reduceAdd, ↓reduceIte, reduceCtorEq, ite_self, eq_self, if_true, if_false, pack, pid, parN, List.not_mem_nil, List.mem_cons, lid, chkK, apartV, List.map_nil, List.flatMap_nil, List.append_nil, List.nil_append, List.drop_zero, List.length_set, List.length_replicate, List.length_append, List.take_length, List.take_zero, List.drop_length, Option.isNone_none, Heap.none, h3, aw]
    · rw [decide_eq_false c1] at h3
      by_cases c2 : c < (g.length : Int)
      · rw [decide_eq_true c2] at h3
        simp only [Bool.true_or, Bool.or_true] at h3
        have hB : beyond b c m r rs g = true := by unfold beyond; rw [decide_eq_true c2, Bool.or_true]; rfl
        rw [hB] at h1 h3
        rw [R_go FF F11 c11.eq_1]
        simp only [RB, un, St.none, Nat.reduceEqDiff, Nat.reduceAdd, Nat.reduceMul, Nat.reduceLeDiff, Nat.reduceLT, Int.reduceLT, Int.reduceLE, Int.reduceEq, Int.reduceToNat, Int.reduceSub, Int.reduceNeg, Int.reduceAdd, ↓reduceIte, reduceCtorEq, ite_self, eq_self, if_true, if_false, pack, pid, parN, List.not_mem_nil, List.mem_cons, lid, chkK, apartV, List.map_nil, List.flatMap_nil, List.append_nil, List.nil_append, List.drop_zero, List.length_set, List.length_replicate, List.length_append, List.take_length, List.take_zero, List.drop_length, Option.isNone_none, Heap.none, hf, h1, h2, aw, c1, c2]
        rw [if_pos b3, htk]
        simp only [RB, un, St.none, Nat.reduceEqDiff, Nat.reduceAdd, Nat.reduceMul, Nat.reduceLeDiff, Nat.reduceLT, Int.reduceLT, Int.reduceLE, Int.reduceEq, Int.reduceToNat, Int.reduceSub, Int.reduceNeg, Int.reduceAdd, ↓reduceIte, reduceCtorEq, ite_self, eq_self, if_true, if_false, pack, pid, parN, List.not_mem_nil, List.mem_cons, lid, chkK, apartV, List.map_nil, List.flatMap_nil, List.append_nil, List.nil_append, List.drop_zero, List.length_set, List.length_replicate, List.length_append, List.take_length, List.take_zero, List.drop_length, Option.isNone_none, Heap.none] at h3
        simp only [RB, un, St.none, Nat.reduceEqDiff, Nat.reduceAdd, Nat.reduceMul, Nat.reduceLeDiff, Nat.reduceLT, Int.reduceLT, Int.reduceLE, Int.reduceEq, Int.reduceToNat, Int.reduceSub, Int.reduceNeg, Int.reduceAdd, ↓reduceIte, reduceCtorEq, ite_self, eq_self, if_true, if_false, pack, pid, parN, List.not_mem_nil, List.mem_cons, lid, chkK, apartV, List.map_nil, List.flatMap_nil, List.append_nil, List.nil_append, List.drop_zero, List.length_set, List.length_replicate, List.length_append, List.take_length, List.take_zero, List.drop_length, Option.isNone_none, Heap.none, h3, aw]
      · rw [decide_eq_false c2] at h3
        simp only [Bool.false_or] at h3
        cases hB : beyond b c m r rs g <;> rw [hB] at h1 h3
        · rw [if_neg (by decide)] at h1 h3
          rw [R_go FF F11 c11.eq_1]
          simp only [RB, un, St.none, Nat.reduceEqDiff, Nat.reduceAdd, Nat.reduceMul, Nat.reduceLeDiff, Nat.reduceLT, Int.reduceLT, Int.reduceLE, Int.reduceEq, Int.reduceToNat, Int.reduceSub, Int.reduceNeg, Int.reduceAdd, ↓reduceIte, reduceCtorEq, ite_self, eq_self, if_true, if_false, pack, pid, parN, List.not_mem_nil, List.mem_cons, lid, chkK, apartV, List.map_nil, List.flatMap_nil, List.append_nil, List.nil_append, List.drop_zero, List.length_set, List.length_replicate, List.length_append, List.take_length, List.take_zero, List.drop_length, Option.isNone_none, Heap.none, hf, h1, h2, aw, c1, c2]
          rw [if_pos b3, htk]
          simp only [List.map_cons] at h3
          simp only [RB, un, St.none, Nat.reduceEqDiff, Nat.reduceAdd, Nat.reduceMul, Nat.reduceLeDiff, Nat.reduceLT, Int.reduceLT, Int.reduceLE, Int.reduceEq, Int.reduceToNat, Int.reduceSub, Int.reduceNeg, Int.reduceAdd, ↓reduceIte, reduceCtorEq, ite_self, eq_self, if_true, if_false, pack, pid, parN, List.not_mem_nil, List.mem_cons, lid, chkK, apartV, List.map_nil, List.flatMap_nil, List.append_nil, List.nil_append, List.drop_zero, List.length_set, List.length_replicate, List.length_append, List.take_length, List.take_zero, List.drop_length, Option.isNone_none, Heap.none, h3, aw]
        · rw [if_pos rfl] at h1 h3
          rw [R_go FF F11 c11.eq_1]
          simp only [RB, un, St.none, Nat.reduceEqDiff, Nat.reduceAdd, Nat.reduceMul, Nat.reduceLeDiff, Nat.reduceLT, Int.reduceLT, Int.reduceLE, Int.reduceEq, Int.reduceToNat, Int.reduceSub, Int.reduceNeg, Int.reduceAdd, ↓reduceIte, reduceCtorEq, ite_self, eq_self, if_true, if_false, pack, pid, parN, List.not_mem_nil, List.mem_cons, lid, chkK, apartV, List.map_nil, List.flatMap_nil, List.append_nil, List.nil_append, List.drop_zero, List.length_set, List.length_replicate, List.length_append, List.take_length, List.take_zero, List.drop_length, Option.isNone_none, Heap.none, hf, h1, h2, aw, c1, c2]
          rw [if_pos b3, htk]
          simp only [List.map_cons] at h3
          simp only [RB, un, St.none, Nat.reduceEqDiff, Nat.reduceAdd, Nat.reduceMul, Nat.reduceLeDiff, Nat.reduceLT, Int.reduceLT, Int.reduceLE, Int.reduceEq, Int.reduceToNat, Int.reduceSub, Int.reduceNeg, Int.reduceAdd, ↓reduceIte, reduceCtorEq, ite_self, eq_self, if_true, if_false, pack, pid, parN, List.not_mem_nil, List.mem_cons, lid, chkK, apartV, List.map_nil, List.flatMap_nil, List.append_nil, List.nil_append, List.drop_zero, List.length_set, List.length_replicate, List.length_append, List.take_length, List.take_zero, List.drop_length, Option.isNone_none, Heap.none, h3, aw]
end Go.Pe
set_option linter.unusedVariables false
set_option linter.unusedSimpArgs false
namespace Go.Pe
open Go
def kL : List CK := [.int .i64, .int .i64, .int .i64, .int .i64]
abbrev RLt := Int × Int × Int × Int
def eL (x : RLt) : List AV := lims x.1 x.2.1 x.2.2.1 x.2.2.2
theorem open_L {acs : List AV} (h : Fits kL acs) : ∃ x : RLt, acs = eL x ∧ True := by
  obtain ⟨a, r, rfl, h1, h⟩ := h.cons
  obtain ⟨b, r, rfl, h2, h⟩ := h.cons
  obtain ⟨c, r, rfl, h3, h⟩ := h.cons
  obtain ⟨d, rfl, h4⟩ := h.one
  obtain ⟨a, rfl, _⟩ := h1.inv_int
  obtain ⟨b, rfl, _⟩ := h2.inv_int
  obtain ⟨c, rfl, _⟩ := h3.inv_int
  obtain ⟨d, rfl, _⟩ := h4.inv_int
  exact ⟨(a, b, c, d), rfl, trivial⟩
def kA : List CK := [.int .i64, .int .i64, .sl kC, .sl [.sl kC], .sl kC]
abbrev RAk := Int × Int × List RC × List (List RC) × List RC
def eA (x : RAk) : List AV := ask x.1 x.2.1 x.2.2.1 x.2.2.2.1 x.2.2.2.2
def OkRow (r : List RC) : Prop := r.length ≤ maxL ∧ ∀ c ∈ r, OkC c
def OkA (x : RAk) : Prop := OkRow x.2.2.1 ∧ (x.2.2.2.1.length ≤ maxL ∧ ∀ r ∈ x.2.2.2.1, OkRow r) ∧ OkRow x.2.2.2.2
theorem open_A {acs : List AV} (h : Fits kA acs) : ∃ x : RAk, acs = eA x ∧ OkA x := by
  obtain ⟨a, r, rfl, h1, h⟩ := h.cons
  obtain ⟨b, r, rfl, h2, h⟩ := h.cons
  obtain ⟨c, r, rfl, h3, h⟩ := h.cons
  obtain ⟨d, r, rfl, h4, h⟩ := h.cons
  obtain ⟨e, rfl, h5⟩ := h.one
  obtain ⟨a, rfl, _⟩ := h1.inv_int
  obtain ⟨b, rfl, _⟩ := h2.inv_int
  obtain ⟨r, rfl, g1, g2⟩ := open_LC h3
  obtain ⟨rs, rfl, g3, g4⟩ := open_list h4 eRw OkRow fun acs ha => by
    obtain ⟨y, rfl, hy⟩ := ha.one
    obtain ⟨r, rfl, g1, g2⟩ := open_LC hy
    exact ⟨r, rfl, g1, g2⟩
  obtain ⟨g, rfl, g5, g6⟩ := open_LC h5
  exact ⟨(a, b, r, rs, g), rfl, ⟨g1, g2⟩, ⟨g3, g4⟩, g5, g6⟩
theorem fw_sm {r : List RC} (h : OkRow r) : SmC (fw 8 r) 3 ∧ (fw 8 r).length ≤ 1000000000 := by
  refine ⟨fun c hc => ?_, ?_⟩
  · obtain ⟨x, hx, rfl⟩ := List.mem_map.1 hc
    have := h.2 x (List.mem_of_mem_take hx)
    exact Sm.take (k := maxL) this 3
  · unfold fw
    rw [List.length_map, List.length_take]
    omega
theorem law_LimitChecks (x0 : RLt) (ok0 : True) (x1 : RAk) (ok1 : OkA x1) : R FF 11 [.agg (eL x0), .agg (eA x1)] = some (.b true) := by
  obtain ⟨k, f, r, rs, g⟩ := x1
  obtain ⟨h1, ⟨h2, h3⟩, h4⟩ := ok1
  have hf := few28_c (k := k) (f := f) (r := r) (g := g) (rs := rs) h1 h4 ⟨h2, h3⟩
  exact limitChecks_c (k := 3) (by omega) (by omega) (fw_sm h1) (fw_sm h4) (fun z hz => by
    obtain ⟨y, hy, rfl⟩ := List.mem_map.1 hz
    exact fw_sm (h3 y (List.mem_of_mem_take hy))) (by rw [List.length_map, List.length_take]; omega) hf
end Go.Pe
set_option linter.unusedVariables false
set_option linter.unusedSimpArgs false
set_option maxRecDepth 100000
namespace Go.Pe
open Go Go.RowKit Go.Proofs
theorem x30w64_eq (x : Int) : IntKind.i64.wrap x = wrap64 x := by rw [IntKind.wrap_i64]; unfold wrap64; omega
theorem x30add_c (b off : Nat) (x d : Int) (w : World) (hc : w.cell? ⟨b, off, none⟩ = some (.int .i64 x)) (hz : w.frozen? ⟨b, off, none⟩ = false) :
    Calls Tryd.prog 127 #[.pointer (some ⟨b, off, none⟩), .int .i64 d] w fun e w' => e = .returned (.int .i64 (wrap64 (x + d))) ∧ w' = w.setCell ⟨b, off, none⟩ (.int .i64 (wrap64 (x + d))) := by
  have hadd := run_call_add (P := Tryd.prog) Tryd.func137 (by kernel_rfl) (by kernel_rfl) (by kernel_rfl) .i64 (by kernel_rfl) (y := d) (s := wrap64 (x + d)) hc hz (by show Result.ok (Value.int .i64 (IntKind.i64.wrap (x + d))) w = _; rw [x30w64_eq])
  go_enter Tryd.func127, Tryd.ntmps127
  go_wp2
  go_ret
  exact ⟨rfl, rfl⟩
theorem x30store_c (b off : Nat) (x : Int) (u : Value) (w : World) (hc : w.cell? ⟨b, off, none⟩ = some u) (hz : w.frozen? ⟨b, off, none⟩ = false) :
    Calls Tryd.prog 126 #[.pointer (some ⟨b, off, none⟩), .int .i64 x] w fun e w' => e = .returned (.tuple #[]) ∧ w' = w.setCell ⟨b, off, none⟩ (.int .i64 x) := by
  have hst := run_call_store (P := Tryd.prog) Tryd.func136 (by kernel_rfl) (by kernel_rfl) (by kernel_rfl) (by kernel_rfl) (k := .i64) (y := x) hc hz
  go_enter Tryd.func126, Tryd.ntmps126
  go_wp2
  go_end0
  exact ⟨rfl, rfl⟩
theorem x30load_c (b off : Nat) (x : Int) (w : World) (hc : w.cell? ⟨b, off, none⟩ = some (.int .i64 x)) :
    Calls Tryd.prog 128 #[.pointer (some ⟨b, off, none⟩)] w fun e w' => e = .returned (.int .i64 x) ∧ w' = w := by
  have hl := run_call_load (P := Tryd.prog) Tryd.func138 (by kernel_rfl) (by kernel_rfl) (by kernel_rfl) .i64 (by kernel_rfl) hc
  go_enter Tryd.func128, Tryd.ntmps128
  go_wp2
  go_ret
  exact ⟨rfl, rfl⟩
structure x30Met (w : World) (b : Nat) (A R L : Int) (bd : Bool) : Prop where
  a : w.cell? ⟨b, 0, none⟩ = some (.int .i64 A)
  r : w.cell? ⟨b, 1, none⟩ = some (.int .i64 R)
  l : w.cell? ⟨b, 2, none⟩ = some (.int .i64 L)
  d : w.cell? ⟨b, 3, none⟩ = some (.bool bd)
  fa : w.frozen? ⟨b, 0, none⟩ = false
  fr : w.frozen? ⟨b, 1, none⟩ = false
  fl : w.frozen? ⟨b, 2, none⟩ = false
theorem x30Met.setL {w : World} {b : Nat} {A R L : Int} {bd : Bool} (m : x30Met w b A R L bd) (x : Int) : x30Met (w.setCell ⟨b, 2, none⟩ (.int .i64 x)) b A R x bd := by
  obtain ⟨ha, hr, hl, hd, fa, fr, fl⟩ := m
  constructor <;> go_simp
set_option maxHeartbeats 1600000 in
theorem x30take_some (b : Nat) (A R L : Int) (w : World) (m : x30Met w b A R L true) (h : ¬ wrap64 (L + -1) < 0) :
    Calls Tryd.prog 103 #[.pointer (some ⟨b, 0, none⟩)] w fun e w' => e = .returned (.bool true) ∧ w' = (w.setCell ⟨b, 2, none⟩ (.int .i64 (wrap64 (L + -1)))).setCell ⟨b, 0, none⟩ (.int .i64 (wrap64 (A + 1))) := by
  have m2 := m.setL (wrap64 (L + -1))
  have hd := m.d
  have c1 := x30add_c b 2 L (-1) _ m.l m.fl
  have c2 := x30add_c b 0 A 1 _ m2.a m2.fa
  clear m m2
  go_enter Tryd.func103, Tryd.ntmps103
  go_wp2_with (go_at_call 127; first | (refine c1.mono ?_; rintro e w' ⟨rfl, rfl⟩) | (refine c2.mono ?_; rintro e w' ⟨rfl, rfl⟩))
  go_ret
  exact ⟨rfl, rfl⟩
set_option maxHeartbeats 1600000 in
theorem x30take_none (b : Nat) (A R L : Int) (w : World) (m : x30Met w b A R L true) (h : wrap64 (L + -1) < 0) :
    Calls Tryd.prog 103 #[.pointer (some ⟨b, 0, none⟩)] w fun e w' => e = .returned (.bool false) ∧ w' = ((w.setCell ⟨b, 2, none⟩ (.int .i64 (wrap64 (L + -1)))).setCell ⟨b, 2, none⟩ (.int .i64 0)).setCell ⟨b, 1, none⟩ (.int .i64 (wrap64 (R + 1))) := by
  have m2 := m.setL (wrap64 (L + -1))
  have m3 := m2.setL 0
  have hd := m.d
  have c1 := x30add_c b 2 L (-1) _ m.l m.fl
  have c2 := x30store_c b 2 0 _ _ m2.l m2.fl
  have c3 := x30add_c b 1 R 1 _ m3.r m3.fr
  clear m m2 m3
  go_enter Tryd.func103, Tryd.ntmps103
  go_wp2_with (first | (go_at_call 126; refine c2.mono ?_; rintro e w' ⟨rfl, rfl⟩) | (go_at_call 127; first | (refine c1.mono ?_; rintro e w' ⟨rfl, rfl⟩) | (refine c3.mono ?_; rintro e w' ⟨rfl, rfl⟩)))
  go_ret
  exact ⟨rfl, rfl⟩
theorem x30Met.drewN {w : World} {b : Nat} {A R L : Int} {bd : Bool} (m : x30Met w b A R L bd) (n : Nat) : x30Met (w.drewN n) b A R L bd := ⟨m.a, m.r, m.l, m.d, m.fa, m.fr, m.fl⟩
set_option maxHeartbeats 1600000 in
theorem x30counts_c (b : Nat) (A R L : Int) (bd : Bool) (w : World) (m : x30Met w b A R L bd) :
    Calls Tryd.prog 104 #[.pointer (some ⟨b, 0, none⟩)] w fun e w' => e = .returned (.tuple #[.int .i64 A, .int .i64 R]) ∧ ∃ n, w' = w.drewN n := by
  have c1 : ∀ n, Calls Tryd.prog 128 #[.pointer (some ⟨b, 0, none⟩)] (w.drewN n) fun e w' => e = .returned (.int .i64 A) ∧ w' = w.drewN n := fun n => x30load_c b 0 A _ (m.drewN n).a
  have c2 : ∀ n, Calls Tryd.prog 128 #[.pointer (some ⟨b, 1, none⟩)] (w.drewN n) fun e w' => e = .returned (.int .i64 R) ∧ w' = w.drewN n := fun n => x30load_c b 1 R _ (m.drewN n).r
  clear m
  go_enter Tryd.func104, Tryd.ntmps104
  go_wp2_with fail
  go_quiet (first | (go_at_call 128; exact Calls.quiet_of_same (c1 _)) | (go_at_call 128; exact Calls.quiet_of_same (c2 _)))
  go_wp2
  go_ret2
  exact ⟨rfl, _, rfl⟩
def x30mobj (A R L : Int) (bd : Bool) : Obj := Obj.cells #[.int .i64 A, .int .i64 R, .int .i64 L, .bool bd] 159
theorem x30met_alloc (w : World) (A R L : Int) (bd : Bool) : x30Met (w.alloc (x30mobj A R L bd)) w.heap.size A R L bd := by
  unfold x30mobj
  constructor <;> go_simp
theorem x30bound_c (n : Int) (h : ¬ n < 0) (w : World) : Calls Tryd.prog 102 #[.int .i64 n] w fun e w' => e = .returned (.tuple #[.pointer (some ⟨w.heap.size, 0, none⟩), .int .i64 0]) ∧ w' = w.alloc (x30mobj 0 0 n true) := by
  have m := x30met_alloc w 0 0 0 true
  have c1 := x30store_c w.heap.size 2 n _ _ m.l m.fl
  clear m
  unfold x30mobj at c1 ⊢
  go_enter Tryd.func102, Tryd.ntmps102
  go_wp2_with (go_at_call 126; refine c1.mono ?_; rintro e w' ⟨rfl, rfl⟩)
  go_ret2
  exact ⟨rfl, rfl⟩
theorem x30al_a (w : World) (A R L x : Int) (bd : Bool) : (w.alloc (x30mobj A R L bd)).setCell ⟨w.heap.size, 0, none⟩ (.int .i64 x) = w.alloc (x30mobj x R L bd) := by unfold x30mobj; go_simp
theorem x30al_r (w : World) (A R L x : Int) (bd : Bool) : (w.alloc (x30mobj A R L bd)).setCell ⟨w.heap.size, 1, none⟩ (.int .i64 x) = w.alloc (x30mobj A x L bd) := by unfold x30mobj; go_simp
theorem x30al_l (w : World) (A R L x : Int) (bd : Bool) : (w.alloc (x30mobj A R L bd)).setCell ⟨w.heap.size, 2, none⟩ (.int .i64 x) = w.alloc (x30mobj A R x bd) := by unfold x30mobj; go_simp
theorem x30wrp {x : Int} (h0 : -9223372036854775808 ≤ x) (h1 : x ≤ 9223372036854775807) : wrap64 x = x := by unfold wrap64; omega
theorem x30take_a1 (w : World) : Calls Tryd.prog 103 #[.pointer (some ⟨w.heap.size, 0, none⟩)] (w.alloc (x30mobj 0 0 1 true)) fun e w' => e = .returned (.bool true) ∧ w' = w.alloc (x30mobj 1 0 0 true) := by
  refine (x30take_some w.heap.size 0 0 1 _ (x30met_alloc w 0 0 1 true) (by rw [x30wrp (by omega) (by omega)]; omega)).mono fun e w' ⟨h1, h2⟩ => ⟨h1, ?_⟩
  rw [h2, x30al_l, x30al_a, x30wrp (by omega) (by omega), x30wrp (by omega) (by omega)]; rfl
theorem x30take_a2 (w : World) : Calls Tryd.prog 103 #[.pointer (some ⟨w.heap.size, 0, none⟩)] (w.alloc (x30mobj 1 0 0 true)) fun e w' => e = .returned (.bool false) ∧ w' = w.alloc (x30mobj 1 1 0 true) := by
  refine (x30take_none w.heap.size 1 0 0 _ (x30met_alloc w 1 0 0 true) (by rw [x30wrp (by omega) (by omega)]; omega)).mono fun e w' ⟨h1, h2⟩ => ⟨h1, ?_⟩
  rw [h2, x30al_l, x30al_l, x30al_r, x30wrp (x := 0 + 1) (by omega) (by omega)]; rfl
theorem x30default_c (w : World) : Calls Tryd.prog 105 #[] w fun e w' => e = .returned (.agg #[.int .i64 1000, .int .i64 100, .int .i64 100, .int .i64 200]) ∧ w' = w.alloc (Obj.cells #[.int .i64 1000, .int .i64 100, .int .i64 100, .int .i64 200] 88) := by
  go_enter Tryd.func105, Tryd.ntmps105
  go_wp2
  refine bodyPost_ret (v := .agg #[.int .i64 1000, .int .i64 100, .int .i64 100, .int .i64 200]) (by simp [results, Tryd.results105, go_sem]) rfl ⟨rfl, rfl⟩
set_option maxHeartbeats 3200000 in
theorem x30awake_c (w : World) : Calls Tryd.prog 63 #[] w fun e w' => e = .returned (.bool true) ∧ Below w.heap.size w w' := by
  have c1 := x30bound_c 1 (by decide) w
  have c2 := x30take_a1 w
  have c3 := x30take_a2 w
  have c4 := x30counts_c w.heap.size 1 1 0 true _ (x30met_alloc w 1 1 0 true)
  unfold x30mobj at c1 c2 c3 c4
  go_enter Tryd.func63, Tryd.ntmps63
  go_wp2_with (first | (go_at_call 102; refine c1.mono ?_; rintro e w' ⟨rfl, rfl⟩) | (go_at_call 103; first | (refine c2.mono ?_; rintro e w' ⟨rfl, rfl⟩) | (refine c3.mono ?_; rintro e w' ⟨rfl, rfl⟩)) | (go_at_call 104; refine c4.mono ?_; rintro e w' ⟨rfl, nq, rfl⟩) | (go_at_call 105; refine (x30default_c _).mono ?_; rintro e w' ⟨rfl, rfl⟩))
  go_ret
  refine ⟨rfl, ?_⟩
  exact (below_drewN ((Below.refl _ w).alloc (Nat.le_refl _) _) nq).alloc (by simp) _
theorem x30R (xs : List AV) (h : xs.length = 0) : R FF 61 xs = some (.b true) := by
  obtain rfl := List.eq_nil_of_length_eq_zero h
  exact (R_some FF).2 ⟨5, by kernel_rfl⟩
theorem X61 {tabs : List (Nat × List AV)} : ∀ xs r, xs.length = arOf Tryd.prog 63 → R FF 61 xs = some r → CallOk Tryd.prog 63 p61.res p61.lent tabs xs r := by
  intro xs r har hr
  have h0 : xs.length = 0 := har.trans (by kernel_rfl)
  rw [x30R xs h0] at hr
  cases hr
  obtain rfl := List.eq_nil_of_length_eq_zero h0
  intro fr ρ vs ht hl hsz hw he
  obtain rfl : vs = #[] := Array.eq_empty_of_size_eq_zero hsz
  refine (x30awake_c fr.w0).mono fun e w' hh => ?_
  obtain ⟨rfl, hb⟩ := hh
  have ho : Old fr.w0 w' := ⟨hb.os, hb.tape, hb.output, hb.size, hb.block⟩
  refine ⟨[.b true], #[.bool true], fr.T0, ρ, rfl, rfl, rfl, rfl, hw.old ho, fun t => ?_, fun t => .inr ?_⟩
  all_goals
    cases t with
    | zero => exact .b
    | succ t => exact .junk
end Go.Pe
namespace Go.Pe
open Go Go.Proofs
set_option maxRecDepth 100000
def tabs0 : List (Nat × List AV) := [(0, tab0)]
def FD : Nat → Option PF
  | 11 => some p11
  | 29 => some p29
  | 54 => some p54
  | 58 => some p58
  | 59 => some p59
  | 60 => some p60
  | 61 => some p61
  | 62 => some p62
  | 63 => some p63
  | 71 => some p71
  | 72 => some p72
  | 73 => some p73
  | 74 => some p74
  | 75 => some p75
  | 81 => some p81
  | 92 => some p92
  | 93 => some p93
  | 97 => some p97
  | 98 => some p98
  | 99 => some p99
  | 104 => some p104
  | 105 => some p105
  | 106 => some p106
  | 107 => some p107
  | 108 => some p108
  | 109 => some p109
  | 110 => some p110
  | 111 => some p111
  | 112 => some p112
  | 113 => some p113
  | 114 => some p114
  | 115 => some p115
  | 121 => some p121
  | 123 => some p123
  | 127 => some p127
  | 128 => some p128
  | 129 => some p129
  | 130 => some p130
  | 131 => some p131
  | 132 => some p132
  | 133 => some p133
  | 137 => some p137
  | 138 => some p138
  | 139 => some p139
  | 140 => some p140
  | 141 => some p141
  | 285 => some p285
  | _ => none
def nuD : Nat → Nat
  | 11 => 13
  | 29 => 31
  | 54 => 56
  | 58 => 60
  | 59 => 61
  | 60 => 62
  | 61 => 63
  | 62 => 64
  | 63 => 65
  | 71 => 73
  | 72 => 74
  | 73 => 75
  | 74 => 76
  | 75 => 77
  | 81 => 83
  | 92 => 94
  | 93 => 95
  | 97 => 99
  | 98 => 100
  | 99 => 101
  | 104 => 106
  | 105 => 107
  | 106 => 108
  | 107 => 109
  | 108 => 110
  | 109 => 111
  | 110 => 112
  | 111 => 113
  | 112 => 114
  | 113 => 115
  | 114 => 116
  | 115 => 117
  | 121 => 123
  | 123 => 125
  | 127 => 129
  | 128 => 130
  | 129 => 131
  | 130 => 132
  | 131 => 133
  | 132 => 134
  | 133 => 135
  | 137 => 139
  | 138 => 140
  | 139 => 141
  | 140 => 142
  | 141 => 143
  | 285 => 116
  | _ => 0
theorem M11 : fnOk Tryd.prog (FD, nuD) tabs0 11 p11 = true := by kernel_rfl
theorem M29 : fnOk Tryd.prog (FD, nuD) tabs0 29 p29 = true := by kernel_rfl
theorem M54 : fnOk Tryd.prog (FD, nuD) tabs0 54 p54 = true := by kernel_rfl
theorem M58 : fnOk Tryd.prog (FD, nuD) tabs0 58 p58 = true := by kernel_rfl
theorem M59 : fnOk Tryd.prog (FD, nuD) tabs0 59 p59 = true := by kernel_rfl
theorem M60 : fnOk Tryd.prog (FD, nuD) tabs0 60 p60 = true := by kernel_rfl
theorem M62 : fnOk Tryd.prog (FD, nuD) tabs0 62 p62 = true := by kernel_rfl
theorem M63 : fnOk Tryd.prog (FD, nuD) tabs0 63 p63 = true := by kernel_rfl
theorem M71 : fnOk Tryd.prog (FD, nuD) tabs0 71 p71 = true := by kernel_rfl
theorem M72 : fnOk Tryd.prog (FD, nuD) tabs0 72 p72 = true := by kernel_rfl
theorem M73 : fnOk Tryd.prog (FD, nuD) tabs0 73 p73 = true := by kernel_rfl
theorem M74 : fnOk Tryd.prog (FD, nuD) tabs0 74 p74 = true := by kernel_rfl
theorem M75 : fnOk Tryd.prog (FD, nuD) tabs0 75 p75 = true := by kernel_rfl
theorem M81 : fnOk Tryd.prog (FD, nuD) tabs0 81 p81 = true := by kernel_rfl
theorem M92 : fnOk Tryd.prog (FD, nuD) tabs0 92 p92 = true := by kernel_rfl
theorem M93 : fnOk Tryd.prog (FD, nuD) tabs0 93 p93 = true := by kernel_rfl
theorem M97 : fnOk Tryd.prog (FD, nuD) tabs0 97 p97 = true := by kernel_rfl
theorem M98 : fnOk Tryd.prog (FD, nuD) tabs0 98 p98 = true := by kernel_rfl
theorem M99 : fnOk Tryd.prog (FD, nuD) tabs0 99 p99 = true := by kernel_rfl
theorem M104 : fnOk Tryd.prog (FD, nuD) tabs0 104 p104 = true := by kernel_rfl
theorem M105 : fnOk Tryd.prog (FD, nuD) tabs0 105 p105 = true := by kernel_rfl
theorem M106 : fnOk Tryd.prog (FD, nuD) tabs0 106 p106 = true := by kernel_rfl
theorem M107 : fnOk Tryd.prog (FD, nuD) tabs0 107 p107 = true := by kernel_rfl
theorem M108 : fnOk Tryd.prog (FD, nuD) tabs0 108 p108 = true := by kernel_rfl
theorem M109 : fnOk Tryd.prog (FD, nuD) tabs0 109 p109 = true := by kernel_rfl
theorem M110 : fnOk Tryd.prog (FD, nuD) tabs0 110 p110 = true := by kernel_rfl
theorem M111 : fnOk Tryd.prog (FD, nuD) tabs0 111 p111 = true := by kernel_rfl
theorem M112 : fnOk Tryd.prog (FD, nuD) tabs0 112 p112 = true := by kernel_rfl
theorem M113 : fnOk Tryd.prog (FD, nuD) tabs0 113 p113 = true := by kernel_rfl
theorem M114 : fnOk Tryd.prog (FD, nuD) tabs0 114 p114 = true := by kernel_rfl
theorem M115 : fnOk Tryd.prog (FD, nuD) tabs0 115 p115 = true := by kernel_rfl
theorem M121 : fnOk Tryd.prog (FD, nuD) tabs0 121 p121 = true := by kernel_rfl
theorem M123 : fnOk Tryd.prog (FD, nuD) tabs0 123 p123 = true := by kernel_rfl
theorem M127 : fnOk Tryd.prog (FD, nuD) tabs0 127 p127 = true := by kernel_rfl
theorem M128 : fnOk Tryd.prog (FD, nuD) tabs0 128 p128 = true := by kernel_rfl
theorem M129 : fnOk Tryd.prog (FD, nuD) tabs0 129 p129 = true := by kernel_rfl
theorem M130 : fnOk Tryd.prog (FD, nuD) tabs0 130 p130 = true := by kernel_rfl
theorem M131 : fnOk Tryd.prog (FD, nuD) tabs0 131 p131 = true := by kernel_rfl
theorem M132 : fnOk Tryd.prog (FD, nuD) tabs0 132 p132 = true := by kernel_rfl
theorem M133 : fnOk Tryd.prog (FD, nuD) tabs0 133 p133 = true := by kernel_rfl
theorem M137 : fnOk Tryd.prog (FD, nuD) tabs0 137 p137 = true := by kernel_rfl
theorem M138 : fnOk Tryd.prog (FD, nuD) tabs0 138 p138 = true := by kernel_rfl
theorem M139 : fnOk Tryd.prog (FD, nuD) tabs0 139 p139 = true := by kernel_rfl
theorem M140 : fnOk Tryd.prog (FD, nuD) tabs0 140 p140 = true := by kernel_rfl
theorem M141 : fnOk Tryd.prog (FD, nuD) tabs0 141 p141 = true := by kernel_rfl
theorem M285 : fnOk Tryd.prog (FD, nuD) tabs0 285 p285 = true := by kernel_rfl
theorem FD_ok (g : Nat) (p : PF) (h : FD g = some p) : (fnOk Tryd.prog (FD, nuD) tabs0 g p = true ∧ FF g = some p) ∨ ∀ xs r, xs.length = arOf Tryd.prog ((FD, nuD).2 g) → R FF g xs = some r → CallOk Tryd.prog ((FD, nuD).2 g) p.res p.lent tabs0 xs r := by
  unfold FD at h
  split at h
  · cases h; exact .inl ⟨M11, rfl⟩
  · cases h; exact .inl ⟨M29, rfl⟩
  · cases h; exact .inl ⟨M54, rfl⟩
  · cases h; exact .inl ⟨M58, rfl⟩
  · cases h; exact .inl ⟨M59, rfl⟩
  · cases h; exact .inl ⟨M60, rfl⟩
  · cases h; exact .inr X61
  · cases h; exact .inl ⟨M62, rfl⟩
  · cases h; exact .inl ⟨M63, rfl⟩
  · cases h; exact .inl ⟨M71, rfl⟩
  · cases h; exact .inl ⟨M72, rfl⟩
  · cases h; exact .inl ⟨M73, rfl⟩
  · cases h; exact .inl ⟨M74, rfl⟩
  · cases h; exact .inl ⟨M75, rfl⟩
  · cases h; exact .inl ⟨M81, rfl⟩
  · cases h; exact .inl ⟨M92, rfl⟩
  · cases h; exact .inl ⟨M93, rfl⟩
  · cases h; exact .inl ⟨M97, rfl⟩
  · cases h; exact .inl ⟨M98, rfl⟩
  · cases h; exact .inl ⟨M99, rfl⟩
  · cases h; exact .inl ⟨M104, rfl⟩
  · cases h; exact .inl ⟨M105, rfl⟩
  · cases h; exact .inl ⟨M106, rfl⟩
  · cases h; exact .inl ⟨M107, rfl⟩
  · cases h; exact .inl ⟨M108, rfl⟩
  · cases h; exact .inl ⟨M109, rfl⟩
  · cases h; exact .inl ⟨M110, rfl⟩
  · cases h; exact .inl ⟨M111, rfl⟩
  · cases h; exact .inl ⟨M112, rfl⟩
  · cases h; exact .inl ⟨M113, rfl⟩
  · cases h; exact .inl ⟨M114, rfl⟩
  · cases h; exact .inl ⟨M115, rfl⟩
  · cases h; exact .inl ⟨M121, rfl⟩
  · cases h; exact .inl ⟨M123, rfl⟩
  · cases h; exact .inl ⟨M127, rfl⟩
  · cases h; exact .inl ⟨M128, rfl⟩
  · cases h; exact .inl ⟨M129, rfl⟩
  · cases h; exact .inl ⟨M130, rfl⟩
  · cases h; exact .inl ⟨M131, rfl⟩
  · cases h; exact .inl ⟨M132, rfl⟩
  · cases h; exact .inl ⟨M133, rfl⟩
  · cases h; exact .inl ⟨M137, rfl⟩
  · cases h; exact .inl ⟨M138, rfl⟩
  · cases h; exact .inl ⟨M139, rfl⟩
  · cases h; exact .inl ⟨M140, rfl⟩
  · cases h; exact .inl ⟨M141, rfl⟩
  · cases h; exact .inl ⟨M285, rfl⟩
  · cases h
theorem followsD : Tryd.prog.follows .mixedOrders = true := by kernel_rfl
theorem callsD : CallsOk Tryd.prog (FD, nuD) tabs0 (R FF) := R_okE followsD FD_ok
end Go.Pe
namespace Go.Proofs.YtkhclncjncdfaaaDoor.limitChecks
open Go.Pe
open Go.ChangeShapes Go.WideShapes Go.ChangeAt Go.RowKit
set_option linter.unusedVariables false
theorem own : ownKnob Tryd.prog.godebug = none := by kernel_rfl
theorem laidOut : laidOutB Tryd.prog = true := by kernel_rfl
def laid : List (String × DataW Unit) := [("math/bits.deBruijn64tab", Rows.laid_math_bits_deBruijn64tab)]
def tz : List Int := tab0.map fun | .i _ n => n | _ => 0
theorem tab_rv {W : World} (h : laidMetH Tryd.prog laid W) : Rv W (fun _ => False) Rho.none (.tp tab0 0) (.pointer (some ⟨0, 0, none⟩)) := by
  rw [MakeChecks.laidMetH_plain _ _ _ (by kernel_rfl)] at h
  obtain ⟨ps, ⟨g, t, cs, fuel, p, q, hg, ht, hv, hd, _, _⟩, _, _⟩ := h
  obtain rfl := Option.some.inj ((show Tryd.prog.globalNamed "math/bits.deBruijn64tab" = some 0 by kernel_rfl).symm.trans hg)
  obtain rfl := Option.some.inj ((show (Tryd.prog.globals[0]?).map (·.type) = some 176 by kernel_rfl).symm.trans ht)
  obtain ⟨xs, m, _, ex, _, hl, hel⟩ := DataW.trod_array Tryd.underlying176 hd
  have cE : Tryd.prog.cellsOf 5 = 1 := by kernel_rfl
  have hlen : tz.length = 64 := by decide
  have e0 : (xs.map (·.1)) = tz.map fun n => .lit (.int .u8 n) := (DataW.agg.inj (Prod.mk.inj ex).1).symm
  have cell : ∀ r, r < 64 → W.cell? ⟨0, r, none⟩ = some (.int .u8 (tz.getD r 0)) := by
    intro r hr
    have hE := hel r hr
    rw [cE, Nat.mul_one, List.getElem?_eq_getElem (by omega)] at hE
    obtain ⟨z, e1, e2, _⟩ := DataW.trod_int Tryd.underlying5 hE
    have e4 : (xs.map (·.1))[r]? = (tz.map fun n => (DataW.lit (.int .u8 n) : DataW Unit))[r]? := by rw [e0]
    rw [List.getElem?_map, List.getElem?_map, List.getElem?_eq_getElem (by omega : r < xs.length), List.getElem?_eq_getElem (by omega : r < tz.length), e2] at e4
    have hz : z = tz.getD r 0 := by
      simp only [Option.map_some, Option.some.injEq, DataW.lit.injEq, Lit.int.injEq, true_and] at e4
      rw [e4, List.getD, List.getElem?_eq_getElem (by omega : r < tz.length)]; rfl
    rw [World.var?_cell hg hv r, ← hz]
    have : cs.toList[r]? = some (.int .u8 z) := by
      have h0 : ((cs.toList.drop r).take 1)[0]? = some (.int .u8 z) := by rw [e1]; rfl
      simpa using h0
    simpa using this
  have hb : 0 < W.heap.size := by
    have h0 := cell 0 (by decide)
    rcases Nat.lt_or_ge 0 W.heap.size with h | h
    · exact h
    · unfold World.cell? at h0; rw [Array.getElem?_eq_none h] at h0; cases h0
  refine Rv.tp (o := 0) (base := 0) (fun c => .int .u8 (tz.getD c 0)) (fun h => h) hb (fun c hc => ?_) fun c hc => ?_
  · rw [Nat.zero_add]; exact ⟨cell c hc, rfl⟩
  · have e : tab0 = tz.map (AV.i .u8) := rfl
    have hc' : c < tz.length := by rw [hlen]; exact hc
    rw [e, List.getD_eq_getElem?_getD, List.getElem?_map, List.getD_eq_getElem?_getD, List.getElem?_eq_getElem hc']
    exact Rv.i
set_option maxRecDepth 100000 in
theorem lifted (os : Os) (started : os.Started) (H : Type) (enc : TypeId × Value → H) :
    ReturnsInHanded {} Tryd.checked os 13 .any (fun w args => (Rows.limitChecksSpec.pre enc Tryd.prog Tryd.f13 Rows.limitChecksRow.domain false w args ∧ laidMetH Tryd.prog laid w) ∧ sizedMet enc Tryd.prog Tryd.f13 (OpenSpec.ofChange Rows.limitChecksSpec) false w args) (Rows.limitChecksSpec.post enc Tryd.prog Tryd.f13 false true false false) := by
  refine returnsInHanded_of_change_and (C := Tryd.checked) (X := fun w _ => laidMetH Tryd.prog laid w) (fun _ _ _ hh h => h.of_heap hh) own started (by kernel_rfl) Tryd.func13
    (ChangeSpec.witness_shaped (enc := enc) (C := Tryd.checked) (os := os) (X := fun w _ => laidMetH Tryd.prog laid w) false (World.laidAll Tryd.prog os laid) #[.agg #[.int .i64 0, .int .i64 0, .int .i64 0, .int .i64 0], .agg #[.int .i64 0, .int .i64 0, .slice none 0 0, .slice none 0 0, .slice none 0 0]] 8 (World.laidAll_os _ _ _)
      (World.shaped_of_ZipB (by kernel_rfl) (by kernel_rfl)) (by kernel_rfl) (by kernel_rfl) (by kernel_rfl) (by rw [MakeChecks.laidMetH_plain _ _ _ (by kernel_rfl)]; exact laidMet_laidAll _ (by kernel_rfl) (by kernel_rfl))) ?_
  intro W base args ds gs before hval0 hW hcnd hsz0 hL _
  have hval : ∀ (j : Nat) t v, Tryd.f13.params[j]? = some t → args[j]? = some v → Value.okWide Tryd.prog W .any base t v := hval0
  have hW' := hW
  obtain ⟨p, q, hA0, hV, rfl, hfz, hnd⟩ := hW
  have hA : DataW.TrodAll enc Tryd.prog W 0 (fun _ => true) true Tryd.f13.params.toList args.toList ds p := hA0
  rw [Tryd.params13] at hA hval
  obtain ⟨v0, vs0, d0, ds0, pl0, ql0, hargs, rfl, rfl, h0, r0⟩ := trodAll_cons hA
  obtain ⟨v1, vs1, d1, ds1, pl1, ql1, rfl, rfl, rfl, h1, r1⟩ := trodAll_cons r0
  obtain ⟨rfl, rfl, rfl⟩ := trodAll_nil r1
  obtain rfl : args = #[v0, v1] := by cases args; simp_all
  obtain ⟨rfl, rfl⟩ := trodVars_none hV
  have lt0 : ∀ x ∈ pl0, x.block < W.heap.size := by obtain ⟨m, hm⟩ := h0; exact DataW.trod_lt m _ _ _ hm
  obtain ⟨acs0, la0, fa0, rv0⟩ := arg_rv (n := 12) (ks := kL) (hval 0 88 v0 rfl rfl) h0 (by kernel_rfl)
  rw [show isStr Tryd.prog 88 = true by kernel_rfl] at rv0
  obtain ⟨x0, rfl, ok0⟩ := open_L ⟨la0, fa0⟩
  have lt1 : ∀ x ∈ pl1, x.block < W.heap.size := by obtain ⟨m, hm⟩ := h1; exact DataW.trod_lt m _ _ _ hm
  obtain ⟨acs1, la1, fa1, rv1⟩ := arg_rv (n := 12) (ks := kA) (hval 1 91 v1 rfl rfl) h1 (by kernel_rfl)
  rw [show isStr Tryd.prog 91 = true by kernel_rfl] at rv1
  obtain ⟨x1, rfl, ok1⟩ := open_A ⟨la1, fa1⟩
  clear hA0 hval0 hsz0
  have hlaw := law_LimitChecks x0 ok0 x1 ok1
  have hx : ∀ j, j < 2 → Rv W (fun _ => False) Rho.none ([AV.agg (eL x0), AV.agg (eA x1)].getD j .junk) (#[v0, v1].getD j undef) := by
    intro j hj
    match j, hj with
    | 0, _ => exact rv0
    | 1, _ => exact rv1
  refine (law_true (F := (FD, nuD)) callsD (g := 11) (p := p11) rfl rfl (by decide) (by kernel_rfl) hlaw (w := W) (vs := #[v0, v1]) (fun q hq => by obtain rfl := List.mem_singleton.1 hq; exact tab_rv hL) rfl hx).mono fun e W' ⟨he, bel⟩ => ?_
  subst he
  exact ⟨_, rfl, _, _, _, [], _, [], hW', trodAll_mk1 (shut_bool Tryd.underlying4 _), (trodAll_cons_mk (Below.trod laidOut (by kernel_rfl) (of_decide_eq_true (by kernel_rfl)) h0 bel lt0) (trodAll_cons_mk (Below.trod laidOut (by kernel_rfl) (of_decide_eq_true (by kernel_rfl)) h1 bel lt1) trodAll_mk0)), rfl, bel.frame _, fun h => by cases h⟩
theorem over : Rows.limitChecksRow.holds Tryd.pinned (OpenSpec.ofChange Rows.limitChecksSpec) :=
  OpenClaim.holds_of_wide 13 Tryd.f13 rfl rfl rfl rfl rfl rfl rfl ⟨rfl, rfl, rfl, rfl, rfl⟩ rfl rfl rfl rfl rfl (by kernel_rfl) Tryd.func13 (by kernel_rfl)
    (of_decide_eq_true (by kernel_rfl)) (by unfold Func.isWrapper; first | (rw [if_pos (by decide +kernel)]; kernel_rfl) | (rw [if_neg (by decide +kernel)]; exact ⟨rfl, rfl⟩))
    (fun os started H enc _ => lifted os started H enc)
theorem proved : Rows.LimitChecksCardSaid :=
  Claim7.holds_tied_plain_at .later [] [.data] true (true, "ca7753c333c95ae8f012252ec964ad60405cee1a2b465a3c103ac7d30ba861a9") false over (fun _ h => by cases h) (by kernel_rfl) (fun _ h => by cases h) limitChecks_row_tie rfl ⟨rfl, rfl⟩ (by kernel_rfl) rfl
    (fun f fn hf hfn => by
      obtain rfl : f = 13 := Option.some.inj ((show Tryd.prog.funcNamed "dendron/dendronlaw30.LimitChecks" = some 13 by kernel_rfl).symm.trans hf) |>.symm
      obtain rfl : fn = Tryd.f13 := (Option.some.inj (Tryd.func13.symm.trans hfn)).symm
      exact ⟨by kernel_rfl, fun j t ht => by
        rw [Tryd.params13] at ht
        have hm : t ∈ [88, 91] := by simpa using Array.mem_of_getElem? ht
        have hall : ([88, 91].all fun u => !Tryd.prog.wantsStandIn u) = true := by kernel_rfl
        exact (show Tryd.prog.wantsStandIn t = false by simpa using List.all_eq_true.1 hall t hm)⟩)
    (by kernel_rfl)
#print axioms proved
end Go.Proofs.YtkhclncjncdfaaaDoor.limitChecks
namespace Go.Proofs.YtkhclncjncdfaaaDoor
theorem limitChecks_holds : Rows.LimitChecksCardSaid := limitChecks.proved
end Go.Proofs.YtkhclncjncdfaaaDoor
