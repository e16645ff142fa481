/- Proved: It shows the best split of any rows, or that none is allowed. No conditions. -/
import Derived.Test.YtmdlpmhkpnobeaaGreatDoorBGrowBests5
import Derived.Test.YtmdlpmhkpnobeaaGreatDoorChecked
import Derived.KernelRfl
import Derived.Test.YtmdlpmhkpnobeaaGreatDoorRows
import Derived.WalkKit
import Derived.ProofKit
import Derived.OpenShut
import Derived.ShutString
import Derived.ChangeOld
import Derived.Below
import Derived.SizedLaws
import Derived.Test.YtmdlpmhkpnobeaaGreatDoorCards
import Derived.Test.YtmdlpmhkpnobeaaGreatDoorTie
import Derived.LaidMore
import Derived.Lay
import Derived.SevenTiedAt
import Derived.Stop.Joined
import Derived.Handed
import Derived.LaidLaws
set_option linter.unusedVariables false
set_option linter.unusedSimpArgs false
set_option linter.unusedVariables false
set_option linter.unusedSimpArgs false
open Go
namespace Go.Pe
def rowL (V : List RQt) (rows : List (List RC)) (l : List Nat) (lst : Int) (f : Nat) (o : Option LCand) (j : Nat) : Option LCand := stepL V rows l lst (stepL V rows l lst o f j true) f j false
def featL (V : List RQt) (rows : List (List RC)) (l : List Nat) (lst : Int) (o : Option LCand) (f : Nat) : Option LCand := l.foldl (rowL V rows l lst f) o
def bestL (V : List RQt) (rows : List (List RC)) (l : List Nat) (lst : Int) (n : Nat) : Option LCand := (List.range n).foldl (featL V rows l lst) none
theorem best26_l2 {V : List RQt} {rows : List (List RC)} {l : List Nat} {fe lst : Int} {o : Option LCand} {f k p : Nat} (hk : k ≤ 1000) (h1k : 1 ≤ k) (hV : SmL V k) (hVl : V.length ≤ 900) (hl : InX l V.length) (hr : rows.length ≤ 1000) (hw : WfD rows f l k) (hn : l.length ≤ 900) (ho : OkL k o) (hp : p < l.length) :
    LP FF [(6, 1), (8, 1), (1, 0), (2, 0), (3, 0), (9, 0), (10, 0), (11, 0), (12, 0)] [(6, 1), (8, 1), (1, 0), (2, 0), (3, 0), (9, 0), (10, 0), (11, 0)] b272_2 [.ownp (eSp 0 dQ false dQ), .ownp (spL o), .l 1 (l.map eX), (AV.i .i64 lst), .tp [(AV.i .i64 fe), .l 1 (rows.map eRw), .l 3 (V.map eQ)] 0, .b o.isSome, (AV.i .i64 ((f : Int))), (AV.i .i64 ((p : Int))), (AV.i .i64 0)] =
    some (.exit 4, [.ownp (eSp 0 dQ false dQ), .ownp (spL (rowL V rows l lst f o (l.getD p 0))), .l 1 (l.map eX), (AV.i .i64 lst), .tp [(AV.i .i64 fe), .l 1 (rows.map eRw), .l 3 (V.map eQ)] 0, .b (rowL V rows l lst f o (l.getD p 0)).isSome, (AV.i .i64 ((f : Int))), (AV.i .i64 ((p : Int)))]) := by
  have y3 := (hw _ (getD_mem' 0 hp)).2.2
  have h1 := best26_r2 (fe := fe) (lst := lst) (o := o) (f := f) (i := 0) hk h1k hV hVl hl hr hw hn ho hp (by omega)
  have h2 := best26_r2 (fe := fe) (lst := lst) (o := stepL V rows l lst o f (l.getD p 0) true) (f := f) (i := 1) hk h1k hV hVl hl hr hw hn (stepL_ok hk h1k hV hl hn y3 ho) hp (by omega)
  have e : stepL V rows l lst (stepL V rows l lst o f (l.getD p 0) true) f (l.getD p 0) false = rowL V rows l lst f o (l.getD p 0) := rfl
  rw [show (decide (0 = 0)) = true from rfl, Int.ofNat_zero] at h1
  rw [show (decide (1 = 0)) = false from rfl, e] at h2
  rw [h1, h2]
  generalize rowL V rows l lst f o (l.getD p 0) = o' at *
  obtain ⟨z, oc, om, ol, ez⟩ := spL_form o'
  rw [ez, show ((1 + 1 : Nat) : Int) = 2 from rfl]
  simp only [eSp, eQ, rQ, List.map_nil]
  rw [LP_go FF b272_2.eq_1]
  simp only [RB, RL, un, St.none, Nat.reduceEqDiff, Nat.reduceAdd, Nat.reduceMul, Nat.reduceMod, Nat.reduceLeDiff, Nat.reduceLT, Int.reduceLT, Int.reduceLE, Int.reduceEq, Int.reduceToNat, Int.reduceSub, Int.reduceNeg, Int.reduceAdd, ↓reduceIte, reduceCtorEq, pack, pid, parN, lid, chkK, apartV, Heap.none, eX_rules, eX_row]
theorem rowL_ok {V : List RQt} {rows : List (List RC)} {l : List Nat} {lst : Int} {o : Option LCand} {f j : Nat} {k : Nat} (hk : k ≤ 1000) (h1k : 1 ≤ k) (hV : SmL V k) (hl : InX l V.length) (hn : l.length ≤ 900) (hj : SmQ (cellD rows f j).2 k) (ho : OkL k o) : OkL k (rowL V rows l lst f o j) :=
  stepL_ok hk h1k hV hl hn hj (stepL_ok hk h1k hV hl hn hj ho)
theorem foldL_ok {V : List RQt} {rows : List (List RC)} {l : List Nat} {lst : Int} {f k : Nat} (hk : k ≤ 1000) (h1k : 1 ≤ k) (hV : SmL V k) (hl : InX l V.length) (hn : l.length ≤ 900) : ∀ (cs : List Nat) (o : Option LCand), WfD rows f cs k → OkL k o → OkL k (cs.foldl (rowL V rows l lst f) o) := by
  intro cs
  induction cs with
  | nil => intro o _ ho; exact ho
  | cons c cs ih => intro o hw ho; exact ih _ (fun j hj => hw j (List.mem_cons_of_mem _ hj)) (rowL_ok hk h1k hV hl hn (hw c (List.mem_cons_self ..)).2.2 ho)
theorem drop_foldN {β : Type} {g : β → Nat → β} {l : List Nat} {i : Nat} (o : β) (h : i < l.length) : (l.drop i).foldl g o = (l.drop (i + 1)).foldl g (g o (l.getD i 0)) := by
  rw [List.drop_eq_getElem_cons h, List.foldl_cons, List.getD_eq_getElem?_getD, List.getElem?_eq_getElem h]; rfl
theorem best26_l1 {V : List RQt} {rows : List (List RC)} {l : List Nat} {fe lst : Int} {f k : Nat} (hk : k ≤ 1000) (h1k : 1 ≤ k) (hV : SmL V k) (hVl : V.length ≤ 900) (hl : InX l V.length) (hr : rows.length ≤ 1000) (hw : WfD rows f l k) (hn : l.length ≤ 900) : ∀ (d p : Nat) (o : Option LCand), p + d = l.length → OkL k o →
    LP FF [(6, 1), (8, 1), (1, 0), (2, 0), (3, 0), (9, 0), (10, 0), (11, 0)] [(6, 1), (8, 1), (1, 0), (2, 0), (3, 0), (9, 0), (10, 0)] b272_1 [.ownp (eSp 0 dQ false dQ), .ownp (spL o), .l 1 (l.map eX), (AV.i .i64 lst), .tp [(AV.i .i64 fe), .l 1 (rows.map eRw), .l 3 (V.map eQ)] 0, .b o.isSome, (AV.i .i64 ((f : Int))), (AV.i .i64 ((p : Int)))] =
    some (.exit 2, [.ownp (eSp 0 dQ false dQ), .ownp (spL ((l.drop p).foldl (rowL V rows l lst f) o)), .l 1 (l.map eX), (AV.i .i64 lst), .tp [(AV.i .i64 fe), .l 1 (rows.map eRw), .l 3 (V.map eQ)] 0, .b ((l.drop p).foldl (rowL V rows l lst f) o).isSome, (AV.i .i64 ((f : Int)))]) := by
  intro d
  induction d with
  | zero =>
    intro p o hp ho
    rw [List.drop_of_length_le (by omega)]
    obtain ⟨z, oc, om, ol, ez⟩ := spL_form o
    rw [List.foldl_nil, ez]
    have c1 : ¬ (p : Int) < (l.length : Int) := by omega
    simp only [eSp, List.map_nil]
    rw [LP_go FF b272_1.eq_1]
    simp only [RB, RL, un, St.none, Nat.reduceEqDiff, Nat.reduceAdd, Nat.reduceMul, Nat.reduceMod, Nat.reduceLeDiff, Nat.reduceLT, Int.reduceLT, Int.reduceLE, Int.reduceEq, Int.reduceToNat, Int.reduceSub, Int.reduceNeg, Int.reduceAdd, ↓reduceIte, reduceCtorEq, pack, pid, parN, lid, chkK, apartV, Heap.none, c1, eX_rules, eX_row, eQ_rules, eQ_row]
  | succ d ih =>
    intro p o hp ho
    have hlt : p < l.length := by omega
    have y3 := (hw _ (getD_mem' 0 hlt)).2.2
    rw [drop_foldN o hlt]
    have h9 := ih (p + 1) (rowL V rows l lst f o (l.getD p 0)) (by omega) (rowL_ok hk h1k hV hl hn y3 ho)
    have l2 := best26_l2 (fe := fe) (lst := lst) (o := o) (f := f) hk h1k hV hVl hl hr hw hn ho hlt
    generalize (l.drop (p + 1)).foldl (rowL V rows l lst f) (rowL V rows l lst f o (l.getD p 0)) = res at *
    generalize rowL V rows l lst f o (l.getD p 0) = o' at *
    obtain ⟨z, oc, om, ol, ez⟩ := spL_form o
    obtain ⟨z', oc', om', ol', ez'⟩ := spL_form o'
    rw [ez] at l2 ⊢
    rw [ez'] at l2 h9
    have c1 : (p : Int) < (l.length : Int) := by omega
    have e2 : IntKind.i64.wrap ((p : Int) + 1) = ((p + 1 : Nat) : Int) := w64succ (by omega)
    simp only [eSp, eQ, rQ, List.map_nil] at l2 h9 ⊢
    rw [LP_go FF b272_1.eq_1]
    simp only [RB, RL, un, St.none, Nat.reduceEqDiff, Nat.reduceAdd, Nat.reduceMul, Nat.reduceMod, Nat.reduceLeDiff, Nat.reduceLT, Int.reduceLT, Int.reduceLE, Int.reduceEq, Int.reduceToNat, Int.reduceSub, Int.reduceNeg, Int.reduceAdd, ↓reduceIte, reduceCtorEq, pack, pid, parN, lid, chkK, apartV, Heap.none, c1, eX_rules, eX_row, eQ_rules, eQ_row, Int.natCast_nonneg, e2, l2]
    exact h9
theorem best26_l0 {V : List RQt} {rows : List (List RC)} {l : List Nat} {lst : Int} {k n : Nat} (hk : k ≤ 1000) (h1k : 1 ≤ k) (hV : SmL V k) (hVl : V.length ≤ 900) (hl : InX l V.length) (hr : rows.length ≤ 1000) (hw : ∀ f, f < n → WfD rows f l k) (hn : l.length ≤ 900) (hn64 : n ≤ 1000) : ∀ (d f : Nat), f + d = n → OkL k ((List.range f).foldl (featL V rows l lst) none) →
    LP FF [(6, 1), (8, 1), (1, 0), (2, 0), (3, 0), (9, 0), (10, 0)] [(6, 1), (8, 0), (9, 0)] b272_0 [.ownp (eSp 0 dQ false dQ), .ownp (spL ((List.range f).foldl (featL V rows l lst) none)), .l 1 (l.map eX), (AV.i .i64 lst), .tp [(AV.i .i64 ((n : Int))), .l 1 (rows.map eRw), .l 3 (V.map eQ)] 0, .b ((List.range f).foldl (featL V rows l lst) none).isSome, (AV.i .i64 ((f : Int)))] =
    some (.exit 0, [.ownp (eSp 0 dQ false dQ), .tp (spL (bestL V rows l lst n)) 0, .b (bestL V rows l lst n).isSome]) := by
  intro d
  induction d with
  | zero =>
    intro f hf ho
    have hf' : f = n := by omega
    subst hf'
    have c1 : ¬ (f : Int) < (f : Int) := by omega
    unfold bestL
    generalize (List.range f).foldl (featL V rows l lst) none = o at *
    obtain ⟨z, oc, om, ol, ez⟩ := spL_form o
    rw [ez]
    simp only [eSp, List.map_nil]
    rw [LP_go FF b272_0.eq_1]
    simp only [RB, RL, un, St.none, Nat.reduceEqDiff, Nat.reduceAdd, Nat.reduceMul, Nat.reduceMod, Nat.reduceLeDiff, Nat.reduceLT, Int.reduceLT, Int.reduceLE, Int.reduceEq, Int.reduceToNat, Int.reduceSub, Int.reduceNeg, Int.reduceAdd, ↓reduceIte, reduceCtorEq, pack, pid, parN, lid, chkK, apartV, Heap.none, c1, eX_rules, eX_row]
  | succ d ih =>
    intro f hf ho
    have hlt : f < n := by omega
    have hwf := hw f hlt
    have h8 : OkL k (featL V rows l lst ((List.range f).foldl (featL V rows l lst) none) f) := foldL_ok hk h1k hV hl hn _ _ hwf ho
    have h9 := ih (f + 1) (by omega) (by rw [range_snoc_fold]; exact h8)
    rw [range_snoc_fold] at h9
    have l1 := best26_l1 (fe := (n : Int)) (lst := lst) (f := f) hk h1k hV hVl hl hr hwf hn l.length 0 _ (by omega) ho
    rw [Int.ofNat_zero, List.drop_zero] at l1
    change LP FF [(6, 1), (8, 1), (1, 0), (2, 0), (3, 0), (9, 0), (10, 0), (11, 0)] [(6, 1), (8, 1), (1, 0), (2, 0), (3, 0), (9, 0), (10, 0)] b272_1 _ = some (Ex.exit 2, [_, AV.ownp (spL (featL V rows l lst ((List.range f).foldl (featL V rows l lst) none) f)), _, _, _, AV.b (featL V rows l lst ((List.range f).foldl (featL V rows l lst) none) f).isSome, _]) at l1
    generalize featL V rows l lst ((List.range f).foldl (featL V rows l lst) none) f = o' at *
    generalize (List.range f).foldl (featL V rows l lst) none = o at *
    generalize bestL V rows l lst n = res at *
    obtain ⟨z, oc, om, ol, ez⟩ := spL_form o
    obtain ⟨z', oc', om', ol', ez'⟩ := spL_form o'
    rw [ez] at l1 ⊢
    rw [ez'] at l1 h9
    have c1 : (f : Int) < (n : Int) := by omega
    have e2 : IntKind.i64.wrap ((f : Int) + 1) = ((f + 1 : Nat) : Int) := w64succ (by omega)
    simp only [eSp, List.map_nil] at l1 h9 ⊢
    rw [LP_go FF b272_0.eq_1]
    simp only [RB, RL, un, St.none, Nat.reduceEqDiff, Nat.reduceAdd, Nat.reduceMul, Nat.reduceMod, Nat.reduceLeDiff, Nat.reduceLT, Int.reduceLT, Int.reduceLE, Int.reduceEq, Int.reduceToNat, Int.reduceSub, Int.reduceNeg, Int.reduceAdd, ↓reduceIte, reduceCtorEq, pack, pid, parN, lid, chkK, apartV, Heap.none, c1, eX_rules, eX_row, eQ_rules, eQ_row, Int.natCast_nonneg, e2, l1]
    exact h9
theorem best26_c {V : List RQt} {rows : List (List RC)} {l : List Nat} {lst : Int} {k n : Nat} (hk : k ≤ 1000) (h1k : 1 ≤ k) (hV : SmL V k) (hVl : V.length ≤ 900) (hl : InX l V.length) (hr : rows.length ≤ 1000) (hw : ∀ f, f < n → WfD rows f l k) (hn : l.length ≤ 900) (hn64 : n ≤ 1000) :
    R FF 272 [.agg [(AV.i .i64 ((n : Int))), .l 1 (rows.map eRw), .l 3 (V.map eQ)], .l 1 (l.map eX), (AV.i .i64 lst)] = some (.tup [.agg (spL (bestL V rows l lst n)), .b (bestL V rows l lst n).isSome]) := by
  have l0 := best26_l0 (lst := lst) hk h1k hV hVl hl hr hw hn hn64 n 0 (by omega) (fun r h => by cases h)
  rw [List.range_zero, List.foldl_nil, show spL none = eSp 0 dQ false dQ from rfl, Int.ofNat_zero] at l0
  generalize bestL V rows l lst n = res at *
  obtain ⟨z, oc, om, ol, ez⟩ := spL_form res
  rw [ez] at l0 ⊢
  simp only [eSp, List.map_nil, Option.isSome] at l0 ⊢
  rw [R_go FF F272 c272.eq_1]
  simp only [RB, RL, un, St.none, Nat.reduceEqDiff, Nat.reduceAdd, Nat.reduceMul, Nat.reduceMod, Nat.reduceLeDiff, Nat.reduceLT, Int.reduceLT, Int.reduceLE, Int.reduceEq, Int.reduceToNat, Int.reduceSub, Int.reduceNeg, Int.reduceAdd, ↓reduceIte, reduceCtorEq, pack, pid, parN, lid, chkK, apartV, Heap.none, l0, n64, eX_rules, eX_row]
end Go.Pe
set_option linter.unusedVariables false
set_option linter.unusedSimpArgs false
open Go
namespace Go.Pe
abbrev Srt (o : List Rat) : Prop := o.Pairwise (· < ·)
theorem posV_split {v : Rat} : ∀ (o : List Rat), Srt o → (∀ x ∈ o.take (posV v o), x < v) ∧ (∀ x ∈ o.drop (posV v o), ¬ x < v) := by
  intro o
  induction o with
  | nil => intro _; exact ⟨fun x h => (List.not_mem_nil h).elim, fun x h => (List.not_mem_nil h).elim⟩
  | cons y o ih =>
    intro hs
    have hs' := List.pairwise_cons.1 hs
    by_cases h : y < v
    · rw [show posV v (y :: o) = posV v o + 1 from if_pos h, List.take_succ_cons, List.drop_succ_cons]
      obtain ⟨i1, i2⟩ := ih hs'.2
      exact ⟨fun x hx => by rcases List.mem_cons.1 hx with rfl | hx; exact h; exact i1 x hx, i2⟩
    · rw [show posV v (y :: o) = 0 from if_neg h]
      refine ⟨fun x hx => (List.not_mem_nil hx).elim, fun x hx => ?_⟩
      rcases List.mem_cons.1 hx with rfl | hx
      · exact h
      · have := hs'.1 x hx; grind
theorem getD_dropR {o : List Rat} {p : Nat} (h : p < o.length) : o.drop p = o.getD p 0 :: o.drop (p + 1) := by
  rw [List.drop_eq_getElem_cons h, List.getD_eq_getElem?_getD, List.getElem?_eq_getElem h]; rfl
theorem insV_srt {o : List Rat} {v : Rat} (hs : Srt o) : Srt (insV o v) := by
  unfold insV
  split
  · exact hs
  · rename_i hne
    obtain ⟨h1, h2⟩ := posV_split (v := v) o hs
    have hs2 : Srt (o.take (posV v o) ++ o.drop (posV v o)) := by rw [List.take_append_drop]; exact hs
    obtain ⟨s1, s2, s3⟩ := List.pairwise_append.1 hs2
    refine List.pairwise_append.2 ⟨s1, List.pairwise_cons.2 ⟨fun x hx => ?_, s2⟩, fun x hx y hy => ?_⟩
    · have hp : posV v o < o.length := by
        rcases Nat.lt_or_ge (posV v o) o.length with h | h
        · exact h
        · rw [List.drop_of_length_le h] at hx; exact (List.not_mem_nil hx).elim
      have hd := getD_dropR hp
      have g0 : ¬ o.getD (posV v o) 0 < v := h2 _ (by rw [hd]; exact List.mem_cons_self ..)
      have g1 : o.getD (posV v o) 0 ≠ v := fun e => hne ⟨hp, e⟩
      have g2 : v < o.getD (posV v o) 0 := by grind
      rw [hd] at hx s2
      rcases List.mem_cons.1 hx with rfl | hx
      · exact g2
      · have := (List.pairwise_cons.1 s2).1 x hx; grind
    · rcases List.mem_cons.1 hy with rfl | hy
      · exact h1 x hx
      · exact s3 x hx y hy
theorem insV_mem {o : List Rat} {v x : Rat} : x ∈ insV o v ↔ x = v ∨ x ∈ o := by
  unfold insV
  split
  · rename_i h
    constructor
    · exact .inr
    · rintro (e | hx)
      · have h3 := getD_mem' 0 h.1
        rw [h.2] at h3
        rw [e]; exact h3
      · exact hx
  · rw [List.mem_append, List.mem_cons]
    conv => rhs; rhs; rw [← List.take_append_drop (posV v o) o, List.mem_append]
    grind
theorem cutF_srt {rows : List (List RC)} {f : Nat} : ∀ (l : List Nat) (o : List Rat), Srt o → Srt (l.foldl (cutF rows f) o) ∧ ∀ x, x ∈ l.foldl (cutF rows f) o ↔ x ∈ o ∨ ∃ j ∈ l, (cellD rows f j).1 = false ∧ vQ (cellD rows f j).2 = x := by
  intro l
  induction l with
  | nil => intro o ho; exact ⟨ho, fun x => ⟨.inl, fun h => h.elim id (fun ⟨j, hj, _⟩ => (List.not_mem_nil hj).elim)⟩⟩
  | cons i l ih =>
    intro o ho
    have hs : Srt (cutF rows f o i) := by
      unfold cutF
      split
      · exact ho
      · exact insV_srt ho
    obtain ⟨h1, h2⟩ := ih _ hs
    refine ⟨h1, fun x => ?_⟩
    rw [List.foldl_cons, h2]
    have hm : x ∈ cutF rows f o i ↔ x ∈ o ∨ ((cellD rows f i).1 = false ∧ vQ (cellD rows f i).2 = x) := by
      unfold cutF
      split
      · rename_i h
        exact ⟨.inl, fun k => k.elim id fun k => by rw [h] at k; cases k.1⟩
      · rename_i h
        rw [insV_mem]
        have h' : (cellD rows f i).1 = false := by simpa using h
        constructor
        · rintro (rfl | h)
          · exact .inr ⟨h', rfl⟩
          · exact .inl h
        · rintro (h | ⟨_, rfl⟩)
          · exact .inr h
          · exact .inl rfl
    rw [hm]
    constructor
    · rintro ((h | h) | ⟨j, hj, h⟩)
      · exact .inl h
      · exact .inr ⟨i, List.mem_cons_self .., h⟩
      · exact .inr ⟨j, List.mem_cons_of_mem _ hj, h⟩
    · rintro (h | ⟨j, hj, h⟩)
      · exact .inl (.inl h)
      · rcases List.mem_cons.1 hj with rfl | hj
        · exact .inl (.inr h)
        · exact .inr ⟨j, hj, h⟩
theorem drop1_mem {o : List Rat} (hs : Srt o) {x : Rat} : x ∈ o.drop 1 ↔ x ∈ o ∧ ∃ y ∈ o, y < x := by
  cases o with
  | nil => exact ⟨fun h => (List.not_mem_nil h).elim, fun h => (List.not_mem_nil h.1).elim⟩
  | cons a t =>
    obtain ⟨h1, h2⟩ := List.pairwise_cons.1 hs
    show x ∈ t ↔ _
    constructor
    · intro h
      exact ⟨List.mem_cons_of_mem _ h, a, List.mem_cons_self .., h1 x h⟩
    · rintro ⟨hx, y, hy, hlt⟩
      rcases List.mem_cons.1 hx with rfl | hx
      · rcases List.mem_cons.1 hy with rfl | hy
        · grind
        · have := h1 y hy; grind
      · exact hx
theorem ctV_srt (rows : List (List RC)) (f : Nat) (l : List Nat) : Srt (ctV rows f l) := List.Pairwise.sublist (List.drop_sublist 1 _) (cutF_srt l [] List.Pairwise.nil).1
theorem ctV_mem {rows : List (List RC)} {f : Nat} {l : List Nat} {x : Rat} : x ∈ ctV rows f l ↔ (∃ j ∈ l, (cellD rows f j).1 = false ∧ vQ (cellD rows f j).2 = x) ∧ ∃ j ∈ l, (cellD rows f j).1 = false ∧ vQ (cellD rows f j).2 < x := by
  obtain ⟨h1, h2⟩ := cutF_srt (rows := rows) (f := f) l [] List.Pairwise.nil
  unfold ctV
  rw [drop1_mem h1, h2]
  constructor
  · rintro ⟨ha, y, hy, hlt⟩
    refine ⟨ha.elim (fun h => (List.not_mem_nil h).elim) id, ?_⟩
    obtain ⟨j, hj, hm, rfl⟩ := ((h2 y).1 hy).elim (fun h => (List.not_mem_nil h).elim) id
    exact ⟨j, hj, hm, hlt⟩
  · rintro ⟨ha, j, hj, hm, hlt⟩
    exact ⟨.inr ha, _, (h2 _).2 (.inr ⟨j, hj, hm, rfl⟩), hlt⟩
end Go.Pe
set_option linter.unusedVariables false
set_option linter.unusedSimpArgs false
open Go
namespace Go.Pe
def ltC (x r : Cand) : Bool := decide (x.2.2.2 < r.2.2.2) || (decide (x.2.2.2 = r.2.2.2) && ahV x.1 x.2.1 x.2.2.1 r.1 r.2.1 r.2.2.1)
def aheadC (x r : Cand) : Prop := ahV x.1 x.2.1 x.2.2.1 r.1 r.2.1 r.2.2.1 = true
def tkC (o : Option Cand) (x : Cand) : Option Cand := match o with
  | none => some x
  | some r => if ltC x r then some x else some r
theorem ahV_irr (f : Nat) (c : Rat) (m : Bool) : ahV f c m f c m = false := by
  unfold ahV; rw [if_pos rfl]; cases m <;> simp <;> grind
theorem ahV_tr {f f' f2 : Nat} {c c' c2 : Rat} {m m' m2 : Bool} (h1 : ahV f c m f' c' m' = true) (h2 : ahV f' c' m' f2 c2 m2 = true) : ahV f c m f2 c2 m2 = true := by
  unfold ahV at *
  split at h1 <;> split at h2 <;> split <;> simp only [Bool.or_eq_true, decide_eq_true_eq, Bool.and_eq_true, Bool.not_eq_true'] at * <;> grind
theorem ahV_tot {f f' : Nat} {c c' : Rat} {m m' : Bool} (h1 : ahV f c m f' c' m' = false) (h2 : ahV f' c' m' f c m = false) : f = f' ∧ c = c' ∧ m = m' := by
  unfold ahV at *
  by_cases hf : f = f'
  · rw [if_pos hf] at h1
    rw [if_pos hf.symm] at h2
    cases m <;> cases m' <;> simp only [Bool.or_eq_false_iff, decide_eq_false_iff_not, Bool.and_eq_false_iff, Bool.not_eq_false'] at * <;> grind
  · rw [if_neg hf] at h1
    rw [if_neg (fun h => hf h.symm)] at h2
    simp only [decide_eq_false_iff_not] at *
    omega
theorem ltC_iff {x r : Cand} : ltC x r = true ↔ x.2.2.2 < r.2.2.2 ∨ (x.2.2.2 = r.2.2.2 ∧ aheadC x r) := by
  unfold ltC aheadC
  simp only [Bool.or_eq_true, decide_eq_true_eq, Bool.and_eq_true]
theorem ltC_irr (x : Cand) : ¬ ltC x x = true := by
  rw [ltC_iff]
  rintro (h | ⟨_, h⟩)
  · grind
  · unfold aheadC at h; rw [ahV_irr] at h; cases h
theorem ltC_tr {x y z : Cand} (h1 : ltC x y = true) (h2 : ltC y z = true) : ltC x z = true := by
  rw [ltC_iff] at *
  rcases h1 with h1 | ⟨e1, h1⟩ <;> rcases h2 with h2 | ⟨e2, h2⟩
  · exact .inl (by grind)
  · exact .inl (by grind)
  · exact .inl (by grind)
  · exact .inr ⟨by grind, ahV_tr h1 h2⟩
theorem ltC_tot {x y : Cand} (h1 : ¬ ltC x y = true) (h2 : ¬ ltC y x = true) : x = y := by
  rw [ltC_iff] at *
  have e : x.2.2.2 = y.2.2.2 := by grind
  have a1 : ahV x.1 x.2.1 x.2.2.1 y.1 y.2.1 y.2.2.1 = false := by
    cases h : ahV x.1 x.2.1 x.2.2.1 y.1 y.2.1 y.2.2.1 with
    | false => rfl
    | true => exact (h1 (.inr ⟨e, h⟩)).elim
  have a2 : ahV y.1 y.2.1 y.2.2.1 x.1 x.2.1 x.2.2.1 = false := by
    cases h : ahV y.1 y.2.1 y.2.2.1 x.1 x.2.1 x.2.2.1 with
    | false => rfl
    | true => exact (h2 (.inr ⟨e.symm, h⟩)).elim
  obtain ⟨b1, b2, b3⟩ := ahV_tot a1 a2
  exact Prod.ext b1 (Prod.ext b2 (Prod.ext b3 e))
def IsMin (S : Cand → Prop) (o : Option Cand) : Prop := match o with
  | none => ∀ x, ¬ S x
  | some r => S r ∧ ∀ y, S y → ¬ ltC y r = true
theorem IsMin.unique {S T : Cand → Prop} {o o' : Option Cand} (hST : ∀ x, S x ↔ T x) (h : IsMin S o) (h' : IsMin T o') : o = o' := by
  cases o with
  | none =>
    cases o' with
    | none => rfl
    | some r => exact (h r ((hST r).2 h'.1)).elim
  | some r =>
    cases o' with
    | none => exact (h' r ((hST r).1 h.1)).elim
    | some r' => rw [ltC_tot (h'.2 r ((hST r).1 h.1)) (h.2 r' ((hST r').2 h'.1))]
theorem fold_min : ∀ (K : List Cand) (S : Cand → Prop) (o : Option Cand), IsMin S o → IsMin (fun x => S x ∨ x ∈ K) (K.foldl tkC o) := by
  intro K
  induction K with
  | nil =>
    intro S o h
    have e : (fun x => S x ∨ x ∈ ([] : List Cand)) = S := funext fun x => propext ⟨fun h => h.elim id (fun h => (List.not_mem_nil h).elim), .inl⟩
    rw [e]; exact h
  | cons a K ih =>
    intro S o h
    have h1 : IsMin (fun x => S x ∨ x = a) (tkC o a) := by
      cases o with
      | none => exact ⟨.inr rfl, fun y hy => hy.elim (fun k => (h y k).elim) (fun k => by rw [k]; exact ltC_irr a)⟩
      | some r =>
        show IsMin _ (if ltC a r then some a else some r)
        by_cases hl : ltC a r = true
        · rw [if_pos hl]
          refine ⟨.inr rfl, fun y hy => hy.elim (fun k hya => h.2 y k (ltC_tr hya hl)) (fun k => by rw [k]; exact ltC_irr a)⟩
        · rw [if_neg hl]
          exact ⟨.inl h.1, fun y hy => hy.elim (h.2 y) (fun k => by rw [k]; exact hl)⟩
    have h2 := ih _ _ h1
    have e : (fun x => (S x ∨ x = a) ∨ x ∈ K) = (fun x => S x ∨ x ∈ a :: K) := funext fun x => propext (by rw [List.mem_cons]; exact or_assoc)
    rw [e] at h2
    exact h2
theorem fold_min0 (K : List Cand) : IsMin (fun x => x ∈ K) (K.foldl tkC none) := by
  have h := fold_min K (fun _ => False) none (fun _ h => h)
  have e : (fun x => False ∨ x ∈ K) = (fun x => x ∈ K) := funext fun x => propext ⟨fun h => h.elim False.elim id, .inr⟩
  rw [e] at h
  exact h
theorem fold_sorted : ∀ (K : List Cand) (o : Option Cand), K.Pairwise aheadC → (∀ r, o = some r → ∀ x ∈ K, aheadC r x) → K.foldl (fun o x => tkP x o) o = K.foldl tkC o := by
  intro K
  induction K with
  | nil => intro o _ _; rfl
  | cons a K ih =>
    intro o hp ho
    obtain ⟨h1, h2⟩ := List.pairwise_cons.1 hp
    have e : tkP a o = tkC o a := by
      cases o with
      | none => rfl
      | some r =>
        show (if a.2.2.2 < r.2.2.2 then some a else some r) = if ltC a r then some a else some r
        have hr := ho r rfl a (List.mem_cons_self ..)
        by_cases hl : a.2.2.2 < r.2.2.2
        · rw [if_pos hl, if_pos (ltC_iff.2 (.inl hl))]
        · rw [if_neg hl, if_neg (fun h => (ltC_iff.1 h).elim hl fun h => by
            have := ahV_tr h.2 hr; rw [ahV_irr] at this; cases this)]
    rw [List.foldl_cons, List.foldl_cons, e]
    refine ih _ h2 fun r hr x hx => ?_
    have hc : r = a ∨ o = some r := by
      cases o with
      | none => exact .inl (Option.some.inj hr).symm
      | some r' =>
        have hr : (if ltC a r' then some a else some r') = some r := hr
        split at hr
        · exact .inl (Option.some.inj hr).symm
        · exact .inr hr
    rcases hc with rfl | hc
    · exact h1 x hx
    · exact ho r hc x (List.mem_cons_of_mem _ hx)
end Go.Pe
set_option linter.unusedVariables false
set_option linter.unusedSimpArgs false
open Go
namespace Go.Pe
def opt (b : Bool) (x : Cand) : List Cand := if b then [x] else []
def cand2 (V : List RQt) (rows : List (List RC)) (l : List Nat) (lst : Int) (f : Nat) (c : Rat) : List Cand :=
  opt (!few2 rows l lst f c true) (f, c, true, splV V rows l f c true) ++ opt (!few2 rows l lst f c false) (f, c, false, splV V rows l f c false)
def candL (V : List RQt) (rows : List (List RC)) (l : List Nat) (lst : Int) (f j : Nat) : List Cand :=
  opt (!(cellD rows f j).1 && alV rows l lst f (vQ (cellD rows f j).2) true) (f, vQ (cellD rows f j).2, true, splV V rows l f (vQ (cellD rows f j).2) true) ++
  opt (!(cellD rows f j).1 && alV rows l lst f (vQ (cellD rows f j).2) false) (f, vQ (cellD rows f j).2, false, splV V rows l f (vQ (cellD rows f j).2) false)
def KP (V : List RQt) (rows : List (List RC)) (l : List Nat) (lst : Int) (n : Nat) : List Cand := (List.range n).flatMap fun f => (ctV rows f l).flatMap (cand2 V rows l lst f)
def KL (V : List RQt) (rows : List (List RC)) (l : List Nat) (lst : Int) (n : Nat) : List Cand := (List.range n).flatMap fun f => l.flatMap (candL V rows l lst f)
theorem mem_opt {b : Bool} {x y : Cand} : y ∈ opt b x ↔ b = true ∧ y = x := by
  unfold opt
  cases b
  · exact ⟨fun h => (List.not_mem_nil h).elim, fun h => by cases h.1⟩
  · exact ⟨fun h => ⟨rfl, List.mem_singleton.1 h⟩, fun h => List.mem_singleton.2 h.2⟩
theorem bestP_fold (V : List RQt) (rows : List (List RC)) (l : List Nat) (lst : Int) (n : Nat) : bestP V rows l lst n = (KP V rows l lst n).foldl (fun o x => tkP x o) none := by
  unfold bestP KP
  rw [List.foldl_flatMap]
  congr 1
  funext o f
  unfold featP
  rw [List.foldl_flatMap]
  congr 1
  funext o c
  unfold cutP cand2
  rw [List.foldl_append]
  have h : ∀ (o : Option Cand) (m : Bool), (opt (!few2 rows l lst f c m) (f, c, m, splV V rows l f c m)).foldl (fun o x => tkP x o) o = stepP V rows l lst o f c m := by
    intro o m
    unfold stepP opt
    cases few2 rows l lst f c m <;> rfl
  rw [h, h]
def valC (x : LCand) : Cand := (x.1, vQ x.2.1, x.2.2.1, x.2.2.2)
theorem tkL_val (x : LCand) (o : Option LCand) : (tkL x o).map valC = tkC (o.map valC) (valC x) := by
  cases o with
  | none => rfl
  | some r =>
    show Option.map valC (if ltL x r then some x else some r) = if ltC (valC x) (valC r) then some (valC x) else some (valC r)
    have e : ltL x r = ltC (valC x) (valC r) := rfl
    rw [e]
    split <;> rfl
theorem bestL_fold (V : List RQt) (rows : List (List RC)) (l : List Nat) (lst : Int) (n : Nat) : (bestL V rows l lst n).map valC = (KL V rows l lst n).foldl tkC none := by
  unfold bestL KL
  rw [List.foldl_flatMap]
  refine (List.foldl_hom (init := (none : Option LCand)) (Option.map valC) (g₁ := featL V rows l lst) (g₂ := fun acc x => List.foldl tkC acc (List.flatMap (candL V rows l lst x) l)) fun o f => ?_).symm
  unfold featL
  show List.foldl tkC (o.map valC) (List.flatMap (candL V rows l lst f) l) = _
  rw [List.foldl_flatMap]
  refine List.foldl_hom (Option.map valC) (g₁ := rowL V rows l lst f) (g₂ := fun acc x => List.foldl tkC acc (candL V rows l lst f x)) fun o j => ?_
  unfold rowL candL
  show List.foldl tkC (o.map valC) (_ ++ _) = _
  rw [List.foldl_append]
  have h : ∀ (o : Option LCand) (m : Bool), (opt (!(cellD rows f j).1 && alV rows l lst f (vQ (cellD rows f j).2) m) (f, vQ (cellD rows f j).2, m, splV V rows l f (vQ (cellD rows f j).2) m)).foldl tkC (o.map valC) = (stepL V rows l lst o f j m).map valC := by
    intro o m
    unfold stepL opt
    cases (cellD rows f j).1
    · cases alV rows l lst f (vQ (cellD rows f j).2) m
      · rfl
      · exact (tkL_val (f, (cellD rows f j).2, m, splV V rows l f (vQ (cellD rows f j).2) m) o).symm
    · rfl
  rw [h, h]
theorem cand2_pw (V : List RQt) (rows : List (List RC)) (l : List Nat) (lst : Int) (f : Nat) (c : Rat) : (cand2 V rows l lst f c).Pairwise aheadC := by
  unfold cand2
  refine List.pairwise_append.2 ⟨?_, ?_, fun x hx y hy => ?_⟩
  · unfold opt; split
    · exact List.pairwise_singleton _ _
    · exact List.Pairwise.nil
  · unfold opt; split
    · exact List.pairwise_singleton _ _
    · exact List.Pairwise.nil
  · rw [(mem_opt.1 hx).2, (mem_opt.1 hy).2]
    unfold aheadC ahV
    simp
theorem mem_cand2 {V : List RQt} {rows : List (List RC)} {l : List Nat} {lst : Int} {f : Nat} {c : Rat} {x : Cand} : x ∈ cand2 V rows l lst f c ↔ ∃ m, few2 rows l lst f c m = false ∧ x = (f, c, m, splV V rows l f c m) := by
  unfold cand2
  rw [List.mem_append, mem_opt, mem_opt]
  simp only [Bool.not_eq_true']
  constructor
  · rintro (⟨h1, h2⟩ | ⟨h1, h2⟩)
    · exact ⟨true, h1, h2⟩
    · exact ⟨false, h1, h2⟩
  · rintro ⟨m, h1, h2⟩
    cases m
    · exact .inr ⟨h1, h2⟩
    · exact .inl ⟨h1, h2⟩
theorem mem_candL {V : List RQt} {rows : List (List RC)} {l : List Nat} {lst : Int} {f j : Nat} {x : Cand} : x ∈ candL V rows l lst f j ↔ (cellD rows f j).1 = false ∧ ∃ m, alV rows l lst f (vQ (cellD rows f j).2) m = true ∧ x = (f, vQ (cellD rows f j).2, m, splV V rows l f (vQ (cellD rows f j).2) m) := by
  unfold candL
  rw [List.mem_append, mem_opt, mem_opt]
  simp only [Bool.and_eq_true, Bool.not_eq_true']
  constructor
  · rintro (⟨⟨h0, h1⟩, h2⟩ | ⟨⟨h0, h1⟩, h2⟩)
    · exact ⟨h0, true, h1, h2⟩
    · exact ⟨h0, false, h1, h2⟩
  · rintro ⟨h0, m, h1, h2⟩
    cases m
    · exact .inr ⟨⟨h0, h1⟩, h2⟩
    · exact .inl ⟨⟨h0, h1⟩, h2⟩
theorem KP_pw (V : List RQt) (rows : List (List RC)) (l : List Nat) (lst : Int) (n : Nat) : (KP V rows l lst n).Pairwise aheadC := by
  unfold KP
  refine List.pairwise_flatMap.2 ⟨fun f _ => List.pairwise_flatMap.2 ⟨fun c _ => cand2_pw .., ?_⟩, ?_⟩
  · refine (ctV_srt rows f l).imp fun {c c'} hc x hx y hy => ?_
    obtain ⟨m, _, rfl⟩ := mem_cand2.1 hx
    obtain ⟨m', _, rfl⟩ := mem_cand2.1 hy
    unfold aheadC ahV
    rw [if_pos rfl, decide_eq_true hc, Bool.true_or]
  · refine List.pairwise_lt_range.imp fun {f f'} hf x hx y hy => ?_
    obtain ⟨c, _, hx⟩ := List.mem_flatMap.1 hx
    obtain ⟨c', _, hy⟩ := List.mem_flatMap.1 hy
    obtain ⟨m, _, rfl⟩ := mem_cand2.1 hx
    obtain ⟨m', _, rfl⟩ := mem_cand2.1 hy
    unfold aheadC ahV
    show (if f = f' then _ else decide (f < f')) = true
    rw [if_neg (by omega), decide_eq_true hf]
theorem alV_iff {rows : List (List RC)} {l : List Nat} {lst : Int} {f : Nat} {c : Rat} {m : Bool} : alV rows l lst f c m = true ↔ c ∈ ctV rows f l ∧ few2 rows l lst f c m = false := by
  unfold alV
  rw [ctV_mem, Bool.and_eq_true, Bool.and_eq_true, List.any_eq_true, List.any_eq_true, Bool.not_eq_true']
  unfold isA ltA
  simp only [Bool.and_eq_true, Bool.not_eq_true', decide_eq_true_eq]
theorem K_mem (V : List RQt) (rows : List (List RC)) (l : List Nat) (lst : Int) (n : Nat) (x : Cand) : x ∈ KL V rows l lst n ↔ x ∈ KP V rows l lst n := by
  unfold KL KP
  rw [List.mem_flatMap, List.mem_flatMap]
  refine exists_congr fun f => and_congr_right fun _ => ?_
  rw [List.mem_flatMap, List.mem_flatMap]
  constructor
  · rintro ⟨j, hj, hx⟩
    obtain ⟨h0, m, h1, rfl⟩ := mem_candL.1 hx
    obtain ⟨h2, h3⟩ := alV_iff.1 h1
    exact ⟨_, h2, mem_cand2.2 ⟨m, h3, rfl⟩⟩
  · rintro ⟨c, hc, hx⟩
    obtain ⟨m, h3, rfl⟩ := mem_cand2.1 hx
    obtain ⟨⟨j, hj, h0, rfl⟩, _⟩ := ctV_mem.1 hc
    exact ⟨j, hj, mem_candL.2 ⟨h0, m, alV_iff.2 ⟨hc, h3⟩, rfl⟩⟩
theorem best_same (V : List RQt) (rows : List (List RC)) (l : List Nat) (lst : Int) (n : Nat) : (bestL V rows l lst n).map valC = bestP V rows l lst n := by
  rw [bestL_fold, bestP_fold, fold_sorted _ _ (KP_pw ..) (fun r h => by cases h)]
  exact (fold_min0 _).unique (K_mem V rows l lst n) (fold_min0 _)
end Go.Pe
set_option linter.unusedVariables false
set_option linter.unusedSimpArgs false
open Go
namespace Go.Pe
theorem fD_len (d : RD) : (fD d).2.1.length ≤ 6 := by
  show ((d.2.1.take 6).map (fw 4)).length ≤ 6
  rw [List.length_map]; exact List.length_take_le _ _
end Go.Pe
set_option linter.unusedVariables false
set_option linter.unusedSimpArgs false
open Go
namespace Go.Pe
theorem rtV_ok {d : RD} {r : RR} (h : rtV d r = 0) : (0 ≤ d.1 ∧ d.1 ≤ 64 ∧ 0 ≤ r.1 ∧ r.1 ≤ 7 ∧ 1 ≤ r.2) ∧ d.2.1.length = d.2.2.length ∧ d.2.1.length ≠ 0 ∧ ∀ x ∈ d.2.1, (x.length : Int) = d.1 := by
  unfold rtV at h
  split at h
  · omega
  · split at h
    · omega
    · split at h
      · omega
      · split at h
        · omega
        · rename_i h1 h2 h3 h4
          refine ⟨by omega, by omega, h3, fun x hx => ?_⟩
          rcases Decidable.em ((x.length : Int) = d.1) with e | e
          · exact e
          · exact (h4 (List.any_eq_true.2 ⟨x, hx, by unfold badL; exact decide_eq_true e⟩)).elim
theorem fD_cells {d : RD} (h : OkD d) {f i : Nat} (hi : i < (fD d).2.1.length) (hf : f < ((fD d).2.1.getD i []).length) : SmQ (cellD (fD d).2.1 f i).2 3 := by
  have hr : (fD d).2.1.getD i [] ∈ (fD d).2.1 := getD_mem' [] hi
  obtain ⟨row, hrow, e⟩ := List.mem_map.1 (show (fD d).2.1.getD i [] ∈ (d.2.1.take 6).map (fw 4) from hr)
  have hc : cellD (fD d).2.1 f i ∈ (fD d).2.1.getD i [] := getD_mem' dC hf
  rw [← e] at hc
  obtain ⟨c, hc, e2⟩ := List.mem_map.1 (show cellD (fD d).2.1 f i ∈ (row.take 4).map t3 from hc)
  rw [← e2]
  have := (h.2.1.2 row (List.mem_of_mem_take hrow)).2 c (List.mem_of_mem_take hc)
  exact Sm.take (k := maxL) this 3
theorem fD_wf {d : RD} (h : OkD d) {r : RR} (hr : rtV (fD d) r = 0) : ∀ f, f < (fD d).1.toNat → WfD (fD d).2.1 f (List.range (fD d).2.1.length) 3 := by
  intro f hf i hi
  obtain ⟨h1, h2, h3, h4⟩ := rtV_ok hr
  have hi := List.mem_range.1 hi
  have hl := h4 _ (getD_mem' [] hi)
  have hf2 : f < ((fD d).2.1.getD i []).length := by omega
  exact ⟨hi, hf2, fD_cells h hi hf2⟩
def resP (d : RD) (r : RR) : Option Cand := if rtV d r = 0 then bestP d.2.2 d.2.1 (List.range d.2.1.length) r.2 d.1.toNat else none
theorem Best_c {d : RD} (h : OkD d) {r : RR} : R FF 271 [.agg (eD (fD d)), .agg (eR r)] = some (.tup [.agg (spO (resP (fD d) r)), .b (resP (fD d) r).isSome]) := by
  have hl := fD_len d
  have f1 := gright_c (d := fD d) (r := r) (by omega)
  by_cases h0 : rtV (fD d) r = 0
  · have hwf := fD_wf h h0
    obtain ⟨h1, h2, h3, h4⟩ := rtV_ok h0
    obtain ⟨hV, hVl⟩ := fD_vals h
    rw [show resP (fD d) r = bestP (fD d).2.2 (fD d).2.1 (List.range (fD d).2.1.length) r.2 (fD d).1.toNat from if_pos h0]
    have hn : (List.range (fD d).2.1.length).length ≤ 900 := by rw [List.length_range]; omega
    have hin : InX (List.range (fD d).2.1.length) (fD d).2.2.length := by rw [← h2]; exact inX_range _
    have f2 := gevery_c (d := fD d) (by omega)
    have f3 := best_c (dep := r.1) (lst := r.2) (by omega) (by omega) hV (by omega) hin (by omega) hwf hn (by omega)
    rw [show (((fD d).1.toNat : Nat) : Int) = (fD d).1 by omega] at f3
    rw [h0] at f1
    generalize bestP (fD d).2.2 (fD d).2.1 (List.range (fD d).2.1.length) r.2 (fD d).1.toNat = res at *
    generalize List.range (fD d).2.1.length = L at *
    generalize fD d = e at *
    obtain ⟨f, rows, vals⟩ := e
    obtain ⟨dep, lst⟩ := r
    obtain ⟨z, oc, om, ol, ez⟩ := spO_form res
    rw [ez] at f3 ⊢
    simp only [eD, eR, eSp, Option.isSome] at f1 f2 f3 ⊢
    rw [R_go FF F271 c271.eq_1]
    simp only [RB, RL, un, St.none, Nat.reduceEqDiff, Nat.reduceAdd, Nat.reduceMul, Nat.reduceMod, Nat.reduceLeDiff, Nat.reduceLT, Int.reduceLT, Int.reduceLE, Int.reduceEq, Int.reduceToNat, Int.reduceSub, Int.reduceNeg, Int.reduceAdd, ↓reduceIte, reduceCtorEq, pack, pid, parN, lid, chkK, apartV, Heap.none, f1, f2, f3, n64, eX_rules, eX_row]
  · rw [show resP (fD d) r = none from if_neg h0]
    generalize rtV (fD d) r = v at *
    generalize fD d = e at *
    obtain ⟨f, rows, vals⟩ := e
    obtain ⟨dep, lst⟩ := r
    rw [show spO none = eSp 0 dQ false dQ from rfl]
    simp only [eD, eR, eSp, Option.isSome, List.map_nil] at f1 ⊢
    rw [R_go FF F271 c271.eq_1]
    simp only [RB, RL, un, St.none, Nat.reduceEqDiff, Nat.reduceAdd, Nat.reduceMul, Nat.reduceMod, Nat.reduceLeDiff, Nat.reduceLT, Int.reduceLT, Int.reduceLE, Int.reduceEq, Int.reduceToNat, Int.reduceSub, Int.reduceNeg, Int.reduceAdd, ↓reduceIte, reduceCtorEq, pack, pid, parN, lid, chkK, apartV, Heap.none, f1, h0, n64]
theorem bestL_ok {V : List RQt} {rows : List (List RC)} {l : List Nat} {lst : Int} {k n : Nat} (hk : k ≤ 1000) (h1k : 1 ≤ k) (hV : SmL V k) (hl : InX l V.length) (hw : ∀ f, f < n → WfD rows f l k) (hn : l.length ≤ 900) : OkL k (bestL V rows l lst n) := by
  have h : ∀ f, f ≤ n → OkL k ((List.range f).foldl (featL V rows l lst) none) := by
    intro f
    induction f with
    | zero => intro _ r h; cases h
    | succ f ih => intro hf; rw [range_snoc_fold]; exact foldL_ok hk h1k hV hl hn _ _ (hw f (by omega)) (ih (by omega))
  exact h n (Nat.le_refl _)
theorem law_GrowBests (d : RD) (hd : OkD d) (r : RR) (hr : OkR r) : R FF 266 [.agg (eD d), .agg (eR r)] = some (.b true) := by
  have f1 := few26_c hd
  have f2 := Best_c (r := r) hd
  have hl := fD_len d
  have f3 := right26_c (d := fD d) (r := r) (by omega)
  have aw := awake26
  by_cases h0 : rtV (fD d) r = 0
  · have hwf := fD_wf hd h0
    obtain ⟨h1, h2, h3, h4⟩ := rtV_ok h0
    obtain ⟨hV, hVl⟩ := fD_vals hd
    rw [show resP (fD d) r = bestP (fD d).2.2 (fD d).2.1 (List.range (fD d).2.1.length) r.2 (fD d).1.toNat from if_pos h0] at f2
    have hn : (List.range (fD d).2.1.length).length ≤ 900 := by rw [List.length_range]; omega
    have hin : InX (List.range (fD d).2.1.length) (fD d).2.2.length := by rw [← h2]; exact inX_range _
    have g2 := every26_c (d := fD d) (by omega)
    have g3 := best26_c (lst := r.2) (by omega) (by omega) hV (by omega) hin (by omega) hwf hn (by omega)
    rw [show (((fD d).1.toNat : Nat) : Int) = (fD d).1 by omega] at g3
    have ok := bestL_ok (lst := r.2) (by omega) (by omega) hV hin hwf hn
    rw [← best_same] at f2
    rw [h0] at f3
    generalize bestL (fD d).2.2 (fD d).2.1 (List.range (fD d).2.1.length) r.2 (fD d).1.toNat = res at *
    generalize List.range (fD d).2.1.length = L at *
    generalize fD d = e at *
    obtain ⟨f, rows, vals⟩ := e
    obtain ⟨f', rows', vals'⟩ := d
    obtain ⟨dep, lst⟩ := r
    cases res with
    | none =>
      rw [show spL none = eSp 0 dQ false dQ from rfl] at g3
      rw [show spO (Option.map valC none) = eSp 0 dQ false dQ from rfl] at f2
      simp only [eD, eR, eSp, Option.isSome, Option.map, List.map_nil] at f1 f2 f3 g2 g3 ⊢
      rw [R_go FF F266 c266.eq_1]
      simp only [RB, RL, un, St.none, Nat.reduceEqDiff, Nat.reduceAdd, Nat.reduceMul, Nat.reduceMod, Nat.reduceLeDiff, Nat.reduceLT, Int.reduceLT, Int.reduceLE, Int.reduceEq, Int.reduceToNat, Int.reduceSub, Int.reduceNeg, Int.reduceAdd, ↓reduceIte, reduceCtorEq, pack, pid, parN, lid, chkK, apartV, Heap.none, f1, f2, f3, g2, g3, aw, n64, eX_rules, eX_row]
    | some x =>
      obtain ⟨xf, xc, xm, xl⟩ := x
      have o1 := ok _ rfl
      have i1 := is10_c (x := vQ xc) (q := xc.1) (by omega) (by omega) (vQ_sq o1.2 (by omega)) o1.2
      have i2 := is10_c (x := xl) (q := ng xl.num) (k := 10000000) (by omega) (by omega) o1.1 (sm_cq o1.1)
      change R FF 171 _ = some (AV.b (decide (vQ xc = vQ xc))) at i1
      rw [decide_eq_true rfl] at i1
      rw [qv_cq, decide_eq_true rfl] at i2
      rw [spL_some] at g3
      rw [show spO (Option.map valC (some (xf, xc, xm, xl))) = eSp xf (rQ (vQ xc)) xm (rQ xl) from rfl] at f2
      simp only [eD, eR, eSp, Option.isSome, Option.map, rQ] at f1 f2 f3 g2 g3 ⊢
      rw [R_go FF F266 c266.eq_1]
      simp only [RB, RL, un, St.none, Nat.reduceEqDiff, Nat.reduceAdd, Nat.reduceMul, Nat.reduceMod, Nat.reduceLeDiff, Nat.reduceLT, Int.reduceLT, Int.reduceLE, Int.reduceEq, Int.reduceToNat, Int.reduceSub, Int.reduceNeg, Int.reduceAdd, ↓reduceIte, reduceCtorEq, pack, pid, parN, lid, chkK, apartV, Heap.none, f1, f2, f3, g2, g3, aw, n64, eX_rules, eX_row, i1, i2]
  · rw [show resP (fD d) r = none from if_neg h0] at f2
    generalize rtV (fD d) r = v at *
    generalize fD d = e at *
    obtain ⟨f, rows, vals⟩ := e
    obtain ⟨f', rows', vals'⟩ := d
    obtain ⟨dep, lst⟩ := r
    rw [show spO none = eSp 0 dQ false dQ from rfl] at f2
    simp only [eD, eR, eSp, Option.isSome, List.map_nil] at f1 f2 f3 ⊢
    rw [R_go FF F266 c266.eq_1]
    simp only [RB, RL, un, St.none, Nat.reduceEqDiff, Nat.reduceAdd, Nat.reduceMul, Nat.reduceMod, Nat.reduceLeDiff, Nat.reduceLT, Int.reduceLT, Int.reduceLE, Int.reduceEq, Int.reduceToNat, Int.reduceSub, Int.reduceNeg, Int.reduceAdd, ↓reduceIte, reduceCtorEq, pack, pid, parN, lid, chkK, apartV, Heap.none, f1, f2, f3, h0, n64, aw]
end Go.Pe
namespace Go.Pe
open Go Go.Proofs
set_option maxRecDepth 100000
def tabs0 : List (Nat × List AV) := [(0, tab0)]
def FD : Nat → Option PF
  | 14 => some p14
  | 29 => some p29
  | 31 => some p31
  | 38 => some p38
  | 39 => some p39
  | 40 => some p40
  | 43 => some p43
  | 47 => some p47
  | 54 => some p54
  | 55 => some p55
  | 56 => some p56
  | 57 => some p57
  | 63 => some p63
  | 64 => some p64
  | 65 => some p65
  | 66 => some p66
  | 68 => some p68
  | 71 => some p71
  | 72 => some p72
  | 73 => some p73
  | 74 => some p74
  | 75 => some p75
  | 76 => some p76
  | 77 => some p77
  | 79 => some p79
  | 80 => some p80
  | 81 => some p81
  | 82 => some p82
  | 83 => some p83
  | 86 => some p86
  | 87 => some p87
  | 88 => some p88
  | 89 => some p89
  | 90 => some p90
  | 91 => some p91
  | 92 => some p92
  | 94 => some p94
  | 95 => some p95
  | 96 => some p96
  | 97 => some p97
  | 106 => some p106
  | 107 => some p107
  | 108 => some p108
  | 109 => some p109
  | 110 => some p110
  | 111 => some p111
  | 112 => some p112
  | 113 => some p113
  | 114 => some p114
  | 115 => some p115
  | 116 => some p116
  | 117 => some p117
  | 118 => some p118
  | 119 => some p119
  | 120 => some p120
  | 122 => some p122
  | 127 => some p127
  | 128 => some p128
  | 129 => some p129
  | 130 => some p130
  | 131 => some p131
  | 137 => some p137
  | 138 => some p138
  | 139 => some p139
  | 140 => some p140
  | 141 => some p141
  | 162 => some p162
  | 167 => some p167
  | 168 => some p168
  | 169 => some p169
  | 170 => some p170
  | 171 => some p171
  | 173 => some p173
  | 214 => some p214
  | 215 => some p215
  | 216 => some p216
  | 217 => some p217
  | 218 => some p218
  | 219 => some p219
  | 230 => some p230
  | 238 => some p238
  | 239 => some p239
  | 240 => some p240
  | 241 => some p241
  | 242 => some p242
  | 246 => some p246
  | 254 => some p254
  | 255 => some p255
  | 256 => some p256
  | 257 => some p257
  | 258 => some p258
  | 261 => some p261
  | 262 => some p262
  | 266 => some p266
  | 271 => some p271
  | 272 => some p272
  | 273 => some p273
  | 281 => some p281
  | 282 => some p282
  | 283 => some p283
  | 285 => some p285
  | _ => none
def nuD : Nat → Nat
  | 14 => 27
  | 29 => 18
  | 31 => 38
  | 38 => 71
  | 39 => 105
  | 40 => 96
  | 43 => 100
  | 47 => 99
  | 54 => 51
  | 55 => 22
  | 56 => 35
  | 57 => 34
  | 63 => 47
  | 64 => 57
  | 65 => 49
  | 66 => 58
  | 68 => 33
  | 71 => 77
  | 72 => 91
  | 73 => 64
  | 74 => 45
  | 75 => 48
  | 76 => 66
  | 77 => 50
  | 79 => 69
  | 80 => 118
  | 81 => 76
  | 82 => 63
  | 83 => 56
  | 86 => 82
  | 87 => 102
  | 88 => 97
  | 89 => 125
  | 90 => 103
  | 91 => 95
  | 92 => 79
  | 94 => 20
  | 95 => 73
  | 96 => 53
  | 97 => 29
  | 106 => 75
  | 107 => 107
  | 108 => 108
  | 109 => 109
  | 110 => 110
  | 111 => 111
  | 112 => 112
  | 113 => 113
  | 114 => 80
  | 115 => 78
  | 116 => 93
  | 117 => 94
  | 118 => 98
  | 119 => 120
  | 120 => 119
  | 122 => 106
  | 127 => 121
  | 128 => 122
  | 129 => 117
  | 130 => 114
  | 131 => 115
  | 137 => 123
  | 138 => 124
  | 139 => 126
  | 140 => 127
  | 141 => 128
  | 162 => 25
  | 167 => 7
  | 168 => 30
  | 169 => 9
  | 170 => 10
  | 171 => 13
  | 173 => 39
  | 214 => 14
  | 215 => 41
  | 216 => 42
  | 217 => 59
  | 218 => 60
  | 219 => 44
  | 230 => 65
  | 238 => 43
  | 239 => 32
  | 240 => 67
  | 241 => 68
  | 242 => 70
  | 246 => 92
  | 254 => 72
  | 255 => 31
  | 256 => 62
  | 257 => 101
  | 258 => 104
  | 261 => 61
  | 262 => 74
  | 266 => 3
  | 271 => 8
  | 272 => 11
  | 273 => 12
  | 281 => 36
  | 282 => 37
  | 283 => 40
  | 285 => 80
  | _ => 0
theorem M14 : fnOk Tryz.prog (FD, nuD) tabs0 14 p14 = true := by kernel_rfl
theorem M29 : fnOk Tryz.prog (FD, nuD) tabs0 29 p29 = true := by kernel_rfl
theorem M31 : fnOk Tryz.prog (FD, nuD) tabs0 31 p31 = true := by kernel_rfl
theorem M38 : fnOk Tryz.prog (FD, nuD) tabs0 38 p38 = true := by kernel_rfl
theorem M39 : fnOk Tryz.prog (FD, nuD) tabs0 39 p39 = true := by kernel_rfl
theorem M40 : fnOk Tryz.prog (FD, nuD) tabs0 40 p40 = true := by kernel_rfl
theorem M43 : fnOk Tryz.prog (FD, nuD) tabs0 43 p43 = true := by kernel_rfl
theorem M47 : fnOk Tryz.prog (FD, nuD) tabs0 47 p47 = true := by kernel_rfl
theorem M54 : fnOk Tryz.prog (FD, nuD) tabs0 54 p54 = true := by kernel_rfl
theorem M55 : fnOk Tryz.prog (FD, nuD) tabs0 55 p55 = true := by kernel_rfl
theorem M56 : fnOk Tryz.prog (FD, nuD) tabs0 56 p56 = true := by kernel_rfl
theorem M57 : fnOk Tryz.prog (FD, nuD) tabs0 57 p57 = true := by kernel_rfl
theorem M63 : fnOk Tryz.prog (FD, nuD) tabs0 63 p63 = true := by kernel_rfl
theorem M64 : fnOk Tryz.prog (FD, nuD) tabs0 64 p64 = true := by kernel_rfl
theorem M65 : fnOk Tryz.prog (FD, nuD) tabs0 65 p65 = true := by kernel_rfl
theorem M66 : fnOk Tryz.prog (FD, nuD) tabs0 66 p66 = true := by kernel_rfl
theorem M68 : fnOk Tryz.prog (FD, nuD) tabs0 68 p68 = true := by kernel_rfl
theorem M71 : fnOk Tryz.prog (FD, nuD) tabs0 71 p71 = true := by kernel_rfl
theorem M72 : fnOk Tryz.prog (FD, nuD) tabs0 72 p72 = true := by kernel_rfl
theorem M73 : fnOk Tryz.prog (FD, nuD) tabs0 73 p73 = true := by kernel_rfl
theorem M74 : fnOk Tryz.prog (FD, nuD) tabs0 74 p74 = true := by kernel_rfl
theorem M75 : fnOk Tryz.prog (FD, nuD) tabs0 75 p75 = true := by kernel_rfl
theorem M76 : fnOk Tryz.prog (FD, nuD) tabs0 76 p76 = true := by kernel_rfl
theorem M77 : fnOk Tryz.prog (FD, nuD) tabs0 77 p77 = true := by kernel_rfl
theorem M79 : fnOk Tryz.prog (FD, nuD) tabs0 79 p79 = true := by kernel_rfl
theorem M80 : fnOk Tryz.prog (FD, nuD) tabs0 80 p80 = true := by kernel_rfl
theorem M81 : fnOk Tryz.prog (FD, nuD) tabs0 81 p81 = true := by kernel_rfl
theorem M82 : fnOk Tryz.prog (FD, nuD) tabs0 82 p82 = true := by kernel_rfl
theorem M83 : fnOk Tryz.prog (FD, nuD) tabs0 83 p83 = true := by kernel_rfl
theorem M86 : fnOk Tryz.prog (FD, nuD) tabs0 86 p86 = true := by kernel_rfl
theorem M87 : fnOk Tryz.prog (FD, nuD) tabs0 87 p87 = true := by kernel_rfl
theorem M88 : fnOk Tryz.prog (FD, nuD) tabs0 88 p88 = true := by kernel_rfl
theorem M89 : fnOk Tryz.prog (FD, nuD) tabs0 89 p89 = true := by kernel_rfl
theorem M90 : fnOk Tryz.prog (FD, nuD) tabs0 90 p90 = true := by kernel_rfl
theorem M91 : fnOk Tryz.prog (FD, nuD) tabs0 91 p91 = true := by kernel_rfl
theorem M92 : fnOk Tryz.prog (FD, nuD) tabs0 92 p92 = true := by kernel_rfl
theorem M94 : fnOk Tryz.prog (FD, nuD) tabs0 94 p94 = true := by kernel_rfl
theorem M95 : fnOk Tryz.prog (FD, nuD) tabs0 95 p95 = true := by kernel_rfl
theorem M96 : fnOk Tryz.prog (FD, nuD) tabs0 96 p96 = true := by kernel_rfl
theorem M97 : fnOk Tryz.prog (FD, nuD) tabs0 97 p97 = true := by kernel_rfl
theorem M106 : fnOk Tryz.prog (FD, nuD) tabs0 106 p106 = true := by kernel_rfl
theorem M107 : fnOk Tryz.prog (FD, nuD) tabs0 107 p107 = true := by kernel_rfl
theorem M108 : fnOk Tryz.prog (FD, nuD) tabs0 108 p108 = true := by kernel_rfl
theorem M109 : fnOk Tryz.prog (FD, nuD) tabs0 109 p109 = true := by kernel_rfl
theorem M110 : fnOk Tryz.prog (FD, nuD) tabs0 110 p110 = true := by kernel_rfl
theorem M111 : fnOk Tryz.prog (FD, nuD) tabs0 111 p111 = true := by kernel_rfl
theorem M112 : fnOk Tryz.prog (FD, nuD) tabs0 112 p112 = true := by kernel_rfl
theorem M113 : fnOk Tryz.prog (FD, nuD) tabs0 113 p113 = true := by kernel_rfl
theorem M114 : fnOk Tryz.prog (FD, nuD) tabs0 114 p114 = true := by kernel_rfl
theorem M115 : fnOk Tryz.prog (FD, nuD) tabs0 115 p115 = true := by kernel_rfl
theorem M116 : fnOk Tryz.prog (FD, nuD) tabs0 116 p116 = true := by kernel_rfl
theorem M117 : fnOk Tryz.prog (FD, nuD) tabs0 117 p117 = true := by kernel_rfl
theorem M118 : fnOk Tryz.prog (FD, nuD) tabs0 118 p118 = true := by kernel_rfl
theorem M119 : fnOk Tryz.prog (FD, nuD) tabs0 119 p119 = true := by kernel_rfl
theorem M120 : fnOk Tryz.prog (FD, nuD) tabs0 120 p120 = true := by kernel_rfl
theorem M122 : fnOk Tryz.prog (FD, nuD) tabs0 122 p122 = true := by kernel_rfl
theorem M127 : fnOk Tryz.prog (FD, nuD) tabs0 127 p127 = true := by kernel_rfl
theorem M128 : fnOk Tryz.prog (FD, nuD) tabs0 128 p128 = true := by kernel_rfl
theorem M129 : fnOk Tryz.prog (FD, nuD) tabs0 129 p129 = true := by kernel_rfl
theorem M130 : fnOk Tryz.prog (FD, nuD) tabs0 130 p130 = true := by kernel_rfl
theorem M131 : fnOk Tryz.prog (FD, nuD) tabs0 131 p131 = true := by kernel_rfl
theorem M137 : fnOk Tryz.prog (FD, nuD) tabs0 137 p137 = true := by kernel_rfl
theorem M138 : fnOk Tryz.prog (FD, nuD) tabs0 138 p138 = true := by kernel_rfl
theorem M139 : fnOk Tryz.prog (FD, nuD) tabs0 139 p139 = true := by kernel_rfl
theorem M140 : fnOk Tryz.prog (FD, nuD) tabs0 140 p140 = true := by kernel_rfl
theorem M141 : fnOk Tryz.prog (FD, nuD) tabs0 141 p141 = true := by kernel_rfl
theorem M162 : fnOk Tryz.prog (FD, nuD) tabs0 162 p162 = true := by kernel_rfl
theorem M167 : fnOk Tryz.prog (FD, nuD) tabs0 167 p167 = true := by kernel_rfl
theorem M168 : fnOk Tryz.prog (FD, nuD) tabs0 168 p168 = true := by kernel_rfl
theorem M169 : fnOk Tryz.prog (FD, nuD) tabs0 169 p169 = true := by kernel_rfl
theorem M170 : fnOk Tryz.prog (FD, nuD) tabs0 170 p170 = true := by kernel_rfl
theorem M171 : fnOk Tryz.prog (FD, nuD) tabs0 171 p171 = true := by kernel_rfl
theorem M173 : fnOk Tryz.prog (FD, nuD) tabs0 173 p173 = true := by kernel_rfl
theorem M214 : fnOk Tryz.prog (FD, nuD) tabs0 214 p214 = true := by kernel_rfl
theorem M215 : fnOk Tryz.prog (FD, nuD) tabs0 215 p215 = true := by kernel_rfl
theorem M216 : fnOk Tryz.prog (FD, nuD) tabs0 216 p216 = true := by kernel_rfl
theorem M217 : fnOk Tryz.prog (FD, nuD) tabs0 217 p217 = true := by kernel_rfl
theorem M218 : fnOk Tryz.prog (FD, nuD) tabs0 218 p218 = true := by kernel_rfl
theorem M219 : fnOk Tryz.prog (FD, nuD) tabs0 219 p219 = true := by kernel_rfl
theorem M230 : fnOk Tryz.prog (FD, nuD) tabs0 230 p230 = true := by kernel_rfl
theorem M238 : fnOk Tryz.prog (FD, nuD) tabs0 238 p238 = true := by kernel_rfl
theorem M239 : fnOk Tryz.prog (FD, nuD) tabs0 239 p239 = true := by kernel_rfl
theorem M240 : fnOk Tryz.prog (FD, nuD) tabs0 240 p240 = true := by kernel_rfl
theorem M241 : fnOk Tryz.prog (FD, nuD) tabs0 241 p241 = true := by kernel_rfl
theorem M242 : fnOk Tryz.prog (FD, nuD) tabs0 242 p242 = true := by kernel_rfl
theorem M246 : fnOk Tryz.prog (FD, nuD) tabs0 246 p246 = true := by kernel_rfl
theorem M254 : fnOk Tryz.prog (FD, nuD) tabs0 254 p254 = true := by kernel_rfl
theorem M255 : fnOk Tryz.prog (FD, nuD) tabs0 255 p255 = true := by kernel_rfl
theorem M256 : fnOk Tryz.prog (FD, nuD) tabs0 256 p256 = true := by kernel_rfl
theorem M257 : fnOk Tryz.prog (FD, nuD) tabs0 257 p257 = true := by kernel_rfl
theorem M258 : fnOk Tryz.prog (FD, nuD) tabs0 258 p258 = true := by kernel_rfl
theorem M261 : fnOk Tryz.prog (FD, nuD) tabs0 261 p261 = true := by kernel_rfl
theorem M262 : fnOk Tryz.prog (FD, nuD) tabs0 262 p262 = true := by kernel_rfl
theorem M266 : fnOk Tryz.prog (FD, nuD) tabs0 266 p266 = true := by kernel_rfl
theorem M271 : fnOk Tryz.prog (FD, nuD) tabs0 271 p271 = true := by kernel_rfl
theorem M272 : fnOk Tryz.prog (FD, nuD) tabs0 272 p272 = true := by kernel_rfl
theorem M273 : fnOk Tryz.prog (FD, nuD) tabs0 273 p273 = true := by kernel_rfl
theorem M281 : fnOk Tryz.prog (FD, nuD) tabs0 281 p281 = true := by kernel_rfl
theorem M282 : fnOk Tryz.prog (FD, nuD) tabs0 282 p282 = true := by kernel_rfl
theorem M283 : fnOk Tryz.prog (FD, nuD) tabs0 283 p283 = true := by kernel_rfl
theorem M285 : fnOk Tryz.prog (FD, nuD) tabs0 285 p285 = true := by kernel_rfl
theorem FD_ok (g : Nat) (p : PF) (h : FD g = some p) : fnOk Tryz.prog (FD, nuD) tabs0 g p = true ∧ FF g = some p := by
  unfold FD at h
  split at h
  · cases h; exact ⟨M14, rfl⟩
  · cases h; exact ⟨M29, rfl⟩
  · cases h; exact ⟨M31, rfl⟩
  · cases h; exact ⟨M38, rfl⟩
  · cases h; exact ⟨M39, rfl⟩
  · cases h; exact ⟨M40, rfl⟩
  · cases h; exact ⟨M43, rfl⟩
  · cases h; exact ⟨M47, rfl⟩
  · cases h; exact ⟨M54, rfl⟩
  · cases h; exact ⟨M55, rfl⟩
  · cases h; exact ⟨M56, rfl⟩
  · cases h; exact ⟨M57, rfl⟩
  · cases h; exact ⟨M63, rfl⟩
  · cases h; exact ⟨M64, rfl⟩
  · cases h; exact ⟨M65, rfl⟩
  · cases h; exact ⟨M66, rfl⟩
  · cases h; exact ⟨M68, rfl⟩
  · cases h; exact ⟨M71, rfl⟩
  · cases h; exact ⟨M72, rfl⟩
  · cases h; exact ⟨M73, rfl⟩
  · cases h; exact ⟨M74, rfl⟩
  · cases h; exact ⟨M75, rfl⟩
  · cases h; exact ⟨M76, rfl⟩
  · cases h; exact ⟨M77, rfl⟩
  · cases h; exact ⟨M79, rfl⟩
  · cases h; exact ⟨M80, rfl⟩
  · cases h; exact ⟨M81, rfl⟩
  · cases h; exact ⟨M82, rfl⟩
  · cases h; exact ⟨M83, rfl⟩
  · cases h; exact ⟨M86, rfl⟩
  · cases h; exact ⟨M87, rfl⟩
  · cases h; exact ⟨M88, rfl⟩
  · cases h; exact ⟨M89, rfl⟩
  · cases h; exact ⟨M90, rfl⟩
  · cases h; exact ⟨M91, rfl⟩
  · cases h; exact ⟨M92, rfl⟩
  · cases h; exact ⟨M94, rfl⟩
  · cases h; exact ⟨M95, rfl⟩
  · cases h; exact ⟨M96, rfl⟩
  · cases h; exact ⟨M97, rfl⟩
  · cases h; exact ⟨M106, rfl⟩
  · cases h; exact ⟨M107, rfl⟩
  · cases h; exact ⟨M108, rfl⟩
  · cases h; exact ⟨M109, rfl⟩
  · cases h; exact ⟨M110, rfl⟩
  · cases h; exact ⟨M111, rfl⟩
  · cases h; exact ⟨M112, rfl⟩
  · cases h; exact ⟨M113, rfl⟩
  · cases h; exact ⟨M114, rfl⟩
  · cases h; exact ⟨M115, rfl⟩
  · cases h; exact ⟨M116, rfl⟩
  · cases h; exact ⟨M117, rfl⟩
  · cases h; exact ⟨M118, rfl⟩
  · cases h; exact ⟨M119, rfl⟩
  · cases h; exact ⟨M120, rfl⟩
  · cases h; exact ⟨M122, rfl⟩
  · cases h; exact ⟨M127, rfl⟩
  · cases h; exact ⟨M128, rfl⟩
  · cases h; exact ⟨M129, rfl⟩
  · cases h; exact ⟨M130, rfl⟩
  · cases h; exact ⟨M131, rfl⟩
  · cases h; exact ⟨M137, rfl⟩
  · cases h; exact ⟨M138, rfl⟩
  · cases h; exact ⟨M139, rfl⟩
  · cases h; exact ⟨M140, rfl⟩
  · cases h; exact ⟨M141, rfl⟩
  · cases h; exact ⟨M162, rfl⟩
  · cases h; exact ⟨M167, rfl⟩
  · cases h; exact ⟨M168, rfl⟩
  · cases h; exact ⟨M169, rfl⟩
  · cases h; exact ⟨M170, rfl⟩
  · cases h; exact ⟨M171, rfl⟩
  · cases h; exact ⟨M173, rfl⟩
  · cases h; exact ⟨M214, rfl⟩
  · cases h; exact ⟨M215, rfl⟩
  · cases h; exact ⟨M216, rfl⟩
  · cases h; exact ⟨M217, rfl⟩
  · cases h; exact ⟨M218, rfl⟩
  · cases h; exact ⟨M219, rfl⟩
  · cases h; exact ⟨M230, rfl⟩
  · cases h; exact ⟨M238, rfl⟩
  · cases h; exact ⟨M239, rfl⟩
  · cases h; exact ⟨M240, rfl⟩
  · cases h; exact ⟨M241, rfl⟩
  · cases h; exact ⟨M242, rfl⟩
  · cases h; exact ⟨M246, rfl⟩
  · cases h; exact ⟨M254, rfl⟩
  · cases h; exact ⟨M255, rfl⟩
  · cases h; exact ⟨M256, rfl⟩
  · cases h; exact ⟨M257, rfl⟩
  · cases h; exact ⟨M258, rfl⟩
  · cases h; exact ⟨M261, rfl⟩
  · cases h; exact ⟨M262, rfl⟩
  · cases h; exact ⟨M266, rfl⟩
  · cases h; exact ⟨M271, rfl⟩
  · cases h; exact ⟨M272, rfl⟩
  · cases h; exact ⟨M273, rfl⟩
  · cases h; exact ⟨M281, rfl⟩
  · cases h; exact ⟨M282, rfl⟩
  · cases h; exact ⟨M283, rfl⟩
  · cases h; exact ⟨M285, rfl⟩
  · cases h
theorem followsD : Tryz.prog.follows .mixedOrders = true := by kernel_rfl
theorem callsD : CallsOk Tryz.prog (FD, nuD) tabs0 (R FF) := R_ok followsD FD_ok
end Go.Pe
namespace Go.Proofs.YtmdlpmhkpnobeaaGreatDoor.growBests
open Go.Pe
open Go.ChangeShapes Go.WideShapes Go.ChangeAt Go.RowKit
set_option linter.unusedVariables false
theorem own : ownKnob Tryz.prog.godebug = none := by kernel_rfl
theorem laidOut : laidOutB Tryz.prog = true := by kernel_rfl
def laid : List (String × DataW Unit) := [("math/bits.deBruijn64tab", Rows.laid_math_bits_deBruijn64tab)]
def tz : List Int := tab0.map fun | .i _ n => n | _ => 0
theorem tab_rv {W : World} (h : laidMetH Tryz.prog laid W) : Rv W (fun _ => False) Rho.none (.tp tab0 0) (.pointer (some ⟨0, 0, none⟩)) := by
  rw [MakeChecks.laidMetH_plain _ _ _ (by kernel_rfl)] at h
  obtain ⟨ps, ⟨g, t, cs, fuel, p, q, hg, ht, hv, hd, _, _⟩, _, _⟩ := h
  obtain rfl := Option.some.inj ((show Tryz.prog.globalNamed "math/bits.deBruijn64tab" = some 0 by kernel_rfl).symm.trans hg)
  obtain rfl := Option.some.inj ((show (Tryz.prog.globals[0]?).map (·.type) = some 166 by kernel_rfl).symm.trans ht)
  obtain ⟨xs, m, _, ex, _, hl, hel⟩ := DataW.trod_array Tryz.underlying166 hd
  have cE : Tryz.prog.cellsOf 5 = 1 := by kernel_rfl
  have hlen : tz.length = 64 := by decide
  have e0 : (xs.map (·.1)) = tz.map fun n => .lit (.int .u8 n) := (DataW.agg.inj (Prod.mk.inj ex).1).symm
  have cell : ∀ r, r < 64 → W.cell? ⟨0, r, none⟩ = some (.int .u8 (tz.getD r 0)) := by
    intro r hr
    have hE := hel r hr
    rw [cE, Nat.mul_one, List.getElem?_eq_getElem (by omega)] at hE
    obtain ⟨z, e1, e2, _⟩ := DataW.trod_int Tryz.underlying5 hE
    have e4 : (xs.map (·.1))[r]? = (tz.map fun n => (DataW.lit (.int .u8 n) : DataW Unit))[r]? := by rw [e0]
    rw [List.getElem?_map, List.getElem?_map, List.getElem?_eq_getElem (by omega : r < xs.length), List.getElem?_eq_getElem (by omega : r < tz.length), e2] at e4
    have hz : z = tz.getD r 0 := by
      simp only [Option.map_some, Option.some.injEq, DataW.lit.injEq, Lit.int.injEq, true_and] at e4
      rw [e4, List.getD, List.getElem?_eq_getElem (by omega : r < tz.length)]; rfl
    rw [World.var?_cell hg hv r, ← hz]
    have : cs.toList[r]? = some (.int .u8 z) := by
      have h0 : ((cs.toList.drop r).take 1)[0]? = some (.int .u8 z) := by rw [e1]; rfl
      simpa using h0
    simpa using this
  have hb : 0 < W.heap.size := by
    have h0 := cell 0 (by decide)
    rcases Nat.lt_or_ge 0 W.heap.size with h | h
    · exact h
    · unfold World.cell? at h0; rw [Array.getElem?_eq_none h] at h0; cases h0
  refine Rv.tp (o := 0) (base := 0) (fun c => .int .u8 (tz.getD c 0)) (fun h => h) hb (fun c hc => ?_) fun c hc => ?_
  · rw [Nat.zero_add]; exact ⟨cell c hc, rfl⟩
  · have e : tab0 = tz.map (AV.i .u8) := rfl
    have hc' : c < tz.length := by rw [hlen]; exact hc
    rw [e, List.getD_eq_getElem?_getD, List.getElem?_map, List.getD_eq_getElem?_getD, List.getElem?_eq_getElem hc']
    exact Rv.i
set_option maxRecDepth 100000 in
theorem lifted (os : Os) (started : os.Started) (H : Type) (enc : TypeId × Value → H) :
    ReturnsInHanded {} Tryz.checked os 3 .any (fun w args => (Rows.growBestsSpec.pre enc Tryz.prog Tryz.f3 Rows.growBestsRow.domain false w args ∧ laidMetH Tryz.prog laid w) ∧ sizedMet enc Tryz.prog Tryz.f3 (OpenSpec.ofChange Rows.growBestsSpec) false w args) (Rows.growBestsSpec.post enc Tryz.prog Tryz.f3 false true false false) := by
  refine returnsInHanded_of_change_and (C := Tryz.checked) (X := fun w _ => laidMetH Tryz.prog laid w) (fun _ _ _ hh h => h.of_heap hh) own started (by kernel_rfl) Tryz.func3
    (ChangeSpec.witness_shaped (enc := enc) (C := Tryz.checked) (os := os) (X := fun w _ => laidMetH Tryz.prog laid w) false (World.laidAll Tryz.prog os laid) #[.agg #[.int .i64 0, .slice none 0 0, .slice none 0 0], .agg #[.int .i64 0, .int .i64 0]] 8 (World.laidAll_os _ _ _)
      (World.shaped_of_ZipB (by kernel_rfl) (by kernel_rfl)) (by kernel_rfl) (by kernel_rfl) (by kernel_rfl) (by rw [MakeChecks.laidMetH_plain _ _ _ (by kernel_rfl)]; exact laidMet_laidAll _ (by kernel_rfl) (by kernel_rfl))) ?_
  intro W base args ds gs before hval0 hW hcnd hsz0 hL _
  have hval : ∀ (j : Nat) t v, Tryz.f3.params[j]? = some t → args[j]? = some v → Value.okWide Tryz.prog W .any base t v := hval0
  have hW' := hW
  obtain ⟨p, q, hA0, hV, rfl, hfz, hnd⟩ := hW
  have hA : DataW.TrodAll enc Tryz.prog W 0 (fun _ => true) true Tryz.f3.params.toList args.toList ds p := hA0
  rw [Tryz.params3] at hA hval
  obtain ⟨v0, vs0, d0, ds0, pl0, ql0, hargs, rfl, rfl, h0, r0⟩ := trodAll_cons hA
  obtain ⟨v1, vs1, d1, ds1, pl1, ql1, rfl, rfl, rfl, h1, r1⟩ := trodAll_cons r0
  obtain ⟨rfl, rfl, rfl⟩ := trodAll_nil r1
  obtain rfl : args = #[v0, v1] := by cases args; simp_all
  obtain ⟨rfl, rfl⟩ := trodVars_none hV
  have lt0 : ∀ x ∈ pl0, x.block < W.heap.size := by obtain ⟨m, hm⟩ := h0; exact DataW.trod_lt m _ _ _ hm
  obtain ⟨acs0, la0, fa0, rv0⟩ := arg_rv (n := 12) (ks := kD) (hval 0 25 v0 rfl rfl) h0 (by kernel_rfl)
  rw [show isStr Tryz.prog 25 = true by kernel_rfl] at rv0
  obtain ⟨x0, rfl, ok0⟩ := open_D ⟨la0, fa0⟩
  have lt1 : ∀ x ∈ pl1, x.block < W.heap.size := by obtain ⟨m, hm⟩ := h1; exact DataW.trod_lt m _ _ _ hm
  obtain ⟨acs1, la1, fa1, rv1⟩ := arg_rv (n := 12) (ks := kR) (hval 1 27 v1 rfl rfl) h1 (by kernel_rfl)
  rw [show isStr Tryz.prog 27 = true by kernel_rfl] at rv1
  obtain ⟨x1, rfl, ok1⟩ := open_R ⟨la1, fa1⟩
  clear hA0 hval0 hsz0
  have hlaw := law_GrowBests x0 ok0 x1 ok1
  have hx : ∀ j, j < 2 → Rv W (fun _ => False) Rho.none ([AV.agg (eD x0), AV.agg (eR x1)].getD j .junk) (#[v0, v1].getD j undef) := by
    intro j hj
    match j, hj with
    | 0, _ => exact rv0
    | 1, _ => exact rv1
  refine (law_true (F := (FD, nuD)) callsD (g := 266) (p := p266) rfl rfl (by decide) (by kernel_rfl) hlaw (w := W) (vs := #[v0, v1]) (fun q hq => by obtain rfl := List.mem_singleton.1 hq; exact tab_rv hL) rfl hx).mono fun e W' ⟨he, bel⟩ => ?_
  subst he
  exact ⟨_, rfl, _, _, _, [], _, [], hW', trodAll_mk1 (shut_bool Tryz.underlying4 _), (trodAll_cons_mk (Below.trod laidOut (by kernel_rfl) (of_decide_eq_true (by kernel_rfl)) h0 bel lt0) (trodAll_cons_mk (Below.trod laidOut (by kernel_rfl) (of_decide_eq_true (by kernel_rfl)) h1 bel lt1) trodAll_mk0)), rfl, bel.frame _, fun h => by cases h⟩
theorem over : Rows.growBestsRow.holds Tryz.pinned (OpenSpec.ofChange Rows.growBestsSpec) :=
  OpenClaim.holds_of_wide 3 Tryz.f3 rfl rfl rfl rfl rfl rfl rfl ⟨rfl, rfl, rfl, rfl, rfl⟩ rfl rfl rfl rfl rfl (by kernel_rfl) Tryz.func3 (by kernel_rfl)
    (of_decide_eq_true (by kernel_rfl)) (by unfold Func.isWrapper; first | (rw [if_pos (by decide +kernel)]; kernel_rfl) | (rw [if_neg (by decide +kernel)]; exact ⟨rfl, rfl⟩))
    (fun os started H enc _ => lifted os started H enc)
theorem proved : Rows.GrowBestsCardSaid :=
  Claim7.holds_tied_plain_at .later [] [.data] true (true, "17efdc352ec3d0b200996e0ee9810004bcdd160069ab220330ace2cdfbaefea9") false over (fun _ h => by cases h) (by kernel_rfl) (fun _ h => by cases h) growBests_row_tie rfl ⟨rfl, rfl⟩ (by kernel_rfl) rfl
    (fun f fn hf hfn => by
      obtain rfl : f = 3 := Option.some.inj ((show Tryz.prog.funcNamed "dendron/dendronlaw26.GrowBests" = some 3 by kernel_rfl).symm.trans hf) |>.symm
      obtain rfl : fn = Tryz.f3 := (Option.some.inj (Tryz.func3.symm.trans hfn)).symm
      exact ⟨by kernel_rfl, fun j t ht => by
        rw [Tryz.params3] at ht
        have hm : t ∈ [25, 27] := by simpa using Array.mem_of_getElem? ht
        have hall : ([25, 27].all fun u => !Tryz.prog.wantsStandIn u) = true := by kernel_rfl
        exact (show Tryz.prog.wantsStandIn t = false by simpa using List.all_eq_true.1 hall t hm)⟩)
    (by kernel_rfl)
#print axioms proved
end Go.Proofs.YtmdlpmhkpnobeaaGreatDoor.growBests
namespace Go.Proofs.YtmdlpmhkpnobeaaGreatDoor
theorem growBests_holds : Rows.GrowBestsCardSaid := growBests.proved
end Go.Proofs.YtmdlpmhkpnobeaaGreatDoor
