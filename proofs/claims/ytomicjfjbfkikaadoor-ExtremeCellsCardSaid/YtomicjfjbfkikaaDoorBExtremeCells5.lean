/- Proved: It shows that just the rows of a row's cell go to the same leaves as it does, in all trees, or why there is none. No conditions. -/
import Derived.Test.YtomicjfjbfkikaaDoorBExtremeCells4
import Derived.Test.YtomicjfjbfkikaaDoorChecked
import Derived.KernelRfl
import Derived.Test.YtomicjfjbfkikaaDoorRows
import Derived.WalkKit
import Derived.ProofKit
import Derived.OpenShut
import Derived.ShutString
import Derived.ChangeOld
import Derived.Below
import Derived.SizedLaws
import Derived.Test.YtomicjfjbfkikaaDoorCards
import Derived.Test.YtomicjfjbfkikaaDoorTie
import Derived.LaidMore
import Derived.Lay
import Derived.SevenTiedAt
import Derived.Stop.Joined
import Derived.Handed
import Derived.LaidLaws
set_option linter.unusedVariables false
set_option linter.unusedSimpArgs false
open List renaming getD_eq_getElem?_getD → za, take_of_length_le → zf, getElem?_eq_getElem → zg, take_length → zh, replicate → zi, length_take → zj, length_append → zk, length_replicate → zl, mem_cons_of_mem → zm, mem_cons_self → zn, length_map → zq, length_cons → zu, length_set → zw, mem_singleton → zy
open Bool renaming and_eq_true → zb
open Option renaming map_eq_some_iff → zc, bind_eq_some_iff → zd, bind_some → zr
open Int renaming natCast_nonneg → ze, mul_le_mul_of_nonneg_right → zo
open Nat renaming le_refl → zp, mul_le_mul_right → zt, le_trans → zx
open Go
namespace Go.Pe
def bump (P : List Int) (n : RNd) : List Int := if n.leaf then P else
 (P.set n.lft.toNat (P.getD n.lft.toNat 0 + 1)).set n.rgt.toNat ((P.set n.lft.toNat (P.getD n.lft.toNat 0 + 1)).getD n.rgt.toNat 0 + 1)
def parL (t : List RNd) : List Int := t.foldl bump (zi t.length 0)
theorem bump_len (P : List Int) (n : RNd) : (bump P n).length = P.length := by
 unfold bump; split
 ·rfl
 ·rw [zw, zw]
theorem getD_set (P : List Int) (a b : Nat) (x : Int) : (P.set a x).getD b 0 = if a = b ∧ a < P.length then x else P.getD b 0 := by
 rw [za, za, List.getElem?_set]
 by_cases h : a = b
 ·subst h
  by_cases h2 : a < P.length
  ·rw [if_pos rfl, if_pos h2, if_pos ⟨rfl, h2⟩]; rfl
  ·rw [if_pos rfl, if_neg h2, if_neg (fun h => h2 h.2), List.getElem?_eq_none (by omega)]
 ·rw [if_neg h, if_neg (fun k => h k.1)]
def Bnd (P : List Int) (k : Int) : Prop := ∀ j, 0 ≤ P.getD j 0 ∧ P.getD j 0 ≤ k
theorem bump_bnd {P : List Int} {k : Int} (h : Bnd P k) (n : RNd) : Bnd (bump P n) (k + 2) := by
 intro j
 unfold bump
 split
 ·have := h j; omega
 ·have h1 : ∀ i, 0 ≤ (P.set n.lft.toNat (P.getD n.lft.toNat 0 + 1)).getD i 0 ∧ (P.set n.lft.toNat (P.getD n.lft.toNat 0 + 1)).getD i 0 ≤ k + 1 := by
   intro i
   rw [getD_set]
   have a := h i
   have b := h n.lft.toNat
   split <;> omega
  rw [getD_set]
  have a := h1 j
  have b := h1 n.rgt.toNat
  split <;> omega
theorem drop_foldT {β : Type} {g : β → RNd → β} {l : List RNd} {i : Nat} (o : β) (h : i < l.length) : (l.drop i).foldl g o = (l.drop (i + 1)).foldl g (g o (l.getD i dNd)) := by
 rw [List.drop_eq_getElem_cons h, List.foldl_cons, za, zg h]; rfl
theorem shape_l3 {t : List RNd} {f : Int} (ht : t.length ≤ 100000) (hr : t.any (bdR t.length f) = false) : ∀ (d i : Nat) (P : List Int), i + d = t.length → P.length = t.length → Bnd P (2 * (i : Int)) →
  LP FF [(4, 1), (0, 0), (18, 0), (19, 0), (20, 0)] [(0, 0), (4, 0)] b250_3 [.own true 1 (P.map n64), .l 14 (t.map eNd), .l 14 (t.map eNd), (AV.i .i64 ((t.length : Int))), (AV.i .i64 ((i : Int)))] = some (.exit 0, [.l 14 (t.map eNd), .l 1 (((t.drop i).foldl bump P).map n64)]) := by
 intro d
 induction d with
 | zero =>
  intro i P hi hP hB
  have c1 : ¬ (i : Int) < (t.length : Int) := by omega
  rw [List.drop_of_length_le (by omega), List.foldl_nil]
  rw [LP_go FF b250_3.eq_1]
  simp only [RB, RL, un, St.none, Nat.reduceEqDiff, Nat.reduceAdd, Nat.reduceMul, Nat.reduceMod, Nat.reduceLeDiff, Nat.reduceLT, Int.reduceLT, Int.reduceLE, Int.reduceEq, Int.reduceToNat, Int.reduceSub, Int.reduceNeg, Int.reduceAdd, ↓reduceIte, reduceCtorEq, pack, pid, parN, lid, chkK, apartV, Heap.none, c1, eNd_rules, eNd_row, zh]
 | succ d ih =>
  intro i P hi hP hB
  have hlt : i < t.length := by omega
  have c1 : (i : Int) < (t.length : Int) := by omega
  have e2 : IntKind.i64.wrap ((i : Int) + 1) = ((i + 1 : Nat) : Int) := w64succ (by omega)
  have hmem := getD_mem' dNd hlt
  have hr2 : bdR t.length f (t.getD i dNd) = false := by
   rw [List.any_eq_false] at hr
   simpa using hr _ hmem
  have h9 := ih (i + 1) (bump P (t.getD i dNd)) (by omega) (by rw [bump_len, hP]) (by
   have := bump_bnd hB (t.getD i dNd)
   rwa [show 2 * (i : Int) + 2 = 2 * ((i + 1 : Nat) : Int) by omega] at this)
  rw [drop_foldT P hlt]
  obtain ⟨x, hx⟩ : ∃ x, x = t.getD i dNd := ⟨_, rfl⟩
  rw [← hx] at hr2 h9 ⊢
  have hx' := hx.symm
  obtain ⟨xl, xf, xc, xa, xb, xm, xv, xw⟩ := x
  cases xl with
  | true =>
   rw [show bump P ⟨true, xf, xc, xa, xb, xm, xv, xw⟩ = P from rfl] at h9 ⊢
   rw [LP_go FF b250_3.eq_1]
   simp only [RB, RL, un, St.none, Nat.reduceEqDiff, Nat.reduceAdd, Nat.reduceMul, Nat.reduceMod, Nat.reduceLeDiff, Nat.reduceLT, Int.reduceLT, Int.reduceLE, Int.reduceEq, Int.reduceToNat, Int.reduceSub, Int.reduceNeg, Int.reduceAdd, ↓reduceIte, reduceCtorEq, pack, pid, parN, lid, chkK, apartV, Heap.none, c1, hx', eNd_rules, eNd_row, eNd, ze, e2, zh]
   exact h9
  | false =>
   have hr3 : (decide (xf < 0) || decide (f ≤ xf) || decide (xa < 1) || decide ((t.length : Int) ≤ xa) || decide (xb < 1) || decide ((t.length : Int) ≤ xb)) = false := hr2
   simp only [Bool.or_eq_false_iff, decide_eq_false_iff_not] at hr3
   have a1 : 0 ≤ xa := by omega
   have a2 : xa < (t.length : Int) := by omega
   have b1 : 0 ≤ xb := by omega
   have b2 : xb < (t.length : Int) := by omega
   have a3 : xa.toNat < t.length := by omega
   have b3 : xb.toNat < t.length := by omega
   have q1 := hB xa.toNat
   have w1 : IntKind.i64.wrap (P.getD xa.toNat 0 + 1) = P.getD xa.toNat 0 + 1 := w64 (by omega) (by omega)
   have eb : bump P ⟨false, xf, xc, xa, xb, xm, xv, xw⟩ = (P.set xa.toNat (P.getD xa.toNat 0 + 1)).set xb.toNat ((P.set xa.toNat (P.getD xa.toNat 0 + 1)).getD xb.toNat 0 + 1) := rfl
   have q2 : 0 ≤ (P.set xa.toNat (P.getD xa.toNat 0 + 1)).getD xb.toNat 0 ∧ (P.set xa.toNat (P.getD xa.toNat 0 + 1)).getD xb.toNat 0 ≤ 2 * (i : Int) + 1 := by
    rw [getD_set]
    have a := hB xb.toNat
    split <;> omega
   have w2 : IntKind.i64.wrap ((P.set xa.toNat (P.getD xa.toNat 0 + 1)).getD xb.toNat 0 + 1) = (P.set xa.toNat (P.getD xa.toNat 0 + 1)).getD xb.toNat 0 + 1 := w64 (by omega) (by omega)
   rw [eb] at h9 ⊢
   have hl1 : (P.set xa.toNat (P.getD xa.toNat 0 + 1)).length = t.length := by rw [zw, hP]
   generalize hP1 : P.set xa.toNat (P.getD xa.toNat 0 + 1) = P1 at *
   have hl2 : (P1.set xb.toNat (P1.getD xb.toNat 0 + 1)).length = t.length := by rw [zw, hl1]
   generalize hP2 : P1.set xb.toNat (P1.getD xb.toNat 0 + 1) = P2 at *
   have t2 : List.take t.length P2 = P2 := zf (by omega)
   rw [LP_go FF b250_3.eq_1]
   simp only [RB, RL, un, St.none, Nat.reduceEqDiff, Nat.reduceAdd, Nat.reduceMul, Nat.reduceMod, Nat.reduceLeDiff, Nat.reduceLT, Int.reduceLT, Int.reduceLE, Int.reduceEq, Int.reduceToNat, Int.reduceSub, Int.reduceNeg, Int.reduceAdd, ↓reduceIte, reduceCtorEq, pack, pid, parN, lid, chkK, apartV, Heap.none, c1, hx', eNd_rules, eNd_row, eNd, ze, e2, a1, a2, b1, b2, a3, b3, hP, hl1, hl2, w1, w2, hP1, hP2, t2]
   exact h9
theorem shape_l2 {t : List RNd} {P : List Int} (ht : t.length ≤ 100000) (hP : P.length = t.length) : ∀ (d i : Nat), i + d = t.length →
  (∃ j, 0 < j ∧ j < t.length ∧ P.getD j 0 ≠ 1 ∧ LP FF [(0, 0), (42, 0), (43, 0), (44, 0)] [(0, 0), (2, 0), (3, 0)] b250_2 [.l 14 (t.map eNd), .l 1 (P.map n64), (AV.i .i64 ((t.length : Int))), (AV.i .i64 ((i : Int)))] = some (.ret, [.l 14 (t.map eNd), (AV.i .i64 ((j : Int))), (AV.i .i64 11)])) ∨
  ((∀ j, i ≤ j → j < t.length → 0 < j → P.getD j 0 = 1) ∧ LP FF [(0, 0), (42, 0), (43, 0), (44, 0)] [(0, 0), (2, 0), (3, 0)] b250_2 [.l 14 (t.map eNd), .l 1 (P.map n64), (AV.i .i64 ((t.length : Int))), (AV.i .i64 ((i : Int)))] = some (.exit 2, [.l 14 (t.map eNd), .junk, .junk])) := by
 intro d
 induction d with
 | zero =>
  intro i hi
  refine .inr ⟨fun j h1 h2 => by omega, ?_⟩
  have c1 : ¬ (i : Int) < (t.length : Int) := by omega
  rw [LP_go FF b250_2.eq_1]
  simp only [RB, RL, un, St.none, Nat.reduceEqDiff, Nat.reduceAdd, Nat.reduceMul, Nat.reduceMod, Nat.reduceLeDiff, Nat.reduceLT, Int.reduceLT, Int.reduceLE, Int.reduceEq, Int.reduceToNat, Int.reduceSub, Int.reduceNeg, Int.reduceAdd, ↓reduceIte, reduceCtorEq, pack, pid, parN, lid, chkK, apartV, Heap.none, c1, eNd_rules, eNd_row]
 | succ d ih =>
  intro i hi
  have hlt : i < t.length := by omega
  have c1 : (i : Int) < (t.length : Int) := by omega
  have c2 : i < t.length := hlt
  have e2 : IntKind.i64.wrap ((i : Int) + 1) = ((i + 1 : Nat) : Int) := w64succ (by omega)
  by_cases h0 : 0 < (i : Int)
  ·by_cases h1 : P.getD i 0 = 1
   ·have step : LP FF [(0, 0), (42, 0), (43, 0), (44, 0)] [(0, 0), (2, 0), (3, 0)] b250_2 [.l 14 (t.map eNd), .l 1 (P.map n64), (AV.i .i64 ((t.length : Int))), (AV.i .i64 ((i : Int)))] = LP FF [(0, 0), (42, 0), (43, 0), (44, 0)] [(0, 0), (2, 0), (3, 0)] b250_2 [.l 14 (t.map eNd), .l 1 (P.map n64), (AV.i .i64 ((t.length : Int))), (AV.i .i64 (((i + 1 : Nat) : Int)))] := by
     rw [LP_go FF b250_2.eq_1]
     simp only [RB, RL, un, St.none, Nat.reduceEqDiff, Nat.reduceAdd, Nat.reduceMul, Nat.reduceMod, Nat.reduceLeDiff, Nat.reduceLT, Int.reduceLT, Int.reduceLE, Int.reduceEq, Int.reduceToNat, Int.reduceSub, Int.reduceNeg, Int.reduceAdd, ↓reduceIte, reduceCtorEq, pack, pid, parN, lid, chkK, apartV, Heap.none, c1, c2, h0, h1, hP, eNd_rules, eNd_row, ze, e2]
    rw [step]
    rcases ih (i + 1) (by omega) with h9 | ⟨h8, h9⟩
    ·exact .inl h9
    ·exact .inr ⟨fun j a b c => by
      rcases Nat.eq_or_lt_of_le a with rfl | a
      ·exact h1
      ·exact h8 j a b c, h9⟩
   ·refine .inl ⟨i, by omega, hlt, h1, ?_⟩
    rw [LP_go FF b250_2.eq_1]
    simp only [RB, RL, un, St.none, Nat.reduceEqDiff, Nat.reduceAdd, Nat.reduceMul, Nat.reduceMod, Nat.reduceLeDiff, Nat.reduceLT, Int.reduceLT, Int.reduceLE, Int.reduceEq, Int.reduceToNat, Int.reduceSub, Int.reduceNeg, Int.reduceAdd, ↓reduceIte, reduceCtorEq, pack, pid, parN, lid, chkK, apartV, Heap.none, c1, c2, h0, h1, hP, eNd_rules, eNd_row, ze, e2]
  ·have step : LP FF [(0, 0), (42, 0), (43, 0), (44, 0)] [(0, 0), (2, 0), (3, 0)] b250_2 [.l 14 (t.map eNd), .l 1 (P.map n64), (AV.i .i64 ((t.length : Int))), (AV.i .i64 ((i : Int)))] = LP FF [(0, 0), (42, 0), (43, 0), (44, 0)] [(0, 0), (2, 0), (3, 0)] b250_2 [.l 14 (t.map eNd), .l 1 (P.map n64), (AV.i .i64 ((t.length : Int))), (AV.i .i64 (((i + 1 : Nat) : Int)))] := by
    rw [LP_go FF b250_2.eq_1]
    simp only [RB, RL, un, St.none, Nat.reduceEqDiff, Nat.reduceAdd, Nat.reduceMul, Nat.reduceMod, Nat.reduceLeDiff, Nat.reduceLT, Int.reduceLT, Int.reduceLE, Int.reduceEq, Int.reduceToNat, Int.reduceSub, Int.reduceNeg, Int.reduceAdd, ↓reduceIte, reduceCtorEq, pack, pid, parN, lid, chkK, apartV, Heap.none, c1, c2, h0, hP, eNd_rules, eNd_row, ze, e2]
   rw [step]
   rcases ih (i + 1) (by omega) with h9 | ⟨h8, h9⟩
   ·exact .inl h9
   ·exact .inr ⟨fun j a b c => h8 j (by omega) b c, h9⟩
def kids (n : RNd) : List Nat := if n.leaf then [] else [n.rgt.toNat, n.lft.toNat]
def cntN (j : Nat) (n : RNd) : Nat := if n.leaf then 0 else (if n.lft.toNat = j then 1 else 0) + (if n.rgt.toNat = j then 1 else 0)
def cnt (j : Nat) : List RNd → Nat
 | [] => 0
 | n :: l => cntN j n + cnt j l
theorem bump_cnt {P : List Int} {n : RNd} (hn : n.leaf = false → n.lft.toNat < P.length ∧ n.rgt.toNat < P.length) (j : Nat) : (bump P n).getD j 0 = P.getD j 0 + (cntN j n : Nat) := by
 unfold bump cntN
 cases hl : n.leaf with
 | true => simp
 | false =>
  obtain ⟨h1, h2⟩ := hn hl
  simp only [Bool.false_eq_true, if_false]
  rw [getD_set, getD_set, getD_set, zw]
  by_cases e1 : n.lft.toNat = j <;> by_cases e2 : n.rgt.toNat = j
  ·have e3 : n.lft.toNat = n.rgt.toNat := by omega
   rw [if_pos ⟨e2, h2⟩, if_pos ⟨e3, h1⟩, if_pos e1, if_pos e2, e1]; omega
  ·rw [if_neg (fun h => e2 h.1), if_pos ⟨e1, h1⟩, if_pos e1, if_neg e2, e1]; omega
  ·have e3 : ¬ n.lft.toNat = n.rgt.toNat := by omega
   rw [if_pos ⟨e2, h2⟩, if_neg (fun h => e3 h.1), if_neg e1, if_pos e2, e2]; omega
  ·rw [if_neg (fun h => e2 h.1), if_neg (fun h => e1 h.1), if_neg e1, if_neg e2]; omega
theorem foldl_cnt : ∀ (l : List RNd) (P : List Int), (∀ n ∈ l, n.leaf = false → n.lft.toNat < P.length ∧ n.rgt.toNat < P.length) → ∀ j, (l.foldl bump P).getD j 0 = P.getD j 0 + (cnt j l : Nat) := by
 intro l
 induction l with
 | nil => intro P _ j; show P.getD j 0 = P.getD j 0 + ((0 : Nat) : Int); omega
 | cons n l ih =>
  intro P h j
  have h1 := bump_cnt (h n (zn ..)) j
  have h2 := ih (bump P n) (fun m hm => by rw [bump_len]; exact h m (zm _ hm)) j
  rw [List.foldl_cons, h2, h1]
  show _ = _ + ((cntN j n + cnt j l : Nat) : Int)
  omega
theorem parL_cnt {t : List RNd} (h : ∀ n ∈ t, n.leaf = false → n.lft.toNat < t.length ∧ n.rgt.toNat < t.length) (j : Nat) : (parL t).getD j 0 = (cnt j t : Nat) := by
 unfold parL
 rw [foldl_cnt t _ (fun n hn hl => by rw [zl]; exact h n hn hl)]
 have e : (zi t.length (0 : Int)).getD j 0 = 0 := by
  rw [za, List.getElem?_replicate]
  split <;> rfl
 rw [e]; omega
theorem cntN_kids {j : Nat} {n : RNd} (h : j ∈ kids n) : 1 ≤ cntN j n := by
 unfold kids at h
 unfold cntN
 split at h
 ·exact (List.not_mem_nil h).elim
 ·rename_i hl
  rw [if_neg hl]
  simp only [List.mem_cons, List.not_mem_nil, or_false] at h
  rcases h with rfl | rfl <;> simp
theorem cnt_one : ∀ (l : List RNd) (i j : Nat), i < l.length → j ∈ kids (l.getD i dNd) → 1 ≤ cnt j l := by
 intro l
 induction l with
 | nil => intro i j h; exact absurd h (Nat.not_lt_zero _)
 | cons n l ih =>
  intro i j hi hk
  show 1 ≤ cntN j n + cnt j l
  cases i with
  | zero => have := cntN_kids (show j ∈ kids n from hk); omega
  | succ i => have := ih i j (by rw [zu] at hi; omega) hk; omega
theorem cnt_two : ∀ (l : List RNd) (i i' j : Nat), i < i' → i' < l.length → j ∈ kids (l.getD i dNd) → j ∈ kids (l.getD i' dNd) → 2 ≤ cnt j l := by
 intro l
 induction l with
 | nil => intro i i' j _ h; exact absurd h (Nat.not_lt_zero _)
 | cons n l ih =>
  intro i i' j hlt hi hk hk'
  show 2 ≤ cntN j n + cnt j l
  cases i' with
  | zero => omega
  | succ i' =>
   rw [zu] at hi
   cases i with
   | zero =>
    have h1 := cntN_kids (show j ∈ kids n from hk)
    have h2 := cnt_one l i' j (by omega) hk'
    omega
   | succ i => have := ih i i' j (by omega) (by omega) hk hk'; omega
theorem cnt_dup : ∀ (l : List RNd) (i : Nat), i < l.length → (l.getD i dNd).leaf = false → (l.getD i dNd).lft.toNat = (l.getD i dNd).rgt.toNat → 2 ≤ cnt (l.getD i dNd).lft.toNat l := by
 intro l
 induction l with
 | nil => intro i h; exact absurd h (Nat.not_lt_zero _)
 | cons n l ih =>
  intro i hi hl he
  cases i with
  | zero =>
   have hl : n.leaf = false := hl
   have he : n.lft.toNat = n.rgt.toNat := he
   show 2 ≤ cntN n.lft.toNat n + cnt n.lft.toNat l
   unfold cntN
   rw [hl, if_neg (by decide), if_pos rfl, if_pos he.symm]; omega
  | succ i =>
   have := ih i (by rw [zu] at hi; omega) hl he
   show 2 ≤ cntN (l.getD i dNd).lft.toNat n + cnt (l.getD i dNd).lft.toNat l
   omega
structure Par (t : List RNd) : Prop where
 rng : ∀ i, i < t.length → ∀ c ∈ kids (t.getD i dNd), 1 ≤ c ∧ c < t.length
 one : ∀ j, 0 < j → j < t.length → cnt j t = 1
theorem Par.uniq {t : List RNd} (h : Par t) {i i' c : Nat} (hi : i < t.length) (hi' : i' < t.length) (hc : c ∈ kids (t.getD i dNd)) (hc' : c ∈ kids (t.getD i' dNd)) : i = i' := by
 obtain ⟨r1, r2⟩ := h.rng i hi c hc
 have h1 := h.one c (by omega) r2
 rcases Nat.lt_trichotomy i i' with hl | hl | hl
 ·have := cnt_two t i i' c hl hi' hc hc'; omega
 ·exact hl
 ·have := cnt_two t i' i c hl hi hc' hc; omega
theorem Par.nd {t : List RNd} (h : Par t) {i : Nat} (hi : i < t.length) : (kids (t.getD i dNd)).Nodup := by
 have hr := h.rng i hi
 have hd := cnt_dup t i hi
 unfold kids at *
 cases hl : (t.getD i dNd).leaf with
 | true => simp
 | false =>
  rw [hl] at hr hd
  simp only [Bool.false_eq_true, if_false] at hr ⊢
  have hne : (t.getD i dNd).rgt.toNat ≠ (t.getD i dNd).lft.toNat := fun e => by
   have h2 := hd rfl e.symm
   have r := hr (t.getD i dNd).lft.toNat (by simp)
   have := h.one _ (by omega) r.2
   omega
  exact List.nodup_cons.2 ⟨fun hm => hne (List.mem_singleton.1 hm), List.nodup_cons.2 ⟨List.not_mem_nil, List.nodup_nil⟩⟩
def dfs (t : List RNd) : Nat → List Nat → Option (List Nat)
 | _, [] => some []
 | 0, _ :: _ => none
 | k + 1, a :: S => (dfs t k (kids (t.getD a dNd) ++ S)).map (a :: ·)
theorem nodup_len : ∀ (n : Nat) {l : List Nat}, l.Nodup → (∀ x ∈ l, x < n) → l.length ≤ n := by
 intro n
 induction n with
 | zero =>
  intro l _ hl
  cases l with
  | nil => exact zp _
  | cons a l => exact absurd (hl a (zn ..)) (Nat.not_lt_zero _)
 | succ n ih =>
  intro l h hl
  by_cases hm : n ∈ l
  ·have h1 := ih (h.erase n) (fun x hx => by
    have h2 := (h.mem_erase_iff).1 hx
    have h3 := hl x h2.2
    omega)
   rw [List.length_erase_of_mem hm] at h1
   omega
  ·have h1 := ih h (fun x hx => by
    have h3 := hl x hx
    have h4 : x ≠ n := fun e => hm (e ▸ hx)
    omega)
   omega
theorem dfs_some {t : List RNd} (h : Par t) : ∀ (k : Nat) (V S : List Nat), (V ++ S).Nodup → (∀ c ∈ V ++ S, c < t.length) → (∀ c ∈ V ++ S, c = 0 ∨ ∃ p ∈ V, c ∈ kids (t.getD p dNd)) → t.length ≤ V.length + k →
  ∃ vis, dfs t k S = some vis ∧ (V ++ vis).Nodup ∧ (∀ c ∈ vis, c < t.length) ∧ ∀ c ∈ S, c ∈ vis := by
 intro k
 induction k with
 | zero =>
  intro V S hnd hlt hp hk
  cases S with
  | nil => exact ⟨[], rfl, hnd, fun _ h => (List.not_mem_nil h).elim, fun _ h => (List.not_mem_nil h).elim⟩
  | cons a S =>
   have := nodup_len t.length hnd hlt
   rw [zk, zu] at this
   omega
 | succ k ih =>
  intro V S hnd hlt hp hk
  cases S with
  | nil => exact ⟨[], rfl, hnd, fun _ h => (List.not_mem_nil h).elim, fun _ h => (List.not_mem_nil h).elim⟩
  | cons a S =>
   have ha : a < t.length := hlt a (by simp)
   have hk1 : ∀ c ∈ kids (t.getD a dNd), c ∉ V ++ a :: S := by
    intro c hc hm
    have hr := h.rng a ha c hc
    rcases hp c hm with h0 | ⟨p, hpV, hpc⟩
    ·omega
    ·have hpl : p < t.length := hlt p (by simp [hpV])
     have e := h.uniq hpl ha hpc hc
     subst e
     have := (List.nodup_append.1 hnd).2.2 p hpV p (zn ..)
     exact this rfl
   have hnd2 : (V ++ [a] ++ (kids (t.getD a dNd) ++ S)).Nodup := by
    rw [List.nodup_append] at hnd ⊢
    obtain ⟨n1, n2, n3⟩ := hnd
    obtain ⟨n4, n5⟩ := List.nodup_cons.1 n2
    refine ⟨?_, ?_, ?_⟩
    ·rw [List.nodup_append]
     exact ⟨n1, by simp, fun x hx y hy => by rw [List.mem_singleton.1 hy]; exact n3 x hx a (zn ..)⟩
    ·rw [List.nodup_append]
     exact ⟨h.nd ha, n5, fun x hx y hy e => hk1 x hx (by rw [e]; simp [hy])⟩
    ·intro x hx y hy e
     subst e
     rcases List.mem_append.1 hy with hy | hy
     ·rcases List.mem_append.1 hx with hx | hx
      ·exact hk1 x hy (by simp [hx])
      ·rw [List.mem_singleton.1 hx] at hy; exact hk1 a hy (by simp)
     ·rcases List.mem_append.1 hx with hx | hx
      ·exact n3 x hx x (zm _ hy) rfl
      ·rw [List.mem_singleton.1 hx] at hy; exact n4 hy
   obtain ⟨vis, v1, v2, v3, v4⟩ := ih (V ++ [a]) (kids (t.getD a dNd) ++ S) hnd2 (fun c hc => by
    simp only [List.mem_append, zy] at hc
    rcases hc with (hc | hc) | (hc | hc)
    ·exact hlt c (by simp [hc])
    ·rw [hc]; exact ha
    ·exact (h.rng a ha c hc).2
    ·exact hlt c (by simp [hc])) (fun c hc => by
    simp only [List.mem_append, zy] at hc
    rcases hc with (hc | hc) | (hc | hc)
    ·rcases hp c (by simp [hc]) with h0 | ⟨p, hpV, hpc⟩
     ·exact .inl h0
     ·exact .inr ⟨p, by simp [hpV], hpc⟩
    ·rcases hp c (by simp [hc]) with h0 | ⟨p, hpV, hpc⟩
     ·exact .inl h0
     ·exact .inr ⟨p, by simp [hpV], hpc⟩
    ·exact .inr ⟨a, by simp, hc⟩
    ·rcases hp c (by simp [hc]) with h0 | ⟨p, hpV, hpc⟩
     ·exact .inl h0
     ·exact .inr ⟨p, by simp [hpV], hpc⟩) (by rw [zk, List.length_singleton]; omega)
   refine ⟨a :: vis, by rw [dfs, v1]; rfl, by rwa [List.append_assoc] at v2, fun c hc => ?_, fun c hc => ?_⟩
   ·rcases List.mem_cons.1 hc with rfl | hc
    ·exact ha
    ·exact v3 c hc
   ·rcases List.mem_cons.1 hc with rfl | hc
    ·exact zn ..
    ·exact zm _ (v4 c (List.mem_append_right _ hc))
def eB (b : Bool) : List AV := [.b b]
theorem eB_rules : (∀ x, (eB x).length = 1) ∧ (∀ h x, (eB x).map (tellC h) = eB x) ∧ (∀ h x, (eB x).map (tell0 h) = eB x) ∧ (∀ h x, (eB x).flatMap (refC h) = []) ∧ (∀ x, (eB x).flatMap ref0 = []) ∧
  (∀ x, ldC false 1 0 (eB x) = some (.b x)) := by
 refine ⟨?_, ?_, ?_, ?_, ?_, ?_⟩ <;> intros <;> rfl
theorem eB_row : type_of% (row_rules eB false 1 (fun _ => rfl) (fun _ _ => rfl)) := row_rules eB false 1 (fun _ => rfl) (fun _ _ => rfl)
theorem shape_l1 {t : List RNd} (ht : t.length ≤ 100000) (hp : Par t) : ∀ (k : Nat) (S : List Nat) (seen : List Bool) (vis : List Nat), dfs t k S = some vis → (∀ c ∈ S, c < t.length) → seen.length = t.length →
  (∀ c ∈ vis, c < t.length) → S.length + k ≤ 1000000 →
  LP FF [(9, 1), (10, 1), (0, 0)] [(9, 0)] b250_1 [.own true 1 (seen.map eB), .own true 1 (S.reverse.map eX), .l 14 (t.map eNd)] = some (.exit 4, [.l 1 ((vis.foldl (fun s a => s.set a true) seen).map eB)]) := by
 intro k
 induction k with
 | zero =>
  intro S seen vis hd hS hs hv hk
  cases S with
  | nil =>
   cases hd
   rw [List.foldl_nil]
   rw [LP_go FF b250_1.eq_1]
   simp only [RB, RL, un, St.none, Nat.reduceEqDiff, Nat.reduceAdd, Nat.reduceMul, Nat.reduceMod, Nat.reduceLeDiff, Nat.reduceLT, Int.reduceLT, Int.reduceLE, Int.reduceEq, Int.reduceToNat, Int.reduceSub, Int.reduceNeg, Int.reduceAdd, ↓reduceIte, reduceCtorEq, pack, pid, parN, lid, chkK, apartV, Heap.none, eB_rules, eB_row, eX_rules, eX_row, zh, List.reverse_nil]
  | cons a S => cases hd
 | succ k ih =>
  intro S seen vis hd hS hs hv hk
  cases S with
  | nil =>
   cases hd
   rw [List.foldl_nil]
   rw [LP_go FF b250_1.eq_1]
   simp only [RB, RL, un, St.none, Nat.reduceEqDiff, Nat.reduceAdd, Nat.reduceMul, Nat.reduceMod, Nat.reduceLeDiff, Nat.reduceLT, Int.reduceLT, Int.reduceLE, Int.reduceEq, Int.reduceToNat, Int.reduceSub, Int.reduceNeg, Int.reduceAdd, ↓reduceIte, reduceCtorEq, pack, pid, parN, lid, chkK, apartV, Heap.none, eB_rules, eB_row, eX_rules, eX_row, zh, List.reverse_nil]
  | cons a S =>
   have ha : a < t.length := hS a (zn ..)
   rw [dfs] at hd
   obtain ⟨vis', hd', rfl⟩ := Option.map_eq_some_iff.1 hd
   have hkl : (kids (t.getD a dNd)).length ≤ 2 := by unfold kids; split <;> simp
   have hv' : ∀ c ∈ vis', c < t.length := fun c hc => hv c (zm _ hc)
   have h9 := ih (kids (t.getD a dNd) ++ S) (seen.set a true) vis' hd' (fun c hc => by
    rcases List.mem_append.1 hc with hc | hc
    ·exact (hp.rng a ha c hc).2
    ·exact hS c (zm _ hc)) (by rw [zw, hs]) hv' (by
     rw [zk]; rw [zu] at hk; omega)
   rw [List.foldl_cons, List.reverse_cons]
   rw [List.reverse_append] at h9
   have hrl : S.reverse.length = S.length := List.length_reverse ..
   rw [zu] at hk
   generalize S.reverse = Q at *
   have hQ : Q.length = S.length := hrl
   have hl1 : (Q ++ [a]).length = Q.length + 1 := by rw [zk, List.length_singleton]
   have hg : (Q ++ [a]).getD Q.length 0 = a := by rw [za, List.getElem?_append_right (zp _), Nat.sub_self]; rfl
   have mt : List.take Q.length (Q ++ [a]) = Q := List.take_left
   have c0 : 0 < ((Q.length + 1 : Nat) : Int) := by omega
   have e1 : IntKind.i64.wrap (((Q.length + 1 : Nat) : Int) - 1) = (Q.length : Int) := by rw [w64 (by omega) (by omega)]; omega
   have c1 : (Q.length : Int) < ((Q.length + 1 : Nat) : Int) := by omega
   have c2 : Q.length < Q.length + 1 := by omega
   have c3 : (Q.length : Int) ≤ ((Q.length + 1 : Nat) : Int) := by omega
   have c4 : Q.length ≤ Q.length + 1 := by omega
   have d1 : (a : Int) < (t.length : Int) := by omega
   have hss : (seen.set a true).length = t.length := by rw [zw, hs]
   have hpc : putC 1 (List.map eB seen) a 0 [AV.b true] = List.map eB (seen.set a true) := eB_row.2.2.2.1 seen a true
   have hst : List.take t.length (seen.set a true) = seen.set a true := zf (by omega)
   generalize hsn : seen.set a true = seen' at *
   have hrn := hp.rng a ha
   obtain ⟨x, hx⟩ : ∃ x, x = t.getD a dNd := ⟨_, rfl⟩
   rw [← hx] at h9 hkl hrn
   have hx' := hx.symm
   obtain ⟨xl, xf, xc, xa, xb, xm, xv, xw⟩ := x
   cases xl with
   | true =>
    rw [show kids ⟨true, xf, xc, xa, xb, xm, xv, xw⟩ = [] from rfl, List.reverse_nil, List.append_nil] at h9
    rw [LP_go FF b250_1.eq_1]
    simp only [RB, RL, un, St.none, Nat.reduceEqDiff, Nat.reduceAdd, Nat.reduceMul, Nat.reduceMod, Nat.reduceLeDiff, Nat.reduceLT, Int.reduceLT, Int.reduceLE, Int.reduceEq, Int.reduceToNat, Int.reduceSub, Int.reduceNeg, Int.reduceAdd, ↓reduceIte, reduceCtorEq, pack, pid, parN, lid, chkK, apartV, Heap.none, eB_rules, eB_row, eX_rules, eX_row, eNd_rules, eNd_row, eNd, hx', zh, hl1, hg, mt, c0, e1, c1, c2, c3, c4, d1, ha, hs, hpc, hst, hss, ze, Int.le_refl]
    exact h9
   | false =>
    have r1 : 1 ≤ xb.toNat ∧ xb.toNat < t.length := hrn xb.toNat (by show _ ∈ [xb.toNat, xa.toNat]; simp)
    have r2 : 1 ≤ xa.toNat ∧ xa.toNat < t.length := hrn xa.toNat (by show _ ∈ [xb.toNat, xa.toNat]; simp)
    obtain ⟨p, rfl⟩ : ∃ p : Nat, xa = p := ⟨xa.toNat, by omega⟩
    obtain ⟨q, rfl⟩ : ∃ q : Nat, xb = q := ⟨xb.toNat, by omega⟩
    rw [show (kids ⟨false, xf, xc, (p : Int), (q : Int), xm, xv, xw⟩).reverse = [p, q] from rfl] at h9
    have m1 : List.map eX Q ++ [[AV.i .i64 (p : Int)], [AV.i .i64 (q : Int)]] = List.map eX (Q ++ [p, q]) := by rw [List.map_append]; rfl
    have m2 : List.take (Q.length + 2) (Q ++ [p, q]) = Q ++ [p, q] := zf (by rw [zk]; exact zp _)
    have b2 : (Q.length + 2) * 8 ≤ 140737488355328 := by omega
    rw [LP_go FF b250_1.eq_1]
    simp only [RB, RL, un, St.none, Nat.reduceEqDiff, Nat.reduceAdd, Nat.reduceMul, Nat.reduceMod, Nat.reduceLeDiff, Nat.reduceLT, Int.reduceLT, Int.reduceLE, Int.reduceEq, Int.reduceToNat, Int.reduceSub, Int.reduceNeg, Int.reduceAdd, ↓reduceIte, reduceCtorEq, pack, pid, parN, lid, chkK, apartV, Heap.none, eB_rules, eB_row, eX_rules, eX_row, eNd_rules, eNd_row, eNd, hx', zh, hl1, hg, mt, c0, e1, c1, c2, c3, c4, d1, ha, hs, hpc, hst, hss, ze, Int.le_refl, n64, m1, m2, b2]
    exact h9
theorem marks (vis : List Nat) : ∀ (s : List Bool) (j : Nat), (vis.foldl (fun s a => s.set a true) s).length = s.length ∧ ((vis.foldl (fun s a => s.set a true) s).getD j false = true ↔ s.getD j false = true ∨ (j ∈ vis ∧ j < s.length)) := by
 induction vis with
 | nil => intro s j; exact ⟨rfl, ⟨.inl, fun h => h.elim id fun h => (List.not_mem_nil h.1).elim⟩⟩
 | cons a vis ih =>
  intro s j
  obtain ⟨h1, h2⟩ := ih (s.set a true) j
  rw [zw] at h1 h2
  refine ⟨h1, ?_⟩
  rw [List.foldl_cons, h2]
  have e : (s.set a true).getD j false = true ↔ s.getD j false = true ∨ (j = a ∧ j < s.length) := by
   rw [za, za, List.getElem?_set]
   by_cases h : a = j
   ·subst h
    by_cases h3 : a < s.length
    ·rw [if_pos rfl, if_pos h3]; simp [h3]
    ·rw [if_pos rfl, if_neg h3, List.getElem?_eq_none (by omega)]; simp [h3]
   ·rw [if_neg h]
    constructor
    ·exact .inl
    ·rintro (k | k)
     ·exact k
     ·exact (h k.1.symm).elim
  rw [e, List.mem_cons]
  constructor
  ·rintro ((k | k) | k)
   ·exact .inl k
   ·exact .inr ⟨.inl k.1, k.2⟩
   ·exact .inr ⟨.inr k.1, k.2⟩
  ·rintro (k | ⟨k | k, k2⟩)
   ·exact .inl (.inl k)
   ·exact .inl (.inr ⟨k, k2⟩)
   ·exact .inr ⟨k, k2⟩
theorem shape_l0 {s : List Bool} (hs : s.length ≤ 100000) : ∀ (d i : Nat), i + d = s.length →
  (∃ j, j < s.length ∧ s.getD j false = false ∧ LP FF [(92, 0), (93, 0), (94, 0)] [(2, 0), (3, 0)] b250_0 [.l 1 (s.map eB), (AV.i .i64 ((s.length : Int))), (AV.i .i64 ((i : Int)))] = some (.ret, [(AV.i .i64 ((j : Int))), (AV.i .i64 11)])) ∨
  ((∀ j, i ≤ j → j < s.length → s.getD j false = true) ∧ LP FF [(92, 0), (93, 0), (94, 0)] [(2, 0), (3, 0)] b250_0 [.l 1 (s.map eB), (AV.i .i64 ((s.length : Int))), (AV.i .i64 ((i : Int)))] = some (.exit 6, [.junk, .junk])) := by
 intro d
 induction d with
 | zero =>
  intro i hi
  refine .inr ⟨fun j h1 h2 => by omega, ?_⟩
  have c1 : ¬ (i : Int) < (s.length : Int) := by omega
  rw [LP_go FF b250_0.eq_1]
  simp only [RB, RL, un, St.none, Nat.reduceEqDiff, Nat.reduceAdd, Nat.reduceMul, Nat.reduceMod, Nat.reduceLeDiff, Nat.reduceLT, Int.reduceLT, Int.reduceLE, Int.reduceEq, Int.reduceToNat, Int.reduceSub, Int.reduceNeg, Int.reduceAdd, ↓reduceIte, reduceCtorEq, pack, pid, parN, lid, chkK, apartV, Heap.none, c1]
 | succ d ih =>
  intro i hi
  have hlt : i < s.length := by omega
  have c1 : (i : Int) < (s.length : Int) := by omega
  have e2 : IntKind.i64.wrap ((i : Int) + 1) = ((i + 1 : Nat) : Int) := w64succ (by omega)
  cases h1 : s.getD i false with
  | true =>
   have step : LP FF [(92, 0), (93, 0), (94, 0)] [(2, 0), (3, 0)] b250_0 [.l 1 (s.map eB), (AV.i .i64 ((s.length : Int))), (AV.i .i64 ((i : Int)))] = LP FF [(92, 0), (93, 0), (94, 0)] [(2, 0), (3, 0)] b250_0 [.l 1 (s.map eB), (AV.i .i64 ((s.length : Int))), (AV.i .i64 (((i + 1 : Nat) : Int)))] := by
    rw [LP_go FF b250_0.eq_1]
    simp only [RB, RL, un, St.none, Nat.reduceEqDiff, Nat.reduceAdd, Nat.reduceMul, Nat.reduceMod, Nat.reduceLeDiff, Nat.reduceLT, Int.reduceLT, Int.reduceLE, Int.reduceEq, Int.reduceToNat, Int.reduceSub, Int.reduceNeg, Int.reduceAdd, ↓reduceIte, reduceCtorEq, pack, pid, parN, lid, chkK, apartV, Heap.none, c1, h1, eB_rules, eB_row, ze, e2]
   rw [step]
   rcases ih (i + 1) (by omega) with h9 | ⟨h8, h9⟩
   ·exact .inl h9
   ·exact .inr ⟨fun j a b => by
     rcases Nat.eq_or_lt_of_le a with rfl | a
     ·exact h1
     ·exact h8 j a b, h9⟩
  | false =>
   refine .inl ⟨i, hlt, h1, ?_⟩
   rw [LP_go FF b250_0.eq_1]
   simp only [RB, RL, un, St.none, Nat.reduceEqDiff, Nat.reduceAdd, Nat.reduceMul, Nat.reduceMod, Nat.reduceLeDiff, Nat.reduceLT, Int.reduceLT, Int.reduceLE, Int.reduceEq, Int.reduceToNat, Int.reduceSub, Int.reduceNeg, Int.reduceAdd, ↓reduceIte, reduceCtorEq, pack, pid, parN, lid, chkK, apartV, Heap.none, c1, h1, eB_rules, eB_row, ze, e2]
structure Shp (t : List RNd) : Prop where
 par : Par t
 all : ∃ vis, dfs t t.length [0] = some vis ∧ ∀ j, j < t.length → j ∈ vis
theorem rng_of {t : List RNd} {f : Int} (hr : t.any (bdR t.length f) = false) {n : RNd} (hn : n ∈ t) (hl : n.leaf = false) : 0 ≤ n.ft ∧ n.ft < f ∧ 1 ≤ n.lft ∧ n.lft < (t.length : Int) ∧ 1 ≤ n.rgt ∧ n.rgt < (t.length : Int) := by
 rw [List.any_eq_false] at hr
 have h := hr n hn
 unfold bdR at h
 rw [hl] at h
 simp only [Bool.not_false, Bool.true_and, Bool.or_eq_true, decide_eq_true_eq, not_or] at h
 omega
theorem kids_rng {t : List RNd} {f : Int} (hr : t.any (bdR t.length f) = false) : ∀ i, i < t.length → ∀ c ∈ kids (t.getD i dNd), 1 ≤ c ∧ c < t.length := by
 intro i hi c hc
 unfold kids at hc
 split at hc
 ·exact (List.not_mem_nil hc).elim
 ·rename_i hl
  have hl' : (t.getD i dNd).leaf = false := by simpa using hl
  have h := rng_of hr (getD_mem' dNd hi) hl'
  simp only [List.mem_cons, List.not_mem_nil, or_false] at hc
  rcases hc with rfl | rfl <;> omega
theorem shape_c {t : List RNd} {f : Int} (h1t : 1 ≤ t.length) (ht : t.length ≤ 100000) (hr : t.any (bdR t.length f) = false) : ∃ i e : Int, R FF 250 [.l 14 (t.map eNd)] = some (.tup [(AV.i .i64 i), (AV.i .i64 e)]) ∧ ((Shp t ∧ i = 0 ∧ e = 0) ∨ (¬ Shp t ∧ e = 11)) := by
 have l3 := shape_l3 ht hr t.length 0 (zi t.length 0) (by omega) (zl ..) (fun j => by
  rw [za, List.getElem?_replicate]
  split <;> simp)
 rw [Int.ofNat_zero, List.drop_zero] at l3
 change LP FF [(4, 1), (0, 0), (18, 0), (19, 0), (20, 0)] [(0, 0), (4, 0)] b250_3 _ = some (Ex.exit 0, [AV.l 14 (t.map eNd), AV.l 1 ((parL t).map n64)]) at l3
 have hpl : (parL t).length = t.length := by
  have : ∀ (l : List RNd) (P : List Int), (l.foldl bump P).length = P.length := by
   intro l
   induction l with
   | nil => intro P; rfl
   | cons n l ih => intro P; rw [List.foldl_cons, ih, bump_len]
  unfold parL; rw [this, zl]
 have hpc := parL_cnt (t := t) (fun n hn hl => by have := rng_of hr hn hl; omega)
 have l2 := shape_l2 ht hpl t.length 0 (by omega)
 rw [Int.ofNat_zero] at l2
 have c0 : (0 : Int) ≤ (t.length : Int) := by omega
 have b1 : t.length * 8 ≤ 281474976710656 := by omega
 have b2 : t.length * 1 ≤ 281474976710656 := by omega
 have b3 : t.length ≤ 281474976710656 := by omega
 have tr1 : List.take t.length (zi t.length (0 : Int)) = zi t.length 0 := zf (by rw [zl]; exact zp _)
 have tr2 : List.take t.length (zi t.length false) = zi t.length false := zf (by rw [zl]; exact zp _)
 have rB : ∀ n, zi n [AV.b false] = (zi n false).map eB := fun n => by rw [List.map_replicate]; rfl
 rcases l2 with ⟨j, j0, j1, j2, l2⟩ | ⟨h2, l2⟩
 ·refine ⟨j, 11, ?_, .inr ⟨fun h => ?_, rfl⟩⟩
  ·generalize parL t = P at *
   rw [R_go FF F250 c250.eq_1]
   simp only [RB, RL, un, St.none, Nat.reduceEqDiff, Nat.reduceAdd, Nat.reduceMul, Nat.reduceMod, Nat.reduceLeDiff, Nat.reduceLT, Int.reduceLT, Int.reduceLE, Int.reduceEq, Int.reduceToNat, Int.reduceSub, Int.reduceNeg, Int.reduceAdd, ↓reduceIte, reduceCtorEq, pack, pid, parN, lid, chkK, apartV, Heap.none, tr1, tr2, l3, l2, c0, b1, b2, b3, hpl, eNd_rules, eNd_row, n64, Int.toNat_natCast]
  ·rw [hpc, h.par.one j j0 j1] at j2
   exact j2 rfl
 ·have hpar : Par t := ⟨kids_rng hr, fun j j0 j1 => by
   have := h2 j (Nat.zero_le _) j1 j0
   rw [hpc] at this
   omega⟩
  obtain ⟨vis, v1, v2, v3, v4⟩ := dfs_some hpar t.length [] [0] (by simp) (fun c hc => by
   rw [List.nil_append, zy] at hc; omega) (fun c hc => by
   rw [List.nil_append, zy] at hc; exact .inl hc) (by simp)
  have l1 := shape_l1 ht hpar t.length [0] (zi t.length false) vis v1 (fun c hc => by
   rw [zy] at hc; omega) (zl ..) v3 (by rw [List.length_singleton]; omega)
  have hm := marks vis (zi t.length false)
  have hrf : ∀ j, (zi t.length false).getD j false = false := fun j => by
   rw [za, List.getElem?_replicate]; split <;> rfl
  have hml : (vis.foldl (fun s a => s.set a true) (zi t.length false)).length = t.length := by rw [(hm 0).1, zl]
  have l0 := shape_l0 (s := vis.foldl (fun s a => s.set a true) (zi t.length false)) (by omega) _ 0 (Nat.zero_add _)
  rw [hml, Int.ofNat_zero] at l0
  have e10 : List.map eX [0].reverse = [[AV.i .i64 0]] := rfl
  rw [e10] at l1
  have hz : vis.foldl (fun s a => s.set a true) (zi t.length false) = vis.foldl (fun s a => s.set a true) (zi t.length false) := rfl
  rcases l0 with ⟨j, j1, j2, l0⟩ | ⟨h0, l0⟩
  ·refine ⟨j, 11, ?_, .inr ⟨fun h => ?_, rfl⟩⟩
   ·generalize vis.foldl (fun s a => s.set a true) (zi t.length false) = M at *
    generalize parL t = P at *
    rw [R_go FF F250 c250.eq_1]
    simp only [RB, RL, un, St.none, Nat.reduceEqDiff, Nat.reduceAdd, Nat.reduceMul, Nat.reduceMod, Nat.reduceLeDiff, Nat.reduceLT, Int.reduceLT, Int.reduceLE, Int.reduceEq, Int.reduceToNat, Int.reduceSub, Int.reduceNeg, Int.reduceAdd, ↓reduceIte, reduceCtorEq, pack, pid, parN, lid, chkK, apartV, Heap.none, tr1, tr2, l3, l2, l1, l0, c0, b1, b2, b3, hpl, hml, rB, eNd_rules, eNd_row, eB_rules, eB_row, eX_rules, eX_row, n64, Int.toNat_natCast]
   ·obtain ⟨vis', w1, w2⟩ := h.all
    rw [v1] at w1
    cases w1
    have h5 := (hm j).2.2 (.inr ⟨w2 j j1, by rw [zl]; exact j1⟩)
    rw [j2] at h5
    cases h5
  ·refine ⟨0, 0, ?_, .inl ⟨⟨hpar, vis, v1, fun j hj => ?_⟩, rfl, rfl⟩⟩
   ·generalize vis.foldl (fun s a => s.set a true) (zi t.length false) = M at *
    generalize parL t = P at *
    rw [R_go FF F250 c250.eq_1]
    simp only [RB, RL, un, St.none, Nat.reduceEqDiff, Nat.reduceAdd, Nat.reduceMul, Nat.reduceMod, Nat.reduceLeDiff, Nat.reduceLT, Int.reduceLT, Int.reduceLE, Int.reduceEq, Int.reduceToNat, Int.reduceSub, Int.reduceNeg, Int.reduceAdd, ↓reduceIte, reduceCtorEq, pack, pid, parN, lid, chkK, apartV, Heap.none, tr1, tr2, l3, l2, l1, l0, c0, b1, b2, b3, hpl, hml, rB, eNd_rules, eNd_row, eB_rules, eB_row, eX_rules, eX_row, n64, Int.toNat_natCast]
   ·have h5 := (hm j).2.1 (h0 j (Nat.zero_le _) hj)
    rcases h5 with h5 | h5
    ·rw [hrf] at h5; cases h5
    ·exact h5.1
def okR (f : Int) (r : Nat) (t : List RNd) : Prop := match r with
 | 0 => t.any (bdR t.length f) = false
 | 1 => Shp t
 | 2 => t.any bdC = false
 | _ => t.any (bdS t) = false
structure VT (t : List RNd) (f : Int) : Prop where
 rg : t.any (bdR t.length f) = false
 sh : Shp t
 cv : t.any bdC = false
 sm : t.any (bdS t) = false
theorem check_l1 {f : Int} {ts : List (List RNd)} {k r : Nat} (hk : k ≤ 10000000000) (h1k : 1 ≤ k) (hts : ts.length ≤ 100000) (ht : ∀ t ∈ ts, 1 ≤ t.length ∧ t.length ≤ 100000 ∧ SmT t k) (hr4 : r < 4) (hr : r = 0 ∨ ∀ t ∈ ts, t.any (bdR t.length f) = false) : ∀ (d i : Nat), i + d = ts.length →
  (∃ e a b c : Int, e ≠ 0 ∧ (∃ t ∈ ts, ¬ okR f r t) ∧ LP FF [(2, 1), (1, 0), (3, 0), (12, 0), (16, 0), (17, 0), (18, 0)] [(2, 1), (1, 0), (12, 0)] b237_1 [.ownp [(AV.i .i64 0), (AV.i .i64 0), (AV.i .i64 0), (AV.i .i64 0)], .tp (eM (f, ts)) 0, (AV.i .i64 ((r : Int))), (AV.i .i64 ((r : Int))), .l 1 (ts.map eTr), (AV.i .i64 ((ts.length : Int))), (AV.i .i64 ((i : Int)))] = some (.ret, [.ownp [(AV.i .i64 e), (AV.i .i64 a), (AV.i .i64 b), (AV.i .i64 c)], .tp (eM (f, ts)) 0, (AV.i .i64 ((r : Int)))])) ∨
  ((∀ j, i ≤ j → j < ts.length → okR f r (ts.getD j [])) ∧ LP FF [(2, 1), (1, 0), (3, 0), (12, 0), (16, 0), (17, 0), (18, 0)] [(2, 1), (1, 0), (12, 0)] b237_1 [.ownp [(AV.i .i64 0), (AV.i .i64 0), (AV.i .i64 0), (AV.i .i64 0)], .tp (eM (f, ts)) 0, (AV.i .i64 ((r : Int))), (AV.i .i64 ((r : Int))), .l 1 (ts.map eTr), (AV.i .i64 ((ts.length : Int))), (AV.i .i64 ((i : Int)))] = some (.exit 2, [.ownp [(AV.i .i64 0), (AV.i .i64 0), (AV.i .i64 0), (AV.i .i64 0)], .tp (eM (f, ts)) 0, (AV.i .i64 ((r : Int)))])) := by
 intro d
 induction d with
 | zero =>
  intro i hi
  refine .inr ⟨fun j h1 h2 => by omega, ?_⟩
  have c1 : ¬ (i : Int) < (ts.length : Int) := by omega
  simp only [eM]
  rw [LP_go FF b237_1.eq_1]
  simp only [RB, RL, un, St.none, Nat.reduceEqDiff, Nat.reduceAdd, Nat.reduceMul, Nat.reduceMod, Nat.reduceLeDiff, Nat.reduceLT, Int.reduceLT, Int.reduceLE, Int.reduceEq, Int.reduceToNat, Int.reduceSub, Int.reduceNeg, Int.reduceAdd, ↓reduceIte, reduceCtorEq, pack, pid, parN, lid, chkK, apartV, Heap.none, c1, eTr_rules, eTr_row]
 | succ d ih =>
  intro i hi
  have hlt : i < ts.length := by omega
  have hmem := getD_mem' ([] : List RNd) hlt
  obtain ⟨t1, t2, t3⟩ := ht _ hmem
  have c1 : (i : Int) < (ts.length : Int) := by omega
  have e2 : IntKind.i64.wrap ((i : Int) + 1) = ((i + 1 : Nat) : Int) := w64succ (by omega)
  have hcon : ∃ a e : Int, ((okR f r (ts.getD i []) ∧ e = 0) ∨ (¬ okR f r (ts.getD i []) ∧ e ≠ 0)) ∧
    (r = 0 → R FF 249 [.l 14 ((ts.getD i []).map eNd), (AV.i .i64 f)] = some (.tup [(AV.i .i64 a), (AV.i .i64 e)])) ∧ (r = 1 → R FF 250 [.l 14 ((ts.getD i []).map eNd)] = some (.tup [(AV.i .i64 a), (AV.i .i64 e)])) ∧
    (r = 2 → R FF 251 [.l 14 ((ts.getD i []).map eNd)] = some (.tup [(AV.i .i64 a), (AV.i .i64 e)])) ∧ (r = 3 → R FF 252 [.l 14 ((ts.getD i []).map eNd)] = some (.tup [(AV.i .i64 a), (AV.i .i64 e)])) := by
   rcases (show r = 0 ∨ r = 1 ∨ r = 2 ∨ r = 3 by omega) with rfl | rfl | rfl | rfl
   ·obtain ⟨a, h⟩ := ranges_c (f := f) t2
    refine ⟨_, _, ?_, fun _ => h, fun h => (by omega), fun h => (by omega), fun h => (by omega)⟩
    show (((ts.getD i []).any (bdR (ts.getD i []).length f) = false) ∧ _) ∨ (¬ ((ts.getD i []).any (bdR (ts.getD i []).length f) = false) ∧ _)
    cases (ts.getD i []).any (bdR (ts.getD i []).length f)
    ·exact .inl ⟨rfl, rfl⟩
    ·exact .inr ⟨by decide, by decide⟩
   ·obtain ⟨a, e, h, h2⟩ := shape_c t1 t2 (hr.resolve_left (by omega) _ hmem)
    refine ⟨a, e, ?_, fun h => (by omega), fun _ => h, fun h => (by omega), fun h => (by omega)⟩
    rcases h2 with ⟨h3, _, h4⟩ | ⟨h3, h4⟩
    ·exact .inl ⟨h3, h4⟩
    ·exact .inr ⟨h3, by omega⟩
   ·obtain ⟨a, h⟩ := covers_c hk t2 t3
    refine ⟨_, _, ?_, fun h => (by omega), fun h => (by omega), fun _ => h, fun h => (by omega)⟩
    show (((ts.getD i []).any bdC = false) ∧ _) ∨ (¬ ((ts.getD i []).any bdC = false) ∧ _)
    cases (ts.getD i []).any bdC
    ·exact .inl ⟨rfl, rfl⟩
    ·exact .inr ⟨by decide, by decide⟩
   ·obtain ⟨a, h⟩ := vsums_c hk h1k t2 t3 (hr.resolve_left (by omega) _ hmem)
    refine ⟨_, _, ?_, fun h => (by omega), fun h => (by omega), fun h => (by omega), fun _ => h⟩
    show (((ts.getD i []).any (bdS (ts.getD i [])) = false) ∧ _) ∨ (¬ ((ts.getD i []).any (bdS (ts.getD i [])) = false) ∧ _)
    cases (ts.getD i []).any (bdS (ts.getD i []))
    ·exact .inl ⟨rfl, rfl⟩
    ·exact .inr ⟨by decide, by decide⟩
  obtain ⟨a, e, he, k0, k1, k2, k3⟩ := hcon
  rcases he with ⟨h1, rfl⟩ | ⟨h1, h2⟩
  ·have step : LP FF [(2, 1), (1, 0), (3, 0), (12, 0), (16, 0), (17, 0), (18, 0)] [(2, 1), (1, 0), (12, 0)] b237_1 [.ownp [(AV.i .i64 0), (AV.i .i64 0), (AV.i .i64 0), (AV.i .i64 0)], .tp (eM (f, ts)) 0, (AV.i .i64 ((r : Int))), (AV.i .i64 ((r : Int))), .l 1 (ts.map eTr), (AV.i .i64 ((ts.length : Int))), (AV.i .i64 ((i : Int)))] = LP FF [(2, 1), (1, 0), (3, 0), (12, 0), (16, 0), (17, 0), (18, 0)] [(2, 1), (1, 0), (12, 0)] b237_1 [.ownp [(AV.i .i64 0), (AV.i .i64 0), (AV.i .i64 0), (AV.i .i64 0)], .tp (eM (f, ts)) 0, (AV.i .i64 ((r : Int))), (AV.i .i64 ((r : Int))), .l 1 (ts.map eTr), (AV.i .i64 ((ts.length : Int))), (AV.i .i64 (((i + 1 : Nat) : Int)))] := by
    simp only [eM]
    rcases (show r = 0 ∨ r = 1 ∨ r = 2 ∨ r = 3 by omega) with rfl | rfl | rfl | rfl
    ·have k0 := k0 rfl
     rw [Int.ofNat_zero]
     rw [LP_go FF b237_1.eq_1]
     simp only [RB, RL, un, St.none, Nat.reduceEqDiff, Nat.reduceAdd, Nat.reduceMul, Nat.reduceMod, Nat.reduceLeDiff, Nat.reduceLT, Int.reduceLT, Int.reduceLE, Int.reduceEq, Int.reduceToNat, Int.reduceSub, Int.reduceNeg, Int.reduceAdd, ↓reduceIte, reduceCtorEq, pack, pid, parN, lid, chkK, apartV, Heap.none, c1, e2, eTr_rules, eTr_row, ze, k0]
    ·have k1 := k1 rfl
     rw [show ((1 : Nat) : Int) = 1 from rfl]
     rw [LP_go FF b237_1.eq_1]
     simp only [RB, RL, un, St.none, Nat.reduceEqDiff, Nat.reduceAdd, Nat.reduceMul, Nat.reduceMod, Nat.reduceLeDiff, Nat.reduceLT, Int.reduceLT, Int.reduceLE, Int.reduceEq, Int.reduceToNat, Int.reduceSub, Int.reduceNeg, Int.reduceAdd, ↓reduceIte, reduceCtorEq, pack, pid, parN, lid, chkK, apartV, Heap.none, c1, e2, eTr_rules, eTr_row, ze, k1]
    ·have k2 := k2 rfl
     rw [show ((2 : Nat) : Int) = 2 from rfl]
     rw [LP_go FF b237_1.eq_1]
     simp only [RB, RL, un, St.none, Nat.reduceEqDiff, Nat.reduceAdd, Nat.reduceMul, Nat.reduceMod, Nat.reduceLeDiff, Nat.reduceLT, Int.reduceLT, Int.reduceLE, Int.reduceEq, Int.reduceToNat, Int.reduceSub, Int.reduceNeg, Int.reduceAdd, ↓reduceIte, reduceCtorEq, pack, pid, parN, lid, chkK, apartV, Heap.none, c1, e2, eTr_rules, eTr_row, ze, k2]
    ·have k3 := k3 rfl
     rw [show ((3 : Nat) : Int) = 3 from rfl]
     rw [LP_go FF b237_1.eq_1]
     simp only [RB, RL, un, St.none, Nat.reduceEqDiff, Nat.reduceAdd, Nat.reduceMul, Nat.reduceMod, Nat.reduceLeDiff, Nat.reduceLT, Int.reduceLT, Int.reduceLE, Int.reduceEq, Int.reduceToNat, Int.reduceSub, Int.reduceNeg, Int.reduceAdd, ↓reduceIte, reduceCtorEq, pack, pid, parN, lid, chkK, apartV, Heap.none, c1, e2, eTr_rules, eTr_row, ze, k3]
   rw [step]
   rcases ih (i + 1) (by omega) with h9 | ⟨h8, h9⟩
   ·exact .inl h9
   ·exact .inr ⟨fun j a b => by
     rcases Nat.eq_or_lt_of_le a with rfl | a
     ·exact h1
     ·exact h8 j a b, h9⟩
  ·have fl : R FF 253 [(AV.i .i64 e), (AV.i .i64 ((i : Int))), (AV.i .i64 a)] = some (.agg [(AV.i .i64 e), (AV.i .i64 0), (AV.i .i64 ((i : Int))), (AV.i .i64 a)]) := by
    rw [R_go FF F253 c253.eq_1]
    simp only [RB, RL, un, St.none, Nat.reduceEqDiff, Nat.reduceAdd, Nat.reduceMul, Nat.reduceMod, Nat.reduceLeDiff, Nat.reduceLT, Int.reduceLT, Int.reduceLE, Int.reduceEq, Int.reduceToNat, Int.reduceSub, Int.reduceNeg, Int.reduceAdd, ↓reduceIte, reduceCtorEq, pack, pid, parN, lid, chkK, apartV, Heap.none, n64]
   refine .inl ⟨e, 0, i, a, h2, ⟨_, hmem, h1⟩, ?_⟩
   simp only [eM]
   rcases (show r = 0 ∨ r = 1 ∨ r = 2 ∨ r = 3 by omega) with rfl | rfl | rfl | rfl
   ·have k0 := k0 rfl
    rw [Int.ofNat_zero]
    rw [LP_go FF b237_1.eq_1]
    simp only [RB, RL, un, St.none, Nat.reduceEqDiff, Nat.reduceAdd, Nat.reduceMul, Nat.reduceMod, Nat.reduceLeDiff, Nat.reduceLT, Int.reduceLT, Int.reduceLE, Int.reduceEq, Int.reduceToNat, Int.reduceSub, Int.reduceNeg, Int.reduceAdd, ↓reduceIte, reduceCtorEq, pack, pid, parN, lid, chkK, apartV, Heap.none, c1, e2, eTr_rules, eTr_row, ze, k0, h2, fl]
   ·have k1 := k1 rfl
    rw [show ((1 : Nat) : Int) = 1 from rfl]
    rw [LP_go FF b237_1.eq_1]
    simp only [RB, RL, un, St.none, Nat.reduceEqDiff, Nat.reduceAdd, Nat.reduceMul, Nat.reduceMod, Nat.reduceLeDiff, Nat.reduceLT, Int.reduceLT, Int.reduceLE, Int.reduceEq, Int.reduceToNat, Int.reduceSub, Int.reduceNeg, Int.reduceAdd, ↓reduceIte, reduceCtorEq, pack, pid, parN, lid, chkK, apartV, Heap.none, c1, e2, eTr_rules, eTr_row, ze, k1, h2, fl]
   ·have k2 := k2 rfl
    rw [show ((2 : Nat) : Int) = 2 from rfl]
    rw [LP_go FF b237_1.eq_1]
    simp only [RB, RL, un, St.none, Nat.reduceEqDiff, Nat.reduceAdd, Nat.reduceMul, Nat.reduceMod, Nat.reduceLeDiff, Nat.reduceLT, Int.reduceLT, Int.reduceLE, Int.reduceEq, Int.reduceToNat, Int.reduceSub, Int.reduceNeg, Int.reduceAdd, ↓reduceIte, reduceCtorEq, pack, pid, parN, lid, chkK, apartV, Heap.none, c1, e2, eTr_rules, eTr_row, ze, k2, h2, fl]
   ·have k3 := k3 rfl
    rw [show ((3 : Nat) : Int) = 3 from rfl]
    rw [LP_go FF b237_1.eq_1]
    simp only [RB, RL, un, St.none, Nat.reduceEqDiff, Nat.reduceAdd, Nat.reduceMul, Nat.reduceMod, Nat.reduceLeDiff, Nat.reduceLT, Int.reduceLT, Int.reduceLE, Int.reduceEq, Int.reduceToNat, Int.reduceSub, Int.reduceNeg, Int.reduceAdd, ↓reduceIte, reduceCtorEq, pack, pid, parN, lid, chkK, apartV, Heap.none, c1, e2, eTr_rules, eTr_row, ze, k3, h2, fl]
theorem check_l0 {f : Int} {ts : List (List RNd)} {k : Nat} (hk : k ≤ 10000000000) (h1k : 1 ≤ k) (hts : ts.length ≤ 100000) (ht : ∀ t ∈ ts, 1 ≤ t.length ∧ t.length ≤ 100000 ∧ SmT t k) : ∀ (d r : Nat), r + d = 4 → (∀ s, s < r → ∀ t ∈ ts, okR f s t) →
  (∃ e a b c : Int, e ≠ 0 ∧ (∃ t ∈ ts, ¬ VT t f) ∧ LP FF [(2, 1), (1, 0), (12, 0)] [(2, 1)] b237_0 [.ownp [(AV.i .i64 0), (AV.i .i64 0), (AV.i .i64 0), (AV.i .i64 0)], .tp (eM (f, ts)) 0, (AV.i .i64 ((r : Int)))] = some (.ret, [.ownp [(AV.i .i64 e), (AV.i .i64 a), (AV.i .i64 b), (AV.i .i64 c)]])) ∨
  ((∀ t ∈ ts, VT t f) ∧ LP FF [(2, 1), (1, 0), (12, 0)] [(2, 1)] b237_0 [.ownp [(AV.i .i64 0), (AV.i .i64 0), (AV.i .i64 0), (AV.i .i64 0)], .tp (eM (f, ts)) 0, (AV.i .i64 ((r : Int)))] = some (.exit 0, [.ownp [(AV.i .i64 0), (AV.i .i64 0), (AV.i .i64 0), (AV.i .i64 0)]])) := by
 intro d
 induction d with
 | zero =>
  intro r hr hs
  have hr : r = 4 := by omega
  subst hr
  refine .inr ⟨fun t h => ⟨hs 0 (by omega) t h, hs 1 (by omega) t h, hs 2 (by omega) t h, hs 3 (by omega) t h⟩, ?_⟩
  simp only [eM]
  rw [show ((4 : Nat) : Int) = 4 from rfl]
  rw [LP_go FF b237_0.eq_1]
  simp only [RB, RL, un, St.none, Nat.reduceEqDiff, Nat.reduceAdd, Nat.reduceMul, Nat.reduceMod, Nat.reduceLeDiff, Nat.reduceLT, Int.reduceLT, Int.reduceLE, Int.reduceEq, Int.reduceToNat, Int.reduceSub, Int.reduceNeg, Int.reduceAdd, ↓reduceIte, reduceCtorEq, pack, pid, parN, lid, chkK, apartV, Heap.none, eTr_rules, eTr_row]
 | succ d ih =>
  intro r hr hs
  have c1 : (r : Int) < 4 := by omega
  have e2 : IntKind.i64.wrap ((r : Int) + 1) = ((r + 1 : Nat) : Int) := w64succ (by omega)
  have l1 := check_l1 (f := f) (r := r) hk h1k hts ht (by omega) (by
   rcases Nat.eq_zero_or_pos r with h | h
   ·exact .inl h
   ·exact .inr (hs 0 h)) ts.length 0 (by omega)
  rw [Int.ofNat_zero] at l1
  rcases l1 with ⟨e, a, b, c, h1, ⟨t, h2, h3⟩, l1⟩ | ⟨h1, l1⟩
  ·refine .inl ⟨e, a, b, c, h1, ⟨t, h2, fun v => h3 ?_⟩, ?_⟩
   ·rcases (show r = 0 ∨ r = 1 ∨ r = 2 ∨ r = 3 by omega) with rfl | rfl | rfl | rfl
    ·exact v.rg
    ·exact v.sh
    ·exact v.cv
    ·exact v.sm
   ·simp only [eM] at l1 ⊢
    rw [LP_go FF b237_0.eq_1]
    simp only [RB, RL, un, St.none, Nat.reduceEqDiff, Nat.reduceAdd, Nat.reduceMul, Nat.reduceMod, Nat.reduceLeDiff, Nat.reduceLT, Int.reduceLT, Int.reduceLE, Int.reduceEq, Int.reduceToNat, Int.reduceSub, Int.reduceNeg, Int.reduceAdd, ↓reduceIte, reduceCtorEq, pack, pid, parN, lid, chkK, apartV, Heap.none, eTr_rules, eTr_row, c1, l1]
  ·have h9 := ih (r + 1) (by omega) (fun s hs' t h => by
    rcases Nat.lt_or_eq_of_le (show s ≤ r by omega) with h' | rfl
    ·exact hs s h' t h
    ·obtain ⟨i, hi, rfl⟩ := List.getElem_of_mem h
     have := h1 i (Nat.zero_le _) hi
     rwa [za, zg hi, Option.getD_some] at this)
   have step : LP FF [(2, 1), (1, 0), (12, 0)] [(2, 1)] b237_0 [.ownp [(AV.i .i64 0), (AV.i .i64 0), (AV.i .i64 0), (AV.i .i64 0)], .tp (eM (f, ts)) 0, (AV.i .i64 ((r : Int)))] = LP FF [(2, 1), (1, 0), (12, 0)] [(2, 1)] b237_0 [.ownp [(AV.i .i64 0), (AV.i .i64 0), (AV.i .i64 0), (AV.i .i64 0)], .tp (eM (f, ts)) 0, (AV.i .i64 (((r + 1 : Nat) : Int)))] := by
    simp only [eM] at l1 ⊢
    rw [LP_go FF b237_0.eq_1]
    simp only [RB, RL, un, St.none, Nat.reduceEqDiff, Nat.reduceAdd, Nat.reduceMul, Nat.reduceMod, Nat.reduceLeDiff, Nat.reduceLT, Int.reduceLT, Int.reduceLE, Int.reduceEq, Int.reduceToNat, Int.reduceSub, Int.reduceNeg, Int.reduceAdd, ↓reduceIte, reduceCtorEq, pack, pid, parN, lid, chkK, apartV, Heap.none, eTr_rules, eTr_row, c1, l1, e2]
   rw [step]
   exact h9
structure VM (m : RM) : Prop where
 fit : fitB m = true
 all : ∀ t ∈ m.2, VT t m.1
theorem ok_c {m : RM} {k : Nat} (hk : k ≤ 10000000000) (h1k : 1 ≤ k) (hts : m.2.length ≤ 100000) (ht : ∀ t ∈ m.2, t.length ≤ 100000 ∧ SmT t k) : ∃ b : Bool, R FF 211 [.agg (eM m)] = some (.b b) ∧ (b = true ↔ VM m) := by
 have f1 := fits_c hts (fun t h => (ht t h).1)
 obtain ⟨f, ts⟩ := m
 cases hf : fitB (f, ts) with
 | false =>
  refine ⟨false, ?_, ⟨fun h => (by cases h), fun h => by have := h.fit; rw [hf] at this; cases this⟩⟩
  rw [hf] at f1
  have ck : R FF 237 [.agg (eM (f, ts))] = some (.agg [(AV.i .i64 1), (AV.i .i64 0), (AV.i .i64 0), (AV.i .i64 0)]) := by
   simp only [eM] at f1 ⊢
   rw [R_go FF F237 c237.eq_1]
   simp only [RB, RL, un, St.none, Nat.reduceEqDiff, Nat.reduceAdd, Nat.reduceMul, Nat.reduceMod, Nat.reduceLeDiff, Nat.reduceLT, Int.reduceLT, Int.reduceLE, Int.reduceEq, Int.reduceToNat, Int.reduceSub, Int.reduceNeg, Int.reduceAdd, ↓reduceIte, reduceCtorEq, pack, pid, parN, lid, chkK, apartV, Heap.none, f1, n64, eTr_rules, eTr_row]
  simp only [eM] at ck ⊢
  rw [R_go FF F211 c211.eq_1]
  simp only [RB, RL, un, St.none, Nat.reduceEqDiff, Nat.reduceAdd, Nat.reduceMul, Nat.reduceMod, Nat.reduceLeDiff, Nat.reduceLT, Int.reduceLT, Int.reduceLE, Int.reduceEq, Int.reduceToNat, Int.reduceSub, Int.reduceNeg, Int.reduceAdd, ↓reduceIte, reduceCtorEq, pack, pid, parN, lid, chkK, apartV, Heap.none, ck, n64, eTr_rules, eTr_row]
 | true =>
  rw [hf] at f1
  have hb : fitB (f, ts) = !(decide (f < 0) || decide (64 < f) || decide (64 < (ts.length : Int)) || ts.any bdT) := rfl
  rw [hf] at hb
  have hT : ts.any bdT = false := by
   cases h : ts.any bdT with
   | false => rfl
   | true => rw [h, Bool.or_true] at hb; cases hb
  have ht2 : ∀ t ∈ ts, 1 ≤ t.length ∧ t.length ≤ 100000 ∧ SmT t k := fun t h => by
   have h2 := ht t h
   rw [List.any_eq_false] at hT
   have h3 := hT t h
   unfold bdT at h3
   simp only [Bool.or_eq_true, decide_eq_true_eq, not_or] at h3
   exact ⟨by omega, h2.1, h2.2⟩
  have l0 := check_l0 (f := f) hk h1k hts ht2 4 0 (by omega) (fun s h => absurd h (Nat.not_lt_zero _))
  rw [Int.ofNat_zero] at l0
  rcases l0 with ⟨e, a, b, c, h1, ⟨t, h2, h3⟩, l0⟩ | ⟨h1, l0⟩
  ·refine ⟨false, ?_, ⟨fun h => (by cases h), fun h => (h3 (h.all t h2)).elim⟩⟩
   have ck : R FF 237 [.agg (eM (f, ts))] = some (.agg [(AV.i .i64 e), (AV.i .i64 a), (AV.i .i64 b), (AV.i .i64 c)]) := by
    simp only [eM] at f1 l0 ⊢
    rw [R_go FF F237 c237.eq_1]
    simp only [RB, RL, un, St.none, Nat.reduceEqDiff, Nat.reduceAdd, Nat.reduceMul, Nat.reduceMod, Nat.reduceLeDiff, Nat.reduceLT, Int.reduceLT, Int.reduceLE, Int.reduceEq, Int.reduceToNat, Int.reduceSub, Int.reduceNeg, Int.reduceAdd, ↓reduceIte, reduceCtorEq, pack, pid, parN, lid, chkK, apartV, Heap.none, f1, l0, n64, eTr_rules, eTr_row]
   simp only [eM] at ck ⊢
   rw [R_go FF F211 c211.eq_1]
   simp only [RB, RL, un, St.none, Nat.reduceEqDiff, Nat.reduceAdd, Nat.reduceMul, Nat.reduceMod, Nat.reduceLeDiff, Nat.reduceLT, Int.reduceLT, Int.reduceLE, Int.reduceEq, Int.reduceToNat, Int.reduceSub, Int.reduceNeg, Int.reduceAdd, ↓reduceIte, reduceCtorEq, pack, pid, parN, lid, chkK, apartV, Heap.none, ck, n64, eTr_rules, eTr_row, h1]
  ·refine ⟨true, ?_, ⟨fun _ => ⟨hf, h1⟩, fun _ => rfl⟩⟩
   have ck : R FF 237 [.agg (eM (f, ts))] = some (.agg [(AV.i .i64 0), (AV.i .i64 0), (AV.i .i64 0), (AV.i .i64 0)]) := by
    simp only [eM] at f1 l0 ⊢
    rw [R_go FF F237 c237.eq_1]
    simp only [RB, RL, un, St.none, Nat.reduceEqDiff, Nat.reduceAdd, Nat.reduceMul, Nat.reduceMod, Nat.reduceLeDiff, Nat.reduceLT, Int.reduceLT, Int.reduceLE, Int.reduceEq, Int.reduceToNat, Int.reduceSub, Int.reduceNeg, Int.reduceAdd, ↓reduceIte, reduceCtorEq, pack, pid, parN, lid, chkK, apartV, Heap.none, f1, l0, n64, eTr_rules, eTr_row]
   simp only [eM] at ck ⊢
   rw [R_go FF F211 c211.eq_1]
   simp only [RB, RL, un, St.none, Nat.reduceEqDiff, Nat.reduceAdd, Nat.reduceMul, Nat.reduceMod, Nat.reduceLeDiff, Nat.reduceLT, Int.reduceLT, Int.reduceLE, Int.reduceEq, Int.reduceToNat, Int.reduceSub, Int.reduceNeg, Int.reduceAdd, ↓reduceIte, reduceCtorEq, pack, pid, parN, lid, chkK, apartV, Heap.none, ck, n64, eTr_rules, eTr_row]
theorem vtree_c {t : List RNd} {f : Int} {k : Nat} (hk : k ≤ 10000000000) (h1k : 1 ≤ k) (ht : t.length ≤ 100000) (hs : SmT t k) : ∃ b : Bool, R FF 244 [.l 14 (t.map eNd), (AV.i .i64 f)] = some (.b b) ∧ (b = true ↔ VM (f, [t])) := by
 obtain ⟨b, h1, h2⟩ := ok_c (m := (f, [t])) hk h1k (by show 1 ≤ _; omega) (fun x hx => by rw [List.mem_singleton.1 hx]; exact ⟨ht, hs⟩)
 refine ⟨b, ?_, h2⟩
 change R FF 211 [AV.agg [AV.i .i64 f, AV.l 1 [[AV.l 14 (t.map eNd)]]]] = _ at h1
 rw [R_go FF F244 c244.eq_1]
 simp only [RB, RL, un, St.none, Nat.reduceEqDiff, Nat.reduceAdd, Nat.reduceMul, Nat.reduceMod, Nat.reduceLeDiff, Nat.reduceLT, Int.reduceLT, Int.reduceLE, Int.reduceEq, Int.reduceToNat, Int.reduceSub, Int.reduceNeg, Int.reduceAdd, ↓reduceIte, reduceCtorEq, pack, pid, parN, lid, chkK, apartV, Heap.none, h1, n64]
inductive All2 (R : RNd → RNd → Prop) : List RNd → List RNd → Prop where
 | nil : All2 R [] []
 | cons {a b : RNd} {l m : List RNd} (h : R a b) (hs : All2 R l m) : All2 R (a :: l) (b :: m)
inductive Sub (T : List RNd) (f : Int) : Nat → Nat → Rat → Prop where
 | leaf {p : Nat} (hp : p < T.length) (hl : (T.getD p dNd).leaf = true) (hc : 0 < vQ (T.getD p dNd).cov) : Sub T f p (p + 1) (vQ (T.getD p dNd).cov)
 | node {p q r : Nat} {a b : Rat} (hl : (T.getD p dNd).leaf = false) (hf : 0 ≤ (T.getD p dNd).ft ∧ (T.getD p dNd).ft < f) (h1 : (T.getD p dNd).lft = ((p + 1 : Nat) : Int)) (h2 : (T.getD p dNd).rgt = (q : Int))
  (hc : vQ (T.getD p dNd).cov = a + b) (ha : Sub T f (p + 1) q a) (hb : Sub T f q r b) : Sub T f p r (a + b)
def goN (n : RNd) (row : List RC) : Bool := goV (vQ n.cut) n.miss (row.getD n.ft.toNat dC)
def nextN (n : RNd) (row : List RC) : Nat := if goN n row then n.lft.toNat else n.rgt.toNat
def walk (t : List RNd) (row : List RC) : Nat → Nat → Option Nat
 | 0, a => if (t.getD a dNd).leaf then some a else none
 | k + 1, a => if (t.getD a dNd).leaf then some a else walk t row k (nextN (t.getD a dNd) row)
theorem next_kid {n : RNd} (row : List RC) (h : n.leaf = false) : nextN n row ∈ kids n := by
 unfold nextN kids
 rw [h, if_neg (show ¬ false = true by decide)]
 split
 ·exact zm _ (zn ..)
 ·exact zn ..
theorem walk_some {t : List RNd} (h : Par t) (row : List RC) : ∀ (k : Nat) (V : List Nat) (a : Nat), (a :: V).Nodup → (∀ c ∈ a :: V, c < t.length) → (∀ c ∈ a :: V, c = 0 ∨ ∃ p ∈ V, c ∈ kids (t.getD p dNd)) → t.length ≤ V.length + k →
  ∃ b, walk t row k a = some b ∧ b < t.length ∧ (t.getD b dNd).leaf = true := by
 intro k
 induction k with
 | zero =>
  intro V a hnd hlt hp hk
  have := nodup_len t.length hnd hlt
  rw [zu] at this
  omega
 | succ k ih =>
  intro V a hnd hlt hp hk
  have ha : a < t.length := hlt a (zn ..)
  cases hl : (t.getD a dNd).leaf with
  | true => exact ⟨a, by rw [walk, if_pos hl], ha, hl⟩
  | false =>
   have hc := next_kid row hl
   have hr := h.rng a ha _ hc
   rw [walk, if_neg (by rw [hl]; decide)]
   refine ih (a :: V) _ ?_ ?_ ?_ (by rw [zu]; omega)
   ·refine List.nodup_cons.2 ⟨fun hm => ?_, hnd⟩
    rcases hp _ hm with h0 | ⟨p, hpV, hpc⟩
    ·omega
    ·have hpl : p < t.length := hlt p (zm _ hpV)
     have e := h.uniq hpl ha hpc hc
     subst e
     exact (List.nodup_cons.1 hnd).1 hpV
   ·intro c hc2
    rcases List.mem_cons.1 hc2 with rfl | hc2
    ·exact hr.2
    ·exact hlt c hc2
   ·intro c hc2
    rcases List.mem_cons.1 hc2 with rfl | hc2
    ·exact .inr ⟨a, zn .., hc⟩
    ·rcases hp c hc2 with h0 | ⟨p, hpV, hpc⟩
     ·exact .inl h0
     ·exact .inr ⟨p, zm _ hpV, hpc⟩
theorem walk_root {t : List RNd} (h : Par t) (h1 : 1 ≤ t.length) (row : List RC) : ∃ b, walk t row t.length 0 = some b ∧ b < t.length ∧ (t.getD b dNd).leaf = true :=
 walk_some h row t.length [] 0 (by simp) (fun c hc => by rw [zy] at hc; omega) (fun c hc => by rw [zy] at hc; exact .inl hc) (by simp)
def SmW (row : List RC) (k : Nat) : Prop := ∀ c ∈ row, SmQ c.2 k
theorem rnext_c {n : RNd} {row : List RC} {k : Nat} (hk : k ≤ 10000000000) (hn : SmQ n.cut k) (hr : SmW row k) (h0 : 0 ≤ n.ft) (h1 : n.ft < (row.length : Int)) : R FF 245 [.agg (eNd n), .l 4 (row.map eC)] = some (AV.i .i64 ((if goN n row then n.lft else n.rgt))) := by
 have hf : n.ft.toNat < row.length := by omega
 have f1 := rgoes_c (n := n) (x := row.getD n.ft.toNat dC) (k := k) (j := k) hn (hr _ (getD_mem' dC hf)) (by omega) (by omega)
 change R FF 246 _ = some (AV.b (goN n row)) at f1
 generalize goN n row = g at *
 obtain ⟨nl, nf, nc, na, nb, nm, nv, nw⟩ := n
 simp only [eNd, eC] at f1 h0 h1 ⊢
 cases g
 ·rw [R_go FF F245 c245.eq_1]
  simp only [RB, RL, un, St.none, Nat.reduceEqDiff, Nat.reduceAdd, Nat.reduceMul, Nat.reduceMod, Nat.reduceLeDiff, Nat.reduceLT, Int.reduceLT, Int.reduceLE, Int.reduceEq, Int.reduceToNat, Int.reduceSub, Int.reduceNeg, Int.reduceAdd, ↓reduceIte, reduceCtorEq, pack, pid, parN, lid, chkK, apartV, Heap.none, f1, h0, h1, n64, eC_rules, eC_row]
 ·rw [R_go FF F245 c245.eq_1]
  simp only [RB, RL, un, St.none, Nat.reduceEqDiff, Nat.reduceAdd, Nat.reduceMul, Nat.reduceMod, Nat.reduceLeDiff, Nat.reduceLT, Int.reduceLT, Int.reduceLE, Int.reduceEq, Int.reduceToNat, Int.reduceSub, Int.reduceNeg, Int.reduceAdd, ↓reduceIte, reduceCtorEq, pack, pid, parN, lid, chkK, apartV, Heap.none, f1, h0, h1, n64, eC_rules, eC_row]
def SmM (m : RM) (k : Nat) : Prop := m.2.length ≤ 1000 ∧ ∀ t ∈ m.2, t.length ≤ 100000 ∧ SmT t k
theorem vt_len {m : RM} (h : VM m) : ∀ t ∈ m.2, 1 ≤ t.length := by
 intro t ht
 have hf := h.fit
 unfold fitB at hf
 rw [Bool.not_eq_true'] at hf
 rw [Bool.or_eq_false_iff, List.any_eq_false] at hf
 have h2 := hf.2 t ht
 unfold bdT at h2
 simp only [Bool.or_eq_true, decide_eq_true_eq, not_or] at h2
 omega
theorem rfits_c {m : RM} {row : List RC} {k : Nat} (hk : k ≤ 10000000000) (h1k : 1 ≤ k) (hm : SmM m k) : ∃ e : Int, R FF 232 [.agg (eM m), .l 4 (row.map eC)] = some (AV.i .i64 e) ∧ (VM m → (row.length : Int) = m.1 → e = 0) ∧ (¬ VM m → e = 1) ∧ (VM m → (row.length : Int) ≠ m.1 → e = 14) := by
 obtain ⟨b, h1, h2⟩ := ok_c hk h1k (by have := hm.1; omega) hm.2
 obtain ⟨f, ts⟩ := m
 simp only [eM] at h1 ⊢
 cases b with
 | false =>
  refine ⟨1, ?_, fun v => (by have := h2.2 v; cases this), fun _ => rfl, fun v => (by have := h2.2 v; cases this)⟩
  rw [R_go FF F232 c232.eq_1]
  simp only [RB, RL, un, St.none, Nat.reduceEqDiff, Nat.reduceAdd, Nat.reduceMul, Nat.reduceMod, Nat.reduceLeDiff, Nat.reduceLT, Int.reduceLT, Int.reduceLE, Int.reduceEq, Int.reduceToNat, Int.reduceSub, Int.reduceNeg, Int.reduceAdd, ↓reduceIte, reduceCtorEq, pack, pid, parN, lid, chkK, apartV, Heap.none, h1, n64, eTr_rules, eTr_row, eC_rules, eC_row]
 | true =>
  by_cases hl : (row.length : Int) = f
  ·refine ⟨0, ?_, fun _ _ => rfl, fun v => (v (h2.1 rfl)).elim, fun _ h => (h hl).elim⟩
   rw [R_go FF F232 c232.eq_1]
   simp only [RB, RL, un, St.none, Nat.reduceEqDiff, Nat.reduceAdd, Nat.reduceMul, Nat.reduceMod, Nat.reduceLeDiff, Nat.reduceLT, Int.reduceLT, Int.reduceLE, Int.reduceEq, Int.reduceToNat, Int.reduceSub, Int.reduceNeg, Int.reduceAdd, ↓reduceIte, reduceCtorEq, pack, pid, parN, lid, chkK, apartV, Heap.none, h1, n64, eTr_rules, eTr_row, eC_rules, eC_row, hl]
  ·refine ⟨14, ?_, fun _ h => (hl h).elim, fun v => (v (h2.1 rfl)).elim, fun _ _ => rfl⟩
   rw [R_go FF F232 c232.eq_1]
   simp only [RB, RL, un, St.none, Nat.reduceEqDiff, Nat.reduceAdd, Nat.reduceMul, Nat.reduceMod, Nat.reduceLeDiff, Nat.reduceLT, Int.reduceLT, Int.reduceLE, Int.reduceEq, Int.reduceToNat, Int.reduceSub, Int.reduceNeg, Int.reduceAdd, ↓reduceIte, reduceCtorEq, pack, pid, parN, lid, chkK, apartV, Heap.none, h1, n64, eTr_rules, eTr_row, eC_rules, eC_row, hl]
theorem left10_c {n : RNd} {x : RC} {k j : Nat} (hc : SmQ n.cut k) (hx : SmQ x.2 j) (hk : k ≤ 100000000000) (hj : j ≤ 100000000000) : R FF 231 [.agg (eNd n), .agg (eC x)] = some (.b (!n.leaf && goV (vQ n.cut) n.miss x)) := by
 have f1 := vcmp_c hx hc hj hk
 have e : decide (vQ x.2 < vQ n.cut) = decide (qcmp (vQ x.2) (vQ n.cut) < 0) := decide_eq_decide.2 qcmp_lt.symm
 unfold goV
 rw [e]
 generalize qcmp (vQ x.2) (vQ n.cut) = z at *
 obtain ⟨lf, ft, c, a, b, m, v, w⟩ := n
 obtain ⟨a', q, l, d⟩ := x
 simp only [eNd, eC]
 cases lf
 ·cases a'
  ·rw [R_go FF F231 c231.eq_1]
   simp only [RB, RL, un, St.none, Nat.reduceEqDiff, Nat.reduceAdd, Nat.reduceMul, Nat.reduceMod, Nat.reduceLeDiff, Nat.reduceLT, Int.reduceLT, Int.reduceLE, Int.reduceEq, Int.reduceToNat, Int.reduceSub, Int.reduceNeg, Int.reduceAdd, ↓reduceIte, reduceCtorEq, pack, pid, parN, lid, chkK, apartV, Heap.none, f1, n64]
   try rfl
  ·cases m
   ·rw [R_go FF F231 c231.eq_1]
    simp only [RB, RL, un, St.none, Nat.reduceEqDiff, Nat.reduceAdd, Nat.reduceMul, Nat.reduceMod, Nat.reduceLeDiff, Nat.reduceLT, Int.reduceLT, Int.reduceLE, Int.reduceEq, Int.reduceToNat, Int.reduceSub, Int.reduceNeg, Int.reduceAdd, ↓reduceIte, reduceCtorEq, pack, pid, parN, lid, chkK, apartV, Heap.none, f1, n64]
    try rfl
   ·rw [R_go FF F231 c231.eq_1]
    simp only [RB, RL, un, St.none, Nat.reduceEqDiff, Nat.reduceAdd, Nat.reduceMul, Nat.reduceMod, Nat.reduceLeDiff, Nat.reduceLT, Int.reduceLT, Int.reduceLE, Int.reduceEq, Int.reduceToNat, Int.reduceSub, Int.reduceNeg, Int.reduceAdd, ↓reduceIte, reduceCtorEq, pack, pid, parN, lid, chkK, apartV, Heap.none, f1, n64]
    try rfl
 ·rw [R_go FF F231 c231.eq_1]
  simp only [RB, RL, un, St.none, Nat.reduceEqDiff, Nat.reduceAdd, Nat.reduceMul, Nat.reduceMod, Nat.reduceLeDiff, Nat.reduceLT, Int.reduceLT, Int.reduceLE, Int.reduceEq, Int.reduceToNat, Int.reduceSub, Int.reduceNeg, Int.reduceAdd, ↓reduceIte, reduceCtorEq, pack, pid, parN, lid, chkK, apartV, Heap.none, f1, n64]
  try rfl
theorem way10_c {t : List RNd} {row : List RC} {f : Int} {k : Nat} (hk : k ≤ 10000000000) (ht : t.length ≤ 100000) (hs : SmT t k) (hr : SmW row k) (hrg : t.any (bdR t.length f) = false) (hf : (row.length : Int) = f) : ∀ (d a b : Nat), d ≤ 100000 → a < t.length → walk t row d a = some b →
  ∃ P : List Nat, 1 ≤ P.length ∧ P.length ≤ d + 1 ∧ P.getD (P.length - 1) 0 = b ∧ R FF 206 [.l 14 (t.map eNd), (AV.i .i64 ((a : Int))), .l 4 (row.map eC)] = some (.l 1 (P.map eX)) := by
 intro d
 induction d with
 | zero =>
  intro a b hd ha h
  rw [walk] at h
  split at h
  ·rename_i hl
   cases h
   refine ⟨[a], zp _, zp _, rfl, ?_⟩
   have c1 : (a : Int) < (t.length : Int) := by omega
   have e : [[AV.i .i64 (a : Int)]] = [a].map eX := rfl
   rw [← e]
   rw [R_go FF F206 c206.eq_1]
   simp only [RB, RL, un, St.none, Nat.reduceEqDiff, Nat.reduceAdd, Nat.reduceMul, Nat.reduceMod, Nat.reduceLeDiff, Nat.reduceLT, Int.reduceLT, Int.reduceLE, Int.reduceEq, Int.reduceToNat, Int.reduceSub, Int.reduceNeg, Int.reduceAdd, ↓reduceIte, reduceCtorEq, pack, pid, parN, lid, chkK, apartV, Heap.none, c1, hl, n64, eNd_rules, eNd_row, eC_rules, eC_row, ze]
  ·cases h
 | succ d ih =>
  intro a b hd ha h
  have c1 : (a : Int) < (t.length : Int) := by omega
  have hmem := getD_mem' dNd ha
  cases hl : (t.getD a dNd).leaf with
  | true =>
   rw [walk, if_pos hl] at h
   cases h
   refine ⟨[a], zp _, by show 1 ≤ _; omega, rfl, ?_⟩
   have e : [[AV.i .i64 (a : Int)]] = [a].map eX := rfl
   rw [← e]
   rw [R_go FF F206 c206.eq_1]
   simp only [RB, RL, un, St.none, Nat.reduceEqDiff, Nat.reduceAdd, Nat.reduceMul, Nat.reduceMod, Nat.reduceLeDiff, Nat.reduceLT, Int.reduceLT, Int.reduceLE, Int.reduceEq, Int.reduceToNat, Int.reduceSub, Int.reduceNeg, Int.reduceAdd, ↓reduceIte, reduceCtorEq, pack, pid, parN, lid, chkK, apartV, Heap.none, c1, hl, n64, eNd_rules, eNd_row, eC_rules, eC_row, ze]
  | false =>
   rw [walk, if_neg (by rw [hl]; decide)] at h
   have hg := rng_of hrg hmem hl
   have hn : nextN (t.getD a dNd) row < t.length := by unfold nextN; split <;> omega
   obtain ⟨P, q1, q2, q3, q4⟩ := ih _ b (by omega) hn h
   have hft : (t.getD a dNd).ft.toNat < row.length := by omega
   have f1 := left10_c (n := t.getD a dNd) (x := row.getD (t.getD a dNd).ft.toNat dC) (k := k) (j := k) (hs _ hmem).2.1 (hr _ (getD_mem' dC hft)) (by omega) (by omega)
   rw [hl, show (!false && goV (vQ (t.getD a dNd).cut) (t.getD a dNd).miss (row.getD (t.getD a dNd).ft.toNat dC)) = goN (t.getD a dNd) row from rfl] at f1
   refine ⟨a :: P, by rw [zu]; omega, by rw [zu]; omega, ?_, ?_⟩
   ·rw [zu, show P.length + 1 - 1 = (P.length - 1) + 1 by omega]; exact q3
   ·have b2 : (1 + P.length) * 8 ≤ 140737488355328 := by omega
    have t1 : List.take (1 + P.length) ([[AV.i .i64 (a : Int)]] ++ List.map eX P) = (a :: P).map eX := by
     rw [zf (by rw [zk, zq]; exact zp _)]; rfl
    have hnx : nextN (t.getD a dNd) row = if goN (t.getD a dNd) row then (t.getD a dNd).lft.toNat else (t.getD a dNd).rgt.toNat := rfl
    obtain ⟨x, hx⟩ : ∃ x, x = t.getD a dNd := ⟨_, rfl⟩
    rw [← hx] at hl hg f1 hnx hft q4
    have hx' := hx.symm
    generalize goN x row = g at *
    obtain ⟨xl, xf, xc, xa, xb, xm, xv, xw⟩ := x
    simp only at hl hg hft
    subst hl
    have g1 : 0 ≤ xf := by omega
    have g2 : xf < (row.length : Int) := by omega
    simp only [eNd, eC] at f1
    cases g
    ·have q5 : ((nextN ⟨false, xf, xc, xa, xb, xm, xv, xw⟩ row : Nat) : Int) = xb := by rw [hnx, if_neg (by decide)]; show ((xb.toNat : Nat) : Int) = xb; omega
     rw [q5] at q4
     rw [R_go FF F206 c206.eq_1]
     simp only [RB, RL, un, St.none, Nat.reduceEqDiff, Nat.reduceAdd, Nat.reduceMul, Nat.reduceMod, Nat.reduceLeDiff, Nat.reduceLT, Int.reduceLT, Int.reduceLE, Int.reduceEq, Int.reduceToNat, Int.reduceSub, Int.reduceNeg, Int.reduceAdd, ↓reduceIte, reduceCtorEq, pack, pid, parN, lid, chkK, apartV, Heap.none, c1, hx', eNd, f1, g1, g2, n64, eNd_rules, eNd_row, eC_rules, eC_row, eX_rules, eX_row, ze, q4, b2, t1]
    ·have q5 : ((nextN ⟨false, xf, xc, xa, xb, xm, xv, xw⟩ row : Nat) : Int) = xa := by rw [hnx, if_pos rfl]; show ((xa.toNat : Nat) : Int) = xa; omega
     rw [q5] at q4
     rw [R_go FF F206 c206.eq_1]
     simp only [RB, RL, un, St.none, Nat.reduceEqDiff, Nat.reduceAdd, Nat.reduceMul, Nat.reduceMod, Nat.reduceLeDiff, Nat.reduceLT, Int.reduceLT, Int.reduceLE, Int.reduceEq, Int.reduceToNat, Int.reduceSub, Int.reduceNeg, Int.reduceAdd, ↓reduceIte, reduceCtorEq, pack, pid, parN, lid, chkK, apartV, Heap.none, c1, hx', eNd, f1, g1, g2, n64, eNd_rules, eNd_row, eC_rules, eC_row, eX_rules, eX_row, ze, q4, b2, t1]
theorem walk_mono {t : List RNd} {row : List RC} : ∀ (k a b : Nat), walk t row k a = some b → walk t row (k + 1) a = some b := by
 intro k
 induction k with
 | zero =>
  intro a b h
  rw [walk] at h
  rw [walk]
  split at h
  ·rename_i hl; rw [if_pos hl]; exact h
  ·cases h
 | succ k ih =>
  intro a b h
  rw [walk] at h
  rw [walk]
  split at h
  ·rename_i hl; rw [if_pos hl]; exact h
  ·rename_i hl; rw [if_neg hl]; exact ih _ b h
theorem walk_le {t : List RNd} {row : List RC} {k m a b : Nat} (hm : k ≤ m) (h : walk t row k a = some b) : walk t row m a = some b := by
 induction hm with
 | refl => exact h
 | step _ ih => exact walk_mono _ _ _ ih
inductive TT where
 | lf (a : Nat) : TT
 | nd (a : Nat) (l r : TT) : TT
def TT.top : TT → Nat
 | .lf a => a
 | .nd a _ _ => a
def TT.pre : TT → List Nat
 | .lf a => [a]
 | .nd a l r => a :: (r.pre ++ l.pre)
def TT.lvs : TT → List Nat
 | .lf a => [a]
 | .nd _ l r => l.lvs ++ r.lvs
def UN (t : List RNd) : TT → Prop
 | .lf a => a < t.length ∧ (t.getD a dNd).leaf = true
 | .nd a l r => a < t.length ∧ (t.getD a dNd).leaf = false ∧ l.top = (t.getD a dNd).lft.toNat ∧ r.top = (t.getD a dNd).rgt.toNat ∧ UN t l ∧ UN t r
def gl (t : List RNd) (row : List RC) : TT → Nat
 | .lf a => a
 | .nd a l r => if goN (t.getD a dNd) row then gl t row l else gl t row r
theorem gl_lvs (t : List RNd) (row : List RC) : ∀ T : TT, gl t row T ∈ T.lvs
 | .lf a => List.mem_singleton.2 rfl
 | .nd a l r => by
  rw [gl, TT.lvs]
  split
  ·exact List.mem_append.2 (.inl (gl_lvs t row l))
  ·exact List.mem_append.2 (.inr (gl_lvs t row r))
theorem lvs_pre : ∀ (T : TT) {a : Nat}, a ∈ T.lvs → a ∈ T.pre
 | .lf _, _, h => h
 | .nd b l r, a, h => by
  rw [TT.lvs] at h
  rw [TT.pre]
  rcases List.mem_append.1 h with h | h
  ·exact zm _ (List.mem_append.2 (.inr (lvs_pre l h)))
  ·exact zm _ (List.mem_append.2 (.inl (lvs_pre r h)))
theorem pre_sub {a : Nat} {l r : TT} (h : (TT.nd a l r).pre.Nodup) : l.pre.Nodup ∧ r.pre.Nodup ∧ ∀ x, x ∈ l.pre → x ∉ r.pre := by
 rw [TT.pre] at h
 have h2 := List.nodup_append.1 (List.nodup_cons.1 h).2
 exact ⟨h2.2.1, h2.1, fun x h3 h4 => h2.2.2 x h4 x h3 rfl⟩
theorem par_next {t : List RNd} (h : Par t) {V : List Nat} {a c : Nat} (hnd : (a :: V).Nodup) (hlt : ∀ c ∈ a :: V, c < t.length) (hp : ∀ c ∈ a :: V, c = 0 ∨ ∃ p ∈ V, c ∈ kids (t.getD p dNd)) (hc : c ∈ kids (t.getD a dNd)) :
  (c :: a :: V).Nodup ∧ (∀ x ∈ c :: a :: V, x < t.length) ∧ ∀ x ∈ c :: a :: V, x = 0 ∨ ∃ p ∈ a :: V, x ∈ kids (t.getD p dNd) := by
 have ha : a < t.length := hlt a (zn ..)
 have hr := h.rng a ha _ hc
 refine ⟨List.nodup_cons.2 ⟨fun hm => ?_, hnd⟩, fun x hx => ?_, fun x hx => ?_⟩
 ·rcases hp _ hm with h0 | ⟨p, hpV, hpc⟩
  ·omega
  ·have hpl : p < t.length := hlt p (zm _ hpV)
   have e := h.uniq hpl ha hpc hc
   subst e
   exact (List.nodup_cons.1 hnd).1 hpV
 ·rcases List.mem_cons.1 hx with rfl | hx
  ·exact hr.2
  ·exact hlt x hx
 ·rcases List.mem_cons.1 hx with rfl | hx
  ·exact .inr ⟨a, zn .., hc⟩
  ·rcases hp x hx with h0 | ⟨p, hpV, hpc⟩
   ·exact .inl h0
   ·exact .inr ⟨p, zm _ hpV, hpc⟩
theorem un_some {t : List RNd} (h : Par t) : ∀ (k : Nat) (V : List Nat) (a : Nat), (a :: V).Nodup → (∀ c ∈ a :: V, c < t.length) → (∀ c ∈ a :: V, c = 0 ∨ ∃ p ∈ V, c ∈ kids (t.getD p dNd)) → t.length ≤ V.length + k →
  ∃ T : TT, T.top = a ∧ UN t T := by
 intro k
 induction k with
 | zero =>
  intro V a hnd hlt hp hk
  have := nodup_len t.length hnd hlt
  rw [zu] at this
  omega
 | succ k ih =>
  intro V a hnd hlt hp hk
  have ha : a < t.length := hlt a (zn ..)
  cases hl : (t.getD a dNd).leaf with
  | true => exact ⟨.lf a, rfl, ha, hl⟩
  | false =>
   have k1 : (t.getD a dNd).lft.toNat ∈ kids (t.getD a dNd) := by unfold kids; rw [hl]; simp
   have k2 : (t.getD a dNd).rgt.toNat ∈ kids (t.getD a dNd) := by unfold kids; rw [hl]; simp
   obtain ⟨a1, a2, a3⟩ := par_next h hnd hlt hp k1
   obtain ⟨b1, b2, b3⟩ := par_next h hnd hlt hp k2
   obtain ⟨L, l1, l2⟩ := ih (a :: V) _ a1 a2 a3 (by rw [zu]; omega)
   obtain ⟨Rt, r1, r2⟩ := ih (a :: V) _ b1 b2 b3 (by rw [zu]; omega)
   exact ⟨.nd a L Rt, rfl, ha, hl, l1, r1, l2, r2⟩
theorem dfs_mono {t : List RNd} : ∀ (k : Nat) (S v : List Nat), dfs t k S = some v → dfs t (k + 1) S = some v := by
 intro k
 induction k with
 | zero =>
  intro S v h
  cases S with
  | nil => exact h
  | cons a S => cases h
 | succ k ih =>
  intro S v h
  cases S with
  | nil => exact h
  | cons a S =>
   rw [dfs] at h
   cases h2 : dfs t k (kids (t.getD a dNd) ++ S) with
   | none => rw [h2] at h; cases h
   | some w =>
    rw [h2] at h
    rw [dfs, ih _ _ h2]
    exact h
theorem dfs_le {t : List RNd} {k m : Nat} {S v : List Nat} (hm : k ≤ m) (h : dfs t k S = some v) : dfs t m S = some v := by
 induction hm with
 | refl => exact h
 | step _ ih => exact dfs_mono _ _ _ ih
theorem un_dfs {t : List RNd} : ∀ (T : TT), UN t T → ∀ k S, dfs t (k + T.pre.length) (T.top :: S) = (dfs t k S).map (T.pre ++ ·)
 | .lf a, h, k, S => by
  show dfs t (k + 1) (a :: S) = _
  rw [dfs, show kids (t.getD a dNd) = [] by unfold kids; rw [h.2]; rfl]
  rfl
 | .nd a l r, h, k, S => by
  obtain ⟨h1, h2, h3, h4, h5, h6⟩ := h
  show dfs t (k + (r.pre ++ l.pre).length + 1) (a :: S) = _
  rw [dfs, show kids (t.getD a dNd) = [r.top, l.top] by unfold kids; rw [h2, h3, h4]; rfl, zk, show k + (r.pre.length + l.pre.length) = k + l.pre.length + r.pre.length by omega]
  show (dfs t (k + l.pre.length + r.pre.length) (r.top :: l.top :: S)).map _ = _
  rw [un_dfs r h6, un_dfs l h5, Option.map_map, Option.map_map]
  congr 1
  funext x
  simp [TT.pre]
theorem unf {t : List RNd} (hs : Shp t) (h1 : 1 ≤ t.length) : ∃ T : TT, T.top = 0 ∧ UN t T ∧ T.pre.Nodup ∧ T.pre.length ≤ t.length ∧ ∀ x ∈ T.pre, x < t.length := by
 obtain ⟨T, e, hT⟩ := un_some hs.par t.length [] 0 (by simp) (fun c hc => by rw [zy] at hc; omega) (fun c hc => by rw [zy] at hc; exact .inl hc) (by simp)
 obtain ⟨vis, v1, v2, v3, v4⟩ := dfs_some hs.par t.length [] [0] (by simp) (fun c hc => by rw [List.nil_append, zy] at hc; omega) (fun c hc => by rw [List.nil_append, zy] at hc; exact .inl hc) (by simp)
 have q := un_dfs T hT t.length []
 rw [e, dfs_le (Nat.le_add_right _ _) v1, dfs] at q
 have q2 : vis = T.pre := by
  have := Option.some.inj q
  rw [this]
  exact List.append_nil _
 rw [List.nil_append, q2] at v2
 rw [q2] at v3
 exact ⟨T, e, hT, v2, nodup_len _ v2 v3, v3⟩
theorem un_walk {t : List RNd} (row : List RC) : ∀ (T : TT), UN t T → walk t row T.pre.length T.top = some (gl t row T)
 | .lf a, h => by
  show walk t row 1 a = some a
  rw [walk, if_pos h.2]
 | .nd a l r, h => by
  obtain ⟨h1, h2, h3, h4, h5, h6⟩ := h
  show walk t row ((r.pre ++ l.pre).length + 1) a = some (gl t row (.nd a l r))
  rw [walk, if_neg (by rw [h2]; decide), gl, nextN, zk]
  cases goN (t.getD a dNd) row
  ·rw [if_neg (by decide), if_neg (by decide), ← h4]
   exact walk_le (by omega) (un_walk row r h6)
  ·rw [if_pos rfl, if_pos rfl, ← h3]
   exact walk_le (by omega) (un_walk row l h5)
theorem un_walk' {t : List RNd} {T : TT} (row : List RC) (e : T.top = 0) (h : UN t T) (hl : T.pre.length ≤ t.length) : walk t row t.length 0 = some (gl t row T) := by
 rw [← e]; exact walk_le hl (un_walk row T h)
abbrev dS : RS := (false, false, (false, [], []), (false, [], []), false)
theorem eS_rules : (∀ x, (eS x).length = 9) ∧ (∀ h x, (eS x).map (tellC h) = eS x) ∧ (∀ h x, (eS x).map (tell0 h) = eS x) ∧ (∀ h x, (eS x).flatMap (refC h) = []) ∧ (∀ x, (eS x).flatMap ref0 = []) ∧
  (∀ x, ldC true 9 0 (eS x) = some (.agg [.b x.1, .b x.2.1, .b x.2.2.1.1, .l 1 (x.2.2.1.2.1.map u), .l 1 (x.2.2.1.2.2.map u), .b x.2.2.2.1.1, .l 1 (x.2.2.2.1.2.1.map u), .l 1 (x.2.2.2.1.2.2.map u), .b x.2.2.2.2])) := by
 refine ⟨?_, ?_, ?_, ?_, ?_, ?_⟩ <;> intros <;> rfl
theorem eS_row : type_of% (row_rules eS dS 9 (fun _ => rfl) (fun _ _ => rfl)) := row_rules eS dS 9 (fun _ => rfl) (fun _ _ => rfl)
def hF (b : List RS) (r : List RC) : Nat → Nat → Bool
 | _, 0 => true
 | i, d + 1 => inV (b.getD i dS) (r.getD i dC) && hF b r (i + 1) d
def SmB (b : List RS) (k : Nat) : Prop := ∀ x ∈ b, SmS x k
def SmR (r : List RC) (k : Nat) : Prop := ∀ x ∈ r, SmQ x.2 k
theorem Holds23_l0 {b : List RS} {r : List RC} {n k : Nat} (hk : k ≤ 100000000000) (hb : b.length = n) (hr : r.length = n) (hn : n ≤ 100000000000) (h1 : SmB b k) (h2 : SmR r k) : ∀ (d i : Nat), i + d = n →
  LP FF [(1, 0), (2, 0), (5, 0)] [(4, 0)] b78_0 [.l 4 (r.map eC), .tp [.l 9 (b.map eS)] 0, (AV.i .i64 ((i : Int)))] = some (if hF b r i d then (.exit 0, [.junk]) else (.ret, [.b false])) := by
 intro d
 induction d with
 | zero =>
  intro i hi
  have c1 : ¬ (i : Int) < (r.length : Int) := by omega
  simp only [hF, if_true]
  rw [LP_go FF b78_0.eq_1]
  simp only [RB, RL, un, St.none, Nat.reduceEqDiff, Nat.reduceAdd, Nat.reduceMul, Nat.reduceMod, Nat.reduceLeDiff, Nat.reduceLT, Int.reduceLT, Int.reduceLE, Int.reduceEq, Int.reduceToNat, Int.reduceSub, Int.reduceNeg, Int.reduceAdd, ↓reduceIte, reduceCtorEq, pack, pid, parN, lid, chkK, apartV, Heap.none, c1]
 | succ d ih =>
  intro i hi
  have h9 := ih (i + 1) (by omega)
  have c1 : (i : Int) < (r.length : Int) := by omega
  have c2 : (i : Int) < (b.length : Int) := by omega
  have e1 : IntKind.i64.wrap ((i : Int) + 1) = ((i + 1 : Nat) : Int) := w64succ (by omega)
  have hb1 := h1 (b.getD i dS) (getD_mem' dS (by omega))
  have hr1 := h2 (r.getD i dC) (getD_mem' dC (by omega))
  have g1 : R FF 67 [.agg (eS (b.getD i dS)), .agg (eC (r.getD i dC))] = some (.b (inV (b.getD i dS) (r.getD i dC))) := Has23_c hk hb1.1 hb1.2 hr1
  rw [eS, eC] at g1
  unfold hF
  cases hv : inV (b.getD i dS) (r.getD i dC) <;> rw [hv] at g1
  ·simp only [Bool.false_and, Bool.false_eq_true, if_false]
   rw [LP_go FF b78_0.eq_1]
   simp only [RB, RL, un, St.none, Nat.reduceEqDiff, Nat.reduceAdd, Nat.reduceMul, Nat.reduceMod, Nat.reduceLeDiff, Nat.reduceLT, Int.reduceLT, Int.reduceLE, Int.reduceEq, Int.reduceToNat, Int.reduceSub, Int.reduceNeg, Int.reduceAdd, ↓reduceIte, reduceCtorEq, pack, pid, parN, lid, chkK, apartV, Heap.none, c1, c2, e1, eS_rules, eS_row, eC_rules, eC_row, ze, g1]
  ·simp only [Bool.true_and]
   rw [LP_go FF b78_0.eq_1]
   simp only [RB, RL, un, St.none, Nat.reduceEqDiff, Nat.reduceAdd, Nat.reduceMul, Nat.reduceMod, Nat.reduceLeDiff, Nat.reduceLT, Int.reduceLT, Int.reduceLE, Int.reduceEq, Int.reduceToNat, Int.reduceSub, Int.reduceNeg, Int.reduceAdd, ↓reduceIte, reduceCtorEq, pack, pid, parN, lid, chkK, apartV, Heap.none, c1, c2, e1, eS_rules, eS_row, eC_rules, eC_row, ze, g1]
   exact h9
def inB (b : List RS) (r : List RC) : Bool := decide (b.length = r.length) && hF b r 0 r.length
theorem Holds23_c {b : List RS} {r : List RC} {k : Nat} (hk : k ≤ 100000000000) (hr : r.length ≤ 100000000000) (h1 : SmB b k) (h2 : SmR r k) : R FF 78 [.agg [.l 9 (b.map eS)], .l 4 (r.map eC)] = some (.b (inB b r)) := by
 unfold inB
 by_cases hl : b.length = r.length
 ·have l0 := Holds23_l0 hk hl rfl hr h1 h2 r.length 0 (by omega)
  have c1 : (b.length : Int) = (r.length : Int) := by omega
  rw [decide_eq_true hl, Bool.true_and]
  rw [Int.ofNat_zero] at l0
  cases hv : hF b r 0 r.length <;> rw [hv] at l0 <;> simp only [if_true, Bool.false_eq_true, if_false] at l0 <;>
  (rw [R_go FF F78 c78.eq_1]
   simp only [RB, RL, un, St.none, Nat.reduceEqDiff, Nat.reduceAdd, Nat.reduceMul, Nat.reduceMod, Nat.reduceLeDiff, Nat.reduceLT, Int.reduceLT, Int.reduceLE, Int.reduceEq, Int.reduceToNat, Int.reduceSub, Int.reduceNeg, Int.reduceAdd, ↓reduceIte, reduceCtorEq, pack, pid, parN, lid, chkK, apartV, Heap.none, c1, l0])
 ·have c1 : ¬ (b.length : Int) = (r.length : Int) := by omega
  rw [decide_eq_false hl, Bool.false_and]
  rw [R_go FF F78 c78.eq_1]
  simp only [RB, RL, un, St.none, Nat.reduceEqDiff, Nat.reduceAdd, Nat.reduceMul, Nat.reduceMod, Nat.reduceLeDiff, Nat.reduceLT, Int.reduceLT, Int.reduceLE, Int.reduceEq, Int.reduceToNat, Int.reduceSub, Int.reduceNeg, Int.reduceAdd, ↓reduceIte, reduceCtorEq, pack, pid, parN, lid, chkK, apartV, Heap.none, c1]
theorem hF_congr {b b' : List RS} {r : List RC} : ∀ (d i : Nat), (∀ j, i ≤ j → j < i + d → inV (b.getD j dS) (r.getD j dC) = inV (b'.getD j dS) (r.getD j dC)) → hF b r i d = hF b' r i d := by
 intro d
 induction d with
 | zero => intro i _; rfl
 | succ d ih =>
  intro i h
  unfold hF
  rw [h i (by omega) (by omega), ih (i + 1) fun j h1 h2 => h j (by omega) (by omega)]
theorem getD_set' {α : Type} (l : List α) (i j : Nat) (x d : α) : (l.set i x).getD j d = if i = j ∧ j < l.length then x else l.getD j d := by
 rw [za, List.getElem?_set]
 by_cases h : i = j
 ·subst h
  by_cases h2 : i < l.length
  ·simp [h2]
  ·simp [h2, za]
 ·simp [h, za]
theorem inB_set {b : List RS} {i : Nat} {s : RS} {r : List RC} : inB (b.set i (cS s)) r = inB (b.set i s) r := by
 unfold inB
 rw [zw, zw]
 congr 1
 refine hF_congr _ _ fun j _ _ => ?_
 rw [getD_set', getD_set']
 split
 ·exact inV_cS s _
 ·rfl
theorem set_sm {b : List RS} {i k : Nat} {s : RS} (h1 : SmB b k) (hs : SmS s k) : SmB (b.set i s) k := fun x hx => by
 rcases List.mem_or_eq_of_mem_set hx with h | h
 ·exact h1 x h
 ·rw [h]; exact hs
theorem few_smR {l : List RC} (hu : ∀ x ∈ l, OkC x) (n : Nat) : SmR ((l.take n).map t3) 3 := fun x hx => by
 obtain ⟨y, hy, rfl⟩ := List.mem_map.1 hx
 exact Sm.take (k := maxL) (hu y (List.mem_of_mem_take hy)) 3
def rB (b : List RS) (i : Nat) : List RC := (List.range i).map fun j => someV (b.getD j dS)
theorem hF_iff {b : List RS} {r : List RC} : ∀ (d i : Nat), hF b r i d = true ↔ ∀ j, i ≤ j → j < i + d → inV (b.getD j dS) (r.getD j dC) = true := by
 intro d
 induction d with
 | zero => intro i; exact ⟨fun _ j h1 h2 => by omega, fun _ => rfl⟩
 | succ d ih =>
  intro i
  rw [hF, zb, ih]
  constructor
  ·intro h j h1 h2
   rcases Nat.eq_or_lt_of_le h1 with rfl | h3
   ·exact h.1
   ·exact h.2 j h3 (by omega)
  ·intro h
   exact ⟨h i (zp _) (by omega), fun j h1 h2 => h j (by omega) (by omega)⟩
theorem inB_iff {b : List RS} {r : List RC} : inB b r = true ↔ b.length = r.length ∧ ∀ j, j < r.length → inV (b.getD j dS) (r.getD j dC) = true := by
 unfold inB
 rw [zb, decide_eq_true_eq, hF_iff]
 exact ⟨fun h => ⟨h.1, fun j hj => h.2 j (Nat.zero_le _) (by omega)⟩, fun h => ⟨h.1, fun j _ hj => h.2 j (by omega)⟩⟩
def sdV (b : List RS) (n : RNd) (left : Bool) : RS := if left then belV (b.getD n.ft.toNat dS) n.cut n.miss else abvV (b.getD n.ft.toNat dS) n.cut (!n.miss)
def partB (b : List RS) (n : RNd) (left : Bool) : List RS := b.set n.ft.toNat (cS (sdV b n left))
theorem prtB_len (b : List RS) (n : RNd) (left : Bool) : (partB b n left).length = b.length := zw
theorem sd_in (b : List RS) (n : RNd) (left : Bool) (row : List RC) : inV (sdV b n left) (row.getD n.ft.toNat dC) = (inV (b.getD n.ft.toNat dS) (row.getD n.ft.toNat dC) && (goN n row == left)) := by
 unfold sdV goN goV
 generalize row.getD n.ft.toNat dC = c
 cases left
 ·rw [if_neg (by decide), abv_in]
  obtain ⟨m, w⟩ := c
  cases m <;> simp
 ·rw [if_pos rfl, bel_in]
  obtain ⟨m, w⟩ := c
  cases m <;> simp
theorem part_in {b : List RS} {n : RNd} {left : Bool} {row : List RC} (hf : n.ft.toNat < b.length) : inB (partB b n left) row = (inB b row && (goN n row == left)) := by
 unfold partB
 rw [inB_set, Bool.eq_iff_iff, zb, inB_iff, inB_iff, zw]
 constructor
 ·intro h
  have h2 := h.2 n.ft.toNat (by omega)
  rw [getD_set', if_pos ⟨rfl, hf⟩, sd_in, zb] at h2
  refine ⟨⟨h.1, fun j hj => ?_⟩, h2.2⟩
  have h3 := h.2 j hj
  rw [getD_set'] at h3
  split at h3
  ·rename_i e
   rw [← e.1]; exact h2.1
  ·exact h3
 ·intro h
  refine ⟨h.1.1, fun j hj => ?_⟩
  rw [getD_set']
  split
  ·rename_i e
   rw [← e.1, sd_in, h.1.2 _ (by omega), h.2]; rfl
  ·exact h.1.2 j hj
theorem part_emp {b : List RS} {n : RNd} {left : Bool} {row : List RC} (hf : n.ft.toNat < b.length) (he : empV (sdV b n left) = true) (hb : inB b row = true) : ¬ goN n row = left := by
 intro hg
 have h1 := part_in (b := b) (n := n) (left := left) (row := row) hf
 rw [hb, hg, beq_self_eq_true, Bool.and_true] at h1
 unfold partB at h1
 rw [inB_set, inB_iff] at h1
 have hl := h1.1
 rw [zw] at hl
 have h2 := h1.2 n.ft.toNat (by omega)
 rw [getD_set', if_pos ⟨rfl, hf⟩] at h2
 rw [in_num h2] at he
 cases he
theorem sd_sm {b : List RS} {n : RNd} {left : Bool} {k : Nat} (h : SmB b k) (hc : SmQ n.cut k) (hk : 1 ≤ k) (hf : n.ft.toNat < b.length) : SmS (sdV b n left) k := by
 have h1 := h _ (getD_mem' dS hf)
 unfold sdV
 cases left
 ·exact abv_sm h1 hc hk
 ·exact bel_sm h1 hc hk
theorem part_sm {b : List RS} {n : RNd} {left : Bool} {k : Nat} (h : SmB b k) (hc : SmQ n.cut k) (hk : 1 ≤ k) (hf : n.ft.toNat < b.length) : SmB (partB b n left) k :=
 set_sm h (cS_sm (sd_sm h hc hk hf) hk)
theorem un_ft {t : List RNd} {f : Int} {n : Nat} (hrg : t.any (bdR t.length f) = false) (hn : (n : Int) = f) {a : Nat} (ha : a < t.length) (hl : (t.getD a dNd).leaf = false) : (t.getD a dNd).ft.toNat < n ∧ 0 ≤ (t.getD a dNd).ft := by
 have := rng_of hrg (getD_mem' dNd ha) hl
 omega
structure GT (t : List RNd) (f : Int) (T : TT) : Prop where
 rg : t.any (bdR t.length f) = false
 top : T.top = 0
 un : UN t T
 nd : T.pre.Nodup
 le : T.pre.length ≤ t.length
theorem gt_of {t : List RNd} {f : Int} (h : VT t f) (h1 : 1 ≤ t.length) : ∃ T : TT, GT t f T := by
 obtain ⟨T, a, b, c, d, e⟩ := unf h.sh h1
 exact ⟨T, h.rg, a, b, c, d⟩
theorem rep_hF {n : Nat} {o : List RC} : ∀ (d i : Nat), i + d ≤ n → hF (zi n (none9 true)) o i d = true := by
 intro d
 induction d with
 | zero => intro i _; rfl
 | succ d ih =>
  intro i h
  unfold hF
  rw [ih (i + 1) (by omega), za, List.getElem?_replicate, if_pos (by omega)]
  show (inV (none9 true) _ && true) = true
  unfold inV inS none9
  simp
def wyV (t : List RNd) (row : List RC) : TT → List Nat
 | .lf a => [a]
 | .nd a l r => a :: (if goN (t.getD a dNd) row then wyV t row l else wyV t row r)
theorem wy_len (t : List RNd) (row : List RC) : ∀ T : TT, 1 ≤ (wyV t row T).length ∧ (wyV t row T).length ≤ T.pre.length
 | .lf a => ⟨zp _, zp _⟩
 | .nd a l r => by
  have h1 := wy_len t row l
  have h2 := wy_len t row r
  rw [wyV, TT.pre, zu, zu, zk]
  split <;> omega
def clT (t : List RNd) (row : List RC) (P : List Nat) (b : List RS) : List RS := P.foldl (fun b a => partB b (t.getD a dNd) (goN (t.getD a dNd) row)) b
theorem cl_len (t : List RNd) (row : List RC) : ∀ (P : List Nat) (b : List RS), (clT t row P b).length = b.length := by
 intro P
 induction P with
 | nil => intro b; rfl
 | cons a P ih => intro b; show (clT t row P _).length = _; rw [ih, prtB_len]
theorem cl_way (t : List RNd) (row : List RC) {f : Int} (hrg : t.any (bdR t.length f) = false) : ∀ (T : TT) (b : List RS), UN t T → T.pre.Nodup → (b.length : Int) = f →
  ∀ o, (inB (clT t row ((wyV t row T).take ((wyV t row T).length - 1)) b) o = true ↔ inB b o = true ∧ gl t o T = gl t row T)
 | .lf a, b, h, hn, hb, o => by
  show inB b o = true ↔ _
  exact ⟨fun h => ⟨h, rfl⟩, fun h => h.1⟩
 | .nd a l r, b, h, hn, hb, o => by
  obtain ⟨h1, h2, h3, h4, h5, h6⟩ := h
  obtain ⟨n1, n2, n3⟩ := pre_sub hn
  have hf := (un_ft hrg hb h1 h2).1
  have w1 := (wy_len t row l).1
  have w2 := (wy_len t row r).1
  rw [wyV, gl, gl, zu]
  cases hg : goN (t.getD a dNd) row with
  | true =>
   rw [if_pos rfl, if_pos rfl, show (wyV t row l).length + 1 - 1 = (wyV t row l).length - 1 + 1 by omega, List.take_succ_cons]
   show inB (clT t row _ (partB b (t.getD a dNd) (goN (t.getD a dNd) row))) o = true ↔ _
   rw [cl_way t row hrg l _ h5 n1 (by rw [prtB_len]; exact hb) o, part_in hf, zb, beq_iff_eq, hg]
   constructor
   ·rintro ⟨⟨q1, q2⟩, q3⟩
    rw [q2, if_pos rfl]; exact ⟨q1, q3⟩
   ·rintro ⟨q1, q3⟩
    cases ho : goN (t.getD a dNd) o with
    | true => rw [ho, if_pos rfl] at q3; exact ⟨⟨q1, rfl⟩, q3⟩
    | false =>
     rw [ho, if_neg (by decide)] at q3
     exact (n3 _ (lvs_pre l (gl_lvs t row l)) (q3 ▸ lvs_pre r (gl_lvs t o r))).elim
  | false =>
   rw [if_neg (show ¬ false = true by decide), if_neg (show ¬ false = true by decide), show (wyV t row r).length + 1 - 1 = (wyV t row r).length - 1 + 1 by omega, List.take_succ_cons]
   show inB (clT t row _ (partB b (t.getD a dNd) (goN (t.getD a dNd) row))) o = true ↔ _
   rw [cl_way t row hrg r _ h6 n2 (by rw [prtB_len]; exact hb) o, part_in hf, zb, beq_iff_eq, hg]
   constructor
   ·rintro ⟨⟨q1, q2⟩, q3⟩
    rw [q2, if_neg (by decide)]; exact ⟨q1, q3⟩
   ·rintro ⟨q1, q3⟩
    cases ho : goN (t.getD a dNd) o with
    | false => rw [ho, if_neg (by decide)] at q3; exact ⟨⟨q1, rfl⟩, q3⟩
    | true =>
     rw [ho, if_pos rfl] at q3
     exact (n3 _ (q3 ▸ lvs_pre l (gl_lvs t o l)) (lvs_pre r (gl_lvs t row r))).elim
theorem rep_in {n : Nat} {row : List RC} (h : row.length = n) : inB (zi n (none9 true)) row = true := by
 unfold inB
 rw [zl, decide_eq_true h.symm, Bool.true_and]
 exact rep_hF row.length 0 (by omega)
def t4 (x : RQt) : RQt := (x.1, x.2.1.take 4, x.2.2.take 4)
def fN (n : RNd) : RNd := { n with cut := t4 n.cut, val := t4 n.val, cov := t4 n.cov }
def fT7 (t : List RNd) : List RNd := (t.take 15).map fN
def fM7 (m : RM) : RM := (m.1, (m.2.take 6).map fT7)
theorem fT7_sm {t : List RNd} (h : ∀ a ∈ t, OkNd a) : SmT (fT7 t) 4 := by
 intro n hn
 obtain ⟨m, hm, rfl⟩ := List.mem_map.1 hn
 have h2 := h m (List.mem_of_mem_take hm)
 exact ⟨Sm.take (k := maxL) h2.2.2.2.2.2 4, Sm.take (k := maxL) h2.2.1 4, Sm.take (k := maxL) h2.2.2.2.2.1 4⟩
theorem fT7_len (t : List RNd) : (fT7 t).length ≤ 15 := by unfold fT7; rw [zq]; exact List.length_take_le _ _
theorem fM7_sm {m : RM} (h : OkM m) : SmM (fM7 m) 4 := by
 refine ⟨?_, fun t ht => ?_⟩
 ·show ((m.2.take 6).map fT7).length ≤ 1000
  rw [zq]; exact zx (List.length_take_le _ _) (by omega)
 ·obtain ⟨s, hs, rfl⟩ := List.mem_map.1 (show t ∈ (m.2.take 6).map fT7 from ht)
  have h2 := h.2.2 s (List.mem_of_mem_take hs)
  exact ⟨zx (fT7_len s) (by omega), fT7_sm h2.2⟩
theorem number07_c {q : Bool} {l d : List Int} (hl : l.length ≤ maxL) (hd : d.length ≤ maxL) : R FF 234 [(AV.agg [AV.b q, (AV.l 1 (List.map u l)), (AV.l 1 (List.map u d))])] = some (AV.agg [AV.b q, (AV.l 1 (List.map u (((l.take 4))))), (AV.l 1 (List.map u (((d.take 4)))))]) := by
 have e3 : (4 : Int).toNat = 4 := rfl
 by_cases c1 : 4 < (l.length : Int)
 ·have c3 : (4 : Int) ≤ (l.length : Int) := by omega
  by_cases c2 : 4 < (d.length : Int)
  ·have c4 : (4 : Int) ≤ (d.length : Int) := by omega
   rw [R_go FF F234 c234.eq_1]
   simp only [RB, RL, un, St.none, Nat.reduceEqDiff, Nat.reduceAdd, Nat.reduceMul, Nat.reduceMod, Nat.reduceLeDiff, Nat.reduceLT, Int.reduceLT, Int.reduceLE, Int.reduceEq, Int.reduceToNat, Int.reduceSub, Int.reduceNeg, Int.reduceAdd, ↓reduceIte, reduceCtorEq, pack, pid, parN, lid, chkK, apartV, Heap.none, c1, c2, c3, c4]
  ·have t2 : d.take 4 = d := zf (by omega)
   rw [t2]
   rw [R_go FF F234 c234.eq_1]
   simp only [RB, RL, un, St.none, Nat.reduceEqDiff, Nat.reduceAdd, Nat.reduceMul, Nat.reduceMod, Nat.reduceLeDiff, Nat.reduceLT, Int.reduceLT, Int.reduceLE, Int.reduceEq, Int.reduceToNat, Int.reduceSub, Int.reduceNeg, Int.reduceAdd, ↓reduceIte, reduceCtorEq, pack, pid, parN, lid, chkK, apartV, Heap.none, c1, c2, c3]
 ·have t1 : l.take 4 = l := zf (by omega)
  rw [t1]
  by_cases c2 : 4 < (d.length : Int)
  ·have c4 : (4 : Int) ≤ (d.length : Int) := by omega
   rw [R_go FF F234 c234.eq_1]
   simp only [RB, RL, un, St.none, Nat.reduceEqDiff, Nat.reduceAdd, Nat.reduceMul, Nat.reduceMod, Nat.reduceLeDiff, Nat.reduceLT, Int.reduceLT, Int.reduceLE, Int.reduceEq, Int.reduceToNat, Int.reduceSub, Int.reduceNeg, Int.reduceAdd, ↓reduceIte, reduceCtorEq, pack, pid, parN, lid, chkK, apartV, Heap.none, c1, c2, c4]
  ·have t2 : d.take 4 = d := zf (by omega)
   rw [t2]
   rw [R_go FF F234 c234.eq_1]
   simp only [RB, RL, un, St.none, Nat.reduceEqDiff, Nat.reduceAdd, Nat.reduceMul, Nat.reduceMod, Nat.reduceLeDiff, Nat.reduceLT, Int.reduceLT, Int.reduceLE, Int.reduceEq, Int.reduceToNat, Int.reduceSub, Int.reduceNeg, Int.reduceAdd, ↓reduceIte, reduceCtorEq, pack, pid, parN, lid, chkK, apartV, Heap.none, c1, c2]
theorem take_min {α : Type} {l : List α} {i n : Nat} (h : i = min l.length n) : l.take i = l.take n := by
 rw [h]
 rcases Nat.le_total l.length n with h | h
 ·rw [Nat.min_eq_left h, zf (zp _), zf h]
 ·rw [Nat.min_eq_right h]
theorem few07_l1 {f : Int} {ts : List (List RNd)} {i : Nat} {acc : List (List RNd)} (hi : i < ts.length) (hu : ∀ a ∈ ts.getD i [], OkNd a) (hl : (ts.getD i []).length ≤ maxL) : ∀ (d j : Nat), j + d = min (ts.getD i []).length 15 →
  LP FF [(2, 1), (3, 4), (5, 1), (1, 0), (4, 0), (6, 0)] [(2, 1), (3, 4), (1, 0), (4, 0), (5, 0)] b209_1 [.ownp [(AV.i .i64 0), .l 1 []], .ownp [(AV.i .i64 f), .own true 1 (acc.map eTr)], .own true 14 ((((ts.getD i []).take j).map fN).map eNd), .tp (eM (f, ts)) 0, (AV.i .i64 ((i : Int))), (AV.i .i64 ((j : Int)))] =
   some (.exit 2, [.ownp [(AV.i .i64 0), .l 1 []], .ownp [(AV.i .i64 f), .own true 1 (acc.map eTr)], .tp (eM (f, ts)) 0, (AV.i .i64 ((i : Int))), .l 14 ((fT7 (ts.getD i [])).map eNd)]) := by
 have c0 : (i : Int) < (ts.length : Int) := by omega
 intro d
 induction d with
 | zero =>
  intro j hj
  rw [take_min (show j = min (ts.getD i []).length 15 by omega), show ((ts.getD i []).take 15).map fN = fT7 (ts.getD i []) from rfl]
  generalize fT7 (ts.getD i []) = F at *
  simp only [eM]
  by_cases c1 : (j : Int) < ((ts.getD i []).length : Int)
  ·have c2 : ¬ (j : Int) < 15 := by omega
   rw [LP_go FF b209_1.eq_1]
   simp only [RB, RL, un, St.none, Nat.reduceEqDiff, Nat.reduceAdd, Nat.reduceMul, Nat.reduceMod, Nat.reduceLeDiff, Nat.reduceLT, Int.reduceLT, Int.reduceLE, Int.reduceEq, Int.reduceToNat, Int.reduceSub, Int.reduceNeg, Int.reduceAdd, ↓reduceIte, reduceCtorEq, pack, pid, parN, lid, chkK, apartV, Heap.none, c0, c1, c2, eTr_rules, eTr_row, ze, nJ, nK, Row.freeze, zh]
  ·rw [LP_go FF b209_1.eq_1]
   simp only [RB, RL, un, St.none, Nat.reduceEqDiff, Nat.reduceAdd, Nat.reduceMul, Nat.reduceMod, Nat.reduceLeDiff, Nat.reduceLT, Int.reduceLT, Int.reduceLE, Int.reduceEq, Int.reduceToNat, Int.reduceSub, Int.reduceNeg, Int.reduceAdd, ↓reduceIte, reduceCtorEq, pack, pid, parN, lid, chkK, apartV, Heap.none, c0, c1, eTr_rules, eTr_row, ze, nJ, nK, Row.freeze, zh]
 | succ d ih =>
  intro j hj
  have hlt : j < (ts.getD i []).length := by omega
  have h9 := ih (j + 1) (by omega)
  have hx := hu _ (getD_mem' dNd hlt)
  have ht : ((ts.getD i []).take (j + 1)).map fN = ((ts.getD i []).take j).map fN ++ [fN ((ts.getD i []).getD j dNd)] := by
   rw [List.take_add_one, zg hlt, List.map_append, za (i := j), zg hlt]
   rfl
  rw [ht] at h9
  have hlen : (((ts.getD i []).take j).map fN).length = j := by rw [zq, zj]; omega
  have c1 : (j : Int) < ((ts.getD i []).length : Int) := by omega
  have c2 : (j : Int) < 15 := by omega
  have e2 : IntKind.i64.wrap ((j : Int) + 1) = ((j + 1 : Nat) : Int) := w64succ (by omega)
  have b2 : (j + 1) * 208 ≤ 140737488355328 := by omega
  generalize ((ts.getD i []).take j).map fN = A at *
  obtain ⟨x, hx'⟩ : ∃ x, (ts.getD i []).getD j dNd = x := ⟨_, rfl⟩
  rw [hx'] at h9 hx
  obtain ⟨xl, xf, ⟨cq, cl, cd⟩, xa, xb, xm, ⟨vq, vl, vd⟩, ⟨wq, wl, wd⟩⟩ := x
  obtain ⟨k1, k2, k3, k4, k5, k6⟩ := hx
  have f1 := number07_c (q := cq) (l := cl) (d := cd) k2.1.2 k2.2.2
  have f2 := number07_c (q := vq) (l := vl) (d := vd) k5.1.2 k5.2.2
  have f3 := number07_c (q := wq) (l := wl) (d := wd) k6.1.2 k6.2.2
  have m2 : List.take (j + 1) (A ++ [fN ⟨xl, xf, (cq, cl, cd), xa, xb, xm, (vq, vl, vd), (wq, wl, wd)⟩]) = A ++ [fN ⟨xl, xf, (cq, cl, cd), xa, xb, xm, (vq, vl, vd), (wq, wl, wd)⟩] := zf (by rw [zk, hlen]; exact zp _)
  have m3 : List.take j A = A := zf (by omega)
  have m1 : List.map eNd A ++ [[.b xl, .i .i64 xf, .b cq, .l 1 ((cl.take 4).map u), .l 1 ((cd.take 4).map u), .i .i64 xa, .i .i64 xb, .b xm, .b vq, .l 1 ((vl.take 4).map u), .l 1 ((vd.take 4).map u), .b wq, .l 1 ((wl.take 4).map u), .l 1 ((wd.take 4).map u)]] = List.map eNd (A ++ [fN ⟨xl, xf, (cq, cl, cd), xa, xb, xm, (vq, vl, vd), (wq, wl, wd)⟩]) := by rw [List.map_append]; rfl
  simp only [eM] at h9 ⊢
  rw [LP_go FF b209_1.eq_1]
  simp only [RB, RL, un, St.none, Nat.reduceEqDiff, Nat.reduceAdd, Nat.reduceMul, Nat.reduceMod, Nat.reduceLeDiff, Nat.reduceLT, Int.reduceLT, Int.reduceLE, Int.reduceEq, Int.reduceToNat, Int.reduceSub, Int.reduceNeg, Int.reduceAdd, ↓reduceIte, reduceCtorEq, pack, pid, parN, lid, chkK, apartV, Heap.none, c0, c1, c2, hx', eNd, eTr_rules, eTr_row, eNd_rules, eNd_row, ze, nJ, nK, Row.freeze, f1, f2, f3, e2, hlen, b2, m3, m1, m2]
  exact h9
theorem few07_l0 {f : Int} {ts : List (List RNd)} (hu : ∀ t ∈ ts, t.length ≤ maxL ∧ ∀ a ∈ t, OkNd a) (hl : ts.length ≤ maxL) : ∀ (d i : Nat), i + d = min ts.length 6 →
  LP FF [(2, 1), (3, 4), (1, 0), (4, 0)] [(2, 1), (3, 0)] b209_0 [.ownp [(AV.i .i64 0), .l 1 []], .ownp [(AV.i .i64 f), .own true 1 (((ts.take i).map fT7).map eTr)], .tp (eM (f, ts)) 0, (AV.i .i64 ((i : Int)))] =
   some (.exit 0, [.ownp [(AV.i .i64 0), .l 1 []], .tp (eM (fM7 (f, ts))) 0]) := by
 intro d
 induction d with
 | zero =>
  intro i hi
  rw [take_min (show i = min ts.length 6 by omega), show eM (fM7 (f, ts)) = [(AV.i .i64 f), .l 1 (((ts.take 6).map fT7).map eTr)] from rfl]
  simp only [eM]
  generalize (ts.take 6).map fT7 = F at *
  by_cases c1 : (i : Int) < (ts.length : Int)
  ·have c2 : ¬ (i : Int) < 6 := by omega
   rw [LP_go FF b209_0.eq_1]
   simp only [RB, RL, un, St.none, Nat.reduceEqDiff, Nat.reduceAdd, Nat.reduceMul, Nat.reduceMod, Nat.reduceLeDiff, Nat.reduceLT, Int.reduceLT, Int.reduceLE, Int.reduceEq, Int.reduceToNat, Int.reduceSub, Int.reduceNeg, Int.reduceAdd, ↓reduceIte, reduceCtorEq, pack, pid, parN, lid, chkK, apartV, Heap.none, c1, c2, eTr_rules, eTr_row, nJ, nK, Row.freeze, zh]
  ·rw [LP_go FF b209_0.eq_1]
   simp only [RB, RL, un, St.none, Nat.reduceEqDiff, Nat.reduceAdd, Nat.reduceMul, Nat.reduceMod, Nat.reduceLeDiff, Nat.reduceLT, Int.reduceLT, Int.reduceLE, Int.reduceEq, Int.reduceToNat, Int.reduceSub, Int.reduceNeg, Int.reduceAdd, ↓reduceIte, reduceCtorEq, pack, pid, parN, lid, chkK, apartV, Heap.none, c1, eTr_rules, eTr_row, nJ, nK, Row.freeze, zh]
 | succ d ih =>
  intro i hi
  have hlt : i < ts.length := by omega
  have h9 := ih (i + 1) (by omega)
  have hx := hu _ (getD_mem' ([] : List RNd) hlt)
  have l1 := few07_l1 (f := f) (ts := ts) (i := i) (acc := (ts.take i).map fT7) hlt hx.2 hx.1 (min (ts.getD i []).length 15) 0 (by omega)
  rw [List.take_zero, Int.ofNat_zero] at l1
  simp only [List.map_nil] at l1
  have ht : (ts.take (i + 1)).map fT7 = (ts.take i).map fT7 ++ [fT7 (ts.getD i [])] := by
   rw [List.take_add_one, zg hlt, List.map_append, za, zg hlt]
   rfl
  rw [ht] at h9
  have hlen : ((ts.take i).map fT7).length = i := by rw [zq, zj]; omega
  have c1 : (i : Int) < (ts.length : Int) := by omega
  have c2 : (i : Int) < 6 := by omega
  have e2 : IntKind.i64.wrap ((i : Int) + 1) = ((i + 1 : Nat) : Int) := w64succ (by omega)
  have b2 : (i + 1) * 24 ≤ 140737488355328 := by omega
  generalize (ts.take i).map fT7 = A at *
  generalize fT7 (ts.getD i []) = x at *
  have m2 : List.take (i + 1) (A ++ [x]) = A ++ [x] := zf (by rw [zk, hlen]; exact zp _)
  have m3 : List.take i A = A := zf (by omega)
  have m1 : List.map eTr A ++ [[AV.l 14 (x.map eNd)]] = List.map eTr (A ++ [x]) := by rw [List.map_append (f := eTr)]; rfl
  simp only [eM] at l1 h9 ⊢
  rw [LP_go FF b209_0.eq_1]
  simp only [RB, RL, un, St.none, Nat.reduceEqDiff, Nat.reduceAdd, Nat.reduceMul, Nat.reduceMod, Nat.reduceLeDiff, Nat.reduceLT, Int.reduceLT, Int.reduceLE, Int.reduceEq, Int.reduceToNat, Int.reduceSub, Int.reduceNeg, Int.reduceAdd, ↓reduceIte, reduceCtorEq, pack, pid, parN, lid, chkK, apartV, Heap.none, c1, c2, eTr_rules, eTr_row, ze, nJ, nK, Row.freeze, l1, e2, hlen, b2, m3, m1, m2]
  exact h9
theorem few07_c {m : RM} (h : OkM m) : R FF 209 [.agg (eM m)] = some (.agg (eM (fM7 m))) := by
 obtain ⟨f, ts⟩ := m
 have l0 := few07_l0 (f := f) (ts := ts) h.2.2 h.2.1 (min ts.length 6) 0 (by omega)
 rw [List.take_zero, Int.ofNat_zero] at l0
 simp only [List.map_nil] at l0
 generalize fM7 (f, ts) = F at *
 obtain ⟨g, us⟩ := F
 simp only [eM] at l0 ⊢
 rw [R_go FF F209 c209.eq_1]
 simp only [RB, RL, un, St.none, Nat.reduceEqDiff, Nat.reduceAdd, Nat.reduceMul, Nat.reduceMod, Nat.reduceLeDiff, Nat.reduceLT, Int.reduceLT, Int.reduceLE, Int.reduceEq, Int.reduceToNat, Int.reduceSub, Int.reduceNeg, Int.reduceAdd, ↓reduceIte, reduceCtorEq, pack, pid, parN, lid, chkK, apartV, Heap.none, l0, nJ, nK, n64, eTr_rules, eTr_row]
structure OkT (ts : List (List RNd)) (f : Int) (k : Nat) : Prop where
 n : ts.length ≤ 6
 gt : ∀ t ∈ ts, ∃ T : TT, GT t f T
 len : ∀ t ∈ ts, t.length ≤ 1000
 sm : ∀ t ∈ ts, SmT t k
theorem drop_getD {α : Type} {l : List α} (d : α) {j : Nat} (h : j < l.length) : l.drop j = l.getD j d :: l.drop (j + 1) := by
 rw [za, zg h]
 exact List.drop_eq_getElem_cons h
structure Fw (m : RM) (k : Nat) : Prop where
 n : m.2.length ≤ 6
 len : ∀ t ∈ m.2, t.length ≤ 1000
 sm : ∀ t ∈ m.2, SmT t k
theorem Fw.smM {m : RM} {k : Nat} (h : Fw m k) : SmM m k := ⟨by have := h.n; omega, fun t ht => ⟨by have := h.len t ht; omega, h.sm t ht⟩⟩
def ovE : Nat → List AV → Option AV :=
 ovF 31 (two fun x y => encQ (x + y)) <| ovF 55 (two fun x y => encQ (x - y)) <| ovF 14 (two fun x y => some (AV.i .i64 (qcmp x y))) <| ovF 57 (two fun x y => some (.b (decide (x = y)))) <| ovF 162 (one fun x => some (AV.i .i64 (cmp x.num 0))) <|
 ovF 63 (one encQ) <| ovF 68 ofG <| ovF 54 (nilG 0) <| ovF 56 (nilG 1) nothing
theorem ovE_ok : LeC ovE (R FF) :=
 ovF_ok ov_add <| ovF_ok ov_sub <| ovF_ok ov_cmp <| ovF_ok ov_same <| ovF_ok ov_sign <| ovF_ok ov_clean <| ovF_ok ov_of <| ovF_ok ov_zero <| ovF_ok ov_one nothing_ok
theorem runE {k f : Nat} {xs : List AV} {v : AV} (h : runV ovE FF k f xs = some v) : R FF f xs = some v := runV_ok ovE_ok k f xs v h
theorem awake24e : R FF 199 [] = some (.b true) := runE (k := 30) (by kernel_rfl)
def fM9 (m : RM) : RM := (m.1, (fM7 m).2.take 3)
theorem SmQ.mono {x : RQt} {k j : Nat} (h : SmQ x k) (hj : k ≤ j) : SmQ x j := Sm.mono h hj
theorem SmR.mono {r : List RC} {k j : Nat} (h : SmR r k) (hj : k ≤ j) : SmR r j := fun x hx => (h x hx).mono hj
theorem fM7_fw {m : RM} (h : OkM m) : Fw (fM7 m) 4 := by
 have h2 := fM7_sm h
 refine ⟨?_, fun t ht => ?_, fun t ht => (h2.2 t ht).2⟩
 ·show ((m.2.take 6).map fT7).length ≤ 6
  rw [zq]; exact List.length_take_le _ _
 ·obtain ⟨s, hs, rfl⟩ := List.mem_map.1 (show t ∈ (m.2.take 6).map fT7 from ht)
  have := fT7_len s
  omega
theorem fM9_fw {m : RM} (h : OkM m) : Fw (fM9 m) 4 := by
 have h2 := fM7_fw h
 exact ⟨by show ((fM7 m).2.take 3).length ≤ 6; rw [zj]; omega, fun t ht => h2.len t (List.mem_of_mem_take ht), fun t ht => h2.sm t (List.mem_of_mem_take ht)⟩
theorem small11_c {m : RM} {row : List RC} (h : OkM m) (hr : row.length ≤ maxL ∧ ∀ x ∈ row, OkC x) : R FF 203 [.agg (eM m), .l 4 (row.map eC)] = some (.tup [.agg (eM (fM9 m)), .l 4 ((fw 70 row).map eC)]) := by
 have f1 := few07_c h
 have f2 := few09_c (n := 70) (by omega) hr.2 hr.1
 rw [show (row.take 70).map t3 = fw 70 row from rfl] at f2
 unfold fM9
 generalize fw 70 row = w at *
 obtain ⟨us, hu⟩ : ∃ us, (fM7 m).2 = us := ⟨_, rfl⟩
 rw [show fM7 m = (m.1, us) by rw [← hu]; rfl] at f1
 rw [hu]
 obtain ⟨mf, ts⟩ := m
 simp only [eM] at f1 ⊢
 have f2 : R FF 29 [.l 4 (row.map eC), (AV.i .i64 70)] = some (.l 4 (w.map eC)) := f2
 have c3 : (3 : Int).toNat = 3 := rfl
 by_cases c1 : 3 < (us.length : Int)
 ·have c2 : (3 : Int) ≤ (us.length : Int) := by omega
  rw [R_go FF F203 c203.eq_1]
  simp only [RB, RL, un, St.none, Nat.reduceEqDiff, Nat.reduceAdd, Nat.reduceMul, Nat.reduceMod, Nat.reduceLeDiff, Nat.reduceLT, Int.reduceLT, Int.reduceLE, Int.reduceEq, Int.reduceToNat, Int.reduceSub, Int.reduceNeg, Int.reduceAdd, ↓reduceIte, reduceCtorEq, pack, pid, parN, lid, chkK, apartV, Heap.none, f1, f2, c1, c2, c3, eTr_rules, eTr_row, eC_rules, eC_row, n64, List.drop_zero, ← List.map_take, zj]
 ·rw [zf (by omega)]
  rw [R_go FF F203 c203.eq_1]
  simp only [RB, RL, un, St.none, Nat.reduceEqDiff, Nat.reduceAdd, Nat.reduceMul, Nat.reduceMod, Nat.reduceLeDiff, Nat.reduceLT, Int.reduceLT, Int.reduceLE, Int.reduceEq, Int.reduceToNat, Int.reduceSub, Int.reduceNeg, Int.reduceAdd, ↓reduceIte, reduceCtorEq, pack, pid, parN, lid, chkK, apartV, Heap.none, f1, f2, c1, eTr_rules, eTr_row, eC_rules, eC_row, n64]
theorem holds24_c {b : List RS} {r : List RC} {k : Nat} (hk : k ≤ 100000000000) (hr : r.length ≤ 100000000000) (h1 : SmB b k) (h2 : SmR r k) : R FF 200 [.l 9 (b.map eS), .l 4 (r.map eC)] = some (.b (inB b r)) := by
 have c1 := Holds23_c hk hr h1 h2
 rw [R_go FF F200 c200.eq_1]
 simp only [RB, RL, un, St.none, Nat.reduceEqDiff, Nat.reduceAdd, Nat.reduceMul, Nat.reduceMod, Nat.reduceLeDiff, Nat.reduceLT, Int.reduceLT, Int.reduceLE, Int.reduceEq, Int.reduceToNat, Int.reduceSub, Int.reduceNeg, Int.reduceAdd, ↓reduceIte, reduceCtorEq, pack, pid, parN, lid, chkK, apartV, Heap.none, c1, eS_rules, eS_row, eC_rules, eC_row]
theorem fw6_sm {row : List RC} (hr : row.length ≤ maxL ∧ ∀ x ∈ row, OkC x) (n : Nat) : SmR (fw n row) 4 := (few_smR hr.2 n).mono (by omega)
theorem fw6_len (row : List RC) (n : Nat) : (fw n row).length ≤ n := by unfold fw; rw [zq]; exact List.length_take_le _ _
theorem ballw_l0 {n : Nat} (hn : n ≤ 100000000000) : ∀ (d i : Nat), i + d = n →
  LP FF [(3, 1), (4, 0), (5, 0)] [(3, 1)] b327_0 [.own true 9 ((zi i (none9 true)).map eS), (AV.i .i64 ((n : Int))), (AV.i .i64 ((i : Int)))] = some (.exit 0, [.own true 9 ((zi n (none9 true)).map eS)]) := by
 intro d
 induction d with
 | zero =>
  intro i hi
  obtain rfl : i = n := by omega
  have c1 : ¬ (i : Int) < (i : Int) := by omega
  have t1 : List.take i (zi i (none9 true)) = zi i (none9 true) := zf (by rw [zl]; exact zp _)
  have hlen : (zi i (none9 true)).length = i := zl
  generalize zi i (none9 true) = L at *
  rw [LP_go FF b327_0.eq_1]
  simp only [RB, RL, un, St.none, Nat.reduceEqDiff, Nat.reduceAdd, Nat.reduceMul, Nat.reduceMod, Nat.reduceLeDiff, Nat.reduceLT, Int.reduceLT, Int.reduceLE, Int.reduceEq, Int.reduceToNat, Int.reduceSub, Int.reduceNeg, Int.reduceAdd, ↓reduceIte, reduceCtorEq, pack, pid, parN, lid, chkK, apartV, Heap.none, c1, eS_rules, eS_row, t1, hlen]
 | succ d ih =>
  intro i hi
  have h9 := ih (i + 1) (by omega)
  have c1 : (i : Int) < (n : Int) := by omega
  have e1 : IntKind.i64.wrap ((i : Int) + 1) = ((i + 1 : Nat) : Int) := w64succ (by omega)
  have ev := every_c
  rw [List.replicate_succ'] at h9
  have hlen : (zi i (none9 true)).length = i := zl
  have b2 : (i + 1) * 128 ≤ 140737488355328 := by omega
  have m2 : ∀ y : RS, List.take (i + 1) (zi i (none9 true) ++ [y]) = zi i (none9 true) ++ [y] := fun y => zf (by rw [zk, hlen]; simp)
  have m3 : List.take i (zi i (none9 true)) = zi i (none9 true) := zf (by omega)
  have m1 : ∀ y : RS, List.map eS (zi i (none9 true)) ++ [[.b y.1, .b y.2.1, .b y.2.2.1.1, .l 1 (y.2.2.1.2.1.map u), .l 1 (y.2.2.1.2.2.map u), .b y.2.2.2.1.1, .l 1 (y.2.2.2.1.2.1.map u), .l 1 (y.2.2.2.1.2.2.map u), .b y.2.2.2.2]] = List.map eS (zi i (none9 true) ++ [y]) := fun y => by rw [List.map_append]; rfl
  have m1' := m1 (none9 true)
  generalize zi i (none9 true) = L at *
  rw [eS] at ev
  generalize none9 true = y at *
  rw [LP_go FF b327_0.eq_1]
  simp only [RB, RL, un, St.none, Nat.reduceEqDiff, Nat.reduceAdd, Nat.reduceMul, Nat.reduceMod, Nat.reduceLeDiff, Nat.reduceLT, Int.reduceLT, Int.reduceLE, Int.reduceEq, Int.reduceToNat, Int.reduceSub, Int.reduceNeg, Int.reduceAdd, ↓reduceIte, reduceCtorEq, pack, pid, parN, lid, chkK, apartV, Heap.none, c1, eS_rules, eS_row, ze, ev, e1, hlen, b2, m3, m1', m2]
  exact h9
theorem ballw_c {n : Nat} (hn : n ≤ 100000000000) : R FF 327 [(AV.i .i64 ((n : Int)))] = some (.own true 9 ((zi n (none9 true)).map eS)) := by
 have l0 := ballw_l0 hn n 0 (by omega)
 rw [Int.ofNat_zero, List.replicate_zero, List.map_nil] at l0
 have t1 : List.take n (zi n (none9 true)) = zi n (none9 true) := zf (by rw [zl]; exact zp _)
 have hlen : (zi n (none9 true)).length = n := zl
 generalize zi n (none9 true) = L at *
 rw [R_go FF F327 c327.eq_1]
 simp only [RB, RL, un, St.none, Nat.reduceEqDiff, Nat.reduceAdd, Nat.reduceMul, Nat.reduceMod, Nat.reduceLeDiff, Nat.reduceLT, Int.reduceLT, Int.reduceLE, Int.reduceEq, Int.reduceToNat, Int.reduceSub, Int.reduceNeg, Int.reduceAdd, ↓reduceIte, reduceCtorEq, pack, pid, parN, lid, chkK, apartV, Heap.none, l0, eS_rules, eS_row, t1, hlen, zq, List.drop_zero]
theorem withw_c {b : List RS} {i : Nat} {s : RS} {k : Nat} (hk : k ≤ 100000000000) (hs : SmS s k) (hi : i < b.length) (hn : b.length ≤ 100000000000) : R FF 328 [.l 9 (b.map eS), (AV.i .i64 ((i : Int))), .agg (eS s)] = some (.tup [.own true 9 ((b.set i (cS s)).map eS), (AV.i .i64 0)]) := by
 have g1 := bclean_c hk hs
 have c1 : ¬ (i : Int) < 0 := by omega
 have c2 : ¬ (b.length : Int) ≤ (i : Int) := by omega
 have c3 : (i : Int) < (b.length : Int) := by omega
 have b2 : b.length * 128 ≤ 140737488355328 := by omega
 have pu : putC 9 (List.map eS b) i 0 (eS (cS s)) = (b.set i (cS s)).map eS := putC_map eS 9 b i (cS s) rfl
 have hl : (b.set i (cS s)).length = b.length := zw
 have t1 : List.take b.length (b.set i (cS s)) = b.set i (cS s) := zf (by rw [hl]; exact zp _)
 generalize b.set i (cS s) = L at *
 rw [eS, eS] at g1
 rw [eS] at pu
 rw [eS]
 rw [R_go FF F328 c328.eq_1]
 simp only [RB, RL, un, St.none, Nat.reduceEqDiff, Nat.reduceAdd, Nat.reduceMul, Nat.reduceMod, Nat.reduceLeDiff, Nat.reduceLT, Int.reduceLT, Int.reduceLE, Int.reduceEq, Int.reduceToNat, Int.reduceSub, Int.reduceNeg, Int.reduceAdd, ↓reduceIte, reduceCtorEq, pack, pid, parN, lid, chkK, apartV, Heap.none, c1, c2, c3, eS_rules, eS_row, ze, g1, b2, hi, pu, hl, t1, zq, List.drop_zero, zh]
theorem partw_c {b : List RS} {n : RNd} {left : Bool} {k : Nat} (hk : k ≤ 100000000000) (h1k : 1 ≤ k) (hB : SmB b k) (hc : SmQ n.cut k) (h0 : 0 ≤ n.ft) (hf : n.ft.toNat < b.length) (hn : b.length ≤ 1000) (he : empV (sdV b n left) = false) :
  R FF 330 [.l 9 (b.map eS), .agg (eNd n), .b left] = some (.tup [.own true 9 ((partB b n left).map eS), .b true]) := by
 have hs := hB _ (getD_mem' dS hf)
 have f1 := above_c (mi := !n.miss) hk h1k hs hc
 have f2 := below_c (mi := n.miss) hk h1k hs hc
 have g1 := abv_sm (mi := !n.miss) hs hc h1k
 have g2 := bel_sm (mi := n.miss) hs hc h1k
 have e0 : sdV b n left = if left then belV (b.getD n.ft.toNat dS) n.cut n.miss else abvV (b.getD n.ft.toNat dS) n.cut (!n.miss) := rfl
 unfold partB
 have ft : ((n.ft.toNat : Nat) : Int) = n.ft := by omega
 have c2 : n.ft < (b.length : Int) := by omega
 obtain ⟨lf, fx, c, a', b', m, v, w⟩ := n
 simp only at f1 f2 g1 g2 e0 ft c2 h0 hf ⊢
 have hlen : ∀ s, (b.set fx.toNat s).length = b.length := fun s => zw
 cases left
 ·rw [if_neg (by decide)] at e0
  rw [e0] at he ⊢
  have f3 := empty_c hk g1
  have f4 := withw_c hk g1 hf (by omega)
  rw [ft] at f4
  rw [he] at f3
  have hL := hlen (cS (abvV (b.getD fx.toNat dS) c (!m)))
  generalize b.set fx.toNat (cS (abvV (b.getD fx.toNat dS) c (!m))) = L at *
  generalize abvV (b.getD fx.toNat dS) c (!m) = s at *
  simp only [eNd, eS, eQ] at f1 f3 f4 ⊢
  rw [R_go FF F330 c330.eq_1]
  simp only [RB, RL, un, St.none, Nat.reduceEqDiff, Nat.reduceAdd, Nat.reduceMul, Nat.reduceMod, Nat.reduceLeDiff, Nat.reduceLT, Int.reduceLT, Int.reduceLE, Int.reduceEq, Int.reduceToNat, Int.reduceSub, Int.reduceNeg, Int.reduceAdd, ↓reduceIte, reduceCtorEq, pack, pid, parN, lid, chkK, apartV, Heap.none, f1, f3, f4, h0, c2, eS_rules, eS_row, n64, zq, List.drop_zero, zh]
 ·rw [if_pos rfl] at e0
  rw [e0] at he ⊢
  have f3 := empty_c hk g2
  have f4 := withw_c hk g2 hf (by omega)
  rw [ft] at f4
  rw [he] at f3
  have hL := hlen (cS (belV (b.getD fx.toNat dS) c m))
  generalize b.set fx.toNat (cS (belV (b.getD fx.toNat dS) c m)) = L at *
  generalize belV (b.getD fx.toNat dS) c m = s at *
  generalize abvV (b.getD fx.toNat dS) c (!m) = s' at *
  simp only [eNd, eS, eQ] at f1 f2 f3 f4 ⊢
  rw [R_go FF F330 c330.eq_1]
  simp only [RB, RL, un, St.none, Nat.reduceEqDiff, Nat.reduceAdd, Nat.reduceMul, Nat.reduceMod, Nat.reduceLeDiff, Nat.reduceLT, Int.reduceLT, Int.reduceLE, Int.reduceEq, Int.reduceToNat, Int.reduceSub, Int.reduceNeg, Int.reduceAdd, ↓reduceIte, reduceCtorEq, pack, pid, parN, lid, chkK, apartV, Heap.none, f1, f2, f3, f4, h0, c2, eS_rules, eS_row, n64, zq, List.drop_zero, zh]
def wyT (t : List RNd) (row : List RC) : TT → List Nat
 | .lf _ => []
 | .nd a l r => if goN (t.getD a dNd) row then wyV t row l else wyV t row r
theorem wy_top (t : List RNd) (row : List RC) (T : TT) : wyV t row T = T.top :: wyT t row T := by cases T <;> rfl
theorem rway_l0 {t : List RNd} {row : List RC} {f : Int} {k : Nat} (hk : k ≤ 10000000000) (ht : t.length ≤ 1000) (hs : SmT t k) (hr : SmR row k) (hrg : t.any (bdR t.length f) = false) (hf : (row.length : Int) = f) : ∀ (T : TT) (acc : List Nat), UN t T → acc.length + T.pre.length ≤ 2000 →
  LP FF [(7, 1), (0, 0), (1, 0), (6, 0)] [(7, 0)] b228_0 [.own true 1 (acc.map eX), .l 14 (t.map eNd), .l 4 (row.map eC), (AV.i .i64 ((T.top : Int)))] = some (.exit 0, [.l 1 ((acc ++ wyT t row T).map eX)])
 | .lf a, acc, h, hp => by
  have c1 : (a : Int) < (t.length : Int) := by have := h.1; omega
  have hl := h.2
  show LP FF [(7, 1), (0, 0), (1, 0), (6, 0)] [(7, 0)] b228_0 [.own true 1 (acc.map eX), .l 14 (t.map eNd), .l 4 (row.map eC), (AV.i .i64 ((a : Int)))] = some (.exit 0, [.l 1 ((acc ++ []).map eX)])
  rw [List.append_nil]
  rw [LP_go FF b228_0.eq_1]
  simp only [RB, RL, un, St.none, Nat.reduceEqDiff, Nat.reduceAdd, Nat.reduceMul, Nat.reduceMod, Nat.reduceLeDiff, Nat.reduceLT, Int.reduceLT, Int.reduceLE, Int.reduceEq, Int.reduceToNat, Int.reduceSub, Int.reduceNeg, Int.reduceAdd, ↓reduceIte, reduceCtorEq, pack, pid, parN, lid, chkK, apartV, Heap.none, c1, hl, n64, eNd_rules, eNd_row, eX_rules, eX_row, eC_rules, eC_row, ze, zh, Row.freeze]
 | .nd a l r, acc, h, hp => by
  obtain ⟨h1, h2, h3, h4, h5, h6⟩ := h
  have hlen : (TT.nd a l r).pre.length = r.pre.length + l.pre.length + 1 := by rw [TT.pre, zu, zk]
  have hrn := rng_of hrg (getD_mem' dNd h1) h2
  have f1 := rnext_c (n := t.getD a dNd) (row := row) hk (hs _ (getD_mem' dNd h1)).2.1 hr hrn.1 (by omega)
  have c1 : (a : Int) < (t.length : Int) := by omega
  have hal : (acc.length + 1) * 8 ≤ 140737488355328 := by omega
  show LP FF [(7, 1), (0, 0), (1, 0), (6, 0)] [(7, 0)] b228_0 [.own true 1 (acc.map eX), .l 14 (t.map eNd), .l 4 (row.map eC), (AV.i .i64 ((a : Int)))] = some (.exit 0, [.l 1 ((acc ++ if goN (t.getD a dNd) row then wyV t row l else wyV t row r).map eX)])
  cases hg : goN (t.getD a dNd) row with
  | true =>
   rw [hg, if_pos rfl] at f1
   rw [if_pos rfl]
   have i1 := rway_l0 hk ht hs hr hrg hf l (acc ++ [l.top]) h5 (by rw [zk, List.length_singleton]; omega)
   rw [List.append_assoc, List.singleton_append, ← wy_top] at i1
   rw [show (t.getD a dNd).lft = (l.top : Int) by rw [h3]; omega] at f1
   have m1 := snoc_X acc l.top
   have m2 := take_snocX acc l.top
   generalize acc ++ wyV t row l = Z at *
   rw [LP_go FF b228_0.eq_1]
   simp only [RB, RL, un, St.none, Nat.reduceEqDiff, Nat.reduceAdd, Nat.reduceMul, Nat.reduceMod, Nat.reduceLeDiff, Nat.reduceLT, Int.reduceLT, Int.reduceLE, Int.reduceEq, Int.reduceToNat, Int.reduceSub, Int.reduceNeg, Int.reduceAdd, ↓reduceIte, reduceCtorEq, pack, pid, parN, lid, chkK, apartV, Heap.none, c1, h2, f1, n64, eNd_rules, eNd_row, eX_rules, eX_row, eC_rules, eC_row, ze, hal, m1, m2, zh]
   exact i1
  | false =>
   rw [hg, if_neg (show ¬ false = true by decide)] at f1
   rw [if_neg (show ¬ false = true by decide)]
   have i1 := rway_l0 hk ht hs hr hrg hf r (acc ++ [r.top]) h6 (by rw [zk, List.length_singleton]; omega)
   rw [List.append_assoc, List.singleton_append, ← wy_top] at i1
   rw [show (t.getD a dNd).rgt = (r.top : Int) by rw [h4]; omega] at f1
   have m1 := snoc_X acc r.top
   have m2 := take_snocX acc r.top
   generalize acc ++ wyV t row r = Z at *
   rw [LP_go FF b228_0.eq_1]
   simp only [RB, RL, un, St.none, Nat.reduceEqDiff, Nat.reduceAdd, Nat.reduceMul, Nat.reduceMod, Nat.reduceLeDiff, Nat.reduceLT, Int.reduceLT, Int.reduceLE, Int.reduceEq, Int.reduceToNat, Int.reduceSub, Int.reduceNeg, Int.reduceAdd, ↓reduceIte, reduceCtorEq, pack, pid, parN, lid, chkK, apartV, Heap.none, c1, h2, f1, n64, eNd_rules, eNd_row, eX_rules, eX_row, eC_rules, eC_row, ze, hal, m1, m2, zh]
   exact i1
theorem rway_c {t : List RNd} {row : List RC} {k : Nat} {T : TT} (hk : k ≤ 10000000000) (h1k : 1 ≤ k) (ht : t.length ≤ 1000) (hs : SmT t k) (hr : SmR row k) (hv : VM (((row.length : Nat) : Int), [t])) (hT : GT t ((row.length : Nat) : Int) T) :
  R FF 228 [.l 14 (t.map eNd), .l 4 (row.map eC)] = some (.tup [.l 1 ((wyV t row T).map eX), (AV.i .i64 0)]) := by
 obtain ⟨c, f1, f2⟩ := vtree_c (t := t) (f := ((row.length : Nat) : Int)) (k := k) hk h1k (by omega) hs
 have hc : c = true := f2.2 hv
 subst hc
 have hle := hT.le
 have l0 := rway_l0 hk ht hs hr hT.rg rfl T [0] hT.un (by show 1 + _ ≤ 2000; omega)
 rw [hT.top, Int.ofNat_zero, show ([0] ++ wyT t row T) = wyV t row T by rw [wy_top, hT.top]; rfl] at l0
 change LP FF [(7, 1), (0, 0), (1, 0), (6, 0)] [(7, 0)] b228_0 [.own true 1 [[(AV.i .i64 0)]], .l 14 (t.map eNd), .l 4 (row.map eC), (AV.i .i64 0)] = _ at l0
 generalize wyV t row T = Z at *
 rw [R_go FF F228 c228.eq_1]
 simp only [RB, RL, un, St.none, Nat.reduceEqDiff, Nat.reduceAdd, Nat.reduceMul, Nat.reduceMod, Nat.reduceLeDiff, Nat.reduceLT, Int.reduceLT, Int.reduceLE, Int.reduceEq, Int.reduceToNat, Int.reduceSub, Int.reduceNeg, Int.reduceAdd, ↓reduceIte, reduceCtorEq, pack, pid, parN, lid, chkK, apartV, Heap.none, f1, l0, n64, eNd_rules, eNd_row, eX_rules, eX_row, eC_rules, eC_row, zh, List.drop_zero]
noncomputable def wyR (m : RM) (row : List RC) : Int := @ite _ (VM m) (Classical.propDecidable _) (if (row.length : Int) = m.1 then 0 else 14) 1
theorem wyR_zero {m : RM} {row : List RC} (h : wyR m row = 0) : VM m ∧ (row.length : Int) = m.1 := by
 unfold wyR at h
 by_cases hv : VM m
 ·rw [if_pos hv] at h
  split at h
  ·rename_i hl; exact ⟨hv, hl⟩
  ·omega
 ·rw [if_neg hv] at h; omega
theorem rFits_c {m : RM} {row : List RC} {k : Nat} (hk : k ≤ 10000000000) (h1k : 1 ≤ k) (hm : SmM m k) : R FF 227 [.agg (eM m), .l 4 (row.map eC)] = some (AV.i .i64 ((wyR m row))) := by
 obtain ⟨e, f1, a1, a2, a3⟩ := rfits_c (row := row) hk h1k hm
 have he : e = wyR m row := by
  unfold wyR
  by_cases hv : VM m
  ·rw [if_pos hv]
   by_cases hl : (row.length : Int) = m.1
   ·rw [if_pos hl]; exact a1 hv hl
   ·rw [if_neg hl]; exact a3 hv hl
  ·rw [if_neg hv]; exact a2 hv
 rw [← he]
 obtain ⟨mf, ts⟩ := m
 simp only [eM] at f1 ⊢
 rw [R_go FF F227 c227.eq_1]
 simp only [RB, RL, un, St.none, Nat.reduceEqDiff, Nat.reduceAdd, Nat.reduceMul, Nat.reduceMod, Nat.reduceLeDiff, Nat.reduceLT, Int.reduceLT, Int.reduceLE, Int.reduceEq, Int.reduceToNat, Int.reduceSub, Int.reduceNeg, Int.reduceAdd, ↓reduceIte, reduceCtorEq, pack, pid, parN, lid, chkK, apartV, Heap.none, f1, eTr_rules, eTr_row, eC_rules, eC_row, n64]
theorem why10_c {m : RM} {row : List RC} {k : Nat} (hk : k ≤ 10) (h1k : 1 ≤ k) (hm : Fw m k) : R FF 205 [.agg (eM m), .l 4 (row.map eC)] = some (AV.i .i64 ((wyR m row))) := by
 obtain ⟨c, f1, f2⟩ := ok_c (m := m) (k := k) (by omega) h1k (by have := hm.n; omega) (fun t ht => ⟨by have := hm.len t ht; omega, hm.sm t ht⟩)
 unfold wyR
 by_cases hv : VM m
 ·rw [if_pos hv]
  have hc : c = true := f2.2 hv
  subst hc
  obtain ⟨mf, ts⟩ := m
  simp only [eM] at f1 ⊢
  by_cases hl : (row.length : Int) = mf
  ·rw [if_pos hl]
   rw [R_go FF F205 c205.eq_1]
   simp only [RB, RL, un, St.none, Nat.reduceEqDiff, Nat.reduceAdd, Nat.reduceMul, Nat.reduceMod, Nat.reduceLeDiff, Nat.reduceLT, Int.reduceLT, Int.reduceLE, Int.reduceEq, Int.reduceToNat, Int.reduceSub, Int.reduceNeg, Int.reduceAdd, ↓reduceIte, reduceCtorEq, pack, pid, parN, lid, chkK, apartV, Heap.none, f1, hl, eTr_rules, eTr_row, eC_rules, eC_row, n64]
  ·rw [if_neg hl]
   rw [R_go FF F205 c205.eq_1]
   simp only [RB, RL, un, St.none, Nat.reduceEqDiff, Nat.reduceAdd, Nat.reduceMul, Nat.reduceMod, Nat.reduceLeDiff, Nat.reduceLT, Int.reduceLT, Int.reduceLE, Int.reduceEq, Int.reduceToNat, Int.reduceSub, Int.reduceNeg, Int.reduceAdd, ↓reduceIte, reduceCtorEq, pack, pid, parN, lid, chkK, apartV, Heap.none, f1, hl, eTr_rules, eTr_row, eC_rules, eC_row, n64]
 ·rw [if_neg hv]
  have hc : c = false := by
   cases c
   ·rfl
   ·exact (hv (f2.1 rfl)).elim
  subst hc
  obtain ⟨mf, ts⟩ := m
  simp only [eM] at f1 ⊢
  rw [R_go FF F205 c205.eq_1]
  simp only [RB, RL, un, St.none, Nat.reduceEqDiff, Nat.reduceAdd, Nat.reduceMul, Nat.reduceMod, Nat.reduceLeDiff, Nat.reduceLT, Int.reduceLT, Int.reduceLE, Int.reduceEq, Int.reduceToNat, Int.reduceSub, Int.reduceNeg, Int.reduceAdd, ↓reduceIte, reduceCtorEq, pack, pid, parN, lid, chkK, apartV, Heap.none, f1, eTr_rules, eTr_row, eC_rules, eC_row, n64]
theorem vm_ft {m : RM} (h : VM m) : 0 ≤ m.1 ∧ m.1 ≤ 64 := by
 have h2 := h.fit
 unfold fitB at h2
 simp only [Bool.not_eq_true', Bool.or_eq_false_iff, decide_eq_false_iff_not] at h2
 omega
theorem vm_one {m : RM} (h : VM m) {t : List RNd} (ht : t ∈ m.2) : VM (m.1, [t]) := by
 refine ⟨?_, fun s hs => by rw [List.mem_singleton.1 hs]; exact h.all t ht⟩
 have h2 := h.fit
 unfold fitB at h2 ⊢
 simp only [Bool.not_eq_true', Bool.or_eq_false_iff, decide_eq_false_iff_not, List.any_eq_false] at h2
 have h3 := h2.2 t ht
 simp only [Bool.not_eq_true', Bool.or_eq_false_iff, decide_eq_false_iff_not, List.any_cons, List.any_nil, Bool.or_false, List.length_singleton]
 exact ⟨⟨⟨h2.1.1.1, h2.1.1.2⟩, by omega⟩, by simpa using h3⟩
def SpL (t : List RNd) (P : List Nat) : Prop := ∀ a ∈ P, a < t.length ∧ (t.getD a dNd).leaf = false
theorem wy_spl (t : List RNd) (row : List RC) : ∀ (T : TT), UN t T → SpL t ((wyV t row T).take ((wyV t row T).length - 1))
 | .lf a, h => fun x hx => (List.not_mem_nil hx).elim
 | .nd a l r, h => by
  obtain ⟨h1, h2, h3, h4, h5, h6⟩ := h
  have w1 := (wy_len t row l).1
  have w2 := (wy_len t row r).1
  rw [wyV, zu]
  intro x hx
  split at hx
  ·rw [show (wyV t row l).length + 1 - 1 = (wyV t row l).length - 1 + 1 by omega, List.take_succ_cons] at hx
   rcases List.mem_cons.1 hx with rfl | hx
   ·exact ⟨h1, h2⟩
   ·exact wy_spl t row l h5 x hx
  ·rw [show (wyV t row r).length + 1 - 1 = (wyV t row r).length - 1 + 1 by omega, List.take_succ_cons] at hx
   rcases List.mem_cons.1 hx with rfl | hx
   ·exact ⟨h1, h2⟩
   ·exact wy_spl t row r h6 x hx
theorem cl_sm {t : List RNd} {row : List RC} {f : Int} {k : Nat} (h1k : 1 ≤ k) (hs : SmT t k) (hrg : t.any (bdR t.length f) = false) : ∀ (P : List Nat) (b : List RS), SpL t P → (b.length : Int) = f → SmB b k → SmB (clT t row P b) k := by
 intro P
 induction P with
 | nil => intro b _ _ h; exact h
 | cons a P ih =>
  intro b hP hb hB
  have ha := hP a (zn ..)
  refine ih _ (fun x hx => hP x (zm _ hx)) (by rw [prtB_len]; exact hb) (part_sm hB (hs _ (getD_mem' dNd ha.1)).2.1 h1k (un_ft hrg hb ha.1 ha.2).1)
theorem cell_l1 {t : List RNd} {row : List RC} {us : List (List RNd)} {f n i : Int} {k : Nat} {P : List Nat} (hk : k ≤ 1000000) (h1k : 1 ≤ k) (ht : t.length ≤ 1000) (hs : SmT t k) (hr : SmR row k) (hrg : t.any (bdR t.length f) = false) (hf : (row.length : Int) = f) (hrl : row.length ≤ 1000) (hP : SpL t P) (hPl : P.length ≤ 1000) : ∀ (d j : Nat) (b : List RS), j + d = P.length → (b.length : Int) = f → SmB b k → inB b row = true →
  LP FF [(7, 1), (1, 0), (9, 0), (25, 0), (26, 0), (27, 0), (41, 0), (42, 0), (43, 0)] [(7, 1), (1, 0), (25, 0), (26, 0), (27, 0)] b329_1 [.own true 9 (b.map eS), .l 4 (row.map eC), .l 14 (t.map eNd), .l 1 (us.map eTr), (AV.i .i64 n), (AV.i .i64 i), .l 1 (P.map eX), (AV.i .i64 ((P.length : Int))), (AV.i .i64 ((j : Int)))] =
   some (.exit 2, [.own true 9 ((clT t row (P.drop j) b).map eS), .l 4 (row.map eC), .l 1 (us.map eTr), (AV.i .i64 n), (AV.i .i64 i)]) := by
 intro d
 induction d with
 | zero =>
  intro j b hj hb hB hin
  have c1 : ¬ (j : Int) < (P.length : Int) := by omega
  rw [List.drop_of_length_le (by omega), show clT t row [] b = b from rfl]
  rw [LP_go FF b329_1.eq_1]
  simp only [RB, RL, un, St.none, Nat.reduceEqDiff, Nat.reduceAdd, Nat.reduceMul, Nat.reduceMod, Nat.reduceLeDiff, Nat.reduceLT, Int.reduceLT, Int.reduceLE, Int.reduceEq, Int.reduceToNat, Int.reduceSub, Int.reduceNeg, Int.reduceAdd, ↓reduceIte, reduceCtorEq, pack, pid, parN, lid, chkK, apartV, Heap.none, c1, eTr_rules, eTr_row, eX_rules, eX_row, eC_rules, eC_row, eS_rules, eS_row, eNd_rules, eNd_row, zh, List.drop_zero, zq]
 | succ d ih =>
  intro j b hj hb hB hin
  have hlt : j < P.length := by omega
  have ha := hP _ (getD_mem' 0 hlt)
  rw [drop_getD 0 hlt]
  generalize hga : P.getD j 0 = a at *
  have hft := un_ft hrg hb ha.1 ha.2
  have hmem := getD_mem' dNd ha.1
  have hc := (hs _ hmem).2.1
  have he : empV (sdV b (t.getD a dNd) (goN (t.getD a dNd) row)) = false := by
   cases he : empV (sdV b (t.getD a dNd) (goN (t.getD a dNd) row)) with
   | false => rfl
   | true => exact (part_emp hft.1 he hin rfl).elim
  have f2 := partw_c (n := t.getD a dNd) (left := goN (t.getD a dNd) row) (by omega) h1k hB hc hft.2 hft.1 (by omega) he
  have hrlt : (t.getD a dNd).ft.toNat < row.length := by omega
  have f1 := rleft_c (n := t.getD a dNd) (x := row.getD (t.getD a dNd).ft.toNat dC) (k := k) (j := k) hc (hr _ (getD_mem' dC hrlt)) (by omega) (by omega)
  rw [ha.2, show (!false && goV (vQ (t.getD a dNd).cut) (t.getD a dNd).miss (row.getD (t.getD a dNd).ft.toNat dC)) = goN (t.getD a dNd) row from rfl] at f1
  have h9 := ih (j + 1) (partB b (t.getD a dNd) (goN (t.getD a dNd) row)) (by omega) (by rw [prtB_len]; exact hb) (part_sm hB hc h1k hft.1) (by rw [part_in hft.1, hin, beq_self_eq_true]; rfl)
  rw [show clT t row (a :: P.drop (j + 1)) b = clT t row (P.drop (j + 1)) (partB b (t.getD a dNd) (goN (t.getD a dNd) row)) from rfl]
  have c1 : (j : Int) < (P.length : Int) := by omega
  have c2 : (a : Int) < (t.length : Int) := by omega
  have e2 : IntKind.i64.wrap ((j : Int) + 1) = ((j + 1 : Nat) : Int) := w64succ (by omega)
  have c3 : (t.getD a dNd).ft < (row.length : Int) := by omega
  have c4 := hft.2
  generalize clT t row (P.drop (j + 1)) (partB b (t.getD a dNd) (goN (t.getD a dNd) row)) = Z at *
  generalize partB b (t.getD a dNd) (goN (t.getD a dNd) row) = b' at *
  generalize goN (t.getD a dNd) row = g at *
  clear he hft hc hmem
  obtain ⟨x, hx⟩ : ∃ x, x = t.getD a dNd := ⟨_, rfl⟩
  rw [← hx] at f1 f2 c3 c4
  have hx' := hx.symm
  obtain ⟨xl, xf, xc, xa, xb, xm, xv, xw⟩ := x
  simp only [eNd, eC] at f1 f2 c3 c4
  rw [LP_go FF b329_1.eq_1]
  simp only [RB, RL, un, St.none, Nat.reduceEqDiff, Nat.reduceAdd, Nat.reduceMul, Nat.reduceMod, Nat.reduceLeDiff, Nat.reduceLT, Int.reduceLT, Int.reduceLE, Int.reduceEq, Int.reduceToNat, Int.reduceSub, Int.reduceNeg, Int.reduceAdd, ↓reduceIte, reduceCtorEq, pack, pid, parN, lid, chkK, apartV, Heap.none, c1, c2, c3, c4, e2, hga, hx', eNd, f1, f2, n64, eTr_rules, eTr_row, eX_rules, eX_row, eC_rules, eC_row, eS_rules, eS_row, eNd_rules, eNd_row, ze, zh, List.drop_zero, zq]
  exact h9
theorem cell_l0 {m : RM} {row : List RC} {k : Nat} (hk : k ≤ 10) (h1k : 1 ≤ k) (hm : Fw m k) (hv : VM m) (hr : SmR row k) (hf : (row.length : Int) = m.1) (hrl : row.length ≤ 1000) : ∀ (d i : Nat) (b : List RS), i + d = m.2.length → (b.length : Int) = m.1 → SmB b k → inB b row = true →
  ∃ c, LP FF [(7, 1), (1, 0), (25, 0), (26, 0), (27, 0)] [(7, 1)] b329_0 [.own true 9 (b.map eS), .l 4 (row.map eC), .l 1 (m.2.map eTr), (AV.i .i64 ((m.2.length : Int))), (AV.i .i64 ((i : Int)))] = some (.exit 0, [.own true 9 (c.map eS)]) ∧ c.length = b.length ∧ SmB c k ∧ ∀ o, inB c o = true ↔ inB b o = true ∧ ∀ t ∈ m.2.drop i, walk t o t.length 0 = walk t row t.length 0 := by
 intro d
 induction d with
 | zero =>
  intro i b hi hb hB hin
  have c1 : ¬ (i : Int) < (m.2.length : Int) := by omega
  refine ⟨b, ?_, rfl, hB, fun o => ?_⟩
  ·generalize m.2 = ts at *
   rw [LP_go FF b329_0.eq_1]
   simp only [RB, RL, un, St.none, Nat.reduceEqDiff, Nat.reduceAdd, Nat.reduceMul, Nat.reduceMod, Nat.reduceLeDiff, Nat.reduceLT, Int.reduceLT, Int.reduceLE, Int.reduceEq, Int.reduceToNat, Int.reduceSub, Int.reduceNeg, Int.reduceAdd, ↓reduceIte, reduceCtorEq, pack, pid, parN, lid, chkK, apartV, Heap.none, c1, eTr_rules, eTr_row, eC_rules, eC_row, eS_rules, eS_row, zh, List.drop_zero, zq]
  ·rw [List.drop_of_length_le (by omega)]
   exact ⟨fun h => ⟨h, fun t ht => (List.not_mem_nil ht).elim⟩, fun h => h.1⟩
 | succ d ih =>
  intro i b hi hb hB hin
  have hlt : i < m.2.length := by omega
  have ht := getD_mem' ([] : List RNd) hlt
  have hn6 := hm.n
  have hvt := hv.all _ ht
  have hsm := hm.sm _ ht
  have htl := hm.len _ ht
  obtain ⟨T, hT⟩ := gt_of hvt (vt_len hv _ ht)
  have hv1 := vm_one hv ht
  rw [← hf] at hv1 hT
  have f1 := rway_c (k := k) (by omega) h1k htl hsm hr hv1 hT
  have hwl := wy_len (m.2.getD i []) row T
  have hple := hT.le
  have hspl := wy_spl (m.2.getD i []) row T hT.un
  have hcl := cl_way (m.2.getD i []) row hT.rg T b hT.un hT.nd (by omega)
  have hsm2 := cl_sm (row := row) h1k hsm hT.rg ((wyV (m.2.getD i []) row T).take ((wyV (m.2.getD i []) row T).length - 1)) b hspl (by omega) hB
  have hlen2 := cl_len (m.2.getD i []) row ((wyV (m.2.getD i []) row T).take ((wyV (m.2.getD i []) row T).length - 1)) b
  have l1 := cell_l1 (us := m.2) (n := (m.2.length : Int)) (i := (i : Int)) (by omega) h1k htl hsm hr hT.rg rfl hrl hspl (by rw [zj]; omega) ((wyV (m.2.getD i []) row T).take ((wyV (m.2.getD i []) row T).length - 1)).length 0 b (by omega) (by omega) hB hin
  rw [List.drop_zero, Int.ofNat_zero] at l1
  have hdr : m.2.drop i = m.2.getD i [] :: m.2.drop (i + 1) := drop_getD [] hlt
  have hun := fun o => un_walk' (t := m.2.getD i []) o hT.top hT.un hT.le
  generalize hZ : clT (m.2.getD i []) row ((wyV (m.2.getD i []) row T).take ((wyV (m.2.getD i []) row T).length - 1)) b = Z at *
  obtain ⟨c, r1, r2, r3, r4⟩ := ih (i + 1) Z (by omega) (by omega) hsm2 ((hcl row).2 ⟨hin, rfl⟩)
  refine ⟨c, ?_, by omega, r3, fun o => ?_⟩
  ·have c1 : (i : Int) < (m.2.length : Int) := by omega
   have e2 : IntKind.i64.wrap ((i : Int) + 1) = ((i + 1 : Nat) : Int) := w64succ (by omega)
   generalize wyV (m.2.getD i []) row T = W at *
   have e3 : IntKind.i64.wrap ((W.length : Int) - 1) = ((W.length - 1 : Nat) : Int) := by rw [w64 (by omega) (by omega)]; omega
   have c2 : ((W.length - 1 : Nat) : Int) ≤ (W.length : Int) := by omega
   have hlW : (W.take (W.length - 1)).length = W.length - 1 := by rw [zj]; omega
   rw [hlW] at l1
   generalize W.length - 1 = p at *
   generalize m.2 = ts at *
   rw [LP_go FF b329_0.eq_1]
   simp only [RB, RL, un, St.none, Nat.reduceEqDiff, Nat.reduceAdd, Nat.reduceMul, Nat.reduceMod, Nat.reduceLeDiff, Nat.reduceLT, Int.reduceLT, Int.reduceLE, Int.reduceEq, Int.reduceToNat, Int.reduceSub, Int.reduceNeg, Int.reduceAdd, ↓reduceIte, reduceCtorEq, pack, pid, parN, lid, chkK, apartV, Heap.none, c1, c2, e2, e3, f1, l1, n64, eTr_rules, eTr_row, eX_rules, eX_row, eC_rules, eC_row, eS_rules, eS_row, eNd_rules, eNd_row, ze, zh, List.drop_zero, zq, ← List.map_take, hlW]
   exact r1
  ·rw [r4, hcl, hdr]
   constructor
   ·rintro ⟨⟨q1, q2⟩, q3⟩
    refine ⟨q1, fun t h => ?_⟩
    rcases List.mem_cons.1 h with rfl | h
    ·rw [hun, hun, q2]
    ·exact q3 t h
   ·rintro ⟨q1, q2⟩
    refine ⟨⟨q1, ?_⟩, fun t h => q2 t (zm _ h)⟩
    have h3 := q2 _ (zn ..)
    rw [hun, hun] at h3
    exact Option.some.inj h3
theorem cell_c {m : RM} {row : List RC} {k : Nat} (hk : k ≤ 10) (h1k : 1 ≤ k) (hm : Fw m k) (hr : SmR row k) (hrl : row.length ≤ 1000) (h0 : wyR m row = 0) :
  ∃ c, R FF 329 [.agg (eM m), .l 4 (row.map eC)] = some (.tup [.own true 9 (c.map eS), (AV.i .i64 0)]) ∧ c.length = row.length ∧ SmB c k ∧ ∀ o, inB c o = true ↔ o.length = row.length ∧ ∀ t ∈ m.2, walk t o t.length 0 = walk t row t.length 0 := by
 obtain ⟨hv, hf⟩ := wyR_zero h0
 have f1 := rFits_c (m := m) (row := row) (k := k) (by omega) h1k hm.smM
 rw [h0] at f1
 obtain ⟨hf0, hf1⟩ := vm_ft hv
 have f2 := ballw_c (n := row.length) (by omega)
 rw [hf] at f2
 have hall : ∀ o : List RC, inB (zi row.length (none9 true)) o = true ↔ o.length = row.length := fun o => by
  constructor
  ·intro h
   have h1 := (inB_iff.1 h).1
   rw [zl] at h1; exact h1.symm
  ·exact rep_in
 obtain ⟨c, r1, r2, r3, r4⟩ := cell_l0 hk h1k hm hv hr hf hrl m.2.length 0 (zi row.length (none9 true)) (by omega) (by rw [zl]; exact hf) (fun x hx => by rw [List.eq_of_mem_replicate hx]; exact none9_sm true) ((hall row).2 rfl)
 rw [zl] at r2
 rw [Int.ofNat_zero] at r1
 refine ⟨c, ?_, r2, r3, fun o => by rw [r4, hall, List.drop_zero]⟩
 have hlen : (zi row.length (none9 true)).length = row.length := zl
 generalize zi row.length (none9 true) = L at *
 obtain ⟨mf, ts⟩ := m
 simp only [eM] at f1 f2 r1 ⊢
 rw [R_go FF F329 c329.eq_1]
 simp only [RB, RL, un, St.none, Nat.reduceEqDiff, Nat.reduceAdd, Nat.reduceMul, Nat.reduceMod, Nat.reduceLeDiff, Nat.reduceLT, Int.reduceLT, Int.reduceLE, Int.reduceEq, Int.reduceToNat, Int.reduceSub, Int.reduceNeg, Int.reduceAdd, ↓reduceIte, reduceCtorEq, pack, pid, parN, lid, chkK, apartV, Heap.none, f1, f2, r1, n64, eTr_rules, eTr_row, eC_rules, eC_row, eS_rules, eS_row, zh, List.drop_zero, zq]
theorem cell_bad {m : RM} {row : List RC} {k : Nat} (hk : k ≤ 10) (h1k : 1 ≤ k) (hm : Fw m k) (h0 : ¬ wyR m row = 0) : R FF 329 [.agg (eM m), .l 4 (row.map eC)] = some (.tup [.own true 9 [], (AV.i .i64 ((wyR m row)))]) := by
 have f1 := rFits_c (m := m) (row := row) (k := k) (by omega) h1k hm.smM
 generalize wyR m row = e at *
 obtain ⟨mf, ts⟩ := m
 simp only [eM] at f1 ⊢
 rw [R_go FF F329 c329.eq_1]
 simp only [RB, RL, un, St.none, Nat.reduceEqDiff, Nat.reduceAdd, Nat.reduceMul, Nat.reduceMod, Nat.reduceLeDiff, Nat.reduceLT, Int.reduceLT, Int.reduceLE, Int.reduceEq, Int.reduceToNat, Int.reduceSub, Int.reduceNeg, Int.reduceAdd, ↓reduceIte, reduceCtorEq, pack, pid, parN, lid, chkK, apartV, Heap.none, f1, h0, n64, eTr_rules, eTr_row, eC_rules, eC_row]
def sameW (ts : List (List RNd)) (row oth : List RC) : Bool := ts.all fun t => decide (walk t row t.length 0 = walk t oth t.length 0)
theorem cells24_l0 {m : RM} {row oth : List RC} {c : List RS} {k : Nat} (hk : k ≤ 10) (h1k : 1 ≤ k) (hm : Fw m k) (hv : VM m) (hr : SmR row k) (ho : SmR oth k) (hf : (row.length : Int) = m.1) (hof : (oth.length : Int) = m.1) : ∀ (d i : Nat) (same : Bool), i + d = m.2.length →
  LP FF [(1, 0), (2, 0), (3, 0), (7, 0), (10, 0), (11, 0)] [(2, 0), (7, 0), (10, 0)] b157_0 [.l 4 (row.map eC), .l 4 (oth.map eC), .tp (eM m) 0, .l 9 (c.map eS), .b same, (AV.i .i64 ((i : Int)))] = some (.exit 0, [.l 4 (oth.map eC), .l 9 (c.map eS), .b (same && sameW (m.2.drop i) row oth)]) := by
 intro d
 induction d with
 | zero =>
  intro i same hi
  have c1 : ¬ (i : Int) < (m.2.length : Int) := by omega
  rw [List.drop_of_length_le (by omega), show sameW [] row oth = true from rfl, Bool.and_true]
  obtain ⟨mf, ts⟩ := m
  simp only [eM] at c1 ⊢
  rw [LP_go FF b157_0.eq_1]
  simp only [RB, RL, un, St.none, Nat.reduceEqDiff, Nat.reduceAdd, Nat.reduceMul, Nat.reduceMod, Nat.reduceLeDiff, Nat.reduceLT, Int.reduceLT, Int.reduceLE, Int.reduceEq, Int.reduceToNat, Int.reduceSub, Int.reduceNeg, Int.reduceAdd, ↓reduceIte, reduceCtorEq, pack, pid, parN, lid, chkK, apartV, Heap.none, c1, eTr_rules, eTr_row, eC_rules, eC_row, eS_rules, eS_row]
 | succ d ih =>
  intro i same hi
  have hlt : i < m.2.length := by omega
  have ht := getD_mem' ([] : List RNd) hlt
  have hn6 := hm.n
  have hvt := hv.all _ ht
  have hsm := hm.sm _ ht
  have htl := hm.len _ ht
  have h1 := vt_len hv _ ht
  obtain ⟨a, a1, a2, _⟩ := walk_root hvt.sh.par h1 row
  obtain ⟨b, b1, b2, _⟩ := walk_root hvt.sh.par h1 oth
  obtain ⟨P, p1, p2, p3, p4⟩ := way10_c (k := k) (by omega) (by omega) hsm hr hvt.rg hf (m.2.getD i []).length 0 a (by omega) (by omega) a1
  obtain ⟨Q, q1, q2, q3, q4⟩ := way10_c (k := k) (by omega) (by omega) hsm ho hvt.rg hof (m.2.getD i []).length 0 b (by omega) (by omega) b1
  rw [Int.ofNat_zero] at p4 q4
  have hdr : m.2.drop i = m.2.getD i [] :: m.2.drop (i + 1) := drop_getD [] hlt
  have h9 := ih (i + 1) (same && decide ((a : Int) = (b : Int))) (by omega)
  rw [hdr, show sameW (m.2.getD i [] :: m.2.drop (i + 1)) row oth = (decide (walk (m.2.getD i []) row (m.2.getD i []).length 0 = walk (m.2.getD i []) oth (m.2.getD i []).length 0) && sameW (m.2.drop (i + 1)) row oth) from rfl, a1, b1]
  have hd : decide (some a = some b) = decide ((a : Int) = (b : Int)) := decide_eq_decide.2 ⟨fun h => by rw [Option.some.inj h], fun h => by rw [Int.ofNat.inj h]⟩
  rw [hd, ← Bool.and_assoc]
  generalize sameW (m.2.drop (i + 1)) row oth = S at *
  have c1 : (i : Int) < (m.2.length : Int) := by omega
  have e2 : IntKind.i64.wrap ((i : Int) + 1) = ((i + 1 : Nat) : Int) := w64succ (by omega)
  have e3 : IntKind.i64.wrap ((P.length : Int) - 1) = ((P.length - 1 : Nat) : Int) := by rw [w64 (by omega) (by omega)]; omega
  have e4 : IntKind.i64.wrap ((Q.length : Int) - 1) = ((Q.length - 1 : Nat) : Int) := by rw [w64 (by omega) (by omega)]; omega
  have c3 : ((P.length - 1 : Nat) : Int) < (P.length : Int) := by omega
  have c4 : ((Q.length - 1 : Nat) : Int) < (Q.length : Int) := by omega
  have p3' : P.getD (P.length - 1) 0 = a := p3
  have q3' : Q.getD (Q.length - 1) 0 = b := q3
  obtain ⟨mf, ts⟩ := m
  simp only [eM] at c1 p4 q4 h9 ⊢
  cases same
  ·rw [LP_go FF b157_0.eq_1]
   simp only [RB, RL, un, St.none, Nat.reduceEqDiff, Nat.reduceAdd, Nat.reduceMul, Nat.reduceMod, Nat.reduceLeDiff, Nat.reduceLT, Int.reduceLT, Int.reduceLE, Int.reduceEq, Int.reduceToNat, Int.reduceSub, Int.reduceNeg, Int.reduceAdd, ↓reduceIte, reduceCtorEq, pack, pid, parN, lid, chkK, apartV, Heap.none, c1, c3, c4, e2, e3, e4, p3', q3', p4, q4, n64, eTr_rules, eTr_row, eX_rules, eX_row, eC_rules, eC_row, eS_rules, eS_row, eNd_rules, eNd_row, ze]
   exact h9
  ·rw [Bool.true_and] at h9
   rw [LP_go FF b157_0.eq_1]
   simp only [RB, RL, un, St.none, Nat.reduceEqDiff, Nat.reduceAdd, Nat.reduceMul, Nat.reduceMod, Nat.reduceLeDiff, Nat.reduceLT, Int.reduceLT, Int.reduceLE, Int.reduceEq, Int.reduceToNat, Int.reduceSub, Int.reduceNeg, Int.reduceAdd, ↓reduceIte, reduceCtorEq, pack, pid, parN, lid, chkK, apartV, Heap.none, c1, c3, c4, e2, e3, e4, p3', q3', p4, q4, n64, eTr_rules, eTr_row, eX_rules, eX_row, eC_rules, eC_row, eS_rules, eS_row, eNd_rules, eNd_row, ze]
   exact h9
theorem law_ExtremeCells (m : RM) (hm : OkM m) (row : List RC) (hr : row.length ≤ maxL ∧ ∀ x ∈ row, OkC x) (oth : List RC) (ho : oth.length ≤ maxL ∧ ∀ x ∈ oth, OkC x) :
  R FF 157 [.agg (eM m), .l 4 (row.map eC), .l 4 (oth.map eC)] = some (.b true) := by
 have f1 := small11_c hm hr
 have f2 := few09_c (n := 70) (by omega) ho.2 ho.1
 rw [show (oth.take 70).map t3 = fw 70 oth from rfl] at f2
 have f2 : R FF 29 [.l 4 (oth.map eC), (AV.i .i64 70)] = some (.l 4 ((fw 70 oth).map eC)) := f2
 have hM := fM9_fw hm
 have hw := fw6_sm hr 70
 have hwl := fw6_len row 70
 have hw2 := fw6_sm ho 70
 have hwl2 := fw6_len oth 70
 generalize fM9 m = M at *
 generalize fw 70 row = w at *
 generalize fw 70 oth = o at *
 have f3 := why10_c (m := M) (row := w) (k := 4) (by omega) (by omega) hM
 by_cases h0 : wyR M w = 0
 ·obtain ⟨hv, hf⟩ := wyR_zero h0
  obtain ⟨c, g1, g2, g3, g4⟩ := cell_c (k := 4) (by omega) (by omega) hM hw (by omega) h0
  rw [h0] at f3
  have k1 := holds24_c (b := c) (r := w) (k := 4) (by omega) (by omega) g3 hw
  rw [(g4 w).2 ⟨rfl, fun t _ => rfl⟩] at k1
  by_cases hl : (o.length : Int) = (w.length : Int)
  ·have k2 := holds24_c (b := c) (r := o) (k := 4) (by omega) (by omega) g3 hw2
   have l0 := cells24_l0 (c := c) (by omega) (by omega) hM hv hw hw2 hf (by omega) M.2.length 0 true (by omega)
   rw [List.drop_zero, Bool.true_and, Int.ofNat_zero] at l0
   have hs : inB c o = sameW M.2 w o := by
    rw [Bool.eq_iff_iff, g4]
    unfold sameW
    rw [List.all_eq_true]
    exact ⟨fun h t ht => decide_eq_true (h.2 t ht).symm, fun h => ⟨by omega, fun t ht => (of_decide_eq_true (h t ht)).symm⟩⟩
   rw [hs] at k2
   generalize sameW M.2 w o = S at *
   obtain ⟨mf, ts⟩ := m
   obtain ⟨mg, us⟩ := M
   simp only [eM] at f1 f3 g1 l0 ⊢
   cases S
   ·rw [R_go FF F157 c157.eq_1]
    simp only [RB, RL, un, St.none, Nat.reduceEqDiff, Nat.reduceAdd, Nat.reduceMul, Nat.reduceMod, Nat.reduceLeDiff, Nat.reduceLT, Int.reduceLT, Int.reduceLE, Int.reduceEq, Int.reduceToNat, Int.reduceSub, Int.reduceNeg, Int.reduceAdd, ↓reduceIte, reduceCtorEq, pack, pid, parN, lid, chkK, apartV, Heap.none, f1, f2, f3, g1, k1, k2, l0, hl, awake24e, n64, eTr_rules, eTr_row, eC_rules, eC_row, eS_rules, eS_row, zh, List.drop_zero, zq, Row.freeze]
   ·rw [R_go FF F157 c157.eq_1]
    simp only [RB, RL, un, St.none, Nat.reduceEqDiff, Nat.reduceAdd, Nat.reduceMul, Nat.reduceMod, Nat.reduceLeDiff, Nat.reduceLT, Int.reduceLT, Int.reduceLE, Int.reduceEq, Int.reduceToNat, Int.reduceSub, Int.reduceNeg, Int.reduceAdd, ↓reduceIte, reduceCtorEq, pack, pid, parN, lid, chkK, apartV, Heap.none, f1, f2, f3, g1, k1, k2, l0, hl, awake24e, n64, eTr_rules, eTr_row, eC_rules, eC_row, eS_rules, eS_row, zh, List.drop_zero, zq, Row.freeze]
  ·obtain ⟨mf, ts⟩ := m
   obtain ⟨mg, us⟩ := M
   simp only [eM] at f1 f3 g1 ⊢
   rw [R_go FF F157 c157.eq_1]
   simp only [RB, RL, un, St.none, Nat.reduceEqDiff, Nat.reduceAdd, Nat.reduceMul, Nat.reduceMod, Nat.reduceLeDiff, Nat.reduceLT, Int.reduceLT, Int.reduceLE, Int.reduceEq, Int.reduceToNat, Int.reduceSub, Int.reduceNeg, Int.reduceAdd, ↓reduceIte, reduceCtorEq, pack, pid, parN, lid, chkK, apartV, Heap.none, f1, f2, f3, g1, k1, hl, awake24e, n64, eTr_rules, eTr_row, eC_rules, eC_row, eS_rules, eS_row, zh, List.drop_zero, zq, Row.freeze]
 ·have g1 := cell_bad (k := 4) (by omega) (by omega) hM h0
  generalize wyR M w = e at *
  obtain ⟨mf, ts⟩ := m
  obtain ⟨mg, us⟩ := M
  simp only [eM] at f1 f3 g1 ⊢
  rw [R_go FF F157 c157.eq_1]
  simp only [RB, RL, un, St.none, Nat.reduceEqDiff, Nat.reduceAdd, Nat.reduceMul, Nat.reduceMod, Nat.reduceLeDiff, Nat.reduceLT, Int.reduceLT, Int.reduceLE, Int.reduceEq, Int.reduceToNat, Int.reduceSub, Int.reduceNeg, Int.reduceAdd, ↓reduceIte, reduceCtorEq, pack, pid, parN, lid, chkK, apartV, Heap.none, f1, f2, f3, g1, h0, awake24e, n64, eTr_rules, eTr_row, eC_rules, eC_row, eS_rules, eS_row, eq_self]
open Go Go.Proofs
set_option maxRecDepth 100000
def tabs0 : List (Nat × List AV) := [(0, tab0)]
def FD : Nat → Option PF
 | 14 => some p14
 | 19 => some p19
 | 20 => some p20
 | 21 => some p21
 | 23 => some p23
 | 25 => some p25
 | 29 => some p29
 | 31 => some p31
 | 33 => some p33
 | 36 => some p36
 | 51 => some p51
 | 52 => some p52
 | 53 => some p53
 | 54 => some p54
 | 55 => some p55
 | 56 => some p56
 | 57 => some p57
 | 63 => some p63
 | 64 => some p64
 | 65 => some p65
 | 66 => some p66
 | 67 => some p67
 | 68 => some p68
 | 69 => some p69
 | 71 => some p71
 | 72 => some p72
 | 73 => some p73
 | 74 => some p74
 | 75 => some p75
 | 76 => some p76
 | 77 => some p77
 | 78 => some p78
 | 81 => some p81
 | 82 => some p82
 | 83 => some p83
 | 86 => some p86
 | 92 => some p92
 | 96 => some p96
 | 106 => some p106
 | 107 => some p107
 | 108 => some p108
 | 109 => some p109
 | 110 => some p110
 | 111 => some p111
 | 112 => some p112
 | 113 => some p113
 | 114 => some p114
 | 115 => some p115
 | 116 => some p116
 | 117 => some p117
 | 127 => some p127
 | 128 => some p128
 | 129 => some p129
 | 130 => some p130
 | 131 => some p131
 | 137 => some p137
 | 138 => some p138
 | 139 => some p139
 | 140 => some p140
 | 141 => some p141
 | 157 => some p157
 | 162 => some p162
 | 196 => some p196
 | 197 => some p197
 | 199 => some p199
 | 200 => some p200
 | 203 => some p203
 | 205 => some p205
 | 206 => some p206
 | 209 => some p209
 | 211 => some p211
 | 224 => some p224
 | 225 => some p225
 | 226 => some p226
 | 227 => some p227
 | 228 => some p228
 | 229 => some p229
 | 230 => some p230
 | 231 => some p231
 | 232 => some p232
 | 234 => some p234
 | 236 => some p236
 | 237 => some p237
 | 243 => some p243
 | 244 => some p244
 | 245 => some p245
 | 246 => some p246
 | 248 => some p248
 | 249 => some p249
 | 250 => some p250
 | 251 => some p251
 | 252 => some p252
 | 253 => some p253
 | 259 => some p259
 | 285 => some p285
 | 327 => some p327
 | 328 => some p328
 | 329 => some p329
 | 330 => some p330
 | _ => none
def nuD : Nat → Nat
 | 14 => 20
 | 19 => 92
 | 20 => 91
 | 21 => 111
 | 23 => 35
 | 25 => 58
 | 29 => 17
 | 31 => 42
 | 33 => 38
 | 36 => 93
 | 51 => 67
 | 52 => 69
 | 53 => 104
 | 54 => 41
 | 55 => 64
 | 56 => 37
 | 57 => 15
 | 63 => 49
 | 64 => 50
 | 65 => 51
 | 66 => 52
 | 67 => 74
 | 68 => 36
 | 69 => 71
 | 71 => 46
 | 72 => 47
 | 73 => 48
 | 74 => 43
 | 75 => 75
 | 76 => 76
 | 77 => 77
 | 78 => 40
 | 81 => 87
 | 82 => 72
 | 83 => 73
 | 86 => 70
 | 92 => 88
 | 96 => 34
 | 106 => 78
 | 107 => 79
 | 108 => 80
 | 109 => 81
 | 110 => 82
 | 111 => 83
 | 112 => 84
 | 113 => 85
 | 114 => 86
 | 115 => 105
 | 116 => 106
 | 117 => 107
 | 127 => 108
 | 128 => 109
 | 129 => 110
 | 130 => 114
 | 131 => 115
 | 137 => 118
 | 138 => 119
 | 139 => 122
 | 140 => 123
 | 141 => 124
 | 157 => 6
 | 162 => 39
 | 196 => 10
 | 197 => 11
 | 199 => 13
 | 200 => 14
 | 203 => 21
 | 205 => 23
 | 206 => 24
 | 209 => 27
 | 211 => 29
 | 224 => 31
 | 225 => 32
 | 226 => 33
 | 227 => 53
 | 228 => 54
 | 229 => 55
 | 230 => 56
 | 231 => 57
 | 232 => 59
 | 234 => 61
 | 236 => 63
 | 237 => 65
 | 243 => 68
 | 244 => 89
 | 245 => 90
 | 246 => 94
 | 248 => 96
 | 249 => 97
 | 250 => 98
 | 251 => 99
 | 252 => 100
 | 253 => 101
 | 259 => 103
 | 285 => 86
 | 327 => 38
 | 328 => 93
 | 329 => 22
 | 330 => 55
 | _ => 0
theorem M14 : fnOk Tryd.prog (FD, nuD) tabs0 14 p14 = true := by kernel_rfl
theorem M19 : fnOk Tryd.prog (FD, nuD) tabs0 19 p19 = true := by kernel_rfl
theorem M20 : fnOk Tryd.prog (FD, nuD) tabs0 20 p20 = true := by kernel_rfl
theorem M21 : fnOk Tryd.prog (FD, nuD) tabs0 21 p21 = true := by kernel_rfl
theorem M23 : fnOk Tryd.prog (FD, nuD) tabs0 23 p23 = true := by kernel_rfl
theorem M25 : fnOk Tryd.prog (FD, nuD) tabs0 25 p25 = true := by kernel_rfl
theorem M29 : fnOk Tryd.prog (FD, nuD) tabs0 29 p29 = true := by kernel_rfl
theorem M31 : fnOk Tryd.prog (FD, nuD) tabs0 31 p31 = true := by kernel_rfl
theorem M33 : fnOk Tryd.prog (FD, nuD) tabs0 33 p33 = true := by kernel_rfl
theorem M36 : fnOk Tryd.prog (FD, nuD) tabs0 36 p36 = true := by kernel_rfl
theorem M51 : fnOk Tryd.prog (FD, nuD) tabs0 51 p51 = true := by kernel_rfl
theorem M52 : fnOk Tryd.prog (FD, nuD) tabs0 52 p52 = true := by kernel_rfl
theorem M53 : fnOk Tryd.prog (FD, nuD) tabs0 53 p53 = true := by kernel_rfl
theorem M54 : fnOk Tryd.prog (FD, nuD) tabs0 54 p54 = true := by kernel_rfl
theorem M55 : fnOk Tryd.prog (FD, nuD) tabs0 55 p55 = true := by kernel_rfl
theorem M56 : fnOk Tryd.prog (FD, nuD) tabs0 56 p56 = true := by kernel_rfl
theorem M57 : fnOk Tryd.prog (FD, nuD) tabs0 57 p57 = true := by kernel_rfl
theorem M63 : fnOk Tryd.prog (FD, nuD) tabs0 63 p63 = true := by kernel_rfl
theorem M64 : fnOk Tryd.prog (FD, nuD) tabs0 64 p64 = true := by kernel_rfl
theorem M65 : fnOk Tryd.prog (FD, nuD) tabs0 65 p65 = true := by kernel_rfl
theorem M66 : fnOk Tryd.prog (FD, nuD) tabs0 66 p66 = true := by kernel_rfl
theorem M67 : fnOk Tryd.prog (FD, nuD) tabs0 67 p67 = true := by kernel_rfl
theorem M68 : fnOk Tryd.prog (FD, nuD) tabs0 68 p68 = true := by kernel_rfl
theorem M69 : fnOk Tryd.prog (FD, nuD) tabs0 69 p69 = true := by kernel_rfl
theorem M71 : fnOk Tryd.prog (FD, nuD) tabs0 71 p71 = true := by kernel_rfl
theorem M72 : fnOk Tryd.prog (FD, nuD) tabs0 72 p72 = true := by kernel_rfl
theorem M73 : fnOk Tryd.prog (FD, nuD) tabs0 73 p73 = true := by kernel_rfl
theorem M74 : fnOk Tryd.prog (FD, nuD) tabs0 74 p74 = true := by kernel_rfl
theorem M75 : fnOk Tryd.prog (FD, nuD) tabs0 75 p75 = true := by kernel_rfl
theorem M76 : fnOk Tryd.prog (FD, nuD) tabs0 76 p76 = true := by kernel_rfl
theorem M77 : fnOk Tryd.prog (FD, nuD) tabs0 77 p77 = true := by kernel_rfl
theorem M78 : fnOk Tryd.prog (FD, nuD) tabs0 78 p78 = true := by kernel_rfl
theorem M81 : fnOk Tryd.prog (FD, nuD) tabs0 81 p81 = true := by kernel_rfl
theorem M82 : fnOk Tryd.prog (FD, nuD) tabs0 82 p82 = true := by kernel_rfl
theorem M83 : fnOk Tryd.prog (FD, nuD) tabs0 83 p83 = true := by kernel_rfl
theorem M86 : fnOk Tryd.prog (FD, nuD) tabs0 86 p86 = true := by kernel_rfl
theorem M92 : fnOk Tryd.prog (FD, nuD) tabs0 92 p92 = true := by kernel_rfl
theorem M96 : fnOk Tryd.prog (FD, nuD) tabs0 96 p96 = true := by kernel_rfl
theorem M106 : fnOk Tryd.prog (FD, nuD) tabs0 106 p106 = true := by kernel_rfl
theorem M107 : fnOk Tryd.prog (FD, nuD) tabs0 107 p107 = true := by kernel_rfl
theorem M108 : fnOk Tryd.prog (FD, nuD) tabs0 108 p108 = true := by kernel_rfl
theorem M109 : fnOk Tryd.prog (FD, nuD) tabs0 109 p109 = true := by kernel_rfl
theorem M110 : fnOk Tryd.prog (FD, nuD) tabs0 110 p110 = true := by kernel_rfl
theorem M111 : fnOk Tryd.prog (FD, nuD) tabs0 111 p111 = true := by kernel_rfl
theorem M112 : fnOk Tryd.prog (FD, nuD) tabs0 112 p112 = true := by kernel_rfl
theorem M113 : fnOk Tryd.prog (FD, nuD) tabs0 113 p113 = true := by kernel_rfl
theorem M114 : fnOk Tryd.prog (FD, nuD) tabs0 114 p114 = true := by kernel_rfl
theorem M115 : fnOk Tryd.prog (FD, nuD) tabs0 115 p115 = true := by kernel_rfl
theorem M116 : fnOk Tryd.prog (FD, nuD) tabs0 116 p116 = true := by kernel_rfl
theorem M117 : fnOk Tryd.prog (FD, nuD) tabs0 117 p117 = true := by kernel_rfl
theorem M127 : fnOk Tryd.prog (FD, nuD) tabs0 127 p127 = true := by kernel_rfl
theorem M128 : fnOk Tryd.prog (FD, nuD) tabs0 128 p128 = true := by kernel_rfl
theorem M129 : fnOk Tryd.prog (FD, nuD) tabs0 129 p129 = true := by kernel_rfl
theorem M130 : fnOk Tryd.prog (FD, nuD) tabs0 130 p130 = true := by kernel_rfl
theorem M131 : fnOk Tryd.prog (FD, nuD) tabs0 131 p131 = true := by kernel_rfl
theorem M137 : fnOk Tryd.prog (FD, nuD) tabs0 137 p137 = true := by kernel_rfl
theorem M138 : fnOk Tryd.prog (FD, nuD) tabs0 138 p138 = true := by kernel_rfl
theorem M139 : fnOk Tryd.prog (FD, nuD) tabs0 139 p139 = true := by kernel_rfl
theorem M140 : fnOk Tryd.prog (FD, nuD) tabs0 140 p140 = true := by kernel_rfl
theorem M141 : fnOk Tryd.prog (FD, nuD) tabs0 141 p141 = true := by kernel_rfl
theorem M157 : fnOk Tryd.prog (FD, nuD) tabs0 157 p157 = true := by kernel_rfl
theorem M162 : fnOk Tryd.prog (FD, nuD) tabs0 162 p162 = true := by kernel_rfl
theorem M196 : fnOk Tryd.prog (FD, nuD) tabs0 196 p196 = true := by kernel_rfl
theorem M197 : fnOk Tryd.prog (FD, nuD) tabs0 197 p197 = true := by kernel_rfl
theorem M199 : fnOk Tryd.prog (FD, nuD) tabs0 199 p199 = true := by kernel_rfl
theorem M200 : fnOk Tryd.prog (FD, nuD) tabs0 200 p200 = true := by kernel_rfl
theorem M203 : fnOk Tryd.prog (FD, nuD) tabs0 203 p203 = true := by kernel_rfl
theorem M205 : fnOk Tryd.prog (FD, nuD) tabs0 205 p205 = true := by kernel_rfl
theorem M206 : fnOk Tryd.prog (FD, nuD) tabs0 206 p206 = true := by kernel_rfl
theorem M209 : fnOk Tryd.prog (FD, nuD) tabs0 209 p209 = true := by kernel_rfl
theorem M211 : fnOk Tryd.prog (FD, nuD) tabs0 211 p211 = true := by kernel_rfl
theorem M224 : fnOk Tryd.prog (FD, nuD) tabs0 224 p224 = true := by kernel_rfl
theorem M225 : fnOk Tryd.prog (FD, nuD) tabs0 225 p225 = true := by kernel_rfl
theorem M226 : fnOk Tryd.prog (FD, nuD) tabs0 226 p226 = true := by kernel_rfl
theorem M227 : fnOk Tryd.prog (FD, nuD) tabs0 227 p227 = true := by kernel_rfl
theorem M228 : fnOk Tryd.prog (FD, nuD) tabs0 228 p228 = true := by kernel_rfl
theorem M229 : fnOk Tryd.prog (FD, nuD) tabs0 229 p229 = true := by kernel_rfl
theorem M230 : fnOk Tryd.prog (FD, nuD) tabs0 230 p230 = true := by kernel_rfl
theorem M231 : fnOk Tryd.prog (FD, nuD) tabs0 231 p231 = true := by kernel_rfl
theorem M232 : fnOk Tryd.prog (FD, nuD) tabs0 232 p232 = true := by kernel_rfl
theorem M234 : fnOk Tryd.prog (FD, nuD) tabs0 234 p234 = true := by kernel_rfl
theorem M236 : fnOk Tryd.prog (FD, nuD) tabs0 236 p236 = true := by kernel_rfl
theorem M237 : fnOk Tryd.prog (FD, nuD) tabs0 237 p237 = true := by kernel_rfl
theorem M243 : fnOk Tryd.prog (FD, nuD) tabs0 243 p243 = true := by kernel_rfl
theorem M244 : fnOk Tryd.prog (FD, nuD) tabs0 244 p244 = true := by kernel_rfl
theorem M245 : fnOk Tryd.prog (FD, nuD) tabs0 245 p245 = true := by kernel_rfl
theorem M246 : fnOk Tryd.prog (FD, nuD) tabs0 246 p246 = true := by kernel_rfl
theorem M248 : fnOk Tryd.prog (FD, nuD) tabs0 248 p248 = true := by kernel_rfl
theorem M249 : fnOk Tryd.prog (FD, nuD) tabs0 249 p249 = true := by kernel_rfl
theorem M250 : fnOk Tryd.prog (FD, nuD) tabs0 250 p250 = true := by kernel_rfl
theorem M251 : fnOk Tryd.prog (FD, nuD) tabs0 251 p251 = true := by kernel_rfl
theorem M252 : fnOk Tryd.prog (FD, nuD) tabs0 252 p252 = true := by kernel_rfl
theorem M253 : fnOk Tryd.prog (FD, nuD) tabs0 253 p253 = true := by kernel_rfl
theorem M259 : fnOk Tryd.prog (FD, nuD) tabs0 259 p259 = true := by kernel_rfl
theorem M285 : fnOk Tryd.prog (FD, nuD) tabs0 285 p285 = true := by kernel_rfl
theorem M327 : fnOk Tryd.prog (FD, nuD) tabs0 327 p327 = true := by kernel_rfl
theorem M328 : fnOk Tryd.prog (FD, nuD) tabs0 328 p328 = true := by kernel_rfl
theorem M329 : fnOk Tryd.prog (FD, nuD) tabs0 329 p329 = true := by kernel_rfl
theorem M330 : fnOk Tryd.prog (FD, nuD) tabs0 330 p330 = true := by kernel_rfl
theorem FD_ok (g : Nat) (p : PF) (h : FD g = some p) : fnOk Tryd.prog (FD, nuD) tabs0 g p = true ∧ FF g = some p := by
 unfold FD at h
 split at h
 ·cases h; exact ⟨M14, rfl⟩
 ·cases h; exact ⟨M19, rfl⟩
 ·cases h; exact ⟨M20, rfl⟩
 ·cases h; exact ⟨M21, rfl⟩
 ·cases h; exact ⟨M23, rfl⟩
 ·cases h; exact ⟨M25, rfl⟩
 ·cases h; exact ⟨M29, rfl⟩
 ·cases h; exact ⟨M31, rfl⟩
 ·cases h; exact ⟨M33, rfl⟩
 ·cases h; exact ⟨M36, rfl⟩
 ·cases h; exact ⟨M51, rfl⟩
 ·cases h; exact ⟨M52, rfl⟩
 ·cases h; exact ⟨M53, rfl⟩
 ·cases h; exact ⟨M54, rfl⟩
 ·cases h; exact ⟨M55, rfl⟩
 ·cases h; exact ⟨M56, rfl⟩
 ·cases h; exact ⟨M57, rfl⟩
 ·cases h; exact ⟨M63, rfl⟩
 ·cases h; exact ⟨M64, rfl⟩
 ·cases h; exact ⟨M65, rfl⟩
 ·cases h; exact ⟨M66, rfl⟩
 ·cases h; exact ⟨M67, rfl⟩
 ·cases h; exact ⟨M68, rfl⟩
 ·cases h; exact ⟨M69, rfl⟩
 ·cases h; exact ⟨M71, rfl⟩
 ·cases h; exact ⟨M72, rfl⟩
 ·cases h; exact ⟨M73, rfl⟩
 ·cases h; exact ⟨M74, rfl⟩
 ·cases h; exact ⟨M75, rfl⟩
 ·cases h; exact ⟨M76, rfl⟩
 ·cases h; exact ⟨M77, rfl⟩
 ·cases h; exact ⟨M78, rfl⟩
 ·cases h; exact ⟨M81, rfl⟩
 ·cases h; exact ⟨M82, rfl⟩
 ·cases h; exact ⟨M83, rfl⟩
 ·cases h; exact ⟨M86, rfl⟩
 ·cases h; exact ⟨M92, rfl⟩
 ·cases h; exact ⟨M96, rfl⟩
 ·cases h; exact ⟨M106, rfl⟩
 ·cases h; exact ⟨M107, rfl⟩
 ·cases h; exact ⟨M108, rfl⟩
 ·cases h; exact ⟨M109, rfl⟩
 ·cases h; exact ⟨M110, rfl⟩
 ·cases h; exact ⟨M111, rfl⟩
 ·cases h; exact ⟨M112, rfl⟩
 ·cases h; exact ⟨M113, rfl⟩
 ·cases h; exact ⟨M114, rfl⟩
 ·cases h; exact ⟨M115, rfl⟩
 ·cases h; exact ⟨M116, rfl⟩
 ·cases h; exact ⟨M117, rfl⟩
 ·cases h; exact ⟨M127, rfl⟩
 ·cases h; exact ⟨M128, rfl⟩
 ·cases h; exact ⟨M129, rfl⟩
 ·cases h; exact ⟨M130, rfl⟩
 ·cases h; exact ⟨M131, rfl⟩
 ·cases h; exact ⟨M137, rfl⟩
 ·cases h; exact ⟨M138, rfl⟩
 ·cases h; exact ⟨M139, rfl⟩
 ·cases h; exact ⟨M140, rfl⟩
 ·cases h; exact ⟨M141, rfl⟩
 ·cases h; exact ⟨M157, rfl⟩
 ·cases h; exact ⟨M162, rfl⟩
 ·cases h; exact ⟨M196, rfl⟩
 ·cases h; exact ⟨M197, rfl⟩
 ·cases h; exact ⟨M199, rfl⟩
 ·cases h; exact ⟨M200, rfl⟩
 ·cases h; exact ⟨M203, rfl⟩
 ·cases h; exact ⟨M205, rfl⟩
 ·cases h; exact ⟨M206, rfl⟩
 ·cases h; exact ⟨M209, rfl⟩
 ·cases h; exact ⟨M211, rfl⟩
 ·cases h; exact ⟨M224, rfl⟩
 ·cases h; exact ⟨M225, rfl⟩
 ·cases h; exact ⟨M226, rfl⟩
 ·cases h; exact ⟨M227, rfl⟩
 ·cases h; exact ⟨M228, rfl⟩
 ·cases h; exact ⟨M229, rfl⟩
 ·cases h; exact ⟨M230, rfl⟩
 ·cases h; exact ⟨M231, rfl⟩
 ·cases h; exact ⟨M232, rfl⟩
 ·cases h; exact ⟨M234, rfl⟩
 ·cases h; exact ⟨M236, rfl⟩
 ·cases h; exact ⟨M237, rfl⟩
 ·cases h; exact ⟨M243, rfl⟩
 ·cases h; exact ⟨M244, rfl⟩
 ·cases h; exact ⟨M245, rfl⟩
 ·cases h; exact ⟨M246, rfl⟩
 ·cases h; exact ⟨M248, rfl⟩
 ·cases h; exact ⟨M249, rfl⟩
 ·cases h; exact ⟨M250, rfl⟩
 ·cases h; exact ⟨M251, rfl⟩
 ·cases h; exact ⟨M252, rfl⟩
 ·cases h; exact ⟨M253, rfl⟩
 ·cases h; exact ⟨M259, rfl⟩
 ·cases h; exact ⟨M285, rfl⟩
 ·cases h; exact ⟨M327, rfl⟩
 ·cases h; exact ⟨M328, rfl⟩
 ·cases h; exact ⟨M329, rfl⟩
 ·cases h; exact ⟨M330, rfl⟩
 ·cases h
theorem followsD : Tryd.prog.follows .mixedOrders = true := by kernel_rfl
theorem callsD : CallsOk Tryd.prog (FD, nuD) tabs0 (R FF) := R_ok followsD FD_ok
end Go.Pe
namespace Go.Proofs.YtomicjfjbfkikaaDoor.extremeCells
open Go.Pe
open Go.ChangeShapes Go.WideShapes Go.ChangeAt Go.RowKit
theorem own : ownKnob Tryd.prog.godebug = none := by kernel_rfl
theorem laidOut : laidOutB Tryd.prog = true := by kernel_rfl
def laid : List (String × DataW Unit) := [("math/bits.deBruijn64tab", Rows.laid_math_bits_deBruijn64tab)]
def tz : List Int := tab0.map fun | .i _ n => n | _ => 0
theorem tab_rv {W : World} (h : laidMetH Tryd.prog laid W) : Rv W (fun _ => False) Rho.none (.tp tab0 0) (.pointer (some ⟨0, 0, none⟩)) := by
 rw [MakeChecks.laidMetH_plain _ _ _ (by kernel_rfl)] at h
 obtain ⟨ps, ⟨g, t, cs, fuel, p, q, hg, ht, hv, hd, _, _⟩, _, _⟩ := h
 obtain rfl := Option.some.inj ((show Tryd.prog.globalNamed "math/bits.deBruijn64tab" = some 0 by kernel_rfl).symm.trans hg)
 obtain rfl := Option.some.inj ((show (Tryd.prog.globals[0]?).map (·.type) = some 160 by kernel_rfl).symm.trans ht)
 obtain ⟨xs, m, _, ex, _, hl, hel⟩ := DataW.trod_array Tryd.underlying160 hd
 have cE : Tryd.prog.cellsOf 5 = 1 := by kernel_rfl
 have hlen : tz.length = 64 := by decide
 have e0 : (xs.map (·.1)) = tz.map fun n => .lit (.int .u8 n) := (DataW.agg.inj (Prod.mk.inj ex).1).symm
 have cell : ∀ r, r < 64 → W.cell? ⟨0, r, none⟩ = some (.int .u8 (tz.getD r 0)) := by
  intro r hr
  have hE := hel r hr
  rw [cE, Nat.mul_one, zg (by omega)] at hE
  obtain ⟨z, e1, e2, _⟩ := DataW.trod_int Tryd.underlying5 hE
  have e4 : (xs.map (·.1))[r]? = (tz.map fun n => (DataW.lit (.int .u8 n) : DataW Unit))[r]? := by rw [e0]
  rw [List.getElem?_map, List.getElem?_map, zg (by omega : r < xs.length), zg (by omega : r < tz.length), e2] at e4
  have hz : z = tz.getD r 0 := by
   simp only [Option.map_some, Option.some.injEq, DataW.lit.injEq, Lit.int.injEq, true_and] at e4
   rw [e4, List.getD, zg (by omega : r < tz.length)]; rfl
  rw [World.var?_cell hg hv r, ← hz]
  have : cs.toList[r]? = some (.int .u8 z) := by
   have h0 : ((cs.toList.drop r).take 1)[0]? = some (.int .u8 z) := by rw [e1]; rfl
   simpa using h0
  simpa using this
 have hb : 0 < W.heap.size := by
  have h0 := cell 0 (by decide)
  rcases Nat.lt_or_ge 0 W.heap.size with h | h
  ·exact h
  ·unfold World.cell? at h0; rw [Array.getElem?_eq_none h] at h0; cases h0
 refine Rv.tp (o := 0) (base := 0) (fun c => .int .u8 (tz.getD c 0)) (fun h => h) hb (fun c hc => ?_) fun c hc => ?_
 ·rw [Nat.zero_add]; exact ⟨cell c hc, rfl⟩
 ·have e : tab0 = tz.map (AV.i .u8) := rfl
  have hc' : c < tz.length := by rw [hlen]; exact hc
  rw [e, za, List.getElem?_map, za, zg hc']
  exact Rv.i
set_option maxRecDepth 100000 in
theorem lifted (os : Os) (started : os.Started) (H : Type) (enc : TypeId × Value → H) :
  ReturnsInHanded {} Tryd.checked os 6 .any (fun w args => (Rows.extremeCellsSpec.pre enc Tryd.prog Tryd.f6 Rows.extremeCellsRow.domain false w args ∧ laidMetH Tryd.prog laid w) ∧ sizedMet enc Tryd.prog Tryd.f6 (OpenSpec.ofChange Rows.extremeCellsSpec) false w args) (Rows.extremeCellsSpec.post enc Tryd.prog Tryd.f6 false true false false) := by
 refine returnsInHanded_of_change_and (C := Tryd.checked) (X := fun w _ => laidMetH Tryd.prog laid w) (fun _ _ _ hh h => h.of_heap hh) own started (by kernel_rfl) Tryd.func6
  (ChangeSpec.witness_shaped (enc := enc) (C := Tryd.checked) (os := os) (X := fun w _ => laidMetH Tryd.prog laid w) false (World.laidAll Tryd.prog os laid) #[.agg #[.int .i64 0, .slice none 0 0], .slice none 0 0, .slice none 0 0] 8 (World.laidAll_os _ _ _)
   (World.shaped_of_ZipB (by kernel_rfl) (by kernel_rfl)) (by kernel_rfl) (by kernel_rfl) (by kernel_rfl) (by rw [MakeChecks.laidMetH_plain _ _ _ (by kernel_rfl)]; exact laidMet_laidAll _ (by kernel_rfl) (by kernel_rfl))) ?_
 intro W base args ds gs before hval0 hW hcnd hsz0 hL _
 have hval : ∀ (j : Nat) t v, Tryd.f6.params[j]? = some t → args[j]? = some v → Value.okWide Tryd.prog W .any base t v := hval0
 have hW' := hW
 obtain ⟨p, q, hA0, hV, rfl, hfz, hnd⟩ := hW
 have hA : DataW.TrodAll enc Tryd.prog W 0 (fun _ => true) true Tryd.f6.params.toList args.toList ds p := hA0
 rw [Tryd.params6] at hA hval
 obtain ⟨v0, vs0, d0, ds0, pl0, ql0, hargs, rfl, rfl, h0, r0⟩ := trodAll_cons hA
 obtain ⟨v1, vs1, d1, ds1, pl1, ql1, rfl, rfl, rfl, h1, r1⟩ := trodAll_cons r0
 obtain ⟨v2, vs2, d2, ds2, pl2, ql2, rfl, rfl, rfl, h2, r2⟩ := trodAll_cons r1
 obtain ⟨rfl, rfl, rfl⟩ := trodAll_nil r2
 obtain rfl : args = #[v0, v1, v2] := by cases args; simp_all
 obtain ⟨rfl, rfl⟩ := trodVars_none hV
 have lt0 : ∀ x ∈ pl0, x.block < W.heap.size := by obtain ⟨m, hm⟩ := h0; exact DataW.trod_lt m _ _ _ hm
 obtain ⟨acs0, la0, fa0, rv0⟩ := arg_rv (n := 12) (ks := kM) (hval 0 24 v0 rfl rfl) h0 (by kernel_rfl)
 rw [show isStr Tryd.prog 24 = true by kernel_rfl] at rv0
 obtain ⟨x0, rfl, ok0⟩ := open_M ⟨la0, fa0⟩
 have lt1 : ∀ x ∈ pl1, x.block < W.heap.size := by obtain ⟨m, hm⟩ := h1; exact DataW.trod_lt m _ _ _ hm
 obtain ⟨acs1, la1, fa1, rv1⟩ := arg_rv (n := 12) (ks := [.sl kC]) (hval 1 35 v1 rfl rfl) h1 (by kernel_rfl)
 rw [show isStr Tryd.prog 35 = false by kernel_rfl] at rv1
 obtain ⟨y1, rfl, fy1⟩ := Fits.one ⟨la1, fa1⟩
 obtain ⟨x1, rfl, ok1⟩ := open_LC fy1
 have lt2 : ∀ x ∈ pl2, x.block < W.heap.size := by obtain ⟨m, hm⟩ := h2; exact DataW.trod_lt m _ _ _ hm
 obtain ⟨acs2, la2, fa2, rv2⟩ := arg_rv (n := 12) (ks := [.sl kC]) (hval 2 35 v2 rfl rfl) h2 (by kernel_rfl)
 rw [show isStr Tryd.prog 35 = false by kernel_rfl] at rv2
 obtain ⟨y2, rfl, fy2⟩ := Fits.one ⟨la2, fa2⟩
 obtain ⟨x2, rfl, ok2⟩ := open_LC fy2
 clear hA0 hval0 hsz0
 have hlaw := law_ExtremeCells x0 ok0 x1 ok1 x2 ok2
 have hx : ∀ j, j < 3 → Rv W (fun _ => False) Rho.none ([AV.agg (eM x0), AV.l 4 (x1.map eC), AV.l 4 (x2.map eC)].getD j .junk) (#[v0, v1, v2].getD j undef) := by
  intro j hj
  match j, hj with
  | 0, _ => exact rv0
  | 1, _ => exact rv1
  | 2, _ => exact rv2
 refine (law_true (F := (FD, nuD)) callsD (g := 157) (p := p157) rfl rfl (by decide) (by kernel_rfl) hlaw (w := W) (vs := #[v0, v1, v2]) (fun q hq => by obtain rfl := List.mem_singleton.1 hq; exact tab_rv hL) rfl hx).mono fun e W' ⟨he, bel⟩ => ?_
 subst he
 exact ⟨_, rfl, _, _, _, [], _, [], hW', trodAll_mk1 (shut_bool Tryd.underlying4 _), (trodAll_cons_mk (Below.trod laidOut (by kernel_rfl) (of_decide_eq_true (by kernel_rfl)) h0 bel lt0) (trodAll_cons_mk (Below.trod laidOut (by kernel_rfl) (of_decide_eq_true (by kernel_rfl)) h1 bel lt1) (trodAll_cons_mk (Below.trod laidOut (by kernel_rfl) (of_decide_eq_true (by kernel_rfl)) h2 bel lt2) trodAll_mk0))), rfl, bel.frame _, fun h => by cases h⟩
theorem over : Rows.extremeCellsRow.holds Tryd.pinned (OpenSpec.ofChange Rows.extremeCellsSpec) :=
 OpenClaim.holds_of_wide 6 Tryd.f6 rfl rfl rfl rfl rfl rfl rfl ⟨rfl, rfl, rfl, rfl, rfl⟩ rfl rfl rfl rfl rfl (by kernel_rfl) Tryd.func6 (by kernel_rfl)
  (of_decide_eq_true (by kernel_rfl)) (by unfold Func.isWrapper; first | (rw [if_pos (by decide +kernel)]; kernel_rfl) | (rw [if_neg (by decide +kernel)]; exact ⟨rfl, rfl⟩))
  (fun os started H enc _ => lifted os started H enc)
theorem proved : Rows.ExtremeCellsCardSaid :=
 Claim7.holds_tied_plain_at .later [] [.data] true (true, "055af2870a081aca155dd7d3832794b74fb70f238d6216e595e54682dc256be2") false over (fun _ h => by cases h) (by kernel_rfl) (fun _ h => by cases h) extremeCells_row_tie rfl ⟨rfl, rfl⟩ (by kernel_rfl) rfl
  (fun f fn hf hfn => by
   obtain rfl : f = 6 := Option.some.inj ((show Tryd.prog.funcNamed "dendron/dendronlaw24.ExtremeCells" = some 6 by kernel_rfl).symm.trans hf) |>.symm
   obtain rfl : fn = Tryd.f6 := (Option.some.inj (Tryd.func6.symm.trans hfn)).symm
   exact ⟨by kernel_rfl, fun j t ht => by
    rw [Tryd.params6] at ht
    have hm : t ∈ [24, 35, 35] := by simpa using Array.mem_of_getElem? ht
    have hall : ([24, 35, 35].all fun u => !Tryd.prog.wantsStandIn u) = true := by kernel_rfl
    exact (show Tryd.prog.wantsStandIn t = false by simpa using List.all_eq_true.1 hall t hm)⟩)
  (by kernel_rfl)
#print axioms proved
end Go.Proofs.YtomicjfjbfkikaaDoor.extremeCells
namespace Go.Proofs.YtomicjfjbfkikaaDoor
theorem extremeCells_holds : Rows.ExtremeCellsCardSaid := extremeCells.proved
end Go.Proofs.YtomicjfjbfkikaaDoor
