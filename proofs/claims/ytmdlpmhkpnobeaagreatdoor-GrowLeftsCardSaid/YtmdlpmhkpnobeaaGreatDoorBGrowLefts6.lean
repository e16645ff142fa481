/- Proved: It shows what any model leaves of any data, or why it tells nothing. No conditions. -/
import Derived.Test.YtmdlpmhkpnobeaaGreatDoorBGrowLefts5
import Derived.Test.YtmdlpmhkpnobeaaGreatDoorChecked
import Derived.KernelRfl
import Derived.Test.YtmdlpmhkpnobeaaGreatDoorRows
import Derived.WalkKit
import Derived.ProofKit
import Derived.OpenShut
import Derived.ShutString
import Derived.ChangeOld
import Derived.Below
import Derived.SizedLaws
import Derived.Test.YtmdlpmhkpnobeaaGreatDoorCards
import Derived.Test.YtmdlpmhkpnobeaaGreatDoorTie
import Derived.LaidMore
import Derived.Lay
import Derived.SevenTiedAt
import Derived.Stop.Joined
import Derived.Handed
import Derived.LaidLaws
set_option linter.unusedVariables false
set_option linter.unusedSimpArgs false
open List renaming getD_eq_getElem?_getD → za, take_of_length_le → zb, getElem?_eq_getElem → zc, take_length → zg, length_append → zi, length_map → zk, length_take → zm, range → zo, mem_cons_self → zp, mem_cons_of_mem → zq, length_cons → zr, replicate → zu, length_replicate → zz, length_set → zD, take → zG, not_mem_nil → zH, mem_singleton → zJ, drop_of_length_le → zK
open Bool renaming and_eq_true → zd
open Int renaming natCast_nonneg → ze, mul_le_mul_of_nonneg_right → zt, natAbs → zx, ofNat_zero → zC
open Option renaming map_eq_some_iff → zf, bind_eq_some_iff → zh, bind_some → zy
open Nat renaming le_refl → zj, le_trans → zn, mul_le_mul_right → zw, zero_add → zF, add_mul → zI
open Rat renaming num → zE
open Go
namespace Go.Pe
def bdF (n : RNd) : Bool := decide (n.ft < 0) || decide (64 < n.ft) || decide (n.lft < 0) || decide (255 < n.lft) || decide (n.rgt < 0) || decide (255 < n.rgt)
def bdT (t : List RNd) : Bool := decide ((t.length : Int) < 1) || decide (255 < (t.length : Int)) || t.any bdF
theorem fits_l1 {t : List RNd} {ts : List (List RNd)} {m j : Int} (ht : t.length ≤ 100000) : ∀ (d i : Nat), i + d = t.length →
  LP FF [(22, 0), (23, 0), (24, 0), (36, 0), (37, 0), (38, 0)] [(2, 0), (22, 0), (23, 0), (24, 0)] b248_1 [.l 1 (ts.map eTr), (AV.i .i64 m), (AV.i .i64 j), .l 14 (t.map eNd), (AV.i .i64 ((t.length : Int))), (AV.i .i64 ((i : Int)))] = if (t.drop i).any bdF then some (.ret, [.b false, .l 1 (ts.map eTr), (AV.i .i64 m), (AV.i .i64 j)]) else some (.exit 2, [.junk, .l 1 (ts.map eTr), (AV.i .i64 m), (AV.i .i64 j)]) := by
 intro d
 induction d with
 | zero =>
  intro i hi
  have c1 : ¬ (i : Int) < (t.length : Int) := by omega
  rw [zK (by omega), List.any_nil, if_neg (by decide)]
  rw [LP_go FF b248_1.eq_1]
  simp only [RB, RL, un, St.none, Nat.reduceEqDiff, Nat.reduceAdd, Nat.reduceMul, Nat.reduceMod, Nat.reduceLeDiff, Nat.reduceLT, Int.reduceLT, Int.reduceLE, Int.reduceEq, Int.reduceToNat, Int.reduceSub, Int.reduceNeg, Int.reduceAdd, ↓reduceIte, reduceCtorEq, pack, pid, parN, lid, chkK, apartV, Heap.none, c1, eTr_rules, eTr_row]
 | succ d ih =>
  intro i hi
  have hlt : i < t.length := by omega
  have h9 := ih (i + 1) (by omega)
  have c1 : (i : Int) < (t.length : Int) := by omega
  have e2 : IntKind.i64.wrap ((i : Int) + 1) = ((i + 1 : Nat) : Int) := w64succ (by omega)
  rw [any_drop dNd hlt]
  obtain ⟨x, hx⟩ : ∃ x, x = t.getD i dNd := ⟨_, rfl⟩
  rw [← hx]
  have hx' := hx.symm
  have hb : bdF x = (decide (x.ft < 0) || decide (64 < x.ft) || decide (x.lft < 0) || decide (255 < x.lft) || decide (x.rgt < 0) || decide (255 < x.rgt)) := rfl
  rw [hb]
  obtain ⟨xl, xf, xc, xa, xb, xm, xv, xw⟩ := x
  simp only
  by_cases b1 : xf < 0
  ·rw [if_pos (by simp [b1])]
   rw [LP_go FF b248_1.eq_1]
   simp only [RB, RL, un, St.none, Nat.reduceEqDiff, Nat.reduceAdd, Nat.reduceMul, Nat.reduceMod, Nat.reduceLeDiff, Nat.reduceLT, Int.reduceLT, Int.reduceLE, Int.reduceEq, Int.reduceToNat, Int.reduceSub, Int.reduceNeg, Int.reduceAdd, ↓reduceIte, reduceCtorEq, pack, pid, parN, lid, chkK, apartV, Heap.none, c1, hx', eNd_rules, eNd_row, eNd, eTr_rules, eTr_row, ze, e2, n64, b1]
  by_cases b2 : 64 < xf
  ·rw [if_pos (by simp [b1, b2])]
   rw [LP_go FF b248_1.eq_1]
   simp only [RB, RL, un, St.none, Nat.reduceEqDiff, Nat.reduceAdd, Nat.reduceMul, Nat.reduceMod, Nat.reduceLeDiff, Nat.reduceLT, Int.reduceLT, Int.reduceLE, Int.reduceEq, Int.reduceToNat, Int.reduceSub, Int.reduceNeg, Int.reduceAdd, ↓reduceIte, reduceCtorEq, pack, pid, parN, lid, chkK, apartV, Heap.none, c1, hx', eNd_rules, eNd_row, eNd, eTr_rules, eTr_row, ze, e2, n64, b1, b2]
  by_cases b3 : xa < 0
  ·rw [if_pos (by simp [b1, b2, b3])]
   rw [LP_go FF b248_1.eq_1]
   simp only [RB, RL, un, St.none, Nat.reduceEqDiff, Nat.reduceAdd, Nat.reduceMul, Nat.reduceMod, Nat.reduceLeDiff, Nat.reduceLT, Int.reduceLT, Int.reduceLE, Int.reduceEq, Int.reduceToNat, Int.reduceSub, Int.reduceNeg, Int.reduceAdd, ↓reduceIte, reduceCtorEq, pack, pid, parN, lid, chkK, apartV, Heap.none, c1, hx', eNd_rules, eNd_row, eNd, eTr_rules, eTr_row, ze, e2, n64, b1, b2, b3]
  by_cases b4 : 255 < xa
  ·rw [if_pos (by simp [b1, b2, b3, b4])]
   rw [LP_go FF b248_1.eq_1]
   simp only [RB, RL, un, St.none, Nat.reduceEqDiff, Nat.reduceAdd, Nat.reduceMul, Nat.reduceMod, Nat.reduceLeDiff, Nat.reduceLT, Int.reduceLT, Int.reduceLE, Int.reduceEq, Int.reduceToNat, Int.reduceSub, Int.reduceNeg, Int.reduceAdd, ↓reduceIte, reduceCtorEq, pack, pid, parN, lid, chkK, apartV, Heap.none, c1, hx', eNd_rules, eNd_row, eNd, eTr_rules, eTr_row, ze, e2, n64, b1, b2, b3, b4]
  by_cases b5 : xb < 0
  ·rw [if_pos (by simp [b1, b2, b3, b4, b5])]
   rw [LP_go FF b248_1.eq_1]
   simp only [RB, RL, un, St.none, Nat.reduceEqDiff, Nat.reduceAdd, Nat.reduceMul, Nat.reduceMod, Nat.reduceLeDiff, Nat.reduceLT, Int.reduceLT, Int.reduceLE, Int.reduceEq, Int.reduceToNat, Int.reduceSub, Int.reduceNeg, Int.reduceAdd, ↓reduceIte, reduceCtorEq, pack, pid, parN, lid, chkK, apartV, Heap.none, c1, hx', eNd_rules, eNd_row, eNd, eTr_rules, eTr_row, ze, e2, n64, b1, b2, b3, b4, b5]
  by_cases b6 : 255 < xb
  ·rw [if_pos (by simp [b1, b2, b3, b4, b5, b6])]
   rw [LP_go FF b248_1.eq_1]
   simp only [RB, RL, un, St.none, Nat.reduceEqDiff, Nat.reduceAdd, Nat.reduceMul, Nat.reduceMod, Nat.reduceLeDiff, Nat.reduceLT, Int.reduceLT, Int.reduceLE, Int.reduceEq, Int.reduceToNat, Int.reduceSub, Int.reduceNeg, Int.reduceAdd, ↓reduceIte, reduceCtorEq, pack, pid, parN, lid, chkK, apartV, Heap.none, c1, hx', eNd_rules, eNd_row, eNd, eTr_rules, eTr_row, ze, e2, n64, b1, b2, b3, b4, b5, b6]
  rw [show (decide (xf < 0) || decide (64 < xf) || decide (xa < 0) || decide (255 < xa) || decide (xb < 0) || decide (255 < xb)) = false by simp [b1, b2, b3, b4, b5, b6], Bool.false_or]
  rw [LP_go FF b248_1.eq_1]
  simp only [RB, RL, un, St.none, Nat.reduceEqDiff, Nat.reduceAdd, Nat.reduceMul, Nat.reduceMod, Nat.reduceLeDiff, Nat.reduceLT, Int.reduceLT, Int.reduceLE, Int.reduceEq, Int.reduceToNat, Int.reduceSub, Int.reduceNeg, Int.reduceAdd, ↓reduceIte, reduceCtorEq, pack, pid, parN, lid, chkK, apartV, Heap.none, c1, hx', eNd_rules, eNd_row, eNd, eTr_rules, eTr_row, ze, e2, n64, b1, b2, b3, b4, b5, b6]
  exact h9
theorem any_dropT {p : List RNd → Bool} {l : List (List RNd)} {i : Nat} (h : i < l.length) : (l.drop i).any p = (p (l.getD i []) || (l.drop (i + 1)).any p) := any_drop [] h
theorem fits_l0 {ts : List (List RNd)} (hts : ts.length ≤ 100000) (ht : ∀ t ∈ ts, t.length ≤ 100000) : ∀ (d i : Nat), i + d = ts.length →
  LP FF [(22, 0), (23, 0), (24, 0)] [(2, 0)] b248_0 [.l 1 (ts.map eTr), (AV.i .i64 ((ts.length : Int))), (AV.i .i64 ((i : Int)))] = if (ts.drop i).any bdT then some (.ret, [.b false]) else some (.exit 0, [.junk]) := by
 intro d
 induction d with
 | zero =>
  intro i hi
  have c1 : ¬ (i : Int) < (ts.length : Int) := by omega
  rw [zK (by omega), List.any_nil, if_neg (by decide)]
  rw [LP_go FF b248_0.eq_1]
  simp only [RB, RL, un, St.none, Nat.reduceEqDiff, Nat.reduceAdd, Nat.reduceMul, Nat.reduceMod, Nat.reduceLeDiff, Nat.reduceLT, Int.reduceLT, Int.reduceLE, Int.reduceEq, Int.reduceToNat, Int.reduceSub, Int.reduceNeg, Int.reduceAdd, ↓reduceIte, reduceCtorEq, pack, pid, parN, lid, chkK, apartV, Heap.none, c1, eTr_rules, eTr_row]
 | succ d ih =>
  intro i hi
  have hlt : i < ts.length := by omega
  have h9 := ih (i + 1) (by omega)
  have c1 : (i : Int) < (ts.length : Int) := by omega
  have e2 : IntKind.i64.wrap ((i : Int) + 1) = ((i + 1 : Nat) : Int) := w64succ (by omega)
  rw [any_dropT hlt]
  have l1 := fits_l1 (t := ts.getD i []) (ts := ts) (m := (ts.length : Int)) (j := (i : Int)) (ht _ (getD_mem' [] hlt)) (ts.getD i []).length 0 (by omega)
  rw [zC, List.drop_zero] at l1
  obtain ⟨x, hx⟩ : ∃ x, x = ts.getD i [] := ⟨_, rfl⟩
  rw [← hx] at l1 ⊢
  have hx' := hx.symm
  have hb : bdT x = (decide ((x.length : Int) < 1) || decide (255 < (x.length : Int)) || x.any bdF) := rfl
  rw [hb]
  by_cases b1 : (x.length : Int) < 1
  ·rw [if_pos (by simp [b1])]
   rw [LP_go FF b248_0.eq_1]
   simp only [RB, RL, un, St.none, Nat.reduceEqDiff, Nat.reduceAdd, Nat.reduceMul, Nat.reduceMod, Nat.reduceLeDiff, Nat.reduceLT, Int.reduceLT, Int.reduceLE, Int.reduceEq, Int.reduceToNat, Int.reduceSub, Int.reduceNeg, Int.reduceAdd, ↓reduceIte, reduceCtorEq, pack, pid, parN, lid, chkK, apartV, Heap.none, c1, hx', eNd_rules, eNd_row, eTr_rules, eTr_row, ze, e2, n64, b1]
  by_cases b2 : 255 < (x.length : Int)
  ·rw [if_pos (by simp [b2])]
   rw [LP_go FF b248_0.eq_1]
   simp only [RB, RL, un, St.none, Nat.reduceEqDiff, Nat.reduceAdd, Nat.reduceMul, Nat.reduceMod, Nat.reduceLeDiff, Nat.reduceLT, Int.reduceLT, Int.reduceLE, Int.reduceEq, Int.reduceToNat, Int.reduceSub, Int.reduceNeg, Int.reduceAdd, ↓reduceIte, reduceCtorEq, pack, pid, parN, lid, chkK, apartV, Heap.none, c1, hx', eNd_rules, eNd_row, eTr_rules, eTr_row, ze, e2, n64, b1, b2]
  rw [decide_eq_false b1, decide_eq_false b2, Bool.false_or, Bool.false_or]
  cases hf : x.any bdF
  ·rw [hf, if_neg (by decide)] at l1
   rw [Bool.false_or]
   rw [LP_go FF b248_0.eq_1]
   simp only [RB, RL, un, St.none, Nat.reduceEqDiff, Nat.reduceAdd, Nat.reduceMul, Nat.reduceMod, Nat.reduceLeDiff, Nat.reduceLT, Int.reduceLT, Int.reduceLE, Int.reduceEq, Int.reduceToNat, Int.reduceSub, Int.reduceNeg, Int.reduceAdd, ↓reduceIte, reduceCtorEq, pack, pid, parN, lid, chkK, apartV, Heap.none, c1, hx', eNd_rules, eNd_row, eTr_rules, eTr_row, ze, e2, n64, b1, b2, l1]
   exact h9
  ·rw [hf, if_pos rfl] at l1
   rw [Bool.true_or, if_pos rfl]
   rw [LP_go FF b248_0.eq_1]
   simp only [RB, RL, un, St.none, Nat.reduceEqDiff, Nat.reduceAdd, Nat.reduceMul, Nat.reduceMod, Nat.reduceLeDiff, Nat.reduceLT, Int.reduceLT, Int.reduceLE, Int.reduceEq, Int.reduceToNat, Int.reduceSub, Int.reduceNeg, Int.reduceAdd, ↓reduceIte, reduceCtorEq, pack, pid, parN, lid, chkK, apartV, Heap.none, c1, hx', eNd_rules, eNd_row, eTr_rules, eTr_row, ze, e2, n64, b1, b2, l1]
def fitB (m : RM) : Bool := !(decide (m.1 < 0) || decide (64 < m.1) || decide (64 < (m.2.length : Int)) || m.2.any bdT)
theorem fits_c {m : RM} (hts : m.2.length ≤ 100000) (ht : ∀ t ∈ m.2, t.length ≤ 100000) : R FF 248 [.agg (eM m)] = some (.b (fitB m)) := by
 obtain ⟨f, ts⟩ := m
 have hts : ts.length ≤ 100000 := hts
 have ht : ∀ t ∈ ts, t.length ≤ 100000 := ht
 have l0 := fits_l0 hts ht ts.length 0 (by omega)
 rw [zC, List.drop_zero] at l0
 have hb : fitB (f, ts) = !(decide (f < 0) || decide (64 < f) || decide (64 < (ts.length : Int)) || ts.any bdT) := rfl
 rw [hb]
 simp only [eM] at l0 ⊢
 by_cases b1 : f < 0
 ·rw [decide_eq_true b1]
  rw [R_go FF F248 c248.eq_1]
  simp only [RB, RL, un, St.none, Nat.reduceEqDiff, Nat.reduceAdd, Nat.reduceMul, Nat.reduceMod, Nat.reduceLeDiff, Nat.reduceLT, Int.reduceLT, Int.reduceLE, Int.reduceEq, Int.reduceToNat, Int.reduceSub, Int.reduceNeg, Int.reduceAdd, ↓reduceIte, reduceCtorEq, pack, pid, parN, lid, chkK, apartV, Heap.none, b1, eTr_rules, eTr_row, n64]
 by_cases b2 : 64 < f
 ·rw [decide_eq_true b2]
  rw [R_go FF F248 c248.eq_1]
  simp only [RB, RL, un, St.none, Nat.reduceEqDiff, Nat.reduceAdd, Nat.reduceMul, Nat.reduceMod, Nat.reduceLeDiff, Nat.reduceLT, Int.reduceLT, Int.reduceLE, Int.reduceEq, Int.reduceToNat, Int.reduceSub, Int.reduceNeg, Int.reduceAdd, ↓reduceIte, reduceCtorEq, pack, pid, parN, lid, chkK, apartV, Heap.none, b1, b2, eTr_rules, eTr_row, n64]
 by_cases b3 : 64 < (ts.length : Int)
 ·rw [decide_eq_true b3]
  rw [R_go FF F248 c248.eq_1]
  simp only [RB, RL, un, St.none, Nat.reduceEqDiff, Nat.reduceAdd, Nat.reduceMul, Nat.reduceMod, Nat.reduceLeDiff, Nat.reduceLT, Int.reduceLT, Int.reduceLE, Int.reduceEq, Int.reduceToNat, Int.reduceSub, Int.reduceNeg, Int.reduceAdd, ↓reduceIte, reduceCtorEq, pack, pid, parN, lid, chkK, apartV, Heap.none, b1, b2, b3, eTr_rules, eTr_row, n64]
 rw [decide_eq_false b1, decide_eq_false b2, decide_eq_false b3, Bool.false_or, Bool.false_or, Bool.false_or]
 cases hf : ts.any bdT
 ·rw [hf, if_neg (by decide)] at l0
  rw [R_go FF F248 c248.eq_1]
  simp only [RB, RL, un, St.none, Nat.reduceEqDiff, Nat.reduceAdd, Nat.reduceMul, Nat.reduceMod, Nat.reduceLeDiff, Nat.reduceLT, Int.reduceLT, Int.reduceLE, Int.reduceEq, Int.reduceToNat, Int.reduceSub, Int.reduceNeg, Int.reduceAdd, ↓reduceIte, reduceCtorEq, pack, pid, parN, lid, chkK, apartV, Heap.none, b1, b2, b3, eTr_rules, eTr_row, n64, l0]
 ·rw [hf, if_pos rfl] at l0
  rw [R_go FF F248 c248.eq_1]
  simp only [RB, RL, un, St.none, Nat.reduceEqDiff, Nat.reduceAdd, Nat.reduceMul, Nat.reduceMod, Nat.reduceLeDiff, Nat.reduceLT, Int.reduceLT, Int.reduceLE, Int.reduceEq, Int.reduceToNat, Int.reduceSub, Int.reduceNeg, Int.reduceAdd, ↓reduceIte, reduceCtorEq, pack, pid, parN, lid, chkK, apartV, Heap.none, b1, b2, b3, eTr_rules, eTr_row, n64, l0]
def bump (P : List Int) (n : RNd) : List Int := if n.leaf then P else
 (P.set n.lft.toNat (P.getD n.lft.toNat 0 + 1)).set n.rgt.toNat ((P.set n.lft.toNat (P.getD n.lft.toNat 0 + 1)).getD n.rgt.toNat 0 + 1)
def parL (t : List RNd) : List Int := t.foldl bump (zu t.length 0)
theorem bump_len (P : List Int) (n : RNd) : (bump P n).length = P.length := by
 unfold bump; split
 ·rfl
 ·rw [zD, zD]
theorem getD_set (P : List Int) (a b : Nat) (x : Int) : (P.set a x).getD b 0 = if a = b ∧ a < P.length then x else P.getD b 0 := by
 rw [za, za, List.getElem?_set]
 by_cases h : a = b
 ·subst h
  by_cases h2 : a < P.length
  ·rw [if_pos rfl, if_pos h2, if_pos ⟨rfl, h2⟩]; rfl
  ·rw [if_pos rfl, if_neg h2, if_neg (fun h => h2 h.2), List.getElem?_eq_none (by omega)]
 ·rw [if_neg h, if_neg (fun k => h k.1)]
def Bnd (P : List Int) (k : Int) : Prop := ∀ j, 0 ≤ P.getD j 0 ∧ P.getD j 0 ≤ k
theorem bump_bnd {P : List Int} {k : Int} (h : Bnd P k) (n : RNd) : Bnd (bump P n) (k + 2) := by
 intro j
 unfold bump
 split
 ·have := h j; omega
 ·have h1 : ∀ i, 0 ≤ (P.set n.lft.toNat (P.getD n.lft.toNat 0 + 1)).getD i 0 ∧ (P.set n.lft.toNat (P.getD n.lft.toNat 0 + 1)).getD i 0 ≤ k + 1 := by
   intro i
   rw [getD_set]
   have a := h i
   have b := h n.lft.toNat
   split <;> omega
  rw [getD_set]
  have a := h1 j
  have b := h1 n.rgt.toNat
  split <;> omega
theorem drop_foldT {β : Type} {g : β → RNd → β} {l : List RNd} {i : Nat} (o : β) (h : i < l.length) : (l.drop i).foldl g o = (l.drop (i + 1)).foldl g (g o (l.getD i dNd)) := by
 rw [List.drop_eq_getElem_cons h, List.foldl_cons, za, zc h]; rfl
theorem shape_l3 {t : List RNd} {f : Int} (ht : t.length ≤ 100000) (hr : t.any (bdR t.length f) = false) : ∀ (d i : Nat) (P : List Int), i + d = t.length → P.length = t.length → Bnd P (2 * (i : Int)) →
  LP FF [(4, 1), (0, 0), (18, 0), (19, 0), (20, 0)] [(0, 0), (4, 0)] b250_3 [.own true 1 (P.map n64), .l 14 (t.map eNd), .l 14 (t.map eNd), (AV.i .i64 ((t.length : Int))), (AV.i .i64 ((i : Int)))] = some (.exit 0, [.l 14 (t.map eNd), .l 1 (((t.drop i).foldl bump P).map n64)]) := by
 intro d
 induction d with
 | zero =>
  intro i P hi hP hB
  have c1 : ¬ (i : Int) < (t.length : Int) := by omega
  rw [zK (by omega), List.foldl_nil]
  rw [LP_go FF b250_3.eq_1]
  simp only [RB, RL, un, St.none, Nat.reduceEqDiff, Nat.reduceAdd, Nat.reduceMul, Nat.reduceMod, Nat.reduceLeDiff, Nat.reduceLT, Int.reduceLT, Int.reduceLE, Int.reduceEq, Int.reduceToNat, Int.reduceSub, Int.reduceNeg, Int.reduceAdd, ↓reduceIte, reduceCtorEq, pack, pid, parN, lid, chkK, apartV, Heap.none, c1, eNd_rules, eNd_row, zg]
 | succ d ih =>
  intro i P hi hP hB
  have hlt : i < t.length := by omega
  have c1 : (i : Int) < (t.length : Int) := by omega
  have e2 : IntKind.i64.wrap ((i : Int) + 1) = ((i + 1 : Nat) : Int) := w64succ (by omega)
  have hmem := getD_mem' dNd hlt
  have hr2 : bdR t.length f (t.getD i dNd) = false := by
   rw [List.any_eq_false] at hr
   simpa using hr _ hmem
  have h9 := ih (i + 1) (bump P (t.getD i dNd)) (by omega) (by rw [bump_len, hP]) (by
   have := bump_bnd hB (t.getD i dNd)
   rwa [show 2 * (i : Int) + 2 = 2 * ((i + 1 : Nat) : Int) by omega] at this)
  rw [drop_foldT P hlt]
  obtain ⟨x, hx⟩ : ∃ x, x = t.getD i dNd := ⟨_, rfl⟩
  rw [← hx] at hr2 h9 ⊢
  have hx' := hx.symm
  obtain ⟨xl, xf, xc, xa, xb, xm, xv, xw⟩ := x
  cases xl with
  | true =>
   rw [show bump P ⟨true, xf, xc, xa, xb, xm, xv, xw⟩ = P from rfl] at h9 ⊢
   rw [LP_go FF b250_3.eq_1]
   simp only [RB, RL, un, St.none, Nat.reduceEqDiff, Nat.reduceAdd, Nat.reduceMul, Nat.reduceMod, Nat.reduceLeDiff, Nat.reduceLT, Int.reduceLT, Int.reduceLE, Int.reduceEq, Int.reduceToNat, Int.reduceSub, Int.reduceNeg, Int.reduceAdd, ↓reduceIte, reduceCtorEq, pack, pid, parN, lid, chkK, apartV, Heap.none, c1, hx', eNd_rules, eNd_row, eNd, ze, e2, zg]
   exact h9
  | false =>
   have hr3 : (decide (xf < 0) || decide (f ≤ xf) || decide (xa < 1) || decide ((t.length : Int) ≤ xa) || decide (xb < 1) || decide ((t.length : Int) ≤ xb)) = false := hr2
   simp only [Bool.or_eq_false_iff, decide_eq_false_iff_not] at hr3
   have a1 : 0 ≤ xa := by omega
   have a2 : xa < (t.length : Int) := by omega
   have b1 : 0 ≤ xb := by omega
   have b2 : xb < (t.length : Int) := by omega
   have a3 : xa.toNat < t.length := by omega
   have b3 : xb.toNat < t.length := by omega
   have q1 := hB xa.toNat
   have w1 : IntKind.i64.wrap (P.getD xa.toNat 0 + 1) = P.getD xa.toNat 0 + 1 := w64 (by omega) (by omega)
   have eb : bump P ⟨false, xf, xc, xa, xb, xm, xv, xw⟩ = (P.set xa.toNat (P.getD xa.toNat 0 + 1)).set xb.toNat ((P.set xa.toNat (P.getD xa.toNat 0 + 1)).getD xb.toNat 0 + 1) := rfl
   have q2 : 0 ≤ (P.set xa.toNat (P.getD xa.toNat 0 + 1)).getD xb.toNat 0 ∧ (P.set xa.toNat (P.getD xa.toNat 0 + 1)).getD xb.toNat 0 ≤ 2 * (i : Int) + 1 := by
    rw [getD_set]
    have a := hB xb.toNat
    split <;> omega
   have w2 : IntKind.i64.wrap ((P.set xa.toNat (P.getD xa.toNat 0 + 1)).getD xb.toNat 0 + 1) = (P.set xa.toNat (P.getD xa.toNat 0 + 1)).getD xb.toNat 0 + 1 := w64 (by omega) (by omega)
   rw [eb] at h9 ⊢
   have hl1 : (P.set xa.toNat (P.getD xa.toNat 0 + 1)).length = t.length := by rw [zD, hP]
   generalize hP1 : P.set xa.toNat (P.getD xa.toNat 0 + 1) = P1 at *
   have hl2 : (P1.set xb.toNat (P1.getD xb.toNat 0 + 1)).length = t.length := by rw [zD, hl1]
   generalize hP2 : P1.set xb.toNat (P1.getD xb.toNat 0 + 1) = P2 at *
   have t2 : zG t.length P2 = P2 := zb (by omega)
   rw [LP_go FF b250_3.eq_1]
   simp only [RB, RL, un, St.none, Nat.reduceEqDiff, Nat.reduceAdd, Nat.reduceMul, Nat.reduceMod, Nat.reduceLeDiff, Nat.reduceLT, Int.reduceLT, Int.reduceLE, Int.reduceEq, Int.reduceToNat, Int.reduceSub, Int.reduceNeg, Int.reduceAdd, ↓reduceIte, reduceCtorEq, pack, pid, parN, lid, chkK, apartV, Heap.none, c1, hx', eNd_rules, eNd_row, eNd, ze, e2, a1, a2, b1, b2, a3, b3, hP, hl1, hl2, w1, w2, hP1, hP2, t2]
   exact h9
theorem shape_l2 {t : List RNd} {P : List Int} (ht : t.length ≤ 100000) (hP : P.length = t.length) : ∀ (d i : Nat), i + d = t.length →
  (∃ j, 0 < j ∧ j < t.length ∧ P.getD j 0 ≠ 1 ∧ LP FF [(0, 0), (42, 0), (43, 0), (44, 0)] [(0, 0), (2, 0), (3, 0)] b250_2 [.l 14 (t.map eNd), .l 1 (P.map n64), (AV.i .i64 ((t.length : Int))), (AV.i .i64 ((i : Int)))] = some (.ret, [.l 14 (t.map eNd), (AV.i .i64 ((j : Int))), (AV.i .i64 11)])) ∨
  ((∀ j, i ≤ j → j < t.length → 0 < j → P.getD j 0 = 1) ∧ LP FF [(0, 0), (42, 0), (43, 0), (44, 0)] [(0, 0), (2, 0), (3, 0)] b250_2 [.l 14 (t.map eNd), .l 1 (P.map n64), (AV.i .i64 ((t.length : Int))), (AV.i .i64 ((i : Int)))] = some (.exit 2, [.l 14 (t.map eNd), .junk, .junk])) := by
 intro d
 induction d with
 | zero =>
  intro i hi
  refine .inr ⟨fun j h1 h2 => by omega, ?_⟩
  have c1 : ¬ (i : Int) < (t.length : Int) := by omega
  rw [LP_go FF b250_2.eq_1]
  simp only [RB, RL, un, St.none, Nat.reduceEqDiff, Nat.reduceAdd, Nat.reduceMul, Nat.reduceMod, Nat.reduceLeDiff, Nat.reduceLT, Int.reduceLT, Int.reduceLE, Int.reduceEq, Int.reduceToNat, Int.reduceSub, Int.reduceNeg, Int.reduceAdd, ↓reduceIte, reduceCtorEq, pack, pid, parN, lid, chkK, apartV, Heap.none, c1, eNd_rules, eNd_row]
 | succ d ih =>
  intro i hi
  have hlt : i < t.length := by omega
  have c1 : (i : Int) < (t.length : Int) := by omega
  have c2 : i < t.length := hlt
  have e2 : IntKind.i64.wrap ((i : Int) + 1) = ((i + 1 : Nat) : Int) := w64succ (by omega)
  by_cases h0 : 0 < (i : Int)
  ·by_cases h1 : P.getD i 0 = 1
   ·have step : LP FF [(0, 0), (42, 0), (43, 0), (44, 0)] [(0, 0), (2, 0), (3, 0)] b250_2 [.l 14 (t.map eNd), .l 1 (P.map n64), (AV.i .i64 ((t.length : Int))), (AV.i .i64 ((i : Int)))] = LP FF [(0, 0), (42, 0), (43, 0), (44, 0)] [(0, 0), (2, 0), (3, 0)] b250_2 [.l 14 (t.map eNd), .l 1 (P.map n64), (AV.i .i64 ((t.length : Int))), (AV.i .i64 (((i + 1 : Nat) : Int)))] := by
     rw [LP_go FF b250_2.eq_1]
     simp only [RB, RL, un, St.none, Nat.reduceEqDiff, Nat.reduceAdd, Nat.reduceMul, Nat.reduceMod, Nat.reduceLeDiff, Nat.reduceLT, Int.reduceLT, Int.reduceLE, Int.reduceEq, Int.reduceToNat, Int.reduceSub, Int.reduceNeg, Int.reduceAdd, ↓reduceIte, reduceCtorEq, pack, pid, parN, lid, chkK, apartV, Heap.none, c1, c2, h0, h1, hP, eNd_rules, eNd_row, ze, e2]
    rw [step]
    rcases ih (i + 1) (by omega) with h9 | ⟨h8, h9⟩
    ·exact .inl h9
    ·exact .inr ⟨fun j a b c => by
      rcases Nat.eq_or_lt_of_le a with rfl | a
      ·exact h1
      ·exact h8 j a b c, h9⟩
   ·refine .inl ⟨i, by omega, hlt, h1, ?_⟩
    rw [LP_go FF b250_2.eq_1]
    simp only [RB, RL, un, St.none, Nat.reduceEqDiff, Nat.reduceAdd, Nat.reduceMul, Nat.reduceMod, Nat.reduceLeDiff, Nat.reduceLT, Int.reduceLT, Int.reduceLE, Int.reduceEq, Int.reduceToNat, Int.reduceSub, Int.reduceNeg, Int.reduceAdd, ↓reduceIte, reduceCtorEq, pack, pid, parN, lid, chkK, apartV, Heap.none, c1, c2, h0, h1, hP, eNd_rules, eNd_row, ze, e2]
  ·have step : LP FF [(0, 0), (42, 0), (43, 0), (44, 0)] [(0, 0), (2, 0), (3, 0)] b250_2 [.l 14 (t.map eNd), .l 1 (P.map n64), (AV.i .i64 ((t.length : Int))), (AV.i .i64 ((i : Int)))] = LP FF [(0, 0), (42, 0), (43, 0), (44, 0)] [(0, 0), (2, 0), (3, 0)] b250_2 [.l 14 (t.map eNd), .l 1 (P.map n64), (AV.i .i64 ((t.length : Int))), (AV.i .i64 (((i + 1 : Nat) : Int)))] := by
    rw [LP_go FF b250_2.eq_1]
    simp only [RB, RL, un, St.none, Nat.reduceEqDiff, Nat.reduceAdd, Nat.reduceMul, Nat.reduceMod, Nat.reduceLeDiff, Nat.reduceLT, Int.reduceLT, Int.reduceLE, Int.reduceEq, Int.reduceToNat, Int.reduceSub, Int.reduceNeg, Int.reduceAdd, ↓reduceIte, reduceCtorEq, pack, pid, parN, lid, chkK, apartV, Heap.none, c1, c2, h0, hP, eNd_rules, eNd_row, ze, e2]
   rw [step]
   rcases ih (i + 1) (by omega) with h9 | ⟨h8, h9⟩
   ·exact .inl h9
   ·exact .inr ⟨fun j a b c => h8 j (by omega) b c, h9⟩
def kids (n : RNd) : List Nat := if n.leaf then [] else [n.rgt.toNat, n.lft.toNat]
def cntN (j : Nat) (n : RNd) : Nat := if n.leaf then 0 else (if n.lft.toNat = j then 1 else 0) + (if n.rgt.toNat = j then 1 else 0)
def cnt (j : Nat) : List RNd → Nat
 | [] => 0
 | n :: l => cntN j n + cnt j l
theorem bump_cnt {P : List Int} {n : RNd} (hn : n.leaf = false → n.lft.toNat < P.length ∧ n.rgt.toNat < P.length) (j : Nat) : (bump P n).getD j 0 = P.getD j 0 + (cntN j n : Nat) := by
 unfold bump cntN
 cases hl : n.leaf with
 | true => simp
 | false =>
  obtain ⟨h1, h2⟩ := hn hl
  simp only [Bool.false_eq_true, if_false]
  rw [getD_set, getD_set, getD_set, zD]
  by_cases e1 : n.lft.toNat = j <;> by_cases e2 : n.rgt.toNat = j
  ·have e3 : n.lft.toNat = n.rgt.toNat := by omega
   rw [if_pos ⟨e2, h2⟩, if_pos ⟨e3, h1⟩, if_pos e1, if_pos e2, e1]; omega
  ·rw [if_neg (fun h => e2 h.1), if_pos ⟨e1, h1⟩, if_pos e1, if_neg e2, e1]; omega
  ·have e3 : ¬ n.lft.toNat = n.rgt.toNat := by omega
   rw [if_pos ⟨e2, h2⟩, if_neg (fun h => e3 h.1), if_neg e1, if_pos e2, e2]; omega
  ·rw [if_neg (fun h => e2 h.1), if_neg (fun h => e1 h.1), if_neg e1, if_neg e2]; omega
theorem foldl_cnt : ∀ (l : List RNd) (P : List Int), (∀ n ∈ l, n.leaf = false → n.lft.toNat < P.length ∧ n.rgt.toNat < P.length) → ∀ j, (l.foldl bump P).getD j 0 = P.getD j 0 + (cnt j l : Nat) := by
 intro l
 induction l with
 | nil => intro P _ j; show P.getD j 0 = P.getD j 0 + ((0 : Nat) : Int); omega
 | cons n l ih =>
  intro P h j
  have h1 := bump_cnt (h n (zp ..)) j
  have h2 := ih (bump P n) (fun m hm => by rw [bump_len]; exact h m (zq _ hm)) j
  rw [List.foldl_cons, h2, h1]
  show _ = _ + ((cntN j n + cnt j l : Nat) : Int)
  omega
theorem parL_cnt {t : List RNd} (h : ∀ n ∈ t, n.leaf = false → n.lft.toNat < t.length ∧ n.rgt.toNat < t.length) (j : Nat) : (parL t).getD j 0 = (cnt j t : Nat) := by
 unfold parL
 rw [foldl_cnt t _ (fun n hn hl => by rw [zz]; exact h n hn hl)]
 have e : (zu t.length (0 : Int)).getD j 0 = 0 := by
  rw [za, List.getElem?_replicate]
  split <;> rfl
 rw [e]; omega
theorem cntN_kids {j : Nat} {n : RNd} (h : j ∈ kids n) : 1 ≤ cntN j n := by
 unfold kids at h
 unfold cntN
 split at h
 ·exact (zH h).elim
 ·rename_i hl
  rw [if_neg hl]
  simp only [List.mem_cons, zH, or_false] at h
  rcases h with rfl | rfl <;> simp
theorem cnt_one : ∀ (l : List RNd) (i j : Nat), i < l.length → j ∈ kids (l.getD i dNd) → 1 ≤ cnt j l := by
 intro l
 induction l with
 | nil => intro i j h; exact absurd h (Nat.not_lt_zero _)
 | cons n l ih =>
  intro i j hi hk
  show 1 ≤ cntN j n + cnt j l
  cases i with
  | zero => have := cntN_kids (show j ∈ kids n from hk); omega
  | succ i => have := ih i j (by rw [zr] at hi; omega) hk; omega
theorem cnt_two : ∀ (l : List RNd) (i i' j : Nat), i < i' → i' < l.length → j ∈ kids (l.getD i dNd) → j ∈ kids (l.getD i' dNd) → 2 ≤ cnt j l := by
 intro l
 induction l with
 | nil => intro i i' j _ h; exact absurd h (Nat.not_lt_zero _)
 | cons n l ih =>
  intro i i' j hlt hi hk hk'
  show 2 ≤ cntN j n + cnt j l
  cases i' with
  | zero => omega
  | succ i' =>
   rw [zr] at hi
   cases i with
   | zero =>
    have h1 := cntN_kids (show j ∈ kids n from hk)
    have h2 := cnt_one l i' j (by omega) hk'
    omega
   | succ i => have := ih i i' j (by omega) (by omega) hk hk'; omega
theorem cnt_dup : ∀ (l : List RNd) (i : Nat), i < l.length → (l.getD i dNd).leaf = false → (l.getD i dNd).lft.toNat = (l.getD i dNd).rgt.toNat → 2 ≤ cnt (l.getD i dNd).lft.toNat l := by
 intro l
 induction l with
 | nil => intro i h; exact absurd h (Nat.not_lt_zero _)
 | cons n l ih =>
  intro i hi hl he
  cases i with
  | zero =>
   have hl : n.leaf = false := hl
   have he : n.lft.toNat = n.rgt.toNat := he
   show 2 ≤ cntN n.lft.toNat n + cnt n.lft.toNat l
   unfold cntN
   rw [hl, if_neg (by decide), if_pos rfl, if_pos he.symm]; omega
  | succ i =>
   have := ih i (by rw [zr] at hi; omega) hl he
   show 2 ≤ cntN (l.getD i dNd).lft.toNat n + cnt (l.getD i dNd).lft.toNat l
   omega
structure Par (t : List RNd) : Prop where
 rng : ∀ i, i < t.length → ∀ c ∈ kids (t.getD i dNd), 1 ≤ c ∧ c < t.length
 one : ∀ j, 0 < j → j < t.length → cnt j t = 1
theorem Par.uniq {t : List RNd} (h : Par t) {i i' c : Nat} (hi : i < t.length) (hi' : i' < t.length) (hc : c ∈ kids (t.getD i dNd)) (hc' : c ∈ kids (t.getD i' dNd)) : i = i' := by
 obtain ⟨r1, r2⟩ := h.rng i hi c hc
 have h1 := h.one c (by omega) r2
 rcases Nat.lt_trichotomy i i' with hl | hl | hl
 ·have := cnt_two t i i' c hl hi' hc hc'; omega
 ·exact hl
 ·have := cnt_two t i' i c hl hi hc' hc; omega
theorem Par.nd {t : List RNd} (h : Par t) {i : Nat} (hi : i < t.length) : (kids (t.getD i dNd)).Nodup := by
 have hr := h.rng i hi
 have hd := cnt_dup t i hi
 unfold kids at *
 cases hl : (t.getD i dNd).leaf with
 | true => simp
 | false =>
  rw [hl] at hr hd
  simp only [Bool.false_eq_true, if_false] at hr ⊢
  have hne : (t.getD i dNd).rgt.toNat ≠ (t.getD i dNd).lft.toNat := fun e => by
   have h2 := hd rfl e.symm
   have r := hr (t.getD i dNd).lft.toNat (by simp)
   have := h.one _ (by omega) r.2
   omega
  exact List.nodup_cons.2 ⟨fun hm => hne (List.mem_singleton.1 hm), List.nodup_cons.2 ⟨zH, List.nodup_nil⟩⟩
def dfs (t : List RNd) : Nat → List Nat → Option (List Nat)
 | _, [] => some []
 | 0, _ :: _ => none
 | k + 1, a :: S => (dfs t k (kids (t.getD a dNd) ++ S)).map (a :: ·)
theorem nodup_len : ∀ (n : Nat) {l : List Nat}, l.Nodup → (∀ x ∈ l, x < n) → l.length ≤ n := by
 intro n
 induction n with
 | zero =>
  intro l _ hl
  cases l with
  | nil => exact zj _
  | cons a l => exact absurd (hl a (zp ..)) (Nat.not_lt_zero _)
 | succ n ih =>
  intro l h hl
  by_cases hm : n ∈ l
  ·have h1 := ih (h.erase n) (fun x hx => by
    have h2 := (h.mem_erase_iff).1 hx
    have h3 := hl x h2.2
    omega)
   rw [List.length_erase_of_mem hm] at h1
   omega
  ·have h1 := ih h (fun x hx => by
    have h3 := hl x hx
    have h4 : x ≠ n := fun e => hm (e ▸ hx)
    omega)
   omega
theorem dfs_some {t : List RNd} (h : Par t) : ∀ (k : Nat) (V S : List Nat), (V ++ S).Nodup → (∀ c ∈ V ++ S, c < t.length) → (∀ c ∈ V ++ S, c = 0 ∨ ∃ p ∈ V, c ∈ kids (t.getD p dNd)) → t.length ≤ V.length + k →
  ∃ vis, dfs t k S = some vis ∧ (V ++ vis).Nodup ∧ (∀ c ∈ vis, c < t.length) ∧ ∀ c ∈ S, c ∈ vis := by
 intro k
 induction k with
 | zero =>
  intro V S hnd hlt hp hk
  cases S with
  | nil => exact ⟨[], rfl, hnd, fun _ h => (zH h).elim, fun _ h => (zH h).elim⟩
  | cons a S =>
   have := nodup_len t.length hnd hlt
   rw [zi, zr] at this
   omega
 | succ k ih =>
  intro V S hnd hlt hp hk
  cases S with
  | nil => exact ⟨[], rfl, hnd, fun _ h => (zH h).elim, fun _ h => (zH h).elim⟩
  | cons a S =>
   have ha : a < t.length := hlt a (by simp)
   have hk1 : ∀ c ∈ kids (t.getD a dNd), c ∉ V ++ a :: S := by
    intro c hc hm
    have hr := h.rng a ha c hc
    rcases hp c hm with h0 | ⟨p, hpV, hpc⟩
    ·omega
    ·have hpl : p < t.length := hlt p (by simp [hpV])
     have e := h.uniq hpl ha hpc hc
     subst e
     have := (List.nodup_append.1 hnd).2.2 p hpV p (zp ..)
     exact this rfl
   have hnd2 : (V ++ [a] ++ (kids (t.getD a dNd) ++ S)).Nodup := by
    rw [List.nodup_append] at hnd ⊢
    obtain ⟨n1, n2, n3⟩ := hnd
    obtain ⟨n4, n5⟩ := List.nodup_cons.1 n2
    refine ⟨?_, ?_, ?_⟩
    ·rw [List.nodup_append]
     exact ⟨n1, by simp, fun x hx y hy => by rw [List.mem_singleton.1 hy]; exact n3 x hx a (zp ..)⟩
    ·rw [List.nodup_append]
     exact ⟨h.nd ha, n5, fun x hx y hy e => hk1 x hx (by rw [e]; simp [hy])⟩
    ·intro x hx y hy e
     subst e
     rcases List.mem_append.1 hy with hy | hy
     ·rcases List.mem_append.1 hx with hx | hx
      ·exact hk1 x hy (by simp [hx])
      ·rw [List.mem_singleton.1 hx] at hy; exact hk1 a hy (by simp)
     ·rcases List.mem_append.1 hx with hx | hx
      ·exact n3 x hx x (zq _ hy) rfl
      ·rw [List.mem_singleton.1 hx] at hy; exact n4 hy
   obtain ⟨vis, v1, v2, v3, v4⟩ := ih (V ++ [a]) (kids (t.getD a dNd) ++ S) hnd2 (fun c hc => by
    simp only [List.mem_append, zJ] at hc
    rcases hc with (hc | hc) | (hc | hc)
    ·exact hlt c (by simp [hc])
    ·rw [hc]; exact ha
    ·exact (h.rng a ha c hc).2
    ·exact hlt c (by simp [hc])) (fun c hc => by
    simp only [List.mem_append, zJ] at hc
    rcases hc with (hc | hc) | (hc | hc)
    ·rcases hp c (by simp [hc]) with h0 | ⟨p, hpV, hpc⟩
     ·exact .inl h0
     ·exact .inr ⟨p, by simp [hpV], hpc⟩
    ·rcases hp c (by simp [hc]) with h0 | ⟨p, hpV, hpc⟩
     ·exact .inl h0
     ·exact .inr ⟨p, by simp [hpV], hpc⟩
    ·exact .inr ⟨a, by simp, hc⟩
    ·rcases hp c (by simp [hc]) with h0 | ⟨p, hpV, hpc⟩
     ·exact .inl h0
     ·exact .inr ⟨p, by simp [hpV], hpc⟩) (by rw [zi, List.length_singleton]; omega)
   refine ⟨a :: vis, by rw [dfs, v1]; rfl, by rwa [List.append_assoc] at v2, fun c hc => ?_, fun c hc => ?_⟩
   ·rcases List.mem_cons.1 hc with rfl | hc
    ·exact ha
    ·exact v3 c hc
   ·rcases List.mem_cons.1 hc with rfl | hc
    ·exact zp ..
    ·exact zq _ (v4 c (List.mem_append_right _ hc))
def eB (b : Bool) : List AV := [.b b]
theorem eB_rules : (∀ x, (eB x).length = 1) ∧ (∀ h x, (eB x).map (tellC h) = eB x) ∧ (∀ h x, (eB x).map (tell0 h) = eB x) ∧ (∀ h x, (eB x).flatMap (refC h) = []) ∧ (∀ x, (eB x).flatMap ref0 = []) ∧
  (∀ x, ldC false 1 0 (eB x) = some (.b x)) := by
 refine ⟨?_, ?_, ?_, ?_, ?_, ?_⟩ <;> intros <;> rfl
theorem eB_row : type_of% (row_rules eB false 1 (fun _ => rfl) (fun _ _ => rfl)) := row_rules eB false 1 (fun _ => rfl) (fun _ _ => rfl)
theorem shape_l1 {t : List RNd} (ht : t.length ≤ 100000) (hp : Par t) : ∀ (k : Nat) (S : List Nat) (seen : List Bool) (vis : List Nat), dfs t k S = some vis → (∀ c ∈ S, c < t.length) → seen.length = t.length →
  (∀ c ∈ vis, c < t.length) → S.length + k ≤ 1000000 →
  LP FF [(9, 1), (10, 1), (0, 0)] [(9, 0)] b250_1 [.own true 1 (seen.map eB), .own true 1 (S.reverse.map eX), .l 14 (t.map eNd)] = some (.exit 4, [.l 1 ((vis.foldl (fun s a => s.set a true) seen).map eB)]) := by
 intro k
 induction k with
 | zero =>
  intro S seen vis hd hS hs hv hk
  cases S with
  | nil =>
   cases hd
   rw [List.foldl_nil]
   rw [LP_go FF b250_1.eq_1]
   simp only [RB, RL, un, St.none, Nat.reduceEqDiff, Nat.reduceAdd, Nat.reduceMul, Nat.reduceMod, Nat.reduceLeDiff, Nat.reduceLT, Int.reduceLT, Int.reduceLE, Int.reduceEq, Int.reduceToNat, Int.reduceSub, Int.reduceNeg, Int.reduceAdd, ↓reduceIte, reduceCtorEq, pack, pid, parN, lid, chkK, apartV, Heap.none, eB_rules, eB_row, eX_rules, eX_row, zg, List.reverse_nil]
  | cons a S => cases hd
 | succ k ih =>
  intro S seen vis hd hS hs hv hk
  cases S with
  | nil =>
   cases hd
   rw [List.foldl_nil]
   rw [LP_go FF b250_1.eq_1]
   simp only [RB, RL, un, St.none, Nat.reduceEqDiff, Nat.reduceAdd, Nat.reduceMul, Nat.reduceMod, Nat.reduceLeDiff, Nat.reduceLT, Int.reduceLT, Int.reduceLE, Int.reduceEq, Int.reduceToNat, Int.reduceSub, Int.reduceNeg, Int.reduceAdd, ↓reduceIte, reduceCtorEq, pack, pid, parN, lid, chkK, apartV, Heap.none, eB_rules, eB_row, eX_rules, eX_row, zg, List.reverse_nil]
  | cons a S =>
   have ha : a < t.length := hS a (zp ..)
   rw [dfs] at hd
   obtain ⟨vis', hd', rfl⟩ := Option.map_eq_some_iff.1 hd
   have hkl : (kids (t.getD a dNd)).length ≤ 2 := by unfold kids; split <;> simp
   have hv' : ∀ c ∈ vis', c < t.length := fun c hc => hv c (zq _ hc)
   have h9 := ih (kids (t.getD a dNd) ++ S) (seen.set a true) vis' hd' (fun c hc => by
    rcases List.mem_append.1 hc with hc | hc
    ·exact (hp.rng a ha c hc).2
    ·exact hS c (zq _ hc)) (by rw [zD, hs]) hv' (by
     rw [zi]; rw [zr] at hk; omega)
   rw [List.foldl_cons, List.reverse_cons]
   rw [List.reverse_append] at h9
   have hrl : S.reverse.length = S.length := List.length_reverse ..
   rw [zr] at hk
   generalize S.reverse = Q at *
   have hQ : Q.length = S.length := hrl
   have hl1 : (Q ++ [a]).length = Q.length + 1 := by rw [zi, List.length_singleton]
   have hg : (Q ++ [a]).getD Q.length 0 = a := by rw [za, List.getElem?_append_right (zj _), Nat.sub_self]; rfl
   have mt : zG Q.length (Q ++ [a]) = Q := List.take_left
   have c0 : 0 < ((Q.length + 1 : Nat) : Int) := by omega
   have e1 : IntKind.i64.wrap (((Q.length + 1 : Nat) : Int) - 1) = (Q.length : Int) := by rw [w64 (by omega) (by omega)]; omega
   have c1 : (Q.length : Int) < ((Q.length + 1 : Nat) : Int) := by omega
   have c2 : Q.length < Q.length + 1 := by omega
   have c3 : (Q.length : Int) ≤ ((Q.length + 1 : Nat) : Int) := by omega
   have c4 : Q.length ≤ Q.length + 1 := by omega
   have d1 : (a : Int) < (t.length : Int) := by omega
   have hss : (seen.set a true).length = t.length := by rw [zD, hs]
   have hpc : putC 1 (List.map eB seen) a 0 [AV.b true] = List.map eB (seen.set a true) := eB_row.2.2.2.1 seen a true
   have hst : zG t.length (seen.set a true) = seen.set a true := zb (by omega)
   generalize hsn : seen.set a true = seen' at *
   have hrn := hp.rng a ha
   obtain ⟨x, hx⟩ : ∃ x, x = t.getD a dNd := ⟨_, rfl⟩
   rw [← hx] at h9 hkl hrn
   have hx' := hx.symm
   obtain ⟨xl, xf, xc, xa, xb, xm, xv, xw⟩ := x
   cases xl with
   | true =>
    rw [show kids ⟨true, xf, xc, xa, xb, xm, xv, xw⟩ = [] from rfl, List.reverse_nil, List.append_nil] at h9
    rw [LP_go FF b250_1.eq_1]
    simp only [RB, RL, un, St.none, Nat.reduceEqDiff, Nat.reduceAdd, Nat.reduceMul, Nat.reduceMod, Nat.reduceLeDiff, Nat.reduceLT, Int.reduceLT, Int.reduceLE, Int.reduceEq, Int.reduceToNat, Int.reduceSub, Int.reduceNeg, Int.reduceAdd, ↓reduceIte, reduceCtorEq, pack, pid, parN, lid, chkK, apartV, Heap.none, eB_rules, eB_row, eX_rules, eX_row, eNd_rules, eNd_row, eNd, hx', zg, hl1, hg, mt, c0, e1, c1, c2, c3, c4, d1, ha, hs, hpc, hst, hss, ze, Int.le_refl]
    exact h9
   | false =>
    have r1 : 1 ≤ xb.toNat ∧ xb.toNat < t.length := hrn xb.toNat (by show _ ∈ [xb.toNat, xa.toNat]; simp)
    have r2 : 1 ≤ xa.toNat ∧ xa.toNat < t.length := hrn xa.toNat (by show _ ∈ [xb.toNat, xa.toNat]; simp)
    obtain ⟨p, rfl⟩ : ∃ p : Nat, xa = p := ⟨xa.toNat, by omega⟩
    obtain ⟨q, rfl⟩ : ∃ q : Nat, xb = q := ⟨xb.toNat, by omega⟩
    rw [show (kids ⟨false, xf, xc, (p : Int), (q : Int), xm, xv, xw⟩).reverse = [p, q] from rfl] at h9
    have m1 : List.map eX Q ++ [[AV.i .i64 (p : Int)], [AV.i .i64 (q : Int)]] = List.map eX (Q ++ [p, q]) := by rw [List.map_append]; rfl
    have m2 : zG (Q.length + 2) (Q ++ [p, q]) = Q ++ [p, q] := zb (by rw [zi]; exact zj _)
    have b2 : (Q.length + 2) * 8 ≤ 140737488355328 := by omega
    rw [LP_go FF b250_1.eq_1]
    simp only [RB, RL, un, St.none, Nat.reduceEqDiff, Nat.reduceAdd, Nat.reduceMul, Nat.reduceMod, Nat.reduceLeDiff, Nat.reduceLT, Int.reduceLT, Int.reduceLE, Int.reduceEq, Int.reduceToNat, Int.reduceSub, Int.reduceNeg, Int.reduceAdd, ↓reduceIte, reduceCtorEq, pack, pid, parN, lid, chkK, apartV, Heap.none, eB_rules, eB_row, eX_rules, eX_row, eNd_rules, eNd_row, eNd, hx', zg, hl1, hg, mt, c0, e1, c1, c2, c3, c4, d1, ha, hs, hpc, hst, hss, ze, Int.le_refl, n64, m1, m2, b2]
    exact h9
theorem marks (vis : List Nat) : ∀ (s : List Bool) (j : Nat), (vis.foldl (fun s a => s.set a true) s).length = s.length ∧ ((vis.foldl (fun s a => s.set a true) s).getD j false = true ↔ s.getD j false = true ∨ (j ∈ vis ∧ j < s.length)) := by
 induction vis with
 | nil => intro s j; exact ⟨rfl, ⟨.inl, fun h => h.elim id fun h => (zH h.1).elim⟩⟩
 | cons a vis ih =>
  intro s j
  obtain ⟨h1, h2⟩ := ih (s.set a true) j
  rw [zD] at h1 h2
  refine ⟨h1, ?_⟩
  rw [List.foldl_cons, h2]
  have e : (s.set a true).getD j false = true ↔ s.getD j false = true ∨ (j = a ∧ j < s.length) := by
   rw [za, za, List.getElem?_set]
   by_cases h : a = j
   ·subst h
    by_cases h3 : a < s.length
    ·rw [if_pos rfl, if_pos h3]; simp [h3]
    ·rw [if_pos rfl, if_neg h3, List.getElem?_eq_none (by omega)]; simp [h3]
   ·rw [if_neg h]
    constructor
    ·exact .inl
    ·rintro (k | k)
     ·exact k
     ·exact (h k.1.symm).elim
  rw [e, List.mem_cons]
  constructor
  ·rintro ((k | k) | k)
   ·exact .inl k
   ·exact .inr ⟨.inl k.1, k.2⟩
   ·exact .inr ⟨.inr k.1, k.2⟩
  ·rintro (k | ⟨k | k, k2⟩)
   ·exact .inl (.inl k)
   ·exact .inl (.inr ⟨k, k2⟩)
   ·exact .inr ⟨k, k2⟩
theorem shape_l0 {s : List Bool} (hs : s.length ≤ 100000) : ∀ (d i : Nat), i + d = s.length →
  (∃ j, j < s.length ∧ s.getD j false = false ∧ LP FF [(92, 0), (93, 0), (94, 0)] [(2, 0), (3, 0)] b250_0 [.l 1 (s.map eB), (AV.i .i64 ((s.length : Int))), (AV.i .i64 ((i : Int)))] = some (.ret, [(AV.i .i64 ((j : Int))), (AV.i .i64 11)])) ∨
  ((∀ j, i ≤ j → j < s.length → s.getD j false = true) ∧ LP FF [(92, 0), (93, 0), (94, 0)] [(2, 0), (3, 0)] b250_0 [.l 1 (s.map eB), (AV.i .i64 ((s.length : Int))), (AV.i .i64 ((i : Int)))] = some (.exit 6, [.junk, .junk])) := by
 intro d
 induction d with
 | zero =>
  intro i hi
  refine .inr ⟨fun j h1 h2 => by omega, ?_⟩
  have c1 : ¬ (i : Int) < (s.length : Int) := by omega
  rw [LP_go FF b250_0.eq_1]
  simp only [RB, RL, un, St.none, Nat.reduceEqDiff, Nat.reduceAdd, Nat.reduceMul, Nat.reduceMod, Nat.reduceLeDiff, Nat.reduceLT, Int.reduceLT, Int.reduceLE, Int.reduceEq, Int.reduceToNat, Int.reduceSub, Int.reduceNeg, Int.reduceAdd, ↓reduceIte, reduceCtorEq, pack, pid, parN, lid, chkK, apartV, Heap.none, c1]
 | succ d ih =>
  intro i hi
  have hlt : i < s.length := by omega
  have c1 : (i : Int) < (s.length : Int) := by omega
  have e2 : IntKind.i64.wrap ((i : Int) + 1) = ((i + 1 : Nat) : Int) := w64succ (by omega)
  cases h1 : s.getD i false with
  | true =>
   have step : LP FF [(92, 0), (93, 0), (94, 0)] [(2, 0), (3, 0)] b250_0 [.l 1 (s.map eB), (AV.i .i64 ((s.length : Int))), (AV.i .i64 ((i : Int)))] = LP FF [(92, 0), (93, 0), (94, 0)] [(2, 0), (3, 0)] b250_0 [.l 1 (s.map eB), (AV.i .i64 ((s.length : Int))), (AV.i .i64 (((i + 1 : Nat) : Int)))] := by
    rw [LP_go FF b250_0.eq_1]
    simp only [RB, RL, un, St.none, Nat.reduceEqDiff, Nat.reduceAdd, Nat.reduceMul, Nat.reduceMod, Nat.reduceLeDiff, Nat.reduceLT, Int.reduceLT, Int.reduceLE, Int.reduceEq, Int.reduceToNat, Int.reduceSub, Int.reduceNeg, Int.reduceAdd, ↓reduceIte, reduceCtorEq, pack, pid, parN, lid, chkK, apartV, Heap.none, c1, h1, eB_rules, eB_row, ze, e2]
   rw [step]
   rcases ih (i + 1) (by omega) with h9 | ⟨h8, h9⟩
   ·exact .inl h9
   ·exact .inr ⟨fun j a b => by
     rcases Nat.eq_or_lt_of_le a with rfl | a
     ·exact h1
     ·exact h8 j a b, h9⟩
  | false =>
   refine .inl ⟨i, hlt, h1, ?_⟩
   rw [LP_go FF b250_0.eq_1]
   simp only [RB, RL, un, St.none, Nat.reduceEqDiff, Nat.reduceAdd, Nat.reduceMul, Nat.reduceMod, Nat.reduceLeDiff, Nat.reduceLT, Int.reduceLT, Int.reduceLE, Int.reduceEq, Int.reduceToNat, Int.reduceSub, Int.reduceNeg, Int.reduceAdd, ↓reduceIte, reduceCtorEq, pack, pid, parN, lid, chkK, apartV, Heap.none, c1, h1, eB_rules, eB_row, ze, e2]
structure Shp (t : List RNd) : Prop where
 par : Par t
 all : ∃ vis, dfs t t.length [0] = some vis ∧ ∀ j, j < t.length → j ∈ vis
theorem rng_of {t : List RNd} {f : Int} (hr : t.any (bdR t.length f) = false) {n : RNd} (hn : n ∈ t) (hl : n.leaf = false) : 0 ≤ n.ft ∧ n.ft < f ∧ 1 ≤ n.lft ∧ n.lft < (t.length : Int) ∧ 1 ≤ n.rgt ∧ n.rgt < (t.length : Int) := by
 rw [List.any_eq_false] at hr
 have h := hr n hn
 unfold bdR at h
 rw [hl] at h
 simp only [Bool.not_false, Bool.true_and, Bool.or_eq_true, decide_eq_true_eq, not_or] at h
 omega
theorem kids_rng {t : List RNd} {f : Int} (hr : t.any (bdR t.length f) = false) : ∀ i, i < t.length → ∀ c ∈ kids (t.getD i dNd), 1 ≤ c ∧ c < t.length := by
 intro i hi c hc
 unfold kids at hc
 split at hc
 ·exact (zH hc).elim
 ·rename_i hl
  have hl' : (t.getD i dNd).leaf = false := by simpa using hl
  have h := rng_of hr (getD_mem' dNd hi) hl'
  simp only [List.mem_cons, zH, or_false] at hc
  rcases hc with rfl | rfl <;> omega
theorem shape_c {t : List RNd} {f : Int} (h1t : 1 ≤ t.length) (ht : t.length ≤ 100000) (hr : t.any (bdR t.length f) = false) : ∃ i e : Int, R FF 250 [.l 14 (t.map eNd)] = some (.tup [(AV.i .i64 i), (AV.i .i64 e)]) ∧ ((Shp t ∧ i = 0 ∧ e = 0) ∨ (¬ Shp t ∧ e = 11)) := by
 have l3 := shape_l3 ht hr t.length 0 (zu t.length 0) (by omega) (zz ..) (fun j => by
  rw [za, List.getElem?_replicate]
  split <;> simp)
 rw [zC, List.drop_zero] at l3
 change LP FF [(4, 1), (0, 0), (18, 0), (19, 0), (20, 0)] [(0, 0), (4, 0)] b250_3 _ = some (Ex.exit 0, [AV.l 14 (t.map eNd), AV.l 1 ((parL t).map n64)]) at l3
 have hpl : (parL t).length = t.length := by
  have : ∀ (l : List RNd) (P : List Int), (l.foldl bump P).length = P.length := by
   intro l
   induction l with
   | nil => intro P; rfl
   | cons n l ih => intro P; rw [List.foldl_cons, ih, bump_len]
  unfold parL; rw [this, zz]
 have hpc := parL_cnt (t := t) (fun n hn hl => by have := rng_of hr hn hl; omega)
 have l2 := shape_l2 ht hpl t.length 0 (by omega)
 rw [zC] at l2
 have c0 : (0 : Int) ≤ (t.length : Int) := by omega
 have b1 : t.length * 8 ≤ 281474976710656 := by omega
 have b2 : t.length * 1 ≤ 281474976710656 := by omega
 have b3 : t.length ≤ 281474976710656 := by omega
 have tr1 : zG t.length (zu t.length (0 : Int)) = zu t.length 0 := zb (by rw [zz]; exact zj _)
 have tr2 : zG t.length (zu t.length false) = zu t.length false := zb (by rw [zz]; exact zj _)
 have rB : ∀ n, zu n [AV.b false] = (zu n false).map eB := fun n => by rw [List.map_replicate]; rfl
 rcases l2 with ⟨j, j0, j1, j2, l2⟩ | ⟨h2, l2⟩
 ·refine ⟨j, 11, ?_, .inr ⟨fun h => ?_, rfl⟩⟩
  ·generalize parL t = P at *
   rw [R_go FF F250 c250.eq_1]
   simp only [RB, RL, un, St.none, Nat.reduceEqDiff, Nat.reduceAdd, Nat.reduceMul, Nat.reduceMod, Nat.reduceLeDiff, Nat.reduceLT, Int.reduceLT, Int.reduceLE, Int.reduceEq, Int.reduceToNat, Int.reduceSub, Int.reduceNeg, Int.reduceAdd, ↓reduceIte, reduceCtorEq, pack, pid, parN, lid, chkK, apartV, Heap.none, tr1, tr2, l3, l2, c0, b1, b2, b3, hpl, eNd_rules, eNd_row, n64, Int.toNat_natCast]
  ·rw [hpc, h.par.one j j0 j1] at j2
   exact j2 rfl
 ·have hpar : Par t := ⟨kids_rng hr, fun j j0 j1 => by
   have := h2 j (Nat.zero_le _) j1 j0
   rw [hpc] at this
   omega⟩
  obtain ⟨vis, v1, v2, v3, v4⟩ := dfs_some hpar t.length [] [0] (by simp) (fun c hc => by
   rw [List.nil_append, zJ] at hc; omega) (fun c hc => by
   rw [List.nil_append, zJ] at hc; exact .inl hc) (by simp)
  have l1 := shape_l1 ht hpar t.length [0] (zu t.length false) vis v1 (fun c hc => by
   rw [zJ] at hc; omega) (zz ..) v3 (by rw [List.length_singleton]; omega)
  have hm := marks vis (zu t.length false)
  have hrf : ∀ j, (zu t.length false).getD j false = false := fun j => by
   rw [za, List.getElem?_replicate]; split <;> rfl
  have hml : (vis.foldl (fun s a => s.set a true) (zu t.length false)).length = t.length := by rw [(hm 0).1, zz]
  have l0 := shape_l0 (s := vis.foldl (fun s a => s.set a true) (zu t.length false)) (by omega) _ 0 (zF _)
  rw [hml, zC] at l0
  have e10 : List.map eX [0].reverse = [[AV.i .i64 0]] := rfl
  rw [e10] at l1
  have hz : vis.foldl (fun s a => s.set a true) (zu t.length false) = vis.foldl (fun s a => s.set a true) (zu t.length false) := rfl
  rcases l0 with ⟨j, j1, j2, l0⟩ | ⟨h0, l0⟩
  ·refine ⟨j, 11, ?_, .inr ⟨fun h => ?_, rfl⟩⟩
   ·generalize vis.foldl (fun s a => s.set a true) (zu t.length false) = M at *
    generalize parL t = P at *
    rw [R_go FF F250 c250.eq_1]
    simp only [RB, RL, un, St.none, Nat.reduceEqDiff, Nat.reduceAdd, Nat.reduceMul, Nat.reduceMod, Nat.reduceLeDiff, Nat.reduceLT, Int.reduceLT, Int.reduceLE, Int.reduceEq, Int.reduceToNat, Int.reduceSub, Int.reduceNeg, Int.reduceAdd, ↓reduceIte, reduceCtorEq, pack, pid, parN, lid, chkK, apartV, Heap.none, tr1, tr2, l3, l2, l1, l0, c0, b1, b2, b3, hpl, hml, rB, eNd_rules, eNd_row, eB_rules, eB_row, eX_rules, eX_row, n64, Int.toNat_natCast]
   ·obtain ⟨vis', w1, w2⟩ := h.all
    rw [v1] at w1
    cases w1
    have h5 := (hm j).2.2 (.inr ⟨w2 j j1, by rw [zz]; exact j1⟩)
    rw [j2] at h5
    cases h5
  ·refine ⟨0, 0, ?_, .inl ⟨⟨hpar, vis, v1, fun j hj => ?_⟩, rfl, rfl⟩⟩
   ·generalize vis.foldl (fun s a => s.set a true) (zu t.length false) = M at *
    generalize parL t = P at *
    rw [R_go FF F250 c250.eq_1]
    simp only [RB, RL, un, St.none, Nat.reduceEqDiff, Nat.reduceAdd, Nat.reduceMul, Nat.reduceMod, Nat.reduceLeDiff, Nat.reduceLT, Int.reduceLT, Int.reduceLE, Int.reduceEq, Int.reduceToNat, Int.reduceSub, Int.reduceNeg, Int.reduceAdd, ↓reduceIte, reduceCtorEq, pack, pid, parN, lid, chkK, apartV, Heap.none, tr1, tr2, l3, l2, l1, l0, c0, b1, b2, b3, hpl, hml, rB, eNd_rules, eNd_row, eB_rules, eB_row, eX_rules, eX_row, n64, Int.toNat_natCast]
   ·have h5 := (hm j).2.1 (h0 j (Nat.zero_le _) hj)
    rcases h5 with h5 | h5
    ·rw [hrf] at h5; cases h5
    ·exact h5.1
def okR (f : Int) (r : Nat) (t : List RNd) : Prop := match r with
 | 0 => t.any (bdR t.length f) = false
 | 1 => Shp t
 | 2 => t.any bdC = false
 | _ => t.any (bdS t) = false
structure VT (t : List RNd) (f : Int) : Prop where
 rg : t.any (bdR t.length f) = false
 sh : Shp t
 cv : t.any bdC = false
 sm : t.any (bdS t) = false
theorem check_l1 {f : Int} {ts : List (List RNd)} {k r : Nat} (hk : k ≤ 10000000000) (h1k : 1 ≤ k) (hts : ts.length ≤ 100000) (ht : ∀ t ∈ ts, 1 ≤ t.length ∧ t.length ≤ 100000 ∧ SmT t k) (hr4 : r < 4) (hr : r = 0 ∨ ∀ t ∈ ts, t.any (bdR t.length f) = false) : ∀ (d i : Nat), i + d = ts.length →
  (∃ e a b c : Int, e ≠ 0 ∧ (∃ t ∈ ts, ¬ okR f r t) ∧ LP FF [(2, 1), (1, 0), (3, 0), (12, 0), (16, 0), (17, 0), (18, 0)] [(2, 1), (1, 0), (12, 0)] b237_1 [.ownp [(AV.i .i64 0), (AV.i .i64 0), (AV.i .i64 0), (AV.i .i64 0)], .tp (eM (f, ts)) 0, (AV.i .i64 ((r : Int))), (AV.i .i64 ((r : Int))), .l 1 (ts.map eTr), (AV.i .i64 ((ts.length : Int))), (AV.i .i64 ((i : Int)))] = some (.ret, [.ownp [(AV.i .i64 e), (AV.i .i64 a), (AV.i .i64 b), (AV.i .i64 c)], .tp (eM (f, ts)) 0, (AV.i .i64 ((r : Int)))])) ∨
  ((∀ j, i ≤ j → j < ts.length → okR f r (ts.getD j [])) ∧ LP FF [(2, 1), (1, 0), (3, 0), (12, 0), (16, 0), (17, 0), (18, 0)] [(2, 1), (1, 0), (12, 0)] b237_1 [.ownp [(AV.i .i64 0), (AV.i .i64 0), (AV.i .i64 0), (AV.i .i64 0)], .tp (eM (f, ts)) 0, (AV.i .i64 ((r : Int))), (AV.i .i64 ((r : Int))), .l 1 (ts.map eTr), (AV.i .i64 ((ts.length : Int))), (AV.i .i64 ((i : Int)))] = some (.exit 2, [.ownp [(AV.i .i64 0), (AV.i .i64 0), (AV.i .i64 0), (AV.i .i64 0)], .tp (eM (f, ts)) 0, (AV.i .i64 ((r : Int)))])) := by
 intro d
 induction d with
 | zero =>
  intro i hi
  refine .inr ⟨fun j h1 h2 => by omega, ?_⟩
  have c1 : ¬ (i : Int) < (ts.length : Int) := by omega
  simp only [eM]
  rw [LP_go FF b237_1.eq_1]
  simp only [RB, RL, un, St.none, Nat.reduceEqDiff, Nat.reduceAdd, Nat.reduceMul, Nat.reduceMod, Nat.reduceLeDiff, Nat.reduceLT, Int.reduceLT, Int.reduceLE, Int.reduceEq, Int.reduceToNat, Int.reduceSub, Int.reduceNeg, Int.reduceAdd, ↓reduceIte, reduceCtorEq, pack, pid, parN, lid, chkK, apartV, Heap.none, c1, eTr_rules, eTr_row]
 | succ d ih =>
  intro i hi
  have hlt : i < ts.length := by omega
  have hmem := getD_mem' ([] : List RNd) hlt
  obtain ⟨t1, t2, t3⟩ := ht _ hmem
  have c1 : (i : Int) < (ts.length : Int) := by omega
  have e2 : IntKind.i64.wrap ((i : Int) + 1) = ((i + 1 : Nat) : Int) := w64succ (by omega)
  have hcon : ∃ a e : Int, ((okR f r (ts.getD i []) ∧ e = 0) ∨ (¬ okR f r (ts.getD i []) ∧ e ≠ 0)) ∧
    (r = 0 → R FF 249 [.l 14 ((ts.getD i []).map eNd), (AV.i .i64 f)] = some (.tup [(AV.i .i64 a), (AV.i .i64 e)])) ∧ (r = 1 → R FF 250 [.l 14 ((ts.getD i []).map eNd)] = some (.tup [(AV.i .i64 a), (AV.i .i64 e)])) ∧
    (r = 2 → R FF 251 [.l 14 ((ts.getD i []).map eNd)] = some (.tup [(AV.i .i64 a), (AV.i .i64 e)])) ∧ (r = 3 → R FF 252 [.l 14 ((ts.getD i []).map eNd)] = some (.tup [(AV.i .i64 a), (AV.i .i64 e)])) := by
   rcases (show r = 0 ∨ r = 1 ∨ r = 2 ∨ r = 3 by omega) with rfl | rfl | rfl | rfl
   ·obtain ⟨a, h⟩ := ranges_c (f := f) t2
    refine ⟨_, _, ?_, fun _ => h, fun h => (by omega), fun h => (by omega), fun h => (by omega)⟩
    show (((ts.getD i []).any (bdR (ts.getD i []).length f) = false) ∧ _) ∨ (¬ ((ts.getD i []).any (bdR (ts.getD i []).length f) = false) ∧ _)
    cases (ts.getD i []).any (bdR (ts.getD i []).length f)
    ·exact .inl ⟨rfl, rfl⟩
    ·exact .inr ⟨by decide, by decide⟩
   ·obtain ⟨a, e, h, h2⟩ := shape_c t1 t2 (hr.resolve_left (by omega) _ hmem)
    refine ⟨a, e, ?_, fun h => (by omega), fun _ => h, fun h => (by omega), fun h => (by omega)⟩
    rcases h2 with ⟨h3, _, h4⟩ | ⟨h3, h4⟩
    ·exact .inl ⟨h3, h4⟩
    ·exact .inr ⟨h3, by omega⟩
   ·obtain ⟨a, h⟩ := covers_c hk t2 t3
    refine ⟨_, _, ?_, fun h => (by omega), fun h => (by omega), fun _ => h, fun h => (by omega)⟩
    show (((ts.getD i []).any bdC = false) ∧ _) ∨ (¬ ((ts.getD i []).any bdC = false) ∧ _)
    cases (ts.getD i []).any bdC
    ·exact .inl ⟨rfl, rfl⟩
    ·exact .inr ⟨by decide, by decide⟩
   ·obtain ⟨a, h⟩ := vsums_c hk h1k t2 t3 (hr.resolve_left (by omega) _ hmem)
    refine ⟨_, _, ?_, fun h => (by omega), fun h => (by omega), fun h => (by omega), fun _ => h⟩
    show (((ts.getD i []).any (bdS (ts.getD i [])) = false) ∧ _) ∨ (¬ ((ts.getD i []).any (bdS (ts.getD i [])) = false) ∧ _)
    cases (ts.getD i []).any (bdS (ts.getD i []))
    ·exact .inl ⟨rfl, rfl⟩
    ·exact .inr ⟨by decide, by decide⟩
  obtain ⟨a, e, he, k0, k1, k2, k3⟩ := hcon
  rcases he with ⟨h1, rfl⟩ | ⟨h1, h2⟩
  ·have step : LP FF [(2, 1), (1, 0), (3, 0), (12, 0), (16, 0), (17, 0), (18, 0)] [(2, 1), (1, 0), (12, 0)] b237_1 [.ownp [(AV.i .i64 0), (AV.i .i64 0), (AV.i .i64 0), (AV.i .i64 0)], .tp (eM (f, ts)) 0, (AV.i .i64 ((r : Int))), (AV.i .i64 ((r : Int))), .l 1 (ts.map eTr), (AV.i .i64 ((ts.length : Int))), (AV.i .i64 ((i : Int)))] = LP FF [(2, 1), (1, 0), (3, 0), (12, 0), (16, 0), (17, 0), (18, 0)] [(2, 1), (1, 0), (12, 0)] b237_1 [.ownp [(AV.i .i64 0), (AV.i .i64 0), (AV.i .i64 0), (AV.i .i64 0)], .tp (eM (f, ts)) 0, (AV.i .i64 ((r : Int))), (AV.i .i64 ((r : Int))), .l 1 (ts.map eTr), (AV.i .i64 ((ts.length : Int))), (AV.i .i64 (((i + 1 : Nat) : Int)))] := by
    simp only [eM]
    rcases (show r = 0 ∨ r = 1 ∨ r = 2 ∨ r = 3 by omega) with rfl | rfl | rfl | rfl
    ·have k0 := k0 rfl
     rw [zC]
     rw [LP_go FF b237_1.eq_1]
     simp only [RB, RL, un, St.none, Nat.reduceEqDiff, Nat.reduceAdd, Nat.reduceMul, Nat.reduceMod, Nat.reduceLeDiff, Nat.reduceLT, Int.reduceLT, Int.reduceLE, Int.reduceEq, Int.reduceToNat, Int.reduceSub, Int.reduceNeg, Int.reduceAdd, ↓reduceIte, reduceCtorEq, pack, pid, parN, lid, chkK, apartV, Heap.none, c1, e2, eTr_rules, eTr_row, ze, k0]
    ·have k1 := k1 rfl
     rw [show ((1 : Nat) : Int) = 1 from rfl]
     rw [LP_go FF b237_1.eq_1]
     simp only [RB, RL, un, St.none, Nat.reduceEqDiff, Nat.reduceAdd, Nat.reduceMul, Nat.reduceMod, Nat.reduceLeDiff, Nat.reduceLT, Int.reduceLT, Int.reduceLE, Int.reduceEq, Int.reduceToNat, Int.reduceSub, Int.reduceNeg, Int.reduceAdd, ↓reduceIte, reduceCtorEq, pack, pid, parN, lid, chkK, apartV, Heap.none, c1, e2, eTr_rules, eTr_row, ze, k1]
    ·have k2 := k2 rfl
     rw [show ((2 : Nat) : Int) = 2 from rfl]
     rw [LP_go FF b237_1.eq_1]
     simp only [RB, RL, un, St.none, Nat.reduceEqDiff, Nat.reduceAdd, Nat.reduceMul, Nat.reduceMod, Nat.reduceLeDiff, Nat.reduceLT, Int.reduceLT, Int.reduceLE, Int.reduceEq, Int.reduceToNat, Int.reduceSub, Int.reduceNeg, Int.reduceAdd, ↓reduceIte, reduceCtorEq, pack, pid, parN, lid, chkK, apartV, Heap.none, c1, e2, eTr_rules, eTr_row, ze, k2]
    ·have k3 := k3 rfl
     rw [show ((3 : Nat) : Int) = 3 from rfl]
     rw [LP_go FF b237_1.eq_1]
     simp only [RB, RL, un, St.none, Nat.reduceEqDiff, Nat.reduceAdd, Nat.reduceMul, Nat.reduceMod, Nat.reduceLeDiff, Nat.reduceLT, Int.reduceLT, Int.reduceLE, Int.reduceEq, Int.reduceToNat, Int.reduceSub, Int.reduceNeg, Int.reduceAdd, ↓reduceIte, reduceCtorEq, pack, pid, parN, lid, chkK, apartV, Heap.none, c1, e2, eTr_rules, eTr_row, ze, k3]
   rw [step]
   rcases ih (i + 1) (by omega) with h9 | ⟨h8, h9⟩
   ·exact .inl h9
   ·exact .inr ⟨fun j a b => by
     rcases Nat.eq_or_lt_of_le a with rfl | a
     ·exact h1
     ·exact h8 j a b, h9⟩
  ·have fl : R FF 253 [(AV.i .i64 e), (AV.i .i64 ((i : Int))), (AV.i .i64 a)] = some (.agg [(AV.i .i64 e), (AV.i .i64 0), (AV.i .i64 ((i : Int))), (AV.i .i64 a)]) := by
    rw [R_go FF F253 c253.eq_1]
    simp only [RB, RL, un, St.none, Nat.reduceEqDiff, Nat.reduceAdd, Nat.reduceMul, Nat.reduceMod, Nat.reduceLeDiff, Nat.reduceLT, Int.reduceLT, Int.reduceLE, Int.reduceEq, Int.reduceToNat, Int.reduceSub, Int.reduceNeg, Int.reduceAdd, ↓reduceIte, reduceCtorEq, pack, pid, parN, lid, chkK, apartV, Heap.none, n64]
   refine .inl ⟨e, 0, i, a, h2, ⟨_, hmem, h1⟩, ?_⟩
   simp only [eM]
   rcases (show r = 0 ∨ r = 1 ∨ r = 2 ∨ r = 3 by omega) with rfl | rfl | rfl | rfl
   ·have k0 := k0 rfl
    rw [zC]
    rw [LP_go FF b237_1.eq_1]
    simp only [RB, RL, un, St.none, Nat.reduceEqDiff, Nat.reduceAdd, Nat.reduceMul, Nat.reduceMod, Nat.reduceLeDiff, Nat.reduceLT, Int.reduceLT, Int.reduceLE, Int.reduceEq, Int.reduceToNat, Int.reduceSub, Int.reduceNeg, Int.reduceAdd, ↓reduceIte, reduceCtorEq, pack, pid, parN, lid, chkK, apartV, Heap.none, c1, e2, eTr_rules, eTr_row, ze, k0, h2, fl]
   ·have k1 := k1 rfl
    rw [show ((1 : Nat) : Int) = 1 from rfl]
    rw [LP_go FF b237_1.eq_1]
    simp only [RB, RL, un, St.none, Nat.reduceEqDiff, Nat.reduceAdd, Nat.reduceMul, Nat.reduceMod, Nat.reduceLeDiff, Nat.reduceLT, Int.reduceLT, Int.reduceLE, Int.reduceEq, Int.reduceToNat, Int.reduceSub, Int.reduceNeg, Int.reduceAdd, ↓reduceIte, reduceCtorEq, pack, pid, parN, lid, chkK, apartV, Heap.none, c1, e2, eTr_rules, eTr_row, ze, k1, h2, fl]
   ·have k2 := k2 rfl
    rw [show ((2 : Nat) : Int) = 2 from rfl]
    rw [LP_go FF b237_1.eq_1]
    simp only [RB, RL, un, St.none, Nat.reduceEqDiff, Nat.reduceAdd, Nat.reduceMul, Nat.reduceMod, Nat.reduceLeDiff, Nat.reduceLT, Int.reduceLT, Int.reduceLE, Int.reduceEq, Int.reduceToNat, Int.reduceSub, Int.reduceNeg, Int.reduceAdd, ↓reduceIte, reduceCtorEq, pack, pid, parN, lid, chkK, apartV, Heap.none, c1, e2, eTr_rules, eTr_row, ze, k2, h2, fl]
   ·have k3 := k3 rfl
    rw [show ((3 : Nat) : Int) = 3 from rfl]
    rw [LP_go FF b237_1.eq_1]
    simp only [RB, RL, un, St.none, Nat.reduceEqDiff, Nat.reduceAdd, Nat.reduceMul, Nat.reduceMod, Nat.reduceLeDiff, Nat.reduceLT, Int.reduceLT, Int.reduceLE, Int.reduceEq, Int.reduceToNat, Int.reduceSub, Int.reduceNeg, Int.reduceAdd, ↓reduceIte, reduceCtorEq, pack, pid, parN, lid, chkK, apartV, Heap.none, c1, e2, eTr_rules, eTr_row, ze, k3, h2, fl]
theorem check_l0 {f : Int} {ts : List (List RNd)} {k : Nat} (hk : k ≤ 10000000000) (h1k : 1 ≤ k) (hts : ts.length ≤ 100000) (ht : ∀ t ∈ ts, 1 ≤ t.length ∧ t.length ≤ 100000 ∧ SmT t k) : ∀ (d r : Nat), r + d = 4 → (∀ s, s < r → ∀ t ∈ ts, okR f s t) →
  (∃ e a b c : Int, e ≠ 0 ∧ (∃ t ∈ ts, ¬ VT t f) ∧ LP FF [(2, 1), (1, 0), (12, 0)] [(2, 1)] b237_0 [.ownp [(AV.i .i64 0), (AV.i .i64 0), (AV.i .i64 0), (AV.i .i64 0)], .tp (eM (f, ts)) 0, (AV.i .i64 ((r : Int)))] = some (.ret, [.ownp [(AV.i .i64 e), (AV.i .i64 a), (AV.i .i64 b), (AV.i .i64 c)]])) ∨
  ((∀ t ∈ ts, VT t f) ∧ LP FF [(2, 1), (1, 0), (12, 0)] [(2, 1)] b237_0 [.ownp [(AV.i .i64 0), (AV.i .i64 0), (AV.i .i64 0), (AV.i .i64 0)], .tp (eM (f, ts)) 0, (AV.i .i64 ((r : Int)))] = some (.exit 0, [.ownp [(AV.i .i64 0), (AV.i .i64 0), (AV.i .i64 0), (AV.i .i64 0)]])) := by
 intro d
 induction d with
 | zero =>
  intro r hr hs
  have hr : r = 4 := by omega
  subst hr
  refine .inr ⟨fun t h => ⟨hs 0 (by omega) t h, hs 1 (by omega) t h, hs 2 (by omega) t h, hs 3 (by omega) t h⟩, ?_⟩
  simp only [eM]
  rw [show ((4 : Nat) : Int) = 4 from rfl]
  rw [LP_go FF b237_0.eq_1]
  simp only [RB, RL, un, St.none, Nat.reduceEqDiff, Nat.reduceAdd, Nat.reduceMul, Nat.reduceMod, Nat.reduceLeDiff, Nat.reduceLT, Int.reduceLT, Int.reduceLE, Int.reduceEq, Int.reduceToNat, Int.reduceSub, Int.reduceNeg, Int.reduceAdd, ↓reduceIte, reduceCtorEq, pack, pid, parN, lid, chkK, apartV, Heap.none, eTr_rules, eTr_row]
 | succ d ih =>
  intro r hr hs
  have c1 : (r : Int) < 4 := by omega
  have e2 : IntKind.i64.wrap ((r : Int) + 1) = ((r + 1 : Nat) : Int) := w64succ (by omega)
  have l1 := check_l1 (f := f) (r := r) hk h1k hts ht (by omega) (by
   rcases Nat.eq_zero_or_pos r with h | h
   ·exact .inl h
   ·exact .inr (hs 0 h)) ts.length 0 (by omega)
  rw [zC] at l1
  rcases l1 with ⟨e, a, b, c, h1, ⟨t, h2, h3⟩, l1⟩ | ⟨h1, l1⟩
  ·refine .inl ⟨e, a, b, c, h1, ⟨t, h2, fun v => h3 ?_⟩, ?_⟩
   ·rcases (show r = 0 ∨ r = 1 ∨ r = 2 ∨ r = 3 by omega) with rfl | rfl | rfl | rfl
    ·exact v.rg
    ·exact v.sh
    ·exact v.cv
    ·exact v.sm
   ·simp only [eM] at l1 ⊢
    rw [LP_go FF b237_0.eq_1]
    simp only [RB, RL, un, St.none, Nat.reduceEqDiff, Nat.reduceAdd, Nat.reduceMul, Nat.reduceMod, Nat.reduceLeDiff, Nat.reduceLT, Int.reduceLT, Int.reduceLE, Int.reduceEq, Int.reduceToNat, Int.reduceSub, Int.reduceNeg, Int.reduceAdd, ↓reduceIte, reduceCtorEq, pack, pid, parN, lid, chkK, apartV, Heap.none, eTr_rules, eTr_row, c1, l1]
  ·have h9 := ih (r + 1) (by omega) (fun s hs' t h => by
    rcases Nat.lt_or_eq_of_le (show s ≤ r by omega) with h' | rfl
    ·exact hs s h' t h
    ·obtain ⟨i, hi, rfl⟩ := List.getElem_of_mem h
     have := h1 i (Nat.zero_le _) hi
     rwa [za, zc hi, Option.getD_some] at this)
   have step : LP FF [(2, 1), (1, 0), (12, 0)] [(2, 1)] b237_0 [.ownp [(AV.i .i64 0), (AV.i .i64 0), (AV.i .i64 0), (AV.i .i64 0)], .tp (eM (f, ts)) 0, (AV.i .i64 ((r : Int)))] = LP FF [(2, 1), (1, 0), (12, 0)] [(2, 1)] b237_0 [.ownp [(AV.i .i64 0), (AV.i .i64 0), (AV.i .i64 0), (AV.i .i64 0)], .tp (eM (f, ts)) 0, (AV.i .i64 (((r + 1 : Nat) : Int)))] := by
    simp only [eM] at l1 ⊢
    rw [LP_go FF b237_0.eq_1]
    simp only [RB, RL, un, St.none, Nat.reduceEqDiff, Nat.reduceAdd, Nat.reduceMul, Nat.reduceMod, Nat.reduceLeDiff, Nat.reduceLT, Int.reduceLT, Int.reduceLE, Int.reduceEq, Int.reduceToNat, Int.reduceSub, Int.reduceNeg, Int.reduceAdd, ↓reduceIte, reduceCtorEq, pack, pid, parN, lid, chkK, apartV, Heap.none, eTr_rules, eTr_row, c1, l1, e2]
   rw [step]
   exact h9
structure VM (m : RM) : Prop where
 fit : fitB m = true
 all : ∀ t ∈ m.2, VT t m.1
theorem ok_c {m : RM} {k : Nat} (hk : k ≤ 10000000000) (h1k : 1 ≤ k) (hts : m.2.length ≤ 100000) (ht : ∀ t ∈ m.2, t.length ≤ 100000 ∧ SmT t k) : ∃ b : Bool, R FF 211 [.agg (eM m)] = some (.b b) ∧ (b = true ↔ VM m) := by
 have f1 := fits_c hts (fun t h => (ht t h).1)
 obtain ⟨f, ts⟩ := m
 cases hf : fitB (f, ts) with
 | false =>
  refine ⟨false, ?_, ⟨fun h => (by cases h), fun h => by have := h.fit; rw [hf] at this; cases this⟩⟩
  rw [hf] at f1
  have ck : R FF 237 [.agg (eM (f, ts))] = some (.agg [(AV.i .i64 1), (AV.i .i64 0), (AV.i .i64 0), (AV.i .i64 0)]) := by
   simp only [eM] at f1 ⊢
   rw [R_go FF F237 c237.eq_1]
   simp only [RB, RL, un, St.none, Nat.reduceEqDiff, Nat.reduceAdd, Nat.reduceMul, Nat.reduceMod, Nat.reduceLeDiff, Nat.reduceLT, Int.reduceLT, Int.reduceLE, Int.reduceEq, Int.reduceToNat, Int.reduceSub, Int.reduceNeg, Int.reduceAdd, ↓reduceIte, reduceCtorEq, pack, pid, parN, lid, chkK, apartV, Heap.none, f1, n64, eTr_rules, eTr_row]
  simp only [eM] at ck ⊢
  rw [R_go FF F211 c211.eq_1]
  simp only [RB, RL, un, St.none, Nat.reduceEqDiff, Nat.reduceAdd, Nat.reduceMul, Nat.reduceMod, Nat.reduceLeDiff, Nat.reduceLT, Int.reduceLT, Int.reduceLE, Int.reduceEq, Int.reduceToNat, Int.reduceSub, Int.reduceNeg, Int.reduceAdd, ↓reduceIte, reduceCtorEq, pack, pid, parN, lid, chkK, apartV, Heap.none, ck, n64, eTr_rules, eTr_row]
 | true =>
  rw [hf] at f1
  have hb : fitB (f, ts) = !(decide (f < 0) || decide (64 < f) || decide (64 < (ts.length : Int)) || ts.any bdT) := rfl
  rw [hf] at hb
  have hT : ts.any bdT = false := by
   cases h : ts.any bdT with
   | false => rfl
   | true => rw [h, Bool.or_true] at hb; cases hb
  have ht2 : ∀ t ∈ ts, 1 ≤ t.length ∧ t.length ≤ 100000 ∧ SmT t k := fun t h => by
   have h2 := ht t h
   rw [List.any_eq_false] at hT
   have h3 := hT t h
   unfold bdT at h3
   simp only [Bool.or_eq_true, decide_eq_true_eq, not_or] at h3
   exact ⟨by omega, h2.1, h2.2⟩
  have l0 := check_l0 (f := f) hk h1k hts ht2 4 0 (by omega) (fun s h => absurd h (Nat.not_lt_zero _))
  rw [zC] at l0
  rcases l0 with ⟨e, a, b, c, h1, ⟨t, h2, h3⟩, l0⟩ | ⟨h1, l0⟩
  ·refine ⟨false, ?_, ⟨fun h => (by cases h), fun h => (h3 (h.all t h2)).elim⟩⟩
   have ck : R FF 237 [.agg (eM (f, ts))] = some (.agg [(AV.i .i64 e), (AV.i .i64 a), (AV.i .i64 b), (AV.i .i64 c)]) := by
    simp only [eM] at f1 l0 ⊢
    rw [R_go FF F237 c237.eq_1]
    simp only [RB, RL, un, St.none, Nat.reduceEqDiff, Nat.reduceAdd, Nat.reduceMul, Nat.reduceMod, Nat.reduceLeDiff, Nat.reduceLT, Int.reduceLT, Int.reduceLE, Int.reduceEq, Int.reduceToNat, Int.reduceSub, Int.reduceNeg, Int.reduceAdd, ↓reduceIte, reduceCtorEq, pack, pid, parN, lid, chkK, apartV, Heap.none, f1, l0, n64, eTr_rules, eTr_row]
   simp only [eM] at ck ⊢
   rw [R_go FF F211 c211.eq_1]
   simp only [RB, RL, un, St.none, Nat.reduceEqDiff, Nat.reduceAdd, Nat.reduceMul, Nat.reduceMod, Nat.reduceLeDiff, Nat.reduceLT, Int.reduceLT, Int.reduceLE, Int.reduceEq, Int.reduceToNat, Int.reduceSub, Int.reduceNeg, Int.reduceAdd, ↓reduceIte, reduceCtorEq, pack, pid, parN, lid, chkK, apartV, Heap.none, ck, n64, eTr_rules, eTr_row, h1]
  ·refine ⟨true, ?_, ⟨fun _ => ⟨hf, h1⟩, fun _ => rfl⟩⟩
   have ck : R FF 237 [.agg (eM (f, ts))] = some (.agg [(AV.i .i64 0), (AV.i .i64 0), (AV.i .i64 0), (AV.i .i64 0)]) := by
    simp only [eM] at f1 l0 ⊢
    rw [R_go FF F237 c237.eq_1]
    simp only [RB, RL, un, St.none, Nat.reduceEqDiff, Nat.reduceAdd, Nat.reduceMul, Nat.reduceMod, Nat.reduceLeDiff, Nat.reduceLT, Int.reduceLT, Int.reduceLE, Int.reduceEq, Int.reduceToNat, Int.reduceSub, Int.reduceNeg, Int.reduceAdd, ↓reduceIte, reduceCtorEq, pack, pid, parN, lid, chkK, apartV, Heap.none, f1, l0, n64, eTr_rules, eTr_row]
   simp only [eM] at ck ⊢
   rw [R_go FF F211 c211.eq_1]
   simp only [RB, RL, un, St.none, Nat.reduceEqDiff, Nat.reduceAdd, Nat.reduceMul, Nat.reduceMod, Nat.reduceLeDiff, Nat.reduceLT, Int.reduceLT, Int.reduceLE, Int.reduceEq, Int.reduceToNat, Int.reduceSub, Int.reduceNeg, Int.reduceAdd, ↓reduceIte, reduceCtorEq, pack, pid, parN, lid, chkK, apartV, Heap.none, ck, n64, eTr_rules, eTr_row]
theorem cnt_app (j : Nat) (l m : List RNd) : cnt j (l ++ m) = cnt j l + cnt j m := by
 induction l with
 | nil => show cnt j m = 0 + cnt j m; omega
 | cons n l ih => show cntN j n + cnt j (l ++ m) = cntN j n + cnt j l + cnt j m; omega
inductive Sub (T : List RNd) (f : Int) : Nat → Nat → Rat → Prop where
 | leaf {p : Nat} (hp : p < T.length) (hl : (T.getD p dNd).leaf = true) (hc : 0 < vQ (T.getD p dNd).cov) : Sub T f p (p + 1) (vQ (T.getD p dNd).cov)
 | node {p q r : Nat} {a b : Rat} (hl : (T.getD p dNd).leaf = false) (hf : 0 ≤ (T.getD p dNd).ft ∧ (T.getD p dNd).ft < f) (h1 : (T.getD p dNd).lft = ((p + 1 : Nat) : Int)) (h2 : (T.getD p dNd).rgt = (q : Int))
  (hc : vQ (T.getD p dNd).cov = a + b) (ha : Sub T f (p + 1) q a) (hb : Sub T f q r b) : Sub T f p r (a + b)
def GdN (T : List RNd) (f : Int) (i : Nat) : Prop := 0 < vQ (T.getD i dNd).cov ∧ ((T.getD i dNd).leaf = true ∨ (0 ≤ (T.getD i dNd).ft ∧ (T.getD i dNd).ft < f ∧ 1 ≤ (T.getD i dNd).lft ∧ (T.getD i dNd).lft < (T.length : Int) ∧ 1 ≤ (T.getD i dNd).rgt ∧ (T.getD i dNd).rgt < (T.length : Int) ∧
 vQ (T.getD i dNd).cov = vQ (T.getD (T.getD i dNd).lft.toNat dNd).cov + vQ (T.getD (T.getD i dNd).rgt.toNat dNd).cov))
theorem Sub.good {T : List RNd} {f : Int} {p q : Nat} {c : Rat} (h : Sub T f p q c) : vQ (T.getD p dNd).cov = c ∧ 0 < c ∧ p < q ∧ q ≤ T.length ∧ ∀ i, p ≤ i → i < q → GdN T f i := by
 induction h with
 | leaf hp hl hc => exact ⟨rfl, hc, by omega, by omega, fun i h1 h2 => by rw [show i = _ from Nat.le_antisymm (by omega) h1]; exact ⟨hc, .inl hl⟩⟩
 | @node p q r a b hl hf h1 h2 hc ha hb iha ihb =>
  obtain ⟨a1, a2, a3, a4, a5⟩ := iha
  obtain ⟨b1, b2, b3, b4, b5⟩ := ihb
  have hpos : 0 < a + b := by grind
  refine ⟨hc, hpos, by omega, b4, fun i i1 i2 => ?_⟩
  rcases Nat.lt_or_ge i q with h | h
  ·rcases Nat.eq_or_lt_of_le i1 with rfl | h'
   ·refine ⟨by rw [hc]; exact hpos, .inr ⟨hf.1, hf.2, by omega, by omega, by omega, by omega, ?_⟩⟩
    rw [h1, h2, hc, Int.toNat_natCast, Int.toNat_natCast, a1, b1]
   ·exact a5 i (by omega) h
  ·exact b5 i h i2
theorem Sub.dfs {T : List RNd} {f : Int} {p q : Nat} {c : Rat} (h : Sub T f p q c) : ∃ ord : List Nat, (∀ j, p ≤ j → j < q → j ∈ ord) ∧ ∀ k S, dfs T (k + (q - p)) (p :: S) = (dfs T k S).map (ord ++ ·) := by
 induction h with
 | @leaf p hp hl hc =>
  refine ⟨[p], fun j h1 h2 => by rw [show j = p by omega]; exact List.mem_singleton.2 rfl, fun k S => ?_⟩
  rw [show k + (p + 1 - p) = k + 1 by omega, Go.Pe.dfs, show kids (T.getD p dNd) = [] by unfold kids; rw [hl]; rfl]
  rfl
 | @node p q r a b hl hf h1 h2 hc ha hb iha ihb =>
  obtain ⟨oa, a1, a2⟩ := iha
  obtain ⟨ob, b1, b2⟩ := ihb
  have ga := ha.good
  have gb := hb.good
  refine ⟨p :: (ob ++ oa), fun j j1 j2 => ?_, fun k S => ?_⟩
  ·rcases Nat.eq_or_lt_of_le j1 with rfl | j1
   ·exact zp ..
   ·refine zq _ (List.mem_append.2 ?_)
    rcases Nat.lt_or_ge j q with h | h
    ·exact .inr (a1 j j1 h)
    ·exact .inl (b1 j h j2)
  ·have hk : kids (T.getD p dNd) = [q, p + 1] := by
    unfold kids
    rw [hl, h1, h2, Int.toNat_natCast, Int.toNat_natCast]; rfl
   rw [show k + (r - p) = (k + (q - (p + 1)) + (r - q)) + 1 by omega, Go.Pe.dfs, hk]
   show (Go.Pe.dfs T (k + (q - (p + 1)) + (r - q)) (q :: (p + 1) :: S)).map _ = _
   rw [b2, a2, Option.map_map, Option.map_map]
   congr 1
   funext l
   simp
theorem treeP_cnt {V : List RQt} {rows : List (List RC)} {lst : Int} {n : Nat} (hlst : 1 ≤ lst) : ∀ (d : Nat) (l : List Nat) (p j : Nat), 1 ≤ l.length → cnt j (treeP V rows lst n d l p) = if p < j ∧ j < p + (treeP V rows lst n d l p).length then 1 else 0 := by
 have hleaf : ∀ (l : List Nat) (p j : Nat), cnt j [lfN V l] = if p < j ∧ j < p + [lfN V l].length then 1 else 0 := by
  intro l p j
  rw [if_neg (by rw [List.length_singleton]; omega)]
  rfl
 have hpos : ∀ (d : Nat) (l : List Nat) (p : Nat), 1 ≤ (treeP V rows lst n d l p).length := by
  intro d l p
  cases d with
  | zero => exact zj _
  | succ d =>
   unfold treeP
   split
   ·exact zj _
   ·split
    ·exact zj _
    ·rw [zr]; omega
 intro d
 induction d with
 | zero => intro l p j _; exact hleaf l p j
 | succ d ih =>
  intro l p j hl
  unfold treeP
  split
  ·exact hleaf l p j
  ·rename_i b hb
   split
   ·exact hleaf l p j
   ·obtain ⟨h1, h2, h3⟩ := part_ok hlst (bestP_mem hb).2.2.1
    have i1 := ih (lfL rows l b.1 b.2.1 b.2.2.1) (p + 1) j h1
    have i2 := ih (rgL rows l b.1 b.2.1 b.2.2.1) (p + 1 + (treeP V rows lst n d (lfL rows l b.1 b.2.1 b.2.2.1) (p + 1)).length) j h2
    have q1 := hpos d (lfL rows l b.1 b.2.1 b.2.2.1) (p + 1)
    have q2 := hpos d (rgL rows l b.1 b.2.1 b.2.2.1) (p + 1 + (treeP V rows lst n d (lfL rows l b.1 b.2.1 b.2.2.1) (p + 1)).length)
    rw [zr, zi]
    show cntN j (inN l b.1 (rQ b.2.1) b.2.2.1 (p + 1) (p + 1 + (treeP V rows lst n d (lfL rows l b.1 b.2.1 b.2.2.1) (p + 1)).length)) + cnt j (_ ++ _) = _
    rw [cnt_app, i1, i2]
    have hN : cntN j (inN l b.1 (rQ b.2.1) b.2.2.1 (p + 1) (p + 1 + (treeP V rows lst n d (lfL rows l b.1 b.2.1 b.2.2.1) (p + 1)).length)) = (if p + 1 = j then 1 else 0) + (if p + 1 + (treeP V rows lst n d (lfL rows l b.1 b.2.1 b.2.2.1) (p + 1)).length = j then 1 else 0) := by
     unfold cntN inN
     simp only [Bool.false_eq_true, if_false, Int.toNat_natCast]
    rw [hN]
    generalize (treeP V rows lst n d (lfL rows l b.1 b.2.1 b.2.2.1) (p + 1)).length = x at *
    generalize (treeP V rows lst n d (rgL rows l b.1 b.2.1 b.2.2.1) (p + 1 + x)).length = y at *
    split <;> split <;> split <;> split <;> split <;> omega
theorem getD_mid (pre post : List RNd) (x : RNd) (m : List RNd) : (pre ++ x :: m ++ post).getD pre.length dNd = x := by
 rw [List.append_assoc, za, List.getElem?_append_right (zj _), Nat.sub_self]; rfl
theorem treeP_sub {V : List RQt} {rows : List (List RC)} {lst : Int} {n : Nat} (hlst : 1 ≤ lst) : ∀ (d : Nat) (l : List Nat) (pre post : List RNd), 1 ≤ l.length →
  Sub (pre ++ treeP V rows lst n d l pre.length ++ post) (n : Int) pre.length (pre.length + (treeP V rows lst n d l pre.length).length) (((l.length : Nat) : Int) : Rat) := by
 have hleaf : ∀ (l : List Nat) (pre post : List RNd), 1 ≤ l.length → Sub (pre ++ [lfN V l] ++ post) (n : Int) pre.length (pre.length + 1) (((l.length : Nat) : Int) : Rat) := by
  intro l pre post hl
  have h1 := getD_mid pre post (lfN V l) []
  have hv : vQ (lfN V l).cov = (((l.length : Nat) : Int) : Rat) := vQ_rQ _
  have h2 : vQ ((pre ++ [lfN V l] ++ post).getD pre.length dNd).cov = (((l.length : Nat) : Int) : Rat) := by rw [h1, hv]
  have hpos : (0 : Rat) < (((l.length : Nat) : Int) : Rat) := by
   have := Rat.intCast_lt_intCast.2 (show (0 : Int) < ((l.length : Nat) : Int) by omega)
   exact this
  have h3 := Sub.leaf (T := pre ++ [lfN V l] ++ post) (f := (n : Int)) (p := pre.length) (by rw [zi, zi, List.length_singleton]; omega) (by rw [h1]; rfl) (by rw [h2]; exact hpos)
  rwa [h2] at h3
 intro d
 induction d with
 | zero => intro l pre post hl; exact hleaf l pre post hl
 | succ d ih =>
  intro l pre post hl
  cases hb : bestP V rows l lst n with
  | none => rw [show treeP V rows lst n (d + 1) l pre.length = [lfN V l] by rw [treeP, hb]]; exact hleaf l pre post hl
  | some b =>
   obtain ⟨bf, bc, bm, bl⟩ := b
   have kk : bf < n ∧ bc ∈ ctV rows bf l ∧ few2 rows l lst bf bc bm = false ∧ bl = splV V rows l bf bc bm := bestP_mem hb
   obtain ⟨k1, k2, k3, k4⟩ := kk
   by_cases hle : lsV (vsL V l) ≤ bl
   ·rw [show treeP V rows lst n (d + 1) l pre.length = [lfN V l] by rw [treeP, hb]; exact if_pos hle]; exact hleaf l pre post hl
   ·obtain ⟨h1, h2, h3⟩ := part_ok hlst k3
    have e1 : treeP V rows lst n (d + 1) l pre.length = inN l bf (rQ bc) bm (pre.length + 1) (pre.length + 1 + (treeP V rows lst n d (lfL rows l bf bc bm) (pre.length + 1)).length) :: (treeP V rows lst n d (lfL rows l bf bc bm) (pre.length + 1) ++ treeP V rows lst n d (rgL rows l bf bc bm) (pre.length + 1 + (treeP V rows lst n d (lfL rows l bf bc bm) (pre.length + 1)).length)) := by
     rw [treeP, hb]; exact if_neg hle
    have iA := ih (lfL rows l bf bc bm) (pre ++ [inN l bf (rQ bc) bm (pre.length + 1) (pre.length + 1 + (treeP V rows lst n d (lfL rows l bf bc bm) (pre.length + 1)).length)]) (treeP V rows lst n d (rgL rows l bf bc bm) (pre.length + 1 + (treeP V rows lst n d (lfL rows l bf bc bm) (pre.length + 1)).length) ++ post) h1
    have iB := ih (rgL rows l bf bc bm) (pre ++ inN l bf (rQ bc) bm (pre.length + 1) (pre.length + 1 + (treeP V rows lst n d (lfL rows l bf bc bm) (pre.length + 1)).length) :: treeP V rows lst n d (lfL rows l bf bc bm) (pre.length + 1)) post h2
    rw [e1]
    rw [show (pre ++ [inN l bf (rQ bc) bm (pre.length + 1) (pre.length + 1 + (treeP V rows lst n d (lfL rows l bf bc bm) (pre.length + 1)).length)]).length = pre.length + 1 by rw [zi, List.length_singleton]] at iA
    rw [show (pre ++ inN l bf (rQ bc) bm (pre.length + 1) (pre.length + 1 + (treeP V rows lst n d (lfL rows l bf bc bm) (pre.length + 1)).length) :: treeP V rows lst n d (lfL rows l bf bc bm) (pre.length + 1)).length = pre.length + 1 + (treeP V rows lst n d (lfL rows l bf bc bm) (pre.length + 1)).length by rw [zi, zr]; omega] at iB
    generalize treeP V rows lst n d (rgL rows l bf bc bm) (pre.length + 1 + (treeP V rows lst n d (lfL rows l bf bc bm) (pre.length + 1)).length) = B at *
    generalize treeP V rows lst n d (lfL rows l bf bc bm) (pre.length + 1) = A at *
    have hx := getD_mid pre post (inN l bf (rQ bc) bm (pre.length + 1) (pre.length + 1 + A.length)) (A ++ B)
    have eA : pre ++ [inN l bf (rQ bc) bm (pre.length + 1) (pre.length + 1 + A.length)] ++ A ++ (B ++ post) = pre ++ inN l bf (rQ bc) bm (pre.length + 1) (pre.length + 1 + A.length) :: (A ++ B) ++ post := by simp
    have eB : pre ++ inN l bf (rQ bc) bm (pre.length + 1) (pre.length + 1 + A.length) :: A ++ B ++ post = pre ++ inN l bf (rQ bc) bm (pre.length + 1) (pre.length + 1 + A.length) :: (A ++ B) ++ post := by simp
    rw [eA] at iA
    rw [eB] at iB
    have hsum : (((l.length : Nat) : Int) : Rat) = ((((lfL rows l bf bc bm).length : Nat) : Int) : Rat) + ((((rgL rows l bf bc bm).length : Nat) : Int) : Rat) := by
     rw [← Rat.intCast_add, ← Int.natCast_add, h3]
    rw [zr, zi, show pre.length + (A.length + B.length + 1) = pre.length + 1 + A.length + B.length by omega, hsum]
    refine Sub.node (q := pre.length + 1 + A.length) (by rw [hx]; rfl) (by rw [hx]; exact ⟨show (0 : Int) ≤ ((bf : Nat) : Int) by omega, show ((bf : Nat) : Int) < n by omega⟩) (by rw [hx]; rfl) (by rw [hx]; rfl) ?_ iA iB
    rw [hx, ← hsum]; exact vQ_rQ _
theorem SmQ_dQ (k : Nat) : SmQ dQ k := ⟨⟨fun _ h => (zH h).elim, Nat.zero_le _⟩, fun _ h => (zH h).elim, Nat.zero_le _⟩
theorem treeP_sm {V : List RQt} {rows : List (List RC)} {lst : Int} {n : Nat} (hV : SmL V 3) : ∀ (d : Nat) (l : List Nat) (p : Nat), InX l V.length → (∀ f, f < n → WfD rows f l 3) → l.length ≤ 90 → SmT (treeP V rows lst n d l p) 10000 := by
 have hcov : ∀ l : List Nat, l.length ≤ 90 → SmQ (rQ (((l.length : Nat) : Int) : Rat)) 10000 := fun l hn => sm_cq (zn (sq_int (l.length : Int) (by omega)) (by omega))
 have hleaf : ∀ l : List Nat, InX l V.length → l.length ≤ 90 → SmT [lfN V l] 10000 := by
  intro l hl hn x hx
  rw [List.mem_singleton.1 hx]
  have h1 := mnV_sq (vsL_all hV (by omega) hl) (by rw [vsL_len]; omega)
  rw [vsL_len] at h1
  exact ⟨hcov l hn, SmQ_dQ _, sm_cq (by omega)⟩
 intro d
 induction d with
 | zero => intro l p hl hw hn; exact hleaf l hl hn
 | succ d ih =>
  intro l p hl hw hn
  cases hb : bestP V rows l lst n with
  | none => rw [show treeP V rows lst n (d + 1) l p = [lfN V l] by rw [treeP, hb]]; exact hleaf l hl hn
  | some b =>
   obtain ⟨bf, bc, bm, bl⟩ := b
   have kk : bf < n ∧ bc ∈ ctV rows bf l ∧ few2 rows l lst bf bc bm = false ∧ bl = splV V rows l bf bc bm := bestP_mem hb
   obtain ⟨k1, k2, k3, k4⟩ := kk
   have k5 : sq bc ≤ 3 := (ctV_ok (by omega) (hw bf k1)).1 _ k2
   by_cases hle : lsV (vsL V l) ≤ bl
   ·rw [show treeP V rows lst n (d + 1) l p = [lfN V l] by rw [treeP, hb]; exact if_pos hle]; exact hleaf l hl hn
   ·have e1 : treeP V rows lst n (d + 1) l p = inN l bf (rQ bc) bm (p + 1) (p + 1 + (treeP V rows lst n d (lfL rows l bf bc bm) (p + 1)).length) :: (treeP V rows lst n d (lfL rows l bf bc bm) (p + 1) ++ treeP V rows lst n d (rgL rows l bf bc bm) (p + 1 + (treeP V rows lst n d (lfL rows l bf bc bm) (p + 1)).length)) := by
     rw [treeP, hb]; exact if_neg hle
    rw [e1]
    intro x hx
    have nA : (lfL rows l bf bc bm).length ≤ l.length := List.length_filter_le _ _
    have nB : (rgL rows l bf bc bm).length ≤ l.length := List.length_filter_le _ _
    rcases List.mem_cons.1 hx with rfl | hx
    ·exact ⟨hcov l hn, sm_cq (by show sq bc ≤ _; omega), SmQ_dQ _⟩
    ·rcases List.mem_append.1 hx with hx | hx
     ·exact ih (lfL rows l bf bc bm) _ (filt_in hl) (wf_part _ hw) (by omega) x hx
     ·exact ih (rgL rows l bf bc bm) _ (filt_in hl) (wf_part _ hw) (by omega) x hx
theorem vm_of {T : List RNd} {n : Nat} {c : Rat} (hn : n ≤ 64) (hT : T.length ≤ 200) (hs : Sub T (n : Int) 0 T.length c) (hc : ∀ j, 0 < j → j < T.length → cnt j T = 1) (hk : ∀ i, i < T.length → (T.getD i dNd).leaf = true → (T.getD i dNd).ft = 0 ∧ (T.getD i dNd).lft = 0 ∧ (T.getD i dNd).rgt = 0) : VM ((n : Int), [T]) := by
 obtain ⟨g1, g2, g3, g4, g5⟩ := hs.good
 have hget : ∀ x ∈ T, ∃ i, i < T.length ∧ T.getD i dNd = x := by
  intro x hx
  obtain ⟨i, hi, rfl⟩ := List.getElem_of_mem hx
  exact ⟨i, hi, by rw [za, zc hi]; rfl⟩
 have hrg : T.any (bdR T.length (n : Int)) = false := by
  rw [List.any_eq_false]
  intro x hx
  obtain ⟨i, hi, rfl⟩ := hget x hx
  rcases (g5 i (Nat.zero_le _) hi).2 with h | ⟨h1, h2, h3, h4, h5, h6, _⟩
  ·unfold bdR; rw [h, Bool.not_true, Bool.false_and]; decide
  ·unfold bdR
   simp only [zd, Bool.or_eq_true, decide_eq_true_eq]
   omega
 have hpar : Par T := ⟨kids_rng hrg, hc⟩
 refine ⟨?_, fun t ht => ?_⟩
 ·have hb : fitB ((n : Int), [T]) = !(decide ((n : Int) < 0) || decide (64 < (n : Int)) || decide (64 < (([T] : List (List RNd)).length : Int)) || [T].any bdT) := rfl
  rw [hb, decide_eq_false (by omega), decide_eq_false (by omega), decide_eq_false (by rw [List.length_singleton]; omega)]
  have hbd : bdT T = false := by
   unfold bdT
   rw [decide_eq_false (by omega), decide_eq_false (by omega), Bool.false_or, Bool.false_or, List.any_eq_false]
   intro x hx
   obtain ⟨i, hi, rfl⟩ := hget x hx
   unfold bdF
   simp only [Bool.or_eq_true, decide_eq_true_eq]
   rcases (g5 i (Nat.zero_le _) hi).2 with h | ⟨h1, h2, h3, h4, h5, h6, _⟩
   ·have := hk i hi h; omega
   ·omega
  rw [List.any_cons, hbd]; rfl
 ·rw [List.mem_singleton.1 ht]
  refine ⟨hrg, ⟨hpar, ?_⟩, ?_, ?_⟩
  ·obtain ⟨ord, o1, o2⟩ := hs.dfs
   have h1 := o2 0 []
   rw [zF, Nat.sub_zero] at h1
   have e0 : dfs T 0 [] = some [] := rfl
   rw [e0] at h1
   exact ⟨ord ++ [], h1, fun j hj => List.mem_append_left _ (o1 j (Nat.zero_le _) hj)⟩
  ·rw [List.any_eq_false]
   intro x hx
   obtain ⟨i, hi, rfl⟩ := hget x hx
   have h := (g5 i (Nat.zero_le _) hi).1
   unfold bdC
   rw [decide_eq_true_eq]
   intro h2
   rw [qsign_n, qcmp_le] at h2
   grind
  ·rw [List.any_eq_false]
   intro x hx
   obtain ⟨i, hi, rfl⟩ := hget x hx
   rcases (g5 i (Nat.zero_le _) hi).2 with h | ⟨h1, h2, h3, h4, h5, h6, h7⟩
   ·unfold bdS; rw [h, Bool.not_true, Bool.false_and]; decide
   ·unfold bdS; rw [h7, decide_eq_true rfl]; simp
theorem treeP_leaf {V : List RQt} {rows : List (List RC)} {lst : Int} {n : Nat} : ∀ (d : Nat) (l : List Nat) (p : Nat), ∀ x ∈ treeP V rows lst n d l p, x.leaf = true → x.ft = 0 ∧ x.lft = 0 ∧ x.rgt = 0 := by
 have hleaf : ∀ l : List Nat, ∀ x ∈ [lfN V l], x.leaf = true → x.ft = 0 ∧ x.lft = 0 ∧ x.rgt = 0 := fun l x hx _ => by rw [List.mem_singleton.1 hx]; exact ⟨rfl, rfl, rfl⟩
 intro d
 induction d with
 | zero => intro l p; exact hleaf l
 | succ d ih =>
  intro l p
  unfold treeP
  split
  ·exact hleaf l
  ·split
   ·exact hleaf l
   ·intro x hx hl
    rcases List.mem_cons.1 hx with rfl | hx
    ·cases hl
    ·rcases List.mem_append.1 hx with hx | hx
     ·exact ih _ _ x hx hl
     ·exact ih _ _ x hx hl
theorem trP_vm {d : RD} (h : OkD d) {r : RR} (h0 : rtV (fD d) r = 0) : VM ((fD d).1, [trP (fD d) r]) ∧ SmT (trP (fD d) r) 10000 ∧ (trP (fD d) r).length ≤ 200 ∧ All2 (SameN 10000) (trP (fD d) r) (trL (fD d) r) := by
 have hl := fD_len d
 have hwf := fD_wf h h0
 obtain ⟨h1, h2, h3, h4⟩ := rtV_ok h0
 obtain ⟨hV, hVl⟩ := fD_vals h
 have hlr : (zo (fD d).2.1.length).length = (fD d).2.1.length := List.length_range ..
 have hin : InX (zo (fD d).2.1.length) (fD d).2.2.length := by rw [← h2]; exact inX_range _
 have hlst : 1 ≤ r.2 := by omega
 have t1 := treeP_len (V := (fD d).2.2) (rows := (fD d).2.1) (n := (fD d).1.toNat) hlst r.1.toNat (zo (fD d).2.1.length) 0 (by omega)
 have t2 := treeP_sub (V := (fD d).2.2) (rows := (fD d).2.1) (n := (fD d).1.toNat) hlst r.1.toNat (zo (fD d).2.1.length) [] [] (by omega)
 rw [List.nil_append, List.append_nil, List.length_nil, zF] at t2
 have t3 := treeP_cnt (V := (fD d).2.2) (rows := (fD d).2.1) (n := (fD d).1.toNat) hlst r.1.toNat (zo (fD d).2.1.length) 0
 have t4 := treeP_leaf (V := (fD d).2.2) (rows := (fD d).2.1) (lst := r.2) (n := (fD d).1.toNat) r.1.toNat (zo (fD d).2.1.length) 0
 have hf : (((fD d).1.toNat : Nat) : Int) = (fD d).1 := by omega
 have v := vm_of (T := trP (fD d) r) (n := (fD d).1.toNat) (by omega) (by show (treeP _ _ _ _ _ _ _).length ≤ _; omega) t2 (fun j j0 j1 => by
  show cnt j (treeP _ _ _ _ _ _ _) = 1
  rw [t3 j (by omega), if_pos ⟨j0, by rw [zF]; exact j1⟩]) (fun i hi hlf => t4 _ (getD_mem' dNd hi) hlf)
 rw [hf] at v
 exact ⟨v, treeP_sm hV _ _ _ hin hwf (by omega), by show (treeP _ _ _ _ _ _ _).length ≤ _; omega, tree_same hV (by omega) _ _ _ hin hwf (by omega)⟩
def goN (n : RNd) (row : List RC) : Bool := goV (vQ n.cut) n.miss (row.getD n.ft.toNat dC)
def nextN (n : RNd) (row : List RC) : Nat := if goN n row then n.lft.toNat else n.rgt.toNat
def walk (t : List RNd) (row : List RC) : Nat → Nat → Option Nat
 | 0, a => if (t.getD a dNd).leaf then some a else none
 | k + 1, a => if (t.getD a dNd).leaf then some a else walk t row k (nextN (t.getD a dNd) row)
theorem next_kid {n : RNd} (row : List RC) (h : n.leaf = false) : nextN n row ∈ kids n := by
 unfold nextN kids
 rw [h, if_neg (show ¬ false = true by decide)]
 split
 ·exact zq _ (zp ..)
 ·exact zp ..
theorem walk_some {t : List RNd} (h : Par t) (row : List RC) : ∀ (k : Nat) (V : List Nat) (a : Nat), (a :: V).Nodup → (∀ c ∈ a :: V, c < t.length) → (∀ c ∈ a :: V, c = 0 ∨ ∃ p ∈ V, c ∈ kids (t.getD p dNd)) → t.length ≤ V.length + k →
  ∃ b, walk t row k a = some b ∧ b < t.length ∧ (t.getD b dNd).leaf = true := by
 intro k
 induction k with
 | zero =>
  intro V a hnd hlt hp hk
  have := nodup_len t.length hnd hlt
  rw [zr] at this
  omega
 | succ k ih =>
  intro V a hnd hlt hp hk
  have ha : a < t.length := hlt a (zp ..)
  cases hl : (t.getD a dNd).leaf with
  | true => exact ⟨a, by rw [walk, if_pos hl], ha, hl⟩
  | false =>
   have hc := next_kid row hl
   have hr := h.rng a ha _ hc
   rw [walk, if_neg (by rw [hl]; decide)]
   refine ih (a :: V) _ ?_ ?_ ?_ (by rw [zr]; omega)
   ·refine List.nodup_cons.2 ⟨fun hm => ?_, hnd⟩
    rcases hp _ hm with h0 | ⟨p, hpV, hpc⟩
    ·omega
    ·have hpl : p < t.length := hlt p (zq _ hpV)
     have e := h.uniq hpl ha hpc hc
     subst e
     exact (List.nodup_cons.1 hnd).1 hpV
   ·intro c hc2
    rcases List.mem_cons.1 hc2 with rfl | hc2
    ·exact hr.2
    ·exact hlt c hc2
   ·intro c hc2
    rcases List.mem_cons.1 hc2 with rfl | hc2
    ·exact .inr ⟨a, zp .., hc⟩
    ·rcases hp c hc2 with h0 | ⟨p, hpV, hpc⟩
     ·exact .inl h0
     ·exact .inr ⟨p, zq _ hpV, hpc⟩
theorem walk_root {t : List RNd} (h : Par t) (h1 : 1 ≤ t.length) (row : List RC) : ∃ b, walk t row t.length 0 = some b ∧ b < t.length ∧ (t.getD b dNd).leaf = true :=
 walk_some h row t.length [] 0 (by simp) (fun c hc => by rw [zJ] at hc; omega) (fun c hc => by rw [zJ] at hc; exact .inl hc) (by simp)
def SmW (row : List RC) (k : Nat) : Prop := ∀ c ∈ row, SmQ c.2 k
theorem rnext_c {n : RNd} {row : List RC} {k : Nat} (hk : k ≤ 10000000000) (hn : SmQ n.cut k) (hr : SmW row k) (h0 : 0 ≤ n.ft) (h1 : n.ft < (row.length : Int)) : R FF 245 [.agg (eNd n), .l 4 (row.map eC)] = some (AV.i .i64 ((if goN n row then n.lft else n.rgt))) := by
 have hf : n.ft.toNat < row.length := by omega
 have f1 := rgoes_c (n := n) (x := row.getD n.ft.toNat dC) (k := k) (j := k) hn (hr _ (getD_mem' dC hf)) (by omega) (by omega)
 change R FF 246 _ = some (AV.b (goN n row)) at f1
 generalize goN n row = g at *
 obtain ⟨nl, nf, nc, na, nb, nm, nv, nw⟩ := n
 simp only [eNd, eC] at f1 h0 h1 ⊢
 cases g
 ·rw [R_go FF F245 c245.eq_1]
  simp only [RB, RL, un, St.none, Nat.reduceEqDiff, Nat.reduceAdd, Nat.reduceMul, Nat.reduceMod, Nat.reduceLeDiff, Nat.reduceLT, Int.reduceLT, Int.reduceLE, Int.reduceEq, Int.reduceToNat, Int.reduceSub, Int.reduceNeg, Int.reduceAdd, ↓reduceIte, reduceCtorEq, pack, pid, parN, lid, chkK, apartV, Heap.none, f1, h0, h1, n64, eC_rules, eC_row]
 ·rw [R_go FF F245 c245.eq_1]
  simp only [RB, RL, un, St.none, Nat.reduceEqDiff, Nat.reduceAdd, Nat.reduceMul, Nat.reduceMod, Nat.reduceLeDiff, Nat.reduceLT, Int.reduceLT, Int.reduceLE, Int.reduceEq, Int.reduceToNat, Int.reduceSub, Int.reduceNeg, Int.reduceAdd, ↓reduceIte, reduceCtorEq, pack, pid, parN, lid, chkK, apartV, Heap.none, f1, h0, h1, n64, eC_rules, eC_row]
theorem value_l0 {t : List RNd} {row : List RC} {f : Int} {k : Nat} (hk : k ≤ 10000000000) (ht : t.length ≤ 100000) (hs : SmT t k) (hr : SmW row k) (hrg : t.any (bdR t.length f) = false) (hf : (row.length : Int) = f) : ∀ (d a b : Nat), a < t.length → walk t row d a = some b →
  LP FF [(4, 1), (0, 0), (1, 0), (5, 0)] [(4, 1), (0, 0), (5, 0)] b233_0 [.ownp [.b false, .l 1 [], .l 1 []], .l 14 (t.map eNd), .l 4 (row.map eC), (AV.i .i64 ((a : Int)))] = some (.exit 0, [.ownp [.b false, .l 1 [], .l 1 []], .l 14 (t.map eNd), (AV.i .i64 ((b : Int)))]) := by
 intro d
 induction d with
 | zero =>
  intro a b ha h
  rw [walk] at h
  split at h
  ·rename_i hl
   cases h
   have c1 : (a : Int) < (t.length : Int) := by omega
   rw [LP_go FF b233_0.eq_1]
   simp only [RB, RL, un, St.none, Nat.reduceEqDiff, Nat.reduceAdd, Nat.reduceMul, Nat.reduceMod, Nat.reduceLeDiff, Nat.reduceLT, Int.reduceLT, Int.reduceLE, Int.reduceEq, Int.reduceToNat, Int.reduceSub, Int.reduceNeg, Int.reduceAdd, ↓reduceIte, reduceCtorEq, pack, pid, parN, lid, chkK, apartV, Heap.none, c1, hl, eNd_rules, eNd_row, eC_rules, eC_row, ze]
  ·cases h
 | succ d ih =>
  intro a b ha h
  have c1 : (a : Int) < (t.length : Int) := by omega
  have hmem := getD_mem' dNd ha
  cases hl : (t.getD a dNd).leaf with
  | true =>
   rw [walk, if_pos hl] at h
   cases h
   rw [LP_go FF b233_0.eq_1]
   simp only [RB, RL, un, St.none, Nat.reduceEqDiff, Nat.reduceAdd, Nat.reduceMul, Nat.reduceMod, Nat.reduceLeDiff, Nat.reduceLT, Int.reduceLT, Int.reduceLE, Int.reduceEq, Int.reduceToNat, Int.reduceSub, Int.reduceNeg, Int.reduceAdd, ↓reduceIte, reduceCtorEq, pack, pid, parN, lid, chkK, apartV, Heap.none, c1, hl, eNd_rules, eNd_row, eC_rules, eC_row, ze]
  | false =>
   rw [walk, if_neg (by rw [hl]; decide)] at h
   have hg := rng_of hrg hmem hl
   have hn : nextN (t.getD a dNd) row < t.length := by unfold nextN; split <;> omega
   have h9 := ih _ b hn h
   have f1 := rnext_c (n := t.getD a dNd) (row := row) hk (hs _ hmem).2.1 hr (by omega) (by omega)
   have e : (if goN (t.getD a dNd) row then (t.getD a dNd).lft else (t.getD a dNd).rgt) = ((nextN (t.getD a dNd) row : Nat) : Int) := by unfold nextN; split <;> omega
   rw [e] at f1
   rw [LP_go FF b233_0.eq_1]
   simp only [RB, RL, un, St.none, Nat.reduceEqDiff, Nat.reduceAdd, Nat.reduceMul, Nat.reduceMod, Nat.reduceLeDiff, Nat.reduceLT, Int.reduceLT, Int.reduceLE, Int.reduceEq, Int.reduceToNat, Int.reduceSub, Int.reduceNeg, Int.reduceAdd, ↓reduceIte, reduceCtorEq, pack, pid, parN, lid, chkK, apartV, Heap.none, c1, hl, eNd_rules, eNd_row, eC_rules, eC_row, ze, f1]
   exact h9
def valT (t : List RNd) (row : List RC) : Rat := vQ (t.getD ((walk t row t.length 0).getD 0) dNd).val
theorem value_c {t : List RNd} {row : List RC} {f : Int} {k : Nat} (hk : k ≤ 10000000000) (h1 : 1 ≤ t.length) (ht : t.length ≤ 100000) (hs : SmT t k) (hr : SmW row k) (hv : VT t f) (hf : (row.length : Int) = f) : R FF 233 [.l 14 (t.map eNd), .l 4 (row.map eC)] = some (AV.agg [AV.b (ng (zE ((valT t row)))), (AV.l 1 (List.map u (D (zx (zE ((valT t row))))))), (AV.l 1 (List.map u (D (Rat.den ((valT t row))))))]) := by
 obtain ⟨b, hb, hb1, hb2⟩ := walk_root hv.sh.par h1 row
 have l0 := value_l0 hk ht hs hr hv.rg hf t.length 0 b (by omega) hb
 have e : valT t row = vQ (t.getD b dNd).val := by unfold valT; rw [hb]; rfl
 have f1 := vclean_c (hs _ (getD_mem' dNd hb1)).2.2 (by omega)
 have c1 : (b : Int) < (t.length : Int) := by omega
 rw [← e] at f1
 rw [zC] at l0
 generalize valT t row = v at *
 rw [R_go FF F233 c233.eq_1]
 simp only [RB, RL, un, St.none, Nat.reduceEqDiff, Nat.reduceAdd, Nat.reduceMul, Nat.reduceMod, Nat.reduceLeDiff, Nat.reduceLT, Int.reduceLT, Int.reduceLE, Int.reduceEq, Int.reduceToNat, Int.reduceSub, Int.reduceNeg, Int.reduceAdd, ↓reduceIte, reduceCtorEq, pack, pid, parN, lid, chkK, apartV, Heap.none, l0, c1, f1, eNd_rules, eNd_row, ze]
def SmM (m : RM) (k : Nat) : Prop := m.2.length ≤ 1000 ∧ ∀ t ∈ m.2, t.length ≤ 100000 ∧ SmT t k
theorem vt_len {m : RM} (h : VM m) : ∀ t ∈ m.2, 1 ≤ t.length := by
 intro t ht
 have hf := h.fit
 unfold fitB at hf
 rw [Bool.not_eq_true'] at hf
 rw [Bool.or_eq_false_iff, List.any_eq_false] at hf
 have h2 := hf.2 t ht
 unfold bdT at h2
 simp only [Bool.or_eq_true, decide_eq_true_eq, not_or] at h2
 omega
theorem rfits_c {m : RM} {row : List RC} {k : Nat} (hk : k ≤ 10000000000) (h1k : 1 ≤ k) (hm : SmM m k) : ∃ e : Int, R FF 232 [.agg (eM m), .l 4 (row.map eC)] = some (AV.i .i64 e) ∧ (VM m → (row.length : Int) = m.1 → e = 0) ∧ (¬ VM m → e = 1) ∧ (VM m → (row.length : Int) ≠ m.1 → e = 14) := by
 obtain ⟨b, h1, h2⟩ := ok_c hk h1k (by have := hm.1; omega) hm.2
 obtain ⟨f, ts⟩ := m
 simp only [eM] at h1 ⊢
 cases b with
 | false =>
  refine ⟨1, ?_, fun v => (by have := h2.2 v; cases this), fun _ => rfl, fun v => (by have := h2.2 v; cases this)⟩
  rw [R_go FF F232 c232.eq_1]
  simp only [RB, RL, un, St.none, Nat.reduceEqDiff, Nat.reduceAdd, Nat.reduceMul, Nat.reduceMod, Nat.reduceLeDiff, Nat.reduceLT, Int.reduceLT, Int.reduceLE, Int.reduceEq, Int.reduceToNat, Int.reduceSub, Int.reduceNeg, Int.reduceAdd, ↓reduceIte, reduceCtorEq, pack, pid, parN, lid, chkK, apartV, Heap.none, h1, n64, eTr_rules, eTr_row, eC_rules, eC_row]
 | true =>
  by_cases hl : (row.length : Int) = f
  ·refine ⟨0, ?_, fun _ _ => rfl, fun v => (v (h2.1 rfl)).elim, fun _ h => (h hl).elim⟩
   rw [R_go FF F232 c232.eq_1]
   simp only [RB, RL, un, St.none, Nat.reduceEqDiff, Nat.reduceAdd, Nat.reduceMul, Nat.reduceMod, Nat.reduceLeDiff, Nat.reduceLT, Int.reduceLT, Int.reduceLE, Int.reduceEq, Int.reduceToNat, Int.reduceSub, Int.reduceNeg, Int.reduceAdd, ↓reduceIte, reduceCtorEq, pack, pid, parN, lid, chkK, apartV, Heap.none, h1, n64, eTr_rules, eTr_row, eC_rules, eC_row, hl]
  ·refine ⟨14, ?_, fun _ h => (hl h).elim, fun v => (v (h2.1 rfl)).elim, fun _ _ => rfl⟩
   rw [R_go FF F232 c232.eq_1]
   simp only [RB, RL, un, St.none, Nat.reduceEqDiff, Nat.reduceAdd, Nat.reduceMul, Nat.reduceMod, Nat.reduceLeDiff, Nat.reduceLT, Int.reduceLT, Int.reduceLE, Int.reduceEq, Int.reduceToNat, Int.reduceSub, Int.reduceNeg, Int.reduceAdd, ↓reduceIte, reduceCtorEq, pack, pid, parN, lid, chkK, apartV, Heap.none, h1, n64, eTr_rules, eTr_row, eC_rules, eC_row, hl]
def predV (ts : List (List RNd)) (row : List RC) : Rat := sR (ts.map fun t => valT t row)
theorem valT_sq {t : List RNd} {row : List RC} {f : Int} {k : Nat} (h1k : 1 ≤ k) (h1 : 1 ≤ t.length) (hs : SmT t k) (hv : VT t f) : sq (valT t row) ≤ k := by
 obtain ⟨b, hb, hb1, hb2⟩ := walk_root hv.sh.par h1 row
 have e : valT t row = vQ (t.getD b dNd).val := by unfold valT; rw [hb]; rfl
 rw [e]
 exact vQ_sq (hs _ (getD_mem' dNd hb1)).2.2 h1k
theorem predict_l0 {f : Int} {ts : List (List RNd)} {row : List RC} {k : Nat} (hk : k ≤ 1000000) (h1k : 1 ≤ k) (hm : SmM (f, ts) k) (hv : ∀ t ∈ ts, VT t f) (h1 : ∀ t ∈ ts, 1 ≤ t.length) (hr : SmW row k) (hf : (row.length : Int) = f) : ∀ (d i : Nat), i + d = ts.length →
  LP FF [(4, 1), (7, 1), (1, 0), (19, 0), (20, 0), (21, 0)] [(4, 1), (7, 0)] b208_0 [.ownp [.b false, .l 1 [], .l 1 []], .ownp [.b (ng (predV (ts.take i) row).num), (AV.l 1 (List.map u (D (predV (ts.take i) row).num.natAbs))), (AV.l 1 (List.map u (D (predV (ts.take i) row).den)))], .l 4 (row.map eC), .l 1 (ts.map eTr), (AV.i .i64 ((ts.length : Int))), (AV.i .i64 ((i : Int)))] =
   some (.exit 0, [.ownp [.b false, .l 1 [], .l 1 []], .tp [.b (ng (predV ts row).num), (AV.l 1 (List.map u (D (predV ts row).num.natAbs))), (AV.l 1 (List.map u (D (predV ts row).den)))] 0]) := by
 intro d
 induction d with
 | zero =>
  intro i hi
  have hi' : i = ts.length := by omega
  rw [hi', zb (zj _)]
  have c1 : ¬ (ts.length : Int) < (ts.length : Int) := by omega
  rw [LP_go FF b208_0.eq_1]
  simp only [RB, RL, un, St.none, Nat.reduceEqDiff, Nat.reduceAdd, Nat.reduceMul, Nat.reduceMod, Nat.reduceLeDiff, Nat.reduceLT, Int.reduceLT, Int.reduceLE, Int.reduceEq, Int.reduceToNat, Int.reduceSub, Int.reduceNeg, Int.reduceAdd, ↓reduceIte, reduceCtorEq, pack, pid, parN, lid, chkK, apartV, Heap.none, c1, eTr_rules, eTr_row, eC_rules, eC_row]
 | succ d ih =>
  intro i hi
  have hlt : i < ts.length := by omega
  have h9 := ih (i + 1) (by omega)
  have hmem := getD_mem' ([] : List RNd) hlt
  have hp : predV (ts.take (i + 1)) row = predV (ts.take i) row + valT (ts.getD i []) row := by
   unfold predV
   rw [List.take_add_one, zc hlt, List.map_append, za, zc hlt]
   exact sR_snoc _ _
  rw [hp] at h9
  have hl := hm.1
  have hl : ts.length ≤ 1000 := hl
  have ha : AllQ ((ts.take i).map fun t => valT t row) k := fun x hx => by
   obtain ⟨t, ht, rfl⟩ := List.mem_map.1 hx
   have ht := List.mem_of_mem_take ht
   exact valT_sq h1k (h1 t ht) (hm.2 t ht).2 (hv t ht)
  have s1 := sR_sq ha
  rw [zk] at s1
  have hti : (ts.take i).length ≤ 1000 := zn (List.length_take_le _ _) (by omega)
  have s3 := len_mul hti (show k + 1 ≤ 1000001 by omega)
  have f1 := value_c (k := k) (by omega) (h1 _ hmem) (hm.2 _ hmem).1 (hm.2 _ hmem).2 hr (hv _ hmem) hf
  have v1 := valT_sq (row := row) h1k (h1 _ hmem) (hm.2 _ hmem).2 (hv _ hmem)
  have f2 := qadd_cc (s := predV (ts.take i) row) (t := valT (ts.getD i []) row) (k := 1000001001) (j := 1000000) (by unfold predV; omega) (by omega) (by omega) (by omega)
  generalize predV (ts.take i) row = s at *
  generalize valT (ts.getD i []) row = v at *
  have c1 : (i : Int) < (ts.length : Int) := by omega
  have e2 : IntKind.i64.wrap ((i : Int) + 1) = ((i + 1 : Nat) : Int) := w64succ (by omega)
  rw [LP_go FF b208_0.eq_1]
  simp only [RB, RL, un, St.none, Nat.reduceEqDiff, Nat.reduceAdd, Nat.reduceMul, Nat.reduceMod, Nat.reduceLeDiff, Nat.reduceLT, Int.reduceLT, Int.reduceLE, Int.reduceEq, Int.reduceToNat, Int.reduceSub, Int.reduceNeg, Int.reduceAdd, ↓reduceIte, reduceCtorEq, pack, pid, parN, lid, chkK, apartV, Heap.none, c1, e2, eTr_rules, eTr_row, eC_rules, eC_row, ze, f1, f2]
  exact h9
theorem predict_c {m : RM} {row : List RC} {k : Nat} (hk : k ≤ 1000000) (h1k : 1 ≤ k) (hm : SmM m k) (hr : SmW row k) (hv : VM m) (hf : (row.length : Int) = m.1) : R FF 208 [.agg (eM m), .l 4 (row.map eC)] = some (.tup [(AV.agg [AV.b (ng (zE ((predV m.2 row)))), (AV.l 1 (List.map u (D (zx (zE ((predV m.2 row))))))), (AV.l 1 (List.map u (D (Rat.den ((predV m.2 row))))))]), (AV.i .i64 0)]) := by
 obtain ⟨e, f1, f2, _⟩ := rfits_c (row := row) (by omega) h1k hm
 rw [f2 hv hf] at f1
 have z1 := qzero_c
 have l0 := predict_l0 (f := m.1) (ts := m.2) hk h1k hm hv.all (vt_len hv) hr hf m.2.length 0 (by omega)
 obtain ⟨f, ts⟩ := m
 rw [List.take_zero, zC, show predV [] row = 0 from rfl] at l0
 simp only [eM] at f1 ⊢
 generalize predV ts row = p at *
 rw [R_go FF F208 c208.eq_1]
 simp only [RB, RL, un, St.none, Nat.reduceEqDiff, Nat.reduceAdd, Nat.reduceMul, Nat.reduceMod, Nat.reduceLeDiff, Nat.reduceLT, Int.reduceLT, Int.reduceLE, Int.reduceEq, Int.reduceToNat, Int.reduceSub, Int.reduceNeg, Int.reduceAdd, ↓reduceIte, reduceCtorEq, pack, pid, parN, lid, chkK, apartV, Heap.none, f1, z1, l0, n64, eTr_rules, eTr_row, eC_rules, eC_row]
theorem left10_c {n : RNd} {x : RC} {k j : Nat} (hc : SmQ n.cut k) (hx : SmQ x.2 j) (hk : k ≤ 100000000000) (hj : j ≤ 100000000000) : R FF 231 [.agg (eNd n), .agg (eC x)] = some (.b (!n.leaf && goV (vQ n.cut) n.miss x)) := by
 have f1 := vcmp_c hx hc hj hk
 have e : decide (vQ x.2 < vQ n.cut) = decide (qcmp (vQ x.2) (vQ n.cut) < 0) := decide_eq_decide.2 qcmp_lt.symm
 unfold goV
 rw [e]
 generalize qcmp (vQ x.2) (vQ n.cut) = z at *
 obtain ⟨lf, ft, c, a, b, m, v, w⟩ := n
 obtain ⟨a', q, l, d⟩ := x
 simp only [eNd, eC]
 cases lf
 ·cases a'
  ·rw [R_go FF F231 c231.eq_1]
   simp only [RB, RL, un, St.none, Nat.reduceEqDiff, Nat.reduceAdd, Nat.reduceMul, Nat.reduceMod, Nat.reduceLeDiff, Nat.reduceLT, Int.reduceLT, Int.reduceLE, Int.reduceEq, Int.reduceToNat, Int.reduceSub, Int.reduceNeg, Int.reduceAdd, ↓reduceIte, reduceCtorEq, pack, pid, parN, lid, chkK, apartV, Heap.none, f1, n64]
   try rfl
  ·cases m
   ·rw [R_go FF F231 c231.eq_1]
    simp only [RB, RL, un, St.none, Nat.reduceEqDiff, Nat.reduceAdd, Nat.reduceMul, Nat.reduceMod, Nat.reduceLeDiff, Nat.reduceLT, Int.reduceLT, Int.reduceLE, Int.reduceEq, Int.reduceToNat, Int.reduceSub, Int.reduceNeg, Int.reduceAdd, ↓reduceIte, reduceCtorEq, pack, pid, parN, lid, chkK, apartV, Heap.none, f1, n64]
    try rfl
   ·rw [R_go FF F231 c231.eq_1]
    simp only [RB, RL, un, St.none, Nat.reduceEqDiff, Nat.reduceAdd, Nat.reduceMul, Nat.reduceMod, Nat.reduceLeDiff, Nat.reduceLT, Int.reduceLT, Int.reduceLE, Int.reduceEq, Int.reduceToNat, Int.reduceSub, Int.reduceNeg, Int.reduceAdd, ↓reduceIte, reduceCtorEq, pack, pid, parN, lid, chkK, apartV, Heap.none, f1, n64]
    try rfl
 ·rw [R_go FF F231 c231.eq_1]
  simp only [RB, RL, un, St.none, Nat.reduceEqDiff, Nat.reduceAdd, Nat.reduceMul, Nat.reduceMod, Nat.reduceLeDiff, Nat.reduceLT, Int.reduceLT, Int.reduceLE, Int.reduceEq, Int.reduceToNat, Int.reduceSub, Int.reduceNeg, Int.reduceAdd, ↓reduceIte, reduceCtorEq, pack, pid, parN, lid, chkK, apartV, Heap.none, f1, n64]
  try rfl
theorem way10_c {t : List RNd} {row : List RC} {f : Int} {k : Nat} (hk : k ≤ 10000000000) (ht : t.length ≤ 100000) (hs : SmT t k) (hr : SmW row k) (hrg : t.any (bdR t.length f) = false) (hf : (row.length : Int) = f) : ∀ (d a b : Nat), d ≤ 100000 → a < t.length → walk t row d a = some b →
  ∃ P : List Nat, 1 ≤ P.length ∧ P.length ≤ d + 1 ∧ P.getD (P.length - 1) 0 = b ∧ R FF 206 [.l 14 (t.map eNd), (AV.i .i64 ((a : Int))), .l 4 (row.map eC)] = some (.l 1 (P.map eX)) := by
 intro d
 induction d with
 | zero =>
  intro a b hd ha h
  rw [walk] at h
  split at h
  ·rename_i hl
   cases h
   refine ⟨[a], zj _, zj _, rfl, ?_⟩
   have c1 : (a : Int) < (t.length : Int) := by omega
   have e : [[AV.i .i64 (a : Int)]] = [a].map eX := rfl
   rw [← e]
   rw [R_go FF F206 c206.eq_1]
   simp only [RB, RL, un, St.none, Nat.reduceEqDiff, Nat.reduceAdd, Nat.reduceMul, Nat.reduceMod, Nat.reduceLeDiff, Nat.reduceLT, Int.reduceLT, Int.reduceLE, Int.reduceEq, Int.reduceToNat, Int.reduceSub, Int.reduceNeg, Int.reduceAdd, ↓reduceIte, reduceCtorEq, pack, pid, parN, lid, chkK, apartV, Heap.none, c1, hl, n64, eNd_rules, eNd_row, eC_rules, eC_row, ze]
  ·cases h
 | succ d ih =>
  intro a b hd ha h
  have c1 : (a : Int) < (t.length : Int) := by omega
  have hmem := getD_mem' dNd ha
  cases hl : (t.getD a dNd).leaf with
  | true =>
   rw [walk, if_pos hl] at h
   cases h
   refine ⟨[a], zj _, by show 1 ≤ _; omega, rfl, ?_⟩
   have e : [[AV.i .i64 (a : Int)]] = [a].map eX := rfl
   rw [← e]
   rw [R_go FF F206 c206.eq_1]
   simp only [RB, RL, un, St.none, Nat.reduceEqDiff, Nat.reduceAdd, Nat.reduceMul, Nat.reduceMod, Nat.reduceLeDiff, Nat.reduceLT, Int.reduceLT, Int.reduceLE, Int.reduceEq, Int.reduceToNat, Int.reduceSub, Int.reduceNeg, Int.reduceAdd, ↓reduceIte, reduceCtorEq, pack, pid, parN, lid, chkK, apartV, Heap.none, c1, hl, n64, eNd_rules, eNd_row, eC_rules, eC_row, ze]
  | false =>
   rw [walk, if_neg (by rw [hl]; decide)] at h
   have hg := rng_of hrg hmem hl
   have hn : nextN (t.getD a dNd) row < t.length := by unfold nextN; split <;> omega
   obtain ⟨P, q1, q2, q3, q4⟩ := ih _ b (by omega) hn h
   have hft : (t.getD a dNd).ft.toNat < row.length := by omega
   have f1 := left10_c (n := t.getD a dNd) (x := row.getD (t.getD a dNd).ft.toNat dC) (k := k) (j := k) (hs _ hmem).2.1 (hr _ (getD_mem' dC hft)) (by omega) (by omega)
   rw [hl, show (!false && goV (vQ (t.getD a dNd).cut) (t.getD a dNd).miss (row.getD (t.getD a dNd).ft.toNat dC)) = goN (t.getD a dNd) row from rfl] at f1
   refine ⟨a :: P, by rw [zr]; omega, by rw [zr]; omega, ?_, ?_⟩
   ·rw [zr, show P.length + 1 - 1 = (P.length - 1) + 1 by omega]; exact q3
   ·have b2 : (1 + P.length) * 8 ≤ 140737488355328 := by omega
    have t1 : zG (1 + P.length) ([[AV.i .i64 (a : Int)]] ++ List.map eX P) = (a :: P).map eX := by
     rw [zb (by rw [zi, zk]; exact zj _)]; rfl
    have hnx : nextN (t.getD a dNd) row = if goN (t.getD a dNd) row then (t.getD a dNd).lft.toNat else (t.getD a dNd).rgt.toNat := rfl
    obtain ⟨x, hx⟩ : ∃ x, x = t.getD a dNd := ⟨_, rfl⟩
    rw [← hx] at hl hg f1 hnx hft q4
    have hx' := hx.symm
    generalize goN x row = g at *
    obtain ⟨xl, xf, xc, xa, xb, xm, xv, xw⟩ := x
    simp only at hl hg hft
    subst hl
    have g1 : 0 ≤ xf := by omega
    have g2 : xf < (row.length : Int) := by omega
    simp only [eNd, eC] at f1
    cases g
    ·have q5 : ((nextN ⟨false, xf, xc, xa, xb, xm, xv, xw⟩ row : Nat) : Int) = xb := by rw [hnx, if_neg (by decide)]; show ((xb.toNat : Nat) : Int) = xb; omega
     rw [q5] at q4
     rw [R_go FF F206 c206.eq_1]
     simp only [RB, RL, un, St.none, Nat.reduceEqDiff, Nat.reduceAdd, Nat.reduceMul, Nat.reduceMod, Nat.reduceLeDiff, Nat.reduceLT, Int.reduceLT, Int.reduceLE, Int.reduceEq, Int.reduceToNat, Int.reduceSub, Int.reduceNeg, Int.reduceAdd, ↓reduceIte, reduceCtorEq, pack, pid, parN, lid, chkK, apartV, Heap.none, c1, hx', eNd, f1, g1, g2, n64, eNd_rules, eNd_row, eC_rules, eC_row, eX_rules, eX_row, ze, q4, b2, t1]
    ·have q5 : ((nextN ⟨false, xf, xc, xa, xb, xm, xv, xw⟩ row : Nat) : Int) = xa := by rw [hnx, if_pos rfl]; show ((xa.toNat : Nat) : Int) = xa; omega
     rw [q5] at q4
     rw [R_go FF F206 c206.eq_1]
     simp only [RB, RL, un, St.none, Nat.reduceEqDiff, Nat.reduceAdd, Nat.reduceMul, Nat.reduceMod, Nat.reduceLeDiff, Nat.reduceLT, Int.reduceLT, Int.reduceLE, Int.reduceEq, Int.reduceToNat, Int.reduceSub, Int.reduceNeg, Int.reduceAdd, ↓reduceIte, reduceCtorEq, pack, pid, parN, lid, chkK, apartV, Heap.none, c1, hx', eNd, f1, g1, g2, n64, eNd_rules, eNd_row, eC_rules, eC_row, eX_rules, eX_row, ze, q4, b2, t1]
theorem predict10_l0 {f : Int} {ts : List (List RNd)} {row : List RC} {k : Nat} (hk : k ≤ 1000000) (h1k : 1 ≤ k) (hm : SmM (f, ts) k) (hv : ∀ t ∈ ts, VT t f) (h1 : ∀ t ∈ ts, 1 ≤ t.length) (hr : SmW row k) (hf : (row.length : Int) = f) : ∀ (d i : Nat), i + d = ts.length →
  LP FF [(4, 1), (5, 1), (1, 0), (2, 0), (6, 0)] [(4, 1), (5, 0)] b201_0 [.ownp [.b false, .l 1 [], .l 1 []], .ownp [.b (ng (predV (ts.take i) row).num), (AV.l 1 (List.map u (D (predV (ts.take i) row).num.natAbs))), (AV.l 1 (List.map u (D (predV (ts.take i) row).den)))], .l 4 (row.map eC), .tp (eM (f, ts)) 0, (AV.i .i64 ((i : Int)))] =
   some (.exit 0, [.ownp [.b false, .l 1 [], .l 1 []], .tp [.b (ng (predV ts row).num), (AV.l 1 (List.map u (D (predV ts row).num.natAbs))), (AV.l 1 (List.map u (D (predV ts row).den)))] 0]) := by
 intro d
 induction d with
 | zero =>
  intro i hi
  have hi' : i = ts.length := by omega
  rw [hi', zb (zj _)]
  have c1 : ¬ (ts.length : Int) < (ts.length : Int) := by omega
  simp only [eM]
  rw [LP_go FF b201_0.eq_1]
  simp only [RB, RL, un, St.none, Nat.reduceEqDiff, Nat.reduceAdd, Nat.reduceMul, Nat.reduceMod, Nat.reduceLeDiff, Nat.reduceLT, Int.reduceLT, Int.reduceLE, Int.reduceEq, Int.reduceToNat, Int.reduceSub, Int.reduceNeg, Int.reduceAdd, ↓reduceIte, reduceCtorEq, pack, pid, parN, lid, chkK, apartV, Heap.none, c1, eTr_rules, eTr_row, eC_rules, eC_row]
 | succ d ih =>
  intro i hi
  have hlt : i < ts.length := by omega
  have h9 := ih (i + 1) (by omega)
  have hmem := getD_mem' ([] : List RNd) hlt
  have hp : predV (ts.take (i + 1)) row = predV (ts.take i) row + valT (ts.getD i []) row := by
   unfold predV
   rw [List.take_add_one, zc hlt, List.map_append, za, zc hlt]
   exact sR_snoc _ _
  rw [hp] at h9
  have hl : ts.length ≤ 1000 := hm.1
  have ha : AllQ ((ts.take i).map fun t => valT t row) k := fun x hx => by
   obtain ⟨t, ht, rfl⟩ := List.mem_map.1 hx
   have ht := List.mem_of_mem_take ht
   exact valT_sq h1k (h1 t ht) (hm.2 t ht).2 (hv t ht)
  have s1 := sR_sq ha
  rw [zk] at s1
  have hti : (ts.take i).length ≤ 1000 := zn (List.length_take_le _ _) (by omega)
  have s3 := len_mul hti (show k + 1 ≤ 1000001 by omega)
  obtain ⟨b, hb, hb1, hb2⟩ := walk_root (hv _ hmem).sh.par (h1 _ hmem) row
  obtain ⟨P, q1, q2, q3, q4⟩ := way10_c (k := k) (by omega) (hm.2 _ hmem).1 (hm.2 _ hmem).2 hr (hv _ hmem).rg hf (ts.getD i []).length 0 b (hm.2 _ hmem).1 (h1 _ hmem) hb
  have ev : valT (ts.getD i []) row = vQ ((ts.getD i []).getD b dNd).val := by unfold valT; rw [hb]; rfl
  have hval := ((hm.2 _ hmem).2 _ (getD_mem' dNd hb1)).2.2
  have f2 := qadd_v (s := predV (ts.take i) row) (x := ((ts.getD i []).getD b dNd).val) (k := 1000001001) (j := k) (by unfold predV; omega) hval (by omega) (by omega)
  rw [ev] at h9
  rw [zC] at q4
  generalize predV (ts.take i) row = s at *
  have c1 : (i : Int) < (ts.length : Int) := by omega
  have e2 : IntKind.i64.wrap ((i : Int) + 1) = ((i + 1 : Nat) : Int) := w64succ (by omega)
  have htl := (hm.2 _ hmem).1
  have e3 : IntKind.i64.wrap ((P.length : Int) - 1) = ((P.length - 1 : Nat) : Int) := by rw [w64 (by omega) (by omega)]; omega
  have c2 : ((P.length - 1 : Nat) : Int) < (P.length : Int) := by omega
  have c3 : (b : Int) < ((ts.getD i []).length : Int) := by omega
  have q3' : P.getD (P.length - 1) 0 = b := q3
  generalize vQ ((ts.getD i []).getD b dNd).val = v at *
  simp only [eM] at h9 ⊢
  rw [LP_go FF b201_0.eq_1]
  simp only [RB, RL, un, St.none, Nat.reduceEqDiff, Nat.reduceAdd, Nat.reduceMul, Nat.reduceMod, Nat.reduceLeDiff, Nat.reduceLT, Int.reduceLT, Int.reduceLE, Int.reduceEq, Int.reduceToNat, Int.reduceSub, Int.reduceNeg, Int.reduceAdd, ↓reduceIte, reduceCtorEq, pack, pid, parN, lid, chkK, apartV, Heap.none, c1, e2, e3, c2, c3, q3', eTr_rules, eTr_row, eC_rules, eC_row, eX_rules, eX_row, eNd_rules, eNd_row, ze, q4, f2]
  exact h9
theorem predict10_c {m : RM} {row : List RC} {k : Nat} (hk : k ≤ 1000000) (h1k : 1 ≤ k) (hm : SmM m k) (hr : SmW row k) (hv : VM m) (hf : (row.length : Int) = m.1) : R FF 201 [.agg (eM m), .l 4 (row.map eC)] = some (AV.agg [AV.b (ng (zE ((predV m.2 row)))), (AV.l 1 (List.map u (D (zx (zE ((predV m.2 row))))))), (AV.l 1 (List.map u (D (Rat.den ((predV m.2 row))))))]) := by
 have z1 := qzero_c
 have l0 := predict10_l0 (f := m.1) (ts := m.2) hk h1k hm hv.all (vt_len hv) hr hf m.2.length 0 (by omega)
 obtain ⟨f, ts⟩ := m
 rw [List.take_zero, zC, show predV [] row = 0 from rfl] at l0
 simp only [eM] at l0 ⊢
 generalize predV ts row = p at *
 rw [R_go FF F201 c201.eq_1]
 simp only [RB, RL, un, St.none, Nat.reduceEqDiff, Nat.reduceAdd, Nat.reduceMul, Nat.reduceMod, Nat.reduceLeDiff, Nat.reduceLT, Int.reduceLT, Int.reduceLE, Int.reduceEq, Int.reduceToNat, Int.reduceSub, Int.reduceNeg, Int.reduceAdd, ↓reduceIte, reduceCtorEq, pack, pid, parN, lid, chkK, apartV, Heap.none, z1, l0, n64, eTr_rules, eTr_row, eC_rules, eC_row]
theorem sR_split (p : Nat → Bool) (h : Nat → Rat) (l : List Nat) : sR (l.map h) = sR ((l.filter p).map h) + sR ((l.filter fun j => !p j).map h) := by
 induction l with
 | nil => show (0 : Rat) = 0 + 0; grind
 | cons a l ih =>
  rw [List.filter_cons, List.filter_cons]
  cases p a
  ·show h a + sR (l.map h) = sR ((l.filter p).map h) + (h a + sR ((l.filter fun j => !p j).map h)); rw [ih]; grind
  ·show h a + sR (l.map h) = (h a + sR ((l.filter p).map h)) + sR ((l.filter fun j => !p j).map h); rw [ih]; grind
theorem pR_split (p : Nat → Bool) (h : Nat → Rat) (l : List Nat) : pR (l.map h) = pR ((l.filter p).map h) + pR ((l.filter fun j => !p j).map h) := by
 induction l with
 | nil => show (0 : Rat) = 0 + 0; grind
 | cons a l ih =>
  rw [List.filter_cons, List.filter_cons]
  cases p a
  ·show h a * h a + pR (l.map h) = pR ((l.filter p).map h) + (h a * h a + pR ((l.filter fun j => !p j).map h)); rw [ih]; grind
  ·show h a * h a + pR (l.map h) = (h a * h a + pR ((l.filter p).map h)) + pR ((l.filter fun j => !p j).map h); rw [ih]; grind
theorem walk_mono {t : List RNd} {row : List RC} : ∀ (k a b : Nat), walk t row k a = some b → walk t row (k + 1) a = some b := by
 intro k
 induction k with
 | zero =>
  intro a b h
  rw [walk] at h
  rw [walk]
  split at h
  ·rename_i hl; rw [if_pos hl]; exact h
  ·cases h
 | succ k ih =>
  intro a b h
  rw [walk] at h
  rw [walk]
  split at h
  ·rename_i hl; rw [if_pos hl]; exact h
  ·rename_i hl; rw [if_neg hl]; exact ih _ b h
theorem walk_le {t : List RNd} {row : List RC} {k m a b : Nat} (hm : k ≤ m) (h : walk t row k a = some b) : walk t row m a = some b := by
 induction hm with
 | refl => exact h
 | step _ ih => exact walk_mono _ _ _ ih
theorem sR_sub (V : List RQt) (l : List Nat) (m : Rat) : sR (l.map fun i => vQ (V.getD i dQ) - m) = sR (vsL V l) - ((l.length : Int) : Rat) * m := by
 induction l with
 | nil => show (0 : Rat) = 0 - (((0 : Nat) : Int) : Rat) * m; rw [show (((0 : Nat) : Int) : Rat) = 0 from rfl]; grind
 | cons a l ih =>
  show (vQ (V.getD a dQ) - m) + sR (l.map fun i => vQ (V.getD i dQ) - m) = (vQ (V.getD a dQ) + sR (vsL V l)) - (((l.length + 1 : Nat) : Int) : Rat) * m
  rw [ih, show (((l.length + 1 : Nat) : Int) : Rat) = ((l.length : Int) : Rat) + 1 by rw [Int.natCast_add, Rat.intCast_add]; rfl]
  grind
theorem pR_sub (V : List RQt) (l : List Nat) (m : Rat) : pR (l.map fun i => vQ (V.getD i dQ) - m) = dR m (vsL V l) := by
 induction l with
 | nil => rfl
 | cons a l ih => show (vQ (V.getD a dQ) - m) * (vQ (V.getD a dQ) - m) + pR (l.map fun i => vQ (V.getD i dQ) - m) = _; rw [ih]; rfl
theorem mean_zero (V : List RQt) (l : List Nat) (hl : 1 ≤ l.length) : sR (l.map fun i => vQ (V.getD i dQ) - mnV (vsL V l)) = 0 := by
 rw [sR_sub]
 unfold mnV ivn
 rw [vsL_len]
 have h1 : ((l.length : Int) : Rat) ≠ 0 := fun h0 => by have := Rat.intCast_inj.1 (show ((l.length : Int) : Rat) = ((0 : Int) : Rat) from h0); omega
 have h2 := Rat.mul_inv_cancel _ h1
 generalize ((l.length : Int) : Rat)⁻¹ = i at *
 generalize ((l.length : Int) : Rat) = n at *
 grind
theorem map_congr' {h g : Nat → Rat} {l : List Nat} (e : ∀ i ∈ l, h i = g i) : l.map h = l.map g := List.map_congr_left e
theorem treeP_left {V : List RQt} {rows : List (List RC)} {lst : Int} {n : Nat} (hlst : 1 ≤ lst) : ∀ (d : Nat) (l : List Nat) (pre post : List RNd), 1 ≤ l.length →
  ∃ g : Nat → Rat, (∀ i ∈ l, ∃ b, walk (pre ++ treeP V rows lst n d l pre.length ++ post) (rows.getD i []) (treeP V rows lst n d l pre.length).length pre.length = some b ∧ vQ ((pre ++ treeP V rows lst n d l pre.length ++ post).getD b dNd).val = g i) ∧
   sR (l.map fun i => vQ (V.getD i dQ) - g i) = 0 ∧ pR (l.map fun i => vQ (V.getD i dQ) - g i) ≤ lsV (vsL V l) := by
 have hleaf : ∀ (l : List Nat) (pre post : List RNd), 1 ≤ l.length → ∃ g : Nat → Rat, (∀ i ∈ l, ∃ b, walk (pre ++ [lfN V l] ++ post) (rows.getD i []) [lfN V l].length pre.length = some b ∧ vQ ((pre ++ [lfN V l] ++ post).getD b dNd).val = g i) ∧
   sR (l.map fun i => vQ (V.getD i dQ) - g i) = 0 ∧ pR (l.map fun i => vQ (V.getD i dQ) - g i) ≤ lsV (vsL V l) := by
  intro l pre post hl
  have h1 := getD_mid pre post (lfN V l) []
  refine ⟨fun _ => mnV (vsL V l), fun i _ => ⟨pre.length, ?_, ?_⟩, mean_zero V l hl, ?_⟩
  ·rw [show [lfN V l].length = 0 + 1 from rfl, walk, h1]; rfl
  ·rw [h1]; exact vQ_rQ _
  ·rw [pR_sub, dR_loss]; grind
 intro d
 induction d with
 | zero => intro l pre post hl; exact hleaf l pre post hl
 | succ d ih =>
  intro l pre post hl
  cases hb : bestP V rows l lst n with
  | none => rw [show treeP V rows lst n (d + 1) l pre.length = [lfN V l] by rw [treeP, hb]]; exact hleaf l pre post hl
  | some b =>
   obtain ⟨bf, bc, bm, bl⟩ := b
   have kk : bf < n ∧ bc ∈ ctV rows bf l ∧ few2 rows l lst bf bc bm = false ∧ bl = splV V rows l bf bc bm := bestP_mem hb
   obtain ⟨k1, k2, k3, k4⟩ := kk
   by_cases hle : lsV (vsL V l) ≤ bl
   ·rw [show treeP V rows lst n (d + 1) l pre.length = [lfN V l] by rw [treeP, hb]; exact if_pos hle]; exact hleaf l pre post hl
   ·obtain ⟨h1, h2, h3⟩ := part_ok hlst k3
    have e1 : treeP V rows lst n (d + 1) l pre.length = inN l bf (rQ bc) bm (pre.length + 1) (pre.length + 1 + (treeP V rows lst n d (lfL rows l bf bc bm) (pre.length + 1)).length) :: (treeP V rows lst n d (lfL rows l bf bc bm) (pre.length + 1) ++ treeP V rows lst n d (rgL rows l bf bc bm) (pre.length + 1 + (treeP V rows lst n d (lfL rows l bf bc bm) (pre.length + 1)).length)) := by
     rw [treeP, hb]; exact if_neg hle
    obtain ⟨gA, a1, a2, a3⟩ := ih (lfL rows l bf bc bm) (pre ++ [inN l bf (rQ bc) bm (pre.length + 1) (pre.length + 1 + (treeP V rows lst n d (lfL rows l bf bc bm) (pre.length + 1)).length)]) (treeP V rows lst n d (rgL rows l bf bc bm) (pre.length + 1 + (treeP V rows lst n d (lfL rows l bf bc bm) (pre.length + 1)).length) ++ post) h1
    obtain ⟨gB, b1, b2, b3⟩ := ih (rgL rows l bf bc bm) (pre ++ inN l bf (rQ bc) bm (pre.length + 1) (pre.length + 1 + (treeP V rows lst n d (lfL rows l bf bc bm) (pre.length + 1)).length) :: treeP V rows lst n d (lfL rows l bf bc bm) (pre.length + 1)) post h2
    rw [e1]
    rw [show (pre ++ [inN l bf (rQ bc) bm (pre.length + 1) (pre.length + 1 + (treeP V rows lst n d (lfL rows l bf bc bm) (pre.length + 1)).length)]).length = pre.length + 1 by rw [zi, List.length_singleton]] at a1
    rw [show (pre ++ inN l bf (rQ bc) bm (pre.length + 1) (pre.length + 1 + (treeP V rows lst n d (lfL rows l bf bc bm) (pre.length + 1)).length) :: treeP V rows lst n d (lfL rows l bf bc bm) (pre.length + 1)).length = pre.length + 1 + (treeP V rows lst n d (lfL rows l bf bc bm) (pre.length + 1)).length by rw [zi, zr]; omega] at b1
    generalize treeP V rows lst n d (rgL rows l bf bc bm) (pre.length + 1 + (treeP V rows lst n d (lfL rows l bf bc bm) (pre.length + 1)).length) = B at *
    generalize treeP V rows lst n d (lfL rows l bf bc bm) (pre.length + 1) = A at *
    have hx := getD_mid pre post (inN l bf (rQ bc) bm (pre.length + 1) (pre.length + 1 + A.length)) (A ++ B)
    have eA : pre ++ [inN l bf (rQ bc) bm (pre.length + 1) (pre.length + 1 + A.length)] ++ A ++ (B ++ post) = pre ++ inN l bf (rQ bc) bm (pre.length + 1) (pre.length + 1 + A.length) :: (A ++ B) ++ post := by simp
    have eB : pre ++ inN l bf (rQ bc) bm (pre.length + 1) (pre.length + 1 + A.length) :: A ++ B ++ post = pre ++ inN l bf (rQ bc) bm (pre.length + 1) (pre.length + 1 + A.length) :: (A ++ B) ++ post := by simp
    rw [eA] at a1
    rw [eB] at b1
    generalize hT : pre ++ inN l bf (rQ bc) bm (pre.length + 1) (pre.length + 1 + A.length) :: (A ++ B) ++ post = T at *
    have hgo : ∀ i, goN (T.getD pre.length dNd) (rows.getD i []) = goV bc bm (cellD rows bf i) := by
     intro i
     rw [hx]
     unfold goN inN cellD
     show goV (vQ (rQ bc)) bm ((rows.getD i []).getD ((bf : Int)).toNat dC) = _
     rw [vQ_rQ, Int.toNat_natCast]
    have hlf : (T.getD pre.length dNd).leaf = false := by rw [hx]; rfl
    have hl1 : (T.getD pre.length dNd).lft.toNat = pre.length + 1 := by rw [hx]; exact Int.toNat_natCast _
    have hl2 : (T.getD pre.length dNd).rgt.toNat = pre.length + 1 + A.length := by rw [hx]; exact Int.toNat_natCast _
    refine ⟨fun i => if goV bc bm (cellD rows bf i) then gA i else gB i, fun i hi => ?_, ?_, ?_⟩
    ·rw [zr, zi, walk, if_neg (by rw [hlf]; decide)]
     unfold nextN
     rw [hgo, hl1, hl2]
     by_cases hg : goV bc bm (cellD rows bf i) = true
     ·rw [if_pos hg]
      obtain ⟨b, w1, w2⟩ := a1 i (List.mem_filter.2 ⟨hi, hg⟩)
      exact ⟨b, walk_le (by omega) w1, by rw [w2]; exact (if_pos hg).symm⟩
     ·rw [if_neg hg]
      obtain ⟨b, w1, w2⟩ := b1 i (List.mem_filter.2 ⟨hi, by simpa using hg⟩)
      exact ⟨b, walk_le (by omega) w1, by rw [w2]; exact (if_neg hg).symm⟩
    ·rw [sR_split (fun j => goV bc bm (cellD rows bf j))]
     rw [map_congr' (l := l.filter fun j => goV bc bm (cellD rows bf j)) (g := fun i => vQ (V.getD i dQ) - gA i) (fun i hi => by show vQ (V.getD i dQ) - (if goV bc bm (cellD rows bf i) = true then gA i else gB i) = _; rw [if_pos (List.mem_filter.1 hi).2]), map_congr' (l := l.filter fun j => !goV bc bm (cellD rows bf j)) (g := fun i => vQ (V.getD i dQ) - gB i) (fun i hi => by
      have h := (List.mem_filter.1 hi).2
      show vQ (V.getD i dQ) - (if goV bc bm (cellD rows bf i) = true then gA i else gB i) = _
      rw [if_neg (by simpa using h)])]
     show sR ((lfL rows l bf bc bm).map _) + sR ((rgL rows l bf bc bm).map _) = 0
     rw [a2, b2]; grind
    ·rw [pR_split (fun j => goV bc bm (cellD rows bf j))]
     rw [map_congr' (l := l.filter fun j => goV bc bm (cellD rows bf j)) (g := fun i => vQ (V.getD i dQ) - gA i) (fun i hi => by show vQ (V.getD i dQ) - (if goV bc bm (cellD rows bf i) = true then gA i else gB i) = _; rw [if_pos (List.mem_filter.1 hi).2]), map_congr' (l := l.filter fun j => !goV bc bm (cellD rows bf j)) (g := fun i => vQ (V.getD i dQ) - gB i) (fun i hi => by
      have h := (List.mem_filter.1 hi).2
      show vQ (V.getD i dQ) - (if goV bc bm (cellD rows bf i) = true then gA i else gB i) = _
      rw [if_neg (by simpa using h)])]
     show pR ((lfL rows l bf bc bm).map _) + pR ((rgL rows l bf bc bm).map _) ≤ _
     have e5 : bl = lsV (vsL V (lfL rows l bf bc bm)) + lsV (vsL V (rgL rows l bf bc bm)) := k4
     grind
def lvV (V : List RQt) (rows : List (List RC)) (ts : List (List RNd)) (i : Nat) : Rat := vQ (V.getD i dQ) - predV ts (rows.getD i [])
theorem predV_sq {f : Int} {ts : List (List RNd)} {row : List RC} {k : Nat} (h1k : 1 ≤ k) (hm : SmM (f, ts) k) (hv : ∀ t ∈ ts, VT t f) (h1 : ∀ t ∈ ts, 1 ≤ t.length) : sq (predV ts row) ≤ ts.length * (k + 1) + 1 := by
 have ha : AllQ (ts.map fun t => valT t row) k := fun x hx => by
  obtain ⟨t, ht, rfl⟩ := List.mem_map.1 hx
  exact valT_sq h1k (h1 t ht) (hm.2 t ht).2 (hv t ht)
 have s1 := sR_sq ha
 rw [zk] at s1
 exact s1
theorem gleft_l0 {fe : Int} {V : List RQt} {rows : List (List RC)} {m : RM} {k : Nat} (hk : k ≤ 100000) (h1k : 1 ≤ k) (hm : SmM m k) (hv : VM m) (hV : SmL V k) (hVl : V.length ≤ 900) (hl : rows.length = V.length) (hr : ∀ r ∈ rows, SmW r k ∧ (r.length : Int) = m.1) : ∀ (d i : Nat), i + d = rows.length →
  LP FF [(6, 1), (2, 0), (3, 0), (19, 0), (20, 0), (21, 0)] [(4, 0), (5, 0), (6, 0)] b279_0 [.own true 3 ((((zo i).map (lvV V rows m.2)).map rQ).map eQ), .tp [(AV.i .i64 fe), .l 1 (rows.map eRw), .l 3 (V.map eQ)] 0, .tp (eM m) 0, .l 1 (rows.map eRw), (AV.i .i64 ((rows.length : Int))), (AV.i .i64 ((i : Int)))] =
   some (.exit 0, [.junk, .junk, (AV.l 3 (List.map eQ (List.map rQ ((zo rows.length).map (lvV V rows m.2)))))]) := by
 intro d
 induction d with
 | zero =>
  intro i hi
  rw [show i = rows.length by omega]
  have c1 : ¬ (rows.length : Int) < (rows.length : Int) := by omega
  have m2 : (((zo rows.length).map (lvV V rows m.2)).map rQ).length = rows.length := by rw [zk, zk, List.length_range]
  have m3 := zb (Nat.le_of_eq m2)
  obtain ⟨f, ts⟩ := m
  simp only [eM] at m2 m3 ⊢
  rw [LP_go FF b279_0.eq_1]
  simp only [RB, RL, un, St.none, Nat.reduceEqDiff, Nat.reduceAdd, Nat.reduceMul, Nat.reduceMod, Nat.reduceLeDiff, Nat.reduceLT, Int.reduceLT, Int.reduceLE, Int.reduceEq, Int.reduceToNat, Int.reduceSub, Int.reduceNeg, Int.reduceAdd, ↓reduceIte, reduceCtorEq, pack, pid, parN, lid, chkK, apartV, Heap.none, c1, eTr_rules, eTr_row, eRw_rules, eRw_row, eQ_rules, eQ_row, m2, m3]
 | succ d ih =>
  intro i hi
  have hlt : i < rows.length := by omega
  have h9 := ih (i + 1) (by omega)
  have hrow := hr _ (getD_mem' ([] : List RC) hlt)
  have hVi := hV _ (getD_mem' dQ (show i < V.length by omega))
  have f1 := predict_c (row := rows.getD i []) (k := k) (by omega) h1k hm hrow.1 hv hrow.2
  have z1 := predV_sq (row := rows.getD i []) h1k hm hv.all (vt_len hv)
  have z2 := len_mul hm.1 (show k + 1 ≤ 100001 by omega)
  have f2 := qsub_vc (s := predV m.2 (rows.getD i [])) (x := V.getD i dQ) (k := 100001001) (j := k) (by omega) hVi (by omega) (by omega)
  have es : (zo (i + 1)).map (lvV V rows m.2) = (zo i).map (lvV V rows m.2) ++ [vQ (V.getD i dQ) - predV m.2 (rows.getD i [])] := by rw [List.range_succ, List.map_append]; rfl
  rw [es] at h9
  have m2 : (((zo i).map (lvV V rows m.2)).map rQ).length = i := by rw [zk, zk, List.length_range]
  generalize (zo i).map (lvV V rows m.2) = L at *
  generalize vQ (V.getD i dQ) - predV m.2 (rows.getD i []) = y at *
  generalize predV m.2 (rows.getD i []) = p at *
  generalize (zo rows.length).map (lvV V rows m.2) = res at *
  have m1 : List.map eQ (List.map rQ L) ++ [[AV.b (ng y.num), (AV.l 1 (List.map u (D y.num.natAbs))), (AV.l 1 (List.map u (D y.den)))]] = List.map eQ (List.map rQ (L ++ [y])) := by rw [List.map_append (f := rQ), List.map_append (f := eQ)]; rfl
  have m4 : (List.map rQ (L ++ [y])).length = i + 1 := by rw [List.map_append, zi, m2]; rfl
  have m3 := zb (Nat.le_of_eq m2)
  have m5 : zG (i + 1) (List.map rQ (L ++ [y])) = List.map rQ (L ++ [y]) := zb (Nat.le_of_eq m4)
  have b2 : (i + 1) * 56 ≤ 140737488355328 := by omega
  have c1 : (i : Int) < (rows.length : Int) := by omega
  have c2 : (i : Int) < (V.length : Int) := by omega
  have e2 : IntKind.i64.wrap ((i : Int) + 1) = ((i + 1 : Nat) : Int) := w64succ (by omega)
  obtain ⟨f, ts⟩ := m
  simp only [eM] at f1 h9 ⊢
  rw [LP_go FF b279_0.eq_1]
  simp only [RB, RL, un, St.none, Nat.reduceEqDiff, Nat.reduceAdd, Nat.reduceMul, Nat.reduceMod, Nat.reduceLeDiff, Nat.reduceLT, Int.reduceLT, Int.reduceLE, Int.reduceEq, Int.reduceToNat, Int.reduceSub, Int.reduceNeg, Int.reduceAdd, ↓reduceIte, reduceCtorEq, pack, pid, parN, lid, chkK, apartV, Heap.none, c1, c2, e2, eTr_rules, eTr_row, eRw_rules, eRw_row, eQ_rules, eQ_row, ze, m1, m2, m3, m4, m5, b2, f1, f2]
  exact h9
theorem gleft_c {d : RD} {m : RM} {k : Nat} (hk : k ≤ 100000) (h1k : 1 ≤ k) (hm : SmM m k) (hv : VM m) (hV : SmL d.2.2 k) (hVl : d.2.2.length ≤ 900) (hl : d.2.1.length = d.2.2.length) (hr : ∀ r ∈ d.2.1, SmW r k ∧ (r.length : Int) = m.1) :
  R FF 279 [.agg (eD d), .agg (eM m)] = some (.tup [(AV.l 3 (List.map eQ (List.map rQ ((zo d.2.1.length).map (lvV d.2.2 d.2.1 m.2))))), (AV.i .i64 0)]) := by
 have l0 := gleft_l0 (fe := d.1) hk h1k hm hv hV hVl hl hr d.2.1.length 0 (by omega)
 obtain ⟨f, rows, vals⟩ := d
 have hl : rows.length = vals.length := hl
 have c1 : (rows.length : Int) = (vals.length : Int) := by omega
 rw [List.range_zero, zC] at l0
 obtain ⟨mf, ts⟩ := m
 simp only [List.map_nil, eM, eD] at l0 ⊢
 rw [c1] at l0
 rw [R_go FF F279 c279.eq_1]
 simp only [RB, RL, un, St.none, Nat.reduceEqDiff, Nat.reduceAdd, Nat.reduceMul, Nat.reduceMod, Nat.reduceLeDiff, Nat.reduceLT, Int.reduceLT, Int.reduceLE, Int.reduceEq, Int.reduceToNat, Int.reduceSub, Int.reduceNeg, Int.reduceAdd, ↓reduceIte, reduceCtorEq, pack, pid, parN, lid, chkK, apartV, Heap.none, l0, c1, n64, eTr_rules, eTr_row, eRw_rules, eRw_row, eQ_rules, eQ_row]
theorem qsum_l0 {L : List Rat} {k : Nat} (hk : k ≤ 1000000) (h1k : 1 ≤ k) (hL : AllQ L k) (hn : L.length ≤ 1000) : ∀ (d i : Nat), i + d = L.length →
  LP FF [(2, 1), (3, 1), (7, 0), (8, 0), (9, 0)] [(2, 1), (3, 0)] b280_0 [.ownp [.b false, .l 1 [], .l 1 []], .ownp [.b (ng (sR (L.take i)).num), (AV.l 1 (List.map u (D (sR (L.take i)).num.natAbs))), (AV.l 1 (List.map u (D (sR (L.take i)).den)))], (AV.l 3 (List.map eQ (List.map rQ L))), (AV.i .i64 ((L.length : Int))), (AV.i .i64 ((i : Int)))] =
   some (.exit 0, [.ownp [.b false, .l 1 [], .l 1 []], .tp [.b (ng (sR L).num), (AV.l 1 (List.map u (D (sR L).num.natAbs))), (AV.l 1 (List.map u (D (sR L).den)))] 0]) := by
 intro d
 induction d with
 | zero =>
  intro i hi
  have hi' : i = L.length := by omega
  rw [hi', zb (zj _)]
  have c1 : ¬ (L.length : Int) < (L.length : Int) := by omega
  rw [LP_go FF b280_0.eq_1]
  simp only [RB, RL, un, St.none, Nat.reduceEqDiff, Nat.reduceAdd, Nat.reduceMul, Nat.reduceMod, Nat.reduceLeDiff, Nat.reduceLT, Int.reduceLT, Int.reduceLE, Int.reduceEq, Int.reduceToNat, Int.reduceSub, Int.reduceNeg, Int.reduceAdd, ↓reduceIte, reduceCtorEq, pack, pid, parN, lid, chkK, apartV, Heap.none, c1, eQ_rules, eQ_row]
 | succ d ih =>
  intro i hi
  have hlt : i < L.length := by omega
  have h9 := ih (i + 1) (by omega)
  have hp : sR (L.take (i + 1)) = sR (L.take i) + L.getD i 0 := by
   rw [List.take_add_one, zc hlt, za, zc hlt]
   exact sR_snoc _ _
  rw [hp] at h9
  have s1 := sR_sq (l := L.take i) (k := k) (fun x hx => hL x (List.mem_of_mem_take hx))
  have hti : (L.take i).length ≤ 1000 := zn (List.length_take_le _ _) (by omega)
  have s3 := len_mul hti (show k + 1 ≤ 1000001 by omega)
  have f1 := qadd_cc (s := sR (L.take i)) (t := L.getD i 0) (k := 1000001001) (j := k) (by omega) (hL _ (getD_mem' 0 hlt)) (by omega) (by omega)
  have hlen : (L.map rQ).length = L.length := zk ..
  have hg := getD_map_rQ L i hlt
  generalize sR (L.take i) = s at *
  generalize L.getD i 0 = x at *
  have c1 : (i : Int) < (L.length : Int) := by omega
  have e2 : IntKind.i64.wrap ((i : Int) + 1) = ((i + 1 : Nat) : Int) := w64succ (by omega)
  rw [LP_go FF b280_0.eq_1]
  simp only [RB, RL, un, St.none, Nat.reduceEqDiff, Nat.reduceAdd, Nat.reduceMul, Nat.reduceMod, Nat.reduceLeDiff, Nat.reduceLT, Int.reduceLT, Int.reduceLE, Int.reduceEq, Int.reduceToNat, Int.reduceSub, Int.reduceNeg, Int.reduceAdd, ↓reduceIte, reduceCtorEq, pack, pid, parN, lid, chkK, apartV, Heap.none, c1, e2, eQ_rules, eQ_row, hlen, hg, rQ, ze, f1]
  exact h9
theorem qsum_c {L : List Rat} {k : Nat} (hk : k ≤ 1000000) (h1k : 1 ≤ k) (hL : AllQ L k) (hn : L.length ≤ 1000) : R FF 280 [(AV.l 3 (List.map eQ (List.map rQ L)))] = some (AV.agg [AV.b (ng (zE ((sR L)))), (AV.l 1 (List.map u (D (zx (zE ((sR L))))))), (AV.l 1 (List.map u (D (Rat.den ((sR L))))))]) := by
 have l0 := qsum_l0 hk h1k hL hn L.length 0 (by omega)
 have z1 := qzero_c
 have hlen : (L.map rQ).length = L.length := zk ..
 rw [List.take_zero, zC, show sR [] = 0 from rfl] at l0
 generalize sR L = s at *
 rw [R_go FF F280 c280.eq_1]
 simp only [RB, RL, un, St.none, Nat.reduceEqDiff, Nat.reduceAdd, Nat.reduceMul, Nat.reduceMod, Nat.reduceLeDiff, Nat.reduceLT, Int.reduceLT, Int.reduceLE, Int.reduceEq, Int.reduceToNat, Int.reduceSub, Int.reduceNeg, Int.reduceAdd, ↓reduceIte, reduceCtorEq, pack, pid, parN, lid, chkK, apartV, Heap.none, z1, l0, hlen, eQ_rules, eQ_row]
theorem not_vm (f : Int) : ¬ VM (f, [[]]) := fun v => by
 have := vt_len v [] (List.mem_singleton.2 rfl)
 exact absurd this (by decide)
theorem predict_bad {m : RM} {row : List RC} {k : Nat} (hk : k ≤ 10000000000) (h1k : 1 ≤ k) (hm : SmM m k) (hv : ¬ VM m) : R FF 208 [.agg (eM m), .l 4 (row.map eC)] = some (.tup [.agg [.b false, .l 1 [], .l 1 []], (AV.i .i64 1)]) := by
 obtain ⟨e, f1, _, f2, _⟩ := rfits_c (row := row) hk h1k hm
 rw [f2 hv] at f1
 obtain ⟨f, ts⟩ := m
 simp only [eM] at f1 ⊢
 rw [R_go FF F208 c208.eq_1]
 simp only [RB, RL, un, St.none, Nat.reduceEqDiff, Nat.reduceAdd, Nat.reduceMul, Nat.reduceMod, Nat.reduceLeDiff, Nat.reduceLT, Int.reduceLT, Int.reduceLE, Int.reduceEq, Int.reduceToNat, Int.reduceSub, Int.reduceNeg, Int.reduceAdd, ↓reduceIte, reduceCtorEq, pack, pid, parN, lid, chkK, apartV, Heap.none, f1, n64, eTr_rules, eTr_row, eC_rules, eC_row]
theorem gleft_bad {d : RD} {m : RM} {k : Nat} (hk : k ≤ 10000000000) (h1k : 1 ≤ k) (hm : SmM m k) (hv : ¬ VM m) (hr : d.2.1.length ≤ 1000) : ∃ (l : List (List AV)) (e : Int), R FF 279 [.agg (eD d), .agg (eM m)] = some (.tup [.l 3 l, (AV.i .i64 e)]) ∧ (d.2.1.length ≠ d.2.2.length → l = [] ∧ e = 14) := by
 obtain ⟨f, rows, vals⟩ := d
 have pb := fun row => predict_bad (row := row) hk h1k hm hv
 obtain ⟨mf, ts⟩ := m
 by_cases hl : rows.length = vals.length
 ·have c1 : (rows.length : Int) = (vals.length : Int) := by omega
  cases rows with
  | nil =>
   refine ⟨[], 0, ?_, fun h => (h hl).elim⟩
   have c2 : (vals.length : Int) = 0 := by rw [← c1]; rfl
   have l0 : LP FF [(6, 1), (2, 0), (3, 0), (19, 0), (20, 0), (21, 0)] [(4, 0), (5, 0), (6, 0)] b279_0 [.own true 3 [], .tp (eD (f, [], vals)) 0, .tp (eM (mf, ts)) 0, .l 1 [], (AV.i .i64 0), (AV.i .i64 0)] = some (.exit 0, [.junk, .junk, .l 3 []]) := by
    simp only [eD, eM, List.map_nil]
    rw [LP_go FF b279_0.eq_1]
    simp only [RB, RL, un, St.none, Nat.reduceEqDiff, Nat.reduceAdd, Nat.reduceMul, Nat.reduceMod, Nat.reduceLeDiff, Nat.reduceLT, Int.reduceLT, Int.reduceLE, Int.reduceEq, Int.reduceToNat, Int.reduceSub, Int.reduceNeg, Int.reduceAdd, ↓reduceIte, reduceCtorEq, pack, pid, parN, lid, chkK, apartV, Heap.none, eTr_rules, eTr_row]
   simp only [eD, eM, List.map_nil] at l0 ⊢
   rw [R_go FF F279 c279.eq_1]
   simp only [RB, RL, un, St.none, Nat.reduceEqDiff, Nat.reduceAdd, Nat.reduceMul, Nat.reduceMod, Nat.reduceLeDiff, Nat.reduceLT, Int.reduceLT, Int.reduceLE, Int.reduceEq, Int.reduceToNat, Int.reduceSub, Int.reduceNeg, Int.reduceAdd, ↓reduceIte, reduceCtorEq, pack, pid, parN, lid, chkK, apartV, Heap.none, l0, c2, n64, eTr_rules, eTr_row, eRw_rules, eRw_row, eQ_rules, eQ_row, List.length_nil]
  | cons r rows =>
   refine ⟨[], 1, ?_, fun h => (h hl).elim⟩
   have p1 := pb r
   have c3 : 0 < ((r :: rows).length : Int) := by rw [zr]; omega
   have hg : (r :: rows).getD 0 [] = r := rfl
   generalize r :: rows = Q at *
   have l0 : LP FF [(6, 1), (2, 0), (3, 0), (19, 0), (20, 0), (21, 0)] [(4, 0), (5, 0), (6, 0)] b279_0 [.own true 3 [], .tp (eD (f, Q, vals)) 0, .tp (eM (mf, ts)) 0, .l 1 (Q.map eRw), (AV.i .i64 ((Q.length : Int))), (AV.i .i64 0)] = some (.ret, [.l 3 [], (AV.i .i64 1), .l 3 []]) := by
    simp only [eD, eM] at p1 ⊢
    rw [LP_go FF b279_0.eq_1]
    simp only [RB, RL, un, St.none, Nat.reduceEqDiff, Nat.reduceAdd, Nat.reduceMul, Nat.reduceMod, Nat.reduceLeDiff, Nat.reduceLT, Int.reduceLT, Int.reduceLE, Int.reduceEq, Int.reduceToNat, Int.reduceSub, Int.reduceNeg, Int.reduceAdd, ↓reduceIte, reduceCtorEq, pack, pid, parN, lid, chkK, apartV, Heap.none, eTr_rules, eTr_row, eRw_rules, eRw_row, zr, c3, p1, hg]
   rw [c1] at l0
   simp only [eD, eM] at l0 ⊢
   rw [R_go FF F279 c279.eq_1]
   simp only [RB, RL, un, St.none, Nat.reduceEqDiff, Nat.reduceAdd, Nat.reduceMul, Nat.reduceMod, Nat.reduceLeDiff, Nat.reduceLT, Int.reduceLT, Int.reduceLE, Int.reduceEq, Int.reduceToNat, Int.reduceSub, Int.reduceNeg, Int.reduceAdd, ↓reduceIte, reduceCtorEq, pack, pid, parN, lid, chkK, apartV, Heap.none, l0, c1, n64, eTr_rules, eTr_row, eRw_rules, eRw_row, eQ_rules, eQ_row]
 ·refine ⟨[], 14, ?_, fun _ => ⟨rfl, rfl⟩⟩
  have c1 : ¬ (rows.length : Int) = (vals.length : Int) := by omega
  simp only [eD, eM]
  rw [R_go FF F279 c279.eq_1]
  simp only [RB, RL, un, St.none, Nat.reduceEqDiff, Nat.reduceAdd, Nat.reduceMul, Nat.reduceMod, Nat.reduceLeDiff, Nat.reduceLT, Int.reduceLT, Int.reduceLE, Int.reduceEq, Int.reduceToNat, Int.reduceSub, Int.reduceNeg, Int.reduceAdd, ↓reduceIte, reduceCtorEq, pack, pid, parN, lid, chkK, apartV, Heap.none, c1, n64, eTr_rules, eTr_row, eRw_rules, eRw_row, eQ_rules, eQ_row]
theorem fD_rows {d : RD} (h : OkD d) : ∀ r ∈ (fD d).2.1, SmW r 3 := by
 intro r hr c hc
 obtain ⟨row, hrow, rfl⟩ := List.mem_map.1 (show r ∈ (d.2.1.take 6).map (fw 4) from hr)
 obtain ⟨c', hc', rfl⟩ := List.mem_map.1 (show c ∈ (row.take 4).map t3 from hc)
 exact Sm.take (k := maxL) ((h.2.1.2 row (List.mem_of_mem_take hrow)).2 c' (List.mem_of_mem_take hc')) 3
theorem vsL_rQ (L : List Rat) : vsL (L.map rQ) (zo (L.map rQ).length) = L := by
 unfold vsL
 rw [zk]
 apply List.ext_getElem
 ·rw [zk, List.length_range]
 ·intro i h1 h2
  rw [List.getElem_map, List.getElem_range, getD_map_rQ L i h2, vQ_rQ, za, zc h2]; rfl
theorem left_ok {d : RD} (h : OkD d) {r : RR} (h0 : rtV (fD d) r = 0) :
  sR ((zo (fD d).2.1.length).map (lvV (fD d).2.2 (fD d).2.1 [trP (fD d) r])) = 0 ∧
  lsV ((zo (fD d).2.1.length).map (lvV (fD d).2.2 (fD d).2.1 [trP (fD d) r])) ≤ lsV (vsL (fD d).2.2 (zo (fD d).2.2.length)) := by
 obtain ⟨h1, h2, h3, h4⟩ := rtV_ok h0
 have hlr : (zo (fD d).2.1.length).length = (fD d).2.1.length := List.length_range ..
 obtain ⟨g, a1, a2, a3⟩ := treeP_left (V := (fD d).2.2) (rows := (fD d).2.1) (lst := r.2) (n := (fD d).1.toNat) (by omega) r.1.toNat (zo (fD d).2.1.length) [] [] (by omega)
 rw [List.nil_append, List.append_nil, List.length_nil] at a1
 have e : (zo (fD d).2.1.length).map (lvV (fD d).2.2 (fD d).2.1 [trP (fD d) r]) = (zo (fD d).2.1.length).map fun i => vQ ((fD d).2.2.getD i dQ) - g i := by
  refine map_congr' fun i hi => ?_
  obtain ⟨b, w1, w2⟩ := a1 i hi
  unfold lvV
  have e1 : predV [trP (fD d) r] ((fD d).2.1.getD i []) = valT (trP (fD d) r) ((fD d).2.1.getD i []) + 0 := rfl
  have e2 : valT (trP (fD d) r) ((fD d).2.1.getD i []) = g i := by
   unfold valT
   show vQ ((trP (fD d) r).getD ((walk (trP (fD d) r) ((fD d).2.1.getD i []) (trP (fD d) r).length 0).getD 0) dNd).val = g i
   have w1' : walk (trP (fD d) r) ((fD d).2.1.getD i []) (trP (fD d) r).length 0 = some b := w1
   rw [w1']
   exact w2
  rw [e1, e2]; grind
 rw [e]
 refine ⟨a2, ?_⟩
 rw [← h2]
 unfold lsV at a3 ⊢
 rw [a2]
 grind
theorem GrowLefts_l0 {f : Int} {V : List RQt} {rows : List (List RC)} {m : RM} (hm : SmM m 10000) (hv : VM m) (hV : SmL V 3) (hVl : V.length ≤ 900) (hl : rows.length = V.length) (hr : ∀ r ∈ rows, SmW r 10000 ∧ (r.length : Int) = m.1) : ∀ (d i : Nat), i + d = rows.length →
  LP FF [(2, 0), (7, 0), (8, 0), (10, 0)] [(2, 0), (4, 0), (8, 0)] b270_0 [.tp [(AV.i .i64 f), .l 1 (rows.map eRw), .l 3 (V.map eQ)] 0, .tp (eM m) 0, (AV.l 3 (List.map eQ (List.map rQ ((zo rows.length).map (lvV V rows m.2))))), (AV.i .i64 ((i : Int)))] =
   some (.exit 0, [.tp [(AV.i .i64 f), .l 1 (rows.map eRw), .l 3 (V.map eQ)] 0, .junk, (AV.l 3 (List.map eQ (List.map rQ ((zo rows.length).map (lvV V rows m.2)))))]) := by
 intro d
 induction d with
 | zero =>
  intro i hi
  have hlen : (((zo rows.length).map (lvV V rows m.2)).map rQ).length = rows.length := by rw [zk, zk, List.length_range]
  have c1 : ¬ (i : Int) < (rows.length : Int) := by omega
  generalize (zo rows.length).map (lvV V rows m.2) = L at *
  obtain ⟨mf, ts⟩ := m
  simp only [eM]
  rw [LP_go FF b270_0.eq_1]
  simp only [RB, RL, un, St.none, Nat.reduceEqDiff, Nat.reduceAdd, Nat.reduceMul, Nat.reduceMod, Nat.reduceLeDiff, Nat.reduceLT, Int.reduceLT, Int.reduceLE, Int.reduceEq, Int.reduceToNat, Int.reduceSub, Int.reduceNeg, Int.reduceAdd, ↓reduceIte, reduceCtorEq, pack, pid, parN, lid, chkK, apartV, Heap.none, c1, hlen, eTr_rules, eTr_row, eRw_rules, eRw_row, eQ_rules, eQ_row]
 | succ d ih =>
  intro i hi
  have hlt : i < rows.length := by omega
  have h9 := ih (i + 1) (by omega)
  have hrow := hr _ (getD_mem' ([] : List RC) hlt)
  have hVi := hV _ (getD_mem' dQ (show i < V.length by omega))
  have f1 := predict10_c (row := rows.getD i []) (k := 10000) (by omega) (by omega) hm hrow.1 hv hrow.2
  have z1 := predV_sq (row := rows.getD i []) (by omega) hm hv.all (vt_len hv)
  have z2 := len_mul hm.1 (show 10000 + 1 ≤ 10001 by omega)
  have f2 := qsub_vc (s := predV m.2 (rows.getD i [])) (x := V.getD i dQ) (k := 10001001) (j := 3) (by omega) hVi (by omega) (by omega)
  have z3 := sq_sub (vQ (V.getD i dQ)) (predV m.2 (rows.getD i []))
  have z4 := vQ_sq hVi (by omega)
  have f3 := is_cc (a := vQ (V.getD i dQ) - predV m.2 (rows.getD i [])) (k := 20000000) (by omega) (by omega) (by omega)
  have hlen : (((zo rows.length).map (lvV V rows m.2)).map rQ).length = rows.length := by rw [zk, zk, List.length_range]
  have hg : (((zo rows.length).map (lvV V rows m.2)).map rQ).getD i dQ = rQ (vQ (V.getD i dQ) - predV m.2 (rows.getD i [])) := by
   rw [getD_map_rQ _ i (by rw [zk, List.length_range]; exact hlt), za, List.getElem?_map, List.getElem?_range hlt]; rfl
  generalize (zo rows.length).map (lvV V rows m.2) = L at *
  generalize vQ (V.getD i dQ) - predV m.2 (rows.getD i []) = y at *
  generalize predV m.2 (rows.getD i []) = p at *
  have c1 : (i : Int) < (rows.length : Int) := by omega
  have c2 : (i : Int) < (V.length : Int) := by omega
  have e2 : IntKind.i64.wrap ((i : Int) + 1) = ((i + 1 : Nat) : Int) := w64succ (by omega)
  obtain ⟨mf, ts⟩ := m
  simp only [eM] at f1 h9 ⊢
  rw [LP_go FF b270_0.eq_1]
  simp only [RB, RL, un, St.none, Nat.reduceEqDiff, Nat.reduceAdd, Nat.reduceMul, Nat.reduceMod, Nat.reduceLeDiff, Nat.reduceLT, Int.reduceLT, Int.reduceLE, Int.reduceEq, Int.reduceToNat, Int.reduceSub, Int.reduceNeg, Int.reduceAdd, ↓reduceIte, reduceCtorEq, pack, pid, parN, lid, chkK, apartV, Heap.none, c1, c2, e2, hlen, hg, rQ, eTr_rules, eTr_row, eRw_rules, eRw_row, eQ_rules, eQ_row, ze, f1, f2, f3]
  exact h9
theorem law_GrowLefts (d : RD) (hd : OkD d) (r : RR) (hr : OkR r) : R FF 270 [.agg (eD d), .agg (eR r)] = some (.b true) := by
 have f1 := few26_c hd
 have f2 := Tree_c (r := r) hd
 have hl := fD_len d
 have aw := awake26
 by_cases h0 : rtV (fD d) r = 0
 ·obtain ⟨h1, h2, h3, h4⟩ := rtV_ok h0
  obtain ⟨hV, hVl⟩ := fD_vals hd
  obtain ⟨v1, v2, v3, v4⟩ := trP_vm hd h0
  obtain ⟨l1, l2⟩ := left_ok hd h0
  have hm : SmM ((fD d).1, [trP (fD d) r]) 10000 := ⟨by show 1 ≤ _; omega, fun t ht => by rw [List.mem_singleton.1 ht]; exact ⟨by omega, v2⟩⟩
  have hrw : ∀ x ∈ (fD d).2.1, SmW x 10000 ∧ (x.length : Int) = (fD d).1 := fun x hx => ⟨fun c hc => (fD_rows hd x hx c hc).mono (by omega), h4 x hx⟩
  have hV2 : SmL (fD d).2.2 10000 := fun x hx => (hV x hx).mono (by omega)
  have g1 := gleft_c (d := fD d) (m := ((fD d).1, [trP (fD d) r])) (k := 10000) (by omega) (by omega) hm v1 hV2 (by omega) h2 hrw
  have g2 := GrowLefts_l0 (f := (fD d).1) (V := (fD d).2.2) (rows := (fD d).2.1) (m := ((fD d).1, [trP (fD d) r])) hm v1 hV (by omega) h2 hrw (fD d).2.1.length 0 (by omega)
  rw [zC] at g2
  have hlen : ((zo (fD d).2.1.length).map (lvV (fD d).2.2 (fD d).2.1 [trP (fD d) r])).length = (fD d).2.1.length := by rw [zk, List.length_range]
  have hA : AllQ ((zo (fD d).2.1.length).map (lvV (fD d).2.2 (fD d).2.1 [trP (fD d) r])) 20010 := fun x hx => by
   obtain ⟨i, hi, rfl⟩ := List.mem_map.1 hx
   have hi := List.mem_range.1 hi
   have q1 := predV_sq (row := (fD d).2.1.getD i []) (by omega) hm v1.all (vt_len v1)
   have q2 := sq_sub (vQ ((fD d).2.2.getD i dQ)) (predV [trP (fD d) r] ((fD d).2.1.getD i []))
   have q3 := vQ_sq (hV _ (getD_mem' dQ (show i < (fD d).2.2.length by omega))) (by omega)
   rw [show ([trP (fD d) r] : List (List RNd)).length = 1 from rfl] at q1
   unfold lvV
   omega
  have g3 := qsum_c (k := 20010) (by omega) (by omega) hA (by omega)
  have g4 := Loss_c (V := ((zo (fD d).2.1.length).map (lvV (fD d).2.2 (fD d).2.1 [trP (fD d) r])).map rQ) (k := 20010) (by omega) (by omega) (fun x hx => by
   obtain ⟨y, hy, rfl⟩ := List.mem_map.1 hx
   exact sm_cq (hA y hy)) (by rw [zk, hlen]; omega)
  rw [vsL_rQ] at g4
  have g5 := Loss_c (V := (fD d).2.2) (k := 3) (by omega) (by omega) hV (by omega)
  have s1 := lsV_sq hA (by omega)
  have s2 := lsV_sq (vsL_all hV (by omega) (inX_range (fD d).2.2.length)) (by rw [vsL_len, List.length_range]; omega)
  rw [vsL_len, List.length_range] at s2
  rw [hlen] at s1
  have g6 := vcmp_c (x := rQ (lsV ((zo (fD d).2.1.length).map (lvV (fD d).2.2 (fD d).2.1 [trP (fD d) r])))) (y := rQ (lsV (vsL (fD d).2.2 (zo (fD d).2.2.length)))) (k := 10000000) (j := 10000000) (sm_cq (by omega)) (sm_cq (by omega)) (by omega) (by omega)
  rw [vQ_rQ, vQ_rQ] at g6
  have c6 := qcmp_le.2 l2
  have g7 := qsign_c (q := ng (0 : Rat).num) (k := 1) (by omega) (sm_cq (x := 0) sq_zero)
  rw [qv_cq, show cmp (0 : Rat).num 0 = 0 from rfl] at g7
  rw [l1] at g3
  have hlen2 : (((zo (fD d).2.1.length).map (lvV (fD d).2.2 (fD d).2.1 [trP (fD d) r])).map rQ).length = (fD d).2.2.length := by rw [zk, hlen, h2]
  rw [if_pos h0, h0] at f2
  change R FF 279 _ = some (AV.tup [(AV.l 3 (List.map eQ (List.map rQ ((zo (fD d).2.1.length).map (lvV (fD d).2.2 (fD d).2.1 [trP (fD d) r]))))), (AV.i .i64 0)]) at g1
  change LP FF [(2, 0), (7, 0), (8, 0), (10, 0)] [(2, 0), (4, 0), (8, 0)] b270_0 [_, _, (AV.l 3 (List.map eQ (List.map rQ ((zo (fD d).2.1.length).map (lvV (fD d).2.2 (fD d).2.1 [trP (fD d) r]))))), _] = some (Ex.exit 0, [_, _, (AV.l 3 (List.map eQ (List.map rQ ((zo (fD d).2.1.length).map (lvV (fD d).2.2 (fD d).2.1 [trP (fD d) r])))))]) at g2
  have em : eM ((fD d).1, [trP (fD d) r]) = [AV.i .i64 (fD d).1, AV.l 1 [[AV.l 14 ((trP (fD d) r).map eNd)]]] := rfl
  rw [em] at g1 g2
  generalize (zo (fD d).2.1.length).map (lvV (fD d).2.2 (fD d).2.1 [trP (fD d) r]) = L at *
  generalize lsV (vsL (fD d).2.2 (zo (fD d).2.2.length)) = z at *
  generalize lsV L = y at *
  generalize trP (fD d) r = T at *
  generalize fD d = e at *
  obtain ⟨f, rows, vals⟩ := e
  obtain ⟨f', rows', vals'⟩ := d
  obtain ⟨dep, lst⟩ := r
  simp only [eD, eR, rQ] at f1 f2 g1 g2 g6 ⊢
  rw [R_go FF F270 c270.eq_1]
  simp only [RB, RL, un, St.none, Nat.reduceEqDiff, Nat.reduceAdd, Nat.reduceMul, Nat.reduceMod, Nat.reduceLeDiff, Nat.reduceLT, Int.reduceLT, Int.reduceLE, Int.reduceEq, Int.reduceToNat, Int.reduceSub, Int.reduceNeg, Int.reduceAdd, ↓reduceIte, reduceCtorEq, pack, pid, parN, lid, chkK, apartV, Heap.none, f1, f2, g1, g2, g3, g4, g5, g6, g7, c6, hlen2, aw, n64, eX_rules, eX_row, eNd_rules, eNd_row, eQ_rules, eQ_row, Row.freeze, zg, List.all_cons, List.all_nil, AV.flat, Bool.and_true, Bool.true_and]
 ·rw [if_neg h0] at f2
  obtain ⟨l, e9, g1, g2⟩ := gleft_bad (d := fD d) (m := ((fD d).1, [[]])) (k := 1) (by omega) (by omega) ⟨by show 1 ≤ _; omega, fun t ht => by rw [List.mem_singleton.1 ht]; exact ⟨Nat.zero_le _, fun _ h => (zH h).elim⟩⟩ (not_vm _) (by omega)
  have em : eM ((fD d).1, [[]]) = [AV.i .i64 (fD d).1, AV.l 1 [[AV.l 14 []]]] := rfl
  rw [em] at g1
  generalize rtV (fD d) r = v at *
  generalize fD d = e at *
  obtain ⟨f, rows, vals⟩ := e
  obtain ⟨f', rows', vals'⟩ := d
  obtain ⟨dep, lst⟩ := r
  simp only [eD, eR, List.map_nil] at f1 f2 g1 ⊢
  by_cases hlv : rows.length = vals.length
  ·have c1 : (rows.length : Int) = (vals.length : Int) := by omega
   rw [R_go FF F270 c270.eq_1]
   simp only [RB, RL, un, St.none, Nat.reduceEqDiff, Nat.reduceAdd, Nat.reduceMul, Nat.reduceMod, Nat.reduceLeDiff, Nat.reduceLT, Int.reduceLT, Int.reduceLE, Int.reduceEq, Int.reduceToNat, Int.reduceSub, Int.reduceNeg, Int.reduceAdd, ↓reduceIte, reduceCtorEq, pack, pid, parN, lid, chkK, apartV, Heap.none, f1, f2, g1, h0, n64, aw, Row.freeze, c1, List.all_cons, List.all_nil, AV.flat, Bool.and_true, Bool.true_and]
  ·have c1 : ¬ (rows.length : Int) = (vals.length : Int) := by omega
   obtain ⟨rfl, rfl⟩ := g2 hlv
   rw [R_go FF F270 c270.eq_1]
   simp only [RB, RL, un, St.none, Nat.reduceEqDiff, Nat.reduceAdd, Nat.reduceMul, Nat.reduceMod, Nat.reduceLeDiff, Nat.reduceLT, Int.reduceLT, Int.reduceLE, Int.reduceEq, Int.reduceToNat, Int.reduceSub, Int.reduceNeg, Int.reduceAdd, ↓reduceIte, reduceCtorEq, pack, pid, parN, lid, chkK, apartV, Heap.none, f1, f2, g1, h0, n64, aw, Row.freeze, c1, List.length_nil, List.all_cons, List.all_nil, AV.flat, Bool.and_true, Bool.true_and]
open Go Go.Proofs
set_option maxRecDepth 100000
def tabs0 : List (Nat × List AV) := [(0, tab0)]
def FD : Nat → Option PF
 | 14 => some p14
 | 29 => some p29
 | 31 => some p31
 | 38 => some p38
 | 39 => some p39
 | 40 => some p40
 | 43 => some p43
 | 47 => some p47
 | 54 => some p54
 | 55 => some p55
 | 56 => some p56
 | 57 => some p57
 | 63 => some p63
 | 64 => some p64
 | 65 => some p65
 | 66 => some p66
 | 68 => some p68
 | 71 => some p71
 | 72 => some p72
 | 73 => some p73
 | 74 => some p74
 | 75 => some p75
 | 76 => some p76
 | 77 => some p77
 | 79 => some p79
 | 80 => some p80
 | 81 => some p81
 | 82 => some p82
 | 83 => some p83
 | 86 => some p86
 | 87 => some p87
 | 88 => some p88
 | 89 => some p89
 | 90 => some p90
 | 91 => some p91
 | 92 => some p92
 | 94 => some p94
 | 95 => some p95
 | 96 => some p96
 | 97 => some p97
 | 106 => some p106
 | 107 => some p107
 | 108 => some p108
 | 109 => some p109
 | 110 => some p110
 | 111 => some p111
 | 112 => some p112
 | 113 => some p113
 | 114 => some p114
 | 115 => some p115
 | 116 => some p116
 | 117 => some p117
 | 118 => some p118
 | 119 => some p119
 | 120 => some p120
 | 122 => some p122
 | 127 => some p127
 | 128 => some p128
 | 129 => some p129
 | 130 => some p130
 | 131 => some p131
 | 137 => some p137
 | 138 => some p138
 | 139 => some p139
 | 140 => some p140
 | 141 => some p141
 | 162 => some p162
 | 167 => some p167
 | 168 => some p168
 | 170 => some p170
 | 171 => some p171
 | 172 => some p172
 | 201 => some p201
 | 206 => some p206
 | 208 => some p208
 | 211 => some p211
 | 214 => some p214
 | 215 => some p215
 | 216 => some p216
 | 217 => some p217
 | 218 => some p218
 | 231 => some p231
 | 232 => some p232
 | 233 => some p233
 | 237 => some p237
 | 238 => some p238
 | 239 => some p239
 | 240 => some p240
 | 241 => some p241
 | 242 => some p242
 | 245 => some p245
 | 246 => some p246
 | 248 => some p248
 | 249 => some p249
 | 250 => some p250
 | 251 => some p251
 | 252 => some p252
 | 253 => some p253
 | 254 => some p254
 | 255 => some p255
 | 256 => some p256
 | 257 => some p257
 | 258 => some p258
 | 261 => some p261
 | 262 => some p262
 | 270 => some p270
 | 279 => some p279
 | 280 => some p280
 | 285 => some p285
 | _ => none
def nuD : Nat → Nat
 | 14 => 27
 | 29 => 18
 | 31 => 38
 | 38 => 71
 | 39 => 105
 | 40 => 96
 | 43 => 100
 | 47 => 99
 | 54 => 51
 | 55 => 22
 | 56 => 35
 | 57 => 34
 | 63 => 47
 | 64 => 57
 | 65 => 49
 | 66 => 58
 | 68 => 33
 | 71 => 77
 | 72 => 91
 | 73 => 64
 | 74 => 45
 | 75 => 48
 | 76 => 66
 | 77 => 50
 | 79 => 69
 | 80 => 118
 | 81 => 76
 | 82 => 63
 | 83 => 56
 | 86 => 82
 | 87 => 102
 | 88 => 97
 | 89 => 125
 | 90 => 103
 | 91 => 95
 | 92 => 79
 | 94 => 20
 | 95 => 73
 | 96 => 53
 | 97 => 29
 | 106 => 75
 | 107 => 107
 | 108 => 108
 | 109 => 109
 | 110 => 110
 | 111 => 111
 | 112 => 112
 | 113 => 113
 | 114 => 80
 | 115 => 78
 | 116 => 93
 | 117 => 94
 | 118 => 98
 | 119 => 120
 | 120 => 119
 | 122 => 106
 | 127 => 121
 | 128 => 122
 | 129 => 117
 | 130 => 114
 | 131 => 115
 | 137 => 123
 | 138 => 124
 | 139 => 126
 | 140 => 127
 | 141 => 128
 | 162 => 25
 | 167 => 7
 | 168 => 30
 | 170 => 10
 | 171 => 13
 | 172 => 28
 | 201 => 21
 | 206 => 52
 | 208 => 55
 | 211 => 23
 | 214 => 14
 | 215 => 41
 | 216 => 42
 | 217 => 59
 | 218 => 60
 | 231 => 81
 | 232 => 89
 | 233 => 90
 | 237 => 54
 | 238 => 43
 | 239 => 32
 | 240 => 67
 | 241 => 68
 | 242 => 70
 | 245 => 116
 | 246 => 92
 | 248 => 83
 | 249 => 84
 | 250 => 85
 | 251 => 86
 | 252 => 87
 | 253 => 88
 | 254 => 72
 | 255 => 31
 | 256 => 62
 | 257 => 101
 | 258 => 104
 | 261 => 61
 | 262 => 74
 | 270 => 6
 | 279 => 24
 | 280 => 26
 | 285 => 80
 | _ => 0
theorem M14 : fnOk Tryz.prog (FD, nuD) tabs0 14 p14 = true := by kernel_rfl
theorem M29 : fnOk Tryz.prog (FD, nuD) tabs0 29 p29 = true := by kernel_rfl
theorem M31 : fnOk Tryz.prog (FD, nuD) tabs0 31 p31 = true := by kernel_rfl
theorem M38 : fnOk Tryz.prog (FD, nuD) tabs0 38 p38 = true := by kernel_rfl
theorem M39 : fnOk Tryz.prog (FD, nuD) tabs0 39 p39 = true := by kernel_rfl
theorem M40 : fnOk Tryz.prog (FD, nuD) tabs0 40 p40 = true := by kernel_rfl
theorem M43 : fnOk Tryz.prog (FD, nuD) tabs0 43 p43 = true := by kernel_rfl
theorem M47 : fnOk Tryz.prog (FD, nuD) tabs0 47 p47 = true := by kernel_rfl
theorem M54 : fnOk Tryz.prog (FD, nuD) tabs0 54 p54 = true := by kernel_rfl
theorem M55 : fnOk Tryz.prog (FD, nuD) tabs0 55 p55 = true := by kernel_rfl
theorem M56 : fnOk Tryz.prog (FD, nuD) tabs0 56 p56 = true := by kernel_rfl
theorem M57 : fnOk Tryz.prog (FD, nuD) tabs0 57 p57 = true := by kernel_rfl
theorem M63 : fnOk Tryz.prog (FD, nuD) tabs0 63 p63 = true := by kernel_rfl
theorem M64 : fnOk Tryz.prog (FD, nuD) tabs0 64 p64 = true := by kernel_rfl
theorem M65 : fnOk Tryz.prog (FD, nuD) tabs0 65 p65 = true := by kernel_rfl
theorem M66 : fnOk Tryz.prog (FD, nuD) tabs0 66 p66 = true := by kernel_rfl
theorem M68 : fnOk Tryz.prog (FD, nuD) tabs0 68 p68 = true := by kernel_rfl
theorem M71 : fnOk Tryz.prog (FD, nuD) tabs0 71 p71 = true := by kernel_rfl
theorem M72 : fnOk Tryz.prog (FD, nuD) tabs0 72 p72 = true := by kernel_rfl
theorem M73 : fnOk Tryz.prog (FD, nuD) tabs0 73 p73 = true := by kernel_rfl
theorem M74 : fnOk Tryz.prog (FD, nuD) tabs0 74 p74 = true := by kernel_rfl
theorem M75 : fnOk Tryz.prog (FD, nuD) tabs0 75 p75 = true := by kernel_rfl
theorem M76 : fnOk Tryz.prog (FD, nuD) tabs0 76 p76 = true := by kernel_rfl
theorem M77 : fnOk Tryz.prog (FD, nuD) tabs0 77 p77 = true := by kernel_rfl
theorem M79 : fnOk Tryz.prog (FD, nuD) tabs0 79 p79 = true := by kernel_rfl
theorem M80 : fnOk Tryz.prog (FD, nuD) tabs0 80 p80 = true := by kernel_rfl
theorem M81 : fnOk Tryz.prog (FD, nuD) tabs0 81 p81 = true := by kernel_rfl
theorem M82 : fnOk Tryz.prog (FD, nuD) tabs0 82 p82 = true := by kernel_rfl
theorem M83 : fnOk Tryz.prog (FD, nuD) tabs0 83 p83 = true := by kernel_rfl
theorem M86 : fnOk Tryz.prog (FD, nuD) tabs0 86 p86 = true := by kernel_rfl
theorem M87 : fnOk Tryz.prog (FD, nuD) tabs0 87 p87 = true := by kernel_rfl
theorem M88 : fnOk Tryz.prog (FD, nuD) tabs0 88 p88 = true := by kernel_rfl
theorem M89 : fnOk Tryz.prog (FD, nuD) tabs0 89 p89 = true := by kernel_rfl
theorem M90 : fnOk Tryz.prog (FD, nuD) tabs0 90 p90 = true := by kernel_rfl
theorem M91 : fnOk Tryz.prog (FD, nuD) tabs0 91 p91 = true := by kernel_rfl
theorem M92 : fnOk Tryz.prog (FD, nuD) tabs0 92 p92 = true := by kernel_rfl
theorem M94 : fnOk Tryz.prog (FD, nuD) tabs0 94 p94 = true := by kernel_rfl
theorem M95 : fnOk Tryz.prog (FD, nuD) tabs0 95 p95 = true := by kernel_rfl
theorem M96 : fnOk Tryz.prog (FD, nuD) tabs0 96 p96 = true := by kernel_rfl
theorem M97 : fnOk Tryz.prog (FD, nuD) tabs0 97 p97 = true := by kernel_rfl
theorem M106 : fnOk Tryz.prog (FD, nuD) tabs0 106 p106 = true := by kernel_rfl
theorem M107 : fnOk Tryz.prog (FD, nuD) tabs0 107 p107 = true := by kernel_rfl
theorem M108 : fnOk Tryz.prog (FD, nuD) tabs0 108 p108 = true := by kernel_rfl
theorem M109 : fnOk Tryz.prog (FD, nuD) tabs0 109 p109 = true := by kernel_rfl
theorem M110 : fnOk Tryz.prog (FD, nuD) tabs0 110 p110 = true := by kernel_rfl
theorem M111 : fnOk Tryz.prog (FD, nuD) tabs0 111 p111 = true := by kernel_rfl
theorem M112 : fnOk Tryz.prog (FD, nuD) tabs0 112 p112 = true := by kernel_rfl
theorem M113 : fnOk Tryz.prog (FD, nuD) tabs0 113 p113 = true := by kernel_rfl
theorem M114 : fnOk Tryz.prog (FD, nuD) tabs0 114 p114 = true := by kernel_rfl
theorem M115 : fnOk Tryz.prog (FD, nuD) tabs0 115 p115 = true := by kernel_rfl
theorem M116 : fnOk Tryz.prog (FD, nuD) tabs0 116 p116 = true := by kernel_rfl
theorem M117 : fnOk Tryz.prog (FD, nuD) tabs0 117 p117 = true := by kernel_rfl
theorem M118 : fnOk Tryz.prog (FD, nuD) tabs0 118 p118 = true := by kernel_rfl
theorem M119 : fnOk Tryz.prog (FD, nuD) tabs0 119 p119 = true := by kernel_rfl
theorem M120 : fnOk Tryz.prog (FD, nuD) tabs0 120 p120 = true := by kernel_rfl
theorem M122 : fnOk Tryz.prog (FD, nuD) tabs0 122 p122 = true := by kernel_rfl
theorem M127 : fnOk Tryz.prog (FD, nuD) tabs0 127 p127 = true := by kernel_rfl
theorem M128 : fnOk Tryz.prog (FD, nuD) tabs0 128 p128 = true := by kernel_rfl
theorem M129 : fnOk Tryz.prog (FD, nuD) tabs0 129 p129 = true := by kernel_rfl
theorem M130 : fnOk Tryz.prog (FD, nuD) tabs0 130 p130 = true := by kernel_rfl
theorem M131 : fnOk Tryz.prog (FD, nuD) tabs0 131 p131 = true := by kernel_rfl
theorem M137 : fnOk Tryz.prog (FD, nuD) tabs0 137 p137 = true := by kernel_rfl
theorem M138 : fnOk Tryz.prog (FD, nuD) tabs0 138 p138 = true := by kernel_rfl
theorem M139 : fnOk Tryz.prog (FD, nuD) tabs0 139 p139 = true := by kernel_rfl
theorem M140 : fnOk Tryz.prog (FD, nuD) tabs0 140 p140 = true := by kernel_rfl
theorem M141 : fnOk Tryz.prog (FD, nuD) tabs0 141 p141 = true := by kernel_rfl
theorem M162 : fnOk Tryz.prog (FD, nuD) tabs0 162 p162 = true := by kernel_rfl
theorem M167 : fnOk Tryz.prog (FD, nuD) tabs0 167 p167 = true := by kernel_rfl
theorem M168 : fnOk Tryz.prog (FD, nuD) tabs0 168 p168 = true := by kernel_rfl
theorem M170 : fnOk Tryz.prog (FD, nuD) tabs0 170 p170 = true := by kernel_rfl
theorem M171 : fnOk Tryz.prog (FD, nuD) tabs0 171 p171 = true := by kernel_rfl
theorem M172 : fnOk Tryz.prog (FD, nuD) tabs0 172 p172 = true := by kernel_rfl
theorem M201 : fnOk Tryz.prog (FD, nuD) tabs0 201 p201 = true := by kernel_rfl
theorem M206 : fnOk Tryz.prog (FD, nuD) tabs0 206 p206 = true := by kernel_rfl
theorem M208 : fnOk Tryz.prog (FD, nuD) tabs0 208 p208 = true := by kernel_rfl
theorem M211 : fnOk Tryz.prog (FD, nuD) tabs0 211 p211 = true := by kernel_rfl
theorem M214 : fnOk Tryz.prog (FD, nuD) tabs0 214 p214 = true := by kernel_rfl
theorem M215 : fnOk Tryz.prog (FD, nuD) tabs0 215 p215 = true := by kernel_rfl
theorem M216 : fnOk Tryz.prog (FD, nuD) tabs0 216 p216 = true := by kernel_rfl
theorem M217 : fnOk Tryz.prog (FD, nuD) tabs0 217 p217 = true := by kernel_rfl
theorem M218 : fnOk Tryz.prog (FD, nuD) tabs0 218 p218 = true := by kernel_rfl
theorem M231 : fnOk Tryz.prog (FD, nuD) tabs0 231 p231 = true := by kernel_rfl
theorem M232 : fnOk Tryz.prog (FD, nuD) tabs0 232 p232 = true := by kernel_rfl
theorem M233 : fnOk Tryz.prog (FD, nuD) tabs0 233 p233 = true := by kernel_rfl
theorem M237 : fnOk Tryz.prog (FD, nuD) tabs0 237 p237 = true := by kernel_rfl
theorem M238 : fnOk Tryz.prog (FD, nuD) tabs0 238 p238 = true := by kernel_rfl
theorem M239 : fnOk Tryz.prog (FD, nuD) tabs0 239 p239 = true := by kernel_rfl
theorem M240 : fnOk Tryz.prog (FD, nuD) tabs0 240 p240 = true := by kernel_rfl
theorem M241 : fnOk Tryz.prog (FD, nuD) tabs0 241 p241 = true := by kernel_rfl
theorem M242 : fnOk Tryz.prog (FD, nuD) tabs0 242 p242 = true := by kernel_rfl
theorem M245 : fnOk Tryz.prog (FD, nuD) tabs0 245 p245 = true := by kernel_rfl
theorem M246 : fnOk Tryz.prog (FD, nuD) tabs0 246 p246 = true := by kernel_rfl
theorem M248 : fnOk Tryz.prog (FD, nuD) tabs0 248 p248 = true := by kernel_rfl
theorem M249 : fnOk Tryz.prog (FD, nuD) tabs0 249 p249 = true := by kernel_rfl
theorem M250 : fnOk Tryz.prog (FD, nuD) tabs0 250 p250 = true := by kernel_rfl
theorem M251 : fnOk Tryz.prog (FD, nuD) tabs0 251 p251 = true := by kernel_rfl
theorem M252 : fnOk Tryz.prog (FD, nuD) tabs0 252 p252 = true := by kernel_rfl
theorem M253 : fnOk Tryz.prog (FD, nuD) tabs0 253 p253 = true := by kernel_rfl
theorem M254 : fnOk Tryz.prog (FD, nuD) tabs0 254 p254 = true := by kernel_rfl
theorem M255 : fnOk Tryz.prog (FD, nuD) tabs0 255 p255 = true := by kernel_rfl
theorem M256 : fnOk Tryz.prog (FD, nuD) tabs0 256 p256 = true := by kernel_rfl
theorem M257 : fnOk Tryz.prog (FD, nuD) tabs0 257 p257 = true := by kernel_rfl
theorem M258 : fnOk Tryz.prog (FD, nuD) tabs0 258 p258 = true := by kernel_rfl
theorem M261 : fnOk Tryz.prog (FD, nuD) tabs0 261 p261 = true := by kernel_rfl
theorem M262 : fnOk Tryz.prog (FD, nuD) tabs0 262 p262 = true := by kernel_rfl
theorem M270 : fnOk Tryz.prog (FD, nuD) tabs0 270 p270 = true := by kernel_rfl
theorem M279 : fnOk Tryz.prog (FD, nuD) tabs0 279 p279 = true := by kernel_rfl
theorem M280 : fnOk Tryz.prog (FD, nuD) tabs0 280 p280 = true := by kernel_rfl
theorem M285 : fnOk Tryz.prog (FD, nuD) tabs0 285 p285 = true := by kernel_rfl
theorem FD_ok (g : Nat) (p : PF) (h : FD g = some p) : fnOk Tryz.prog (FD, nuD) tabs0 g p = true ∧ FF g = some p := by
 unfold FD at h
 split at h
 ·cases h; exact ⟨M14, rfl⟩
 ·cases h; exact ⟨M29, rfl⟩
 ·cases h; exact ⟨M31, rfl⟩
 ·cases h; exact ⟨M38, rfl⟩
 ·cases h; exact ⟨M39, rfl⟩
 ·cases h; exact ⟨M40, rfl⟩
 ·cases h; exact ⟨M43, rfl⟩
 ·cases h; exact ⟨M47, rfl⟩
 ·cases h; exact ⟨M54, rfl⟩
 ·cases h; exact ⟨M55, rfl⟩
 ·cases h; exact ⟨M56, rfl⟩
 ·cases h; exact ⟨M57, rfl⟩
 ·cases h; exact ⟨M63, rfl⟩
 ·cases h; exact ⟨M64, rfl⟩
 ·cases h; exact ⟨M65, rfl⟩
 ·cases h; exact ⟨M66, rfl⟩
 ·cases h; exact ⟨M68, rfl⟩
 ·cases h; exact ⟨M71, rfl⟩
 ·cases h; exact ⟨M72, rfl⟩
 ·cases h; exact ⟨M73, rfl⟩
 ·cases h; exact ⟨M74, rfl⟩
 ·cases h; exact ⟨M75, rfl⟩
 ·cases h; exact ⟨M76, rfl⟩
 ·cases h; exact ⟨M77, rfl⟩
 ·cases h; exact ⟨M79, rfl⟩
 ·cases h; exact ⟨M80, rfl⟩
 ·cases h; exact ⟨M81, rfl⟩
 ·cases h; exact ⟨M82, rfl⟩
 ·cases h; exact ⟨M83, rfl⟩
 ·cases h; exact ⟨M86, rfl⟩
 ·cases h; exact ⟨M87, rfl⟩
 ·cases h; exact ⟨M88, rfl⟩
 ·cases h; exact ⟨M89, rfl⟩
 ·cases h; exact ⟨M90, rfl⟩
 ·cases h; exact ⟨M91, rfl⟩
 ·cases h; exact ⟨M92, rfl⟩
 ·cases h; exact ⟨M94, rfl⟩
 ·cases h; exact ⟨M95, rfl⟩
 ·cases h; exact ⟨M96, rfl⟩
 ·cases h; exact ⟨M97, rfl⟩
 ·cases h; exact ⟨M106, rfl⟩
 ·cases h; exact ⟨M107, rfl⟩
 ·cases h; exact ⟨M108, rfl⟩
 ·cases h; exact ⟨M109, rfl⟩
 ·cases h; exact ⟨M110, rfl⟩
 ·cases h; exact ⟨M111, rfl⟩
 ·cases h; exact ⟨M112, rfl⟩
 ·cases h; exact ⟨M113, rfl⟩
 ·cases h; exact ⟨M114, rfl⟩
 ·cases h; exact ⟨M115, rfl⟩
 ·cases h; exact ⟨M116, rfl⟩
 ·cases h; exact ⟨M117, rfl⟩
 ·cases h; exact ⟨M118, rfl⟩
 ·cases h; exact ⟨M119, rfl⟩
 ·cases h; exact ⟨M120, rfl⟩
 ·cases h; exact ⟨M122, rfl⟩
 ·cases h; exact ⟨M127, rfl⟩
 ·cases h; exact ⟨M128, rfl⟩
 ·cases h; exact ⟨M129, rfl⟩
 ·cases h; exact ⟨M130, rfl⟩
 ·cases h; exact ⟨M131, rfl⟩
 ·cases h; exact ⟨M137, rfl⟩
 ·cases h; exact ⟨M138, rfl⟩
 ·cases h; exact ⟨M139, rfl⟩
 ·cases h; exact ⟨M140, rfl⟩
 ·cases h; exact ⟨M141, rfl⟩
 ·cases h; exact ⟨M162, rfl⟩
 ·cases h; exact ⟨M167, rfl⟩
 ·cases h; exact ⟨M168, rfl⟩
 ·cases h; exact ⟨M170, rfl⟩
 ·cases h; exact ⟨M171, rfl⟩
 ·cases h; exact ⟨M172, rfl⟩
 ·cases h; exact ⟨M201, rfl⟩
 ·cases h; exact ⟨M206, rfl⟩
 ·cases h; exact ⟨M208, rfl⟩
 ·cases h; exact ⟨M211, rfl⟩
 ·cases h; exact ⟨M214, rfl⟩
 ·cases h; exact ⟨M215, rfl⟩
 ·cases h; exact ⟨M216, rfl⟩
 ·cases h; exact ⟨M217, rfl⟩
 ·cases h; exact ⟨M218, rfl⟩
 ·cases h; exact ⟨M231, rfl⟩
 ·cases h; exact ⟨M232, rfl⟩
 ·cases h; exact ⟨M233, rfl⟩
 ·cases h; exact ⟨M237, rfl⟩
 ·cases h; exact ⟨M238, rfl⟩
 ·cases h; exact ⟨M239, rfl⟩
 ·cases h; exact ⟨M240, rfl⟩
 ·cases h; exact ⟨M241, rfl⟩
 ·cases h; exact ⟨M242, rfl⟩
 ·cases h; exact ⟨M245, rfl⟩
 ·cases h; exact ⟨M246, rfl⟩
 ·cases h; exact ⟨M248, rfl⟩
 ·cases h; exact ⟨M249, rfl⟩
 ·cases h; exact ⟨M250, rfl⟩
 ·cases h; exact ⟨M251, rfl⟩
 ·cases h; exact ⟨M252, rfl⟩
 ·cases h; exact ⟨M253, rfl⟩
 ·cases h; exact ⟨M254, rfl⟩
 ·cases h; exact ⟨M255, rfl⟩
 ·cases h; exact ⟨M256, rfl⟩
 ·cases h; exact ⟨M257, rfl⟩
 ·cases h; exact ⟨M258, rfl⟩
 ·cases h; exact ⟨M261, rfl⟩
 ·cases h; exact ⟨M262, rfl⟩
 ·cases h; exact ⟨M270, rfl⟩
 ·cases h; exact ⟨M279, rfl⟩
 ·cases h; exact ⟨M280, rfl⟩
 ·cases h; exact ⟨M285, rfl⟩
 ·cases h
theorem followsD : Tryz.prog.follows .mixedOrders = true := by kernel_rfl
theorem callsD : CallsOk Tryz.prog (FD, nuD) tabs0 (R FF) := R_ok followsD FD_ok
end Go.Pe
namespace Go.Proofs.YtmdlpmhkpnobeaaGreatDoor.growLefts
open Go.Pe
open Go.ChangeShapes Go.WideShapes Go.ChangeAt Go.RowKit
theorem own : ownKnob Tryz.prog.godebug = none := by kernel_rfl
theorem laidOut : laidOutB Tryz.prog = true := by kernel_rfl
def laid : List (String × DataW Unit) := [("math/bits.deBruijn64tab", Rows.laid_math_bits_deBruijn64tab)]
def tz : List Int := tab0.map fun | .i _ n => n | _ => 0
theorem tab_rv {W : World} (h : laidMetH Tryz.prog laid W) : Rv W (fun _ => False) Rho.none (.tp tab0 0) (.pointer (some ⟨0, 0, none⟩)) := by
 rw [MakeChecks.laidMetH_plain _ _ _ (by kernel_rfl)] at h
 obtain ⟨ps, ⟨g, t, cs, fuel, p, q, hg, ht, hv, hd, _, _⟩, _, _⟩ := h
 obtain rfl := Option.some.inj ((show Tryz.prog.globalNamed "math/bits.deBruijn64tab" = some 0 by kernel_rfl).symm.trans hg)
 obtain rfl := Option.some.inj ((show (Tryz.prog.globals[0]?).map (·.type) = some 166 by kernel_rfl).symm.trans ht)
 obtain ⟨xs, m, _, ex, _, hl, hel⟩ := DataW.trod_array Tryz.underlying166 hd
 have cE : Tryz.prog.cellsOf 5 = 1 := by kernel_rfl
 have hlen : tz.length = 64 := by decide
 have e0 : (xs.map (·.1)) = tz.map fun n => .lit (.int .u8 n) := (DataW.agg.inj (Prod.mk.inj ex).1).symm
 have cell : ∀ r, r < 64 → W.cell? ⟨0, r, none⟩ = some (.int .u8 (tz.getD r 0)) := by
  intro r hr
  have hE := hel r hr
  rw [cE, Nat.mul_one, zc (by omega)] at hE
  obtain ⟨z, e1, e2, _⟩ := DataW.trod_int Tryz.underlying5 hE
  have e4 : (xs.map (·.1))[r]? = (tz.map fun n => (DataW.lit (.int .u8 n) : DataW Unit))[r]? := by rw [e0]
  rw [List.getElem?_map, List.getElem?_map, zc (by omega : r < xs.length), zc (by omega : r < tz.length), e2] at e4
  have hz : z = tz.getD r 0 := by
   simp only [Option.map_some, Option.some.injEq, DataW.lit.injEq, Lit.int.injEq, true_and] at e4
   rw [e4, List.getD, zc (by omega : r < tz.length)]; rfl
  rw [World.var?_cell hg hv r, ← hz]
  have : cs.toList[r]? = some (.int .u8 z) := by
   have h0 : ((cs.toList.drop r).take 1)[0]? = some (.int .u8 z) := by rw [e1]; rfl
   simpa using h0
  simpa using this
 have hb : 0 < W.heap.size := by
  have h0 := cell 0 (by decide)
  rcases Nat.lt_or_ge 0 W.heap.size with h | h
  ·exact h
  ·unfold World.cell? at h0; rw [Array.getElem?_eq_none h] at h0; cases h0
 refine Rv.tp (o := 0) (base := 0) (fun c => .int .u8 (tz.getD c 0)) (fun h => h) hb (fun c hc => ?_) fun c hc => ?_
 ·rw [zF]; exact ⟨cell c hc, rfl⟩
 ·have e : tab0 = tz.map (AV.i .u8) := rfl
  have hc' : c < tz.length := by rw [hlen]; exact hc
  rw [e, za, List.getElem?_map, za, zc hc']
  exact Rv.i
set_option maxRecDepth 100000 in
theorem lifted (os : Os) (started : os.Started) (H : Type) (enc : TypeId × Value → H) :
  ReturnsInHanded {} Tryz.checked os 6 .any (fun w args => (Rows.growLeftsSpec.pre enc Tryz.prog Tryz.f6 Rows.growLeftsRow.domain false w args ∧ laidMetH Tryz.prog laid w) ∧ sizedMet enc Tryz.prog Tryz.f6 (OpenSpec.ofChange Rows.growLeftsSpec) false w args) (Rows.growLeftsSpec.post enc Tryz.prog Tryz.f6 false true false false) := by
 refine returnsInHanded_of_change_and (C := Tryz.checked) (X := fun w _ => laidMetH Tryz.prog laid w) (fun _ _ _ hh h => h.of_heap hh) own started (by kernel_rfl) Tryz.func6
  (ChangeSpec.witness_shaped (enc := enc) (C := Tryz.checked) (os := os) (X := fun w _ => laidMetH Tryz.prog laid w) false (World.laidAll Tryz.prog os laid) #[.agg #[.int .i64 0, .slice none 0 0, .slice none 0 0], .agg #[.int .i64 0, .int .i64 0]] 8 (World.laidAll_os _ _ _)
   (World.shaped_of_ZipB (by kernel_rfl) (by kernel_rfl)) (by kernel_rfl) (by kernel_rfl) (by kernel_rfl) (by rw [MakeChecks.laidMetH_plain _ _ _ (by kernel_rfl)]; exact laidMet_laidAll _ (by kernel_rfl) (by kernel_rfl))) ?_
 intro W base args ds gs before hval0 hW hcnd hsz0 hL _
 have hval : ∀ (j : Nat) t v, Tryz.f6.params[j]? = some t → args[j]? = some v → Value.okWide Tryz.prog W .any base t v := hval0
 have hW' := hW
 obtain ⟨p, q, hA0, hV, rfl, hfz, hnd⟩ := hW
 have hA : DataW.TrodAll enc Tryz.prog W 0 (fun _ => true) true Tryz.f6.params.toList args.toList ds p := hA0
 rw [Tryz.params6] at hA hval
 obtain ⟨v0, vs0, d0, ds0, pl0, ql0, hargs, rfl, rfl, h0, r0⟩ := trodAll_cons hA
 obtain ⟨v1, vs1, d1, ds1, pl1, ql1, rfl, rfl, rfl, h1, r1⟩ := trodAll_cons r0
 obtain ⟨rfl, rfl, rfl⟩ := trodAll_nil r1
 obtain rfl : args = #[v0, v1] := by cases args; simp_all
 obtain ⟨rfl, rfl⟩ := trodVars_none hV
 have lt0 : ∀ x ∈ pl0, x.block < W.heap.size := by obtain ⟨m, hm⟩ := h0; exact DataW.trod_lt m _ _ _ hm
 obtain ⟨acs0, la0, fa0, rv0⟩ := arg_rv (n := 12) (ks := kD) (hval 0 25 v0 rfl rfl) h0 (by kernel_rfl)
 rw [show isStr Tryz.prog 25 = true by kernel_rfl] at rv0
 obtain ⟨x0, rfl, ok0⟩ := open_D ⟨la0, fa0⟩
 have lt1 : ∀ x ∈ pl1, x.block < W.heap.size := by obtain ⟨m, hm⟩ := h1; exact DataW.trod_lt m _ _ _ hm
 obtain ⟨acs1, la1, fa1, rv1⟩ := arg_rv (n := 12) (ks := kR) (hval 1 27 v1 rfl rfl) h1 (by kernel_rfl)
 rw [show isStr Tryz.prog 27 = true by kernel_rfl] at rv1
 obtain ⟨x1, rfl, ok1⟩ := open_R ⟨la1, fa1⟩
 clear hA0 hval0 hsz0
 have hlaw := law_GrowLefts x0 ok0 x1 ok1
 have hx : ∀ j, j < 2 → Rv W (fun _ => False) Rho.none ([AV.agg (eD x0), AV.agg (eR x1)].getD j .junk) (#[v0, v1].getD j undef) := by
  intro j hj
  match j, hj with
  | 0, _ => exact rv0
  | 1, _ => exact rv1
 refine (law_true (F := (FD, nuD)) callsD (g := 270) (p := p270) rfl rfl (by decide) (by kernel_rfl) hlaw (w := W) (vs := #[v0, v1]) (fun q hq => by obtain rfl := List.mem_singleton.1 hq; exact tab_rv hL) rfl hx).mono fun e W' ⟨he, bel⟩ => ?_
 subst he
 exact ⟨_, rfl, _, _, _, [], _, [], hW', trodAll_mk1 (shut_bool Tryz.underlying4 _), (trodAll_cons_mk (Below.trod laidOut (by kernel_rfl) (of_decide_eq_true (by kernel_rfl)) h0 bel lt0) (trodAll_cons_mk (Below.trod laidOut (by kernel_rfl) (of_decide_eq_true (by kernel_rfl)) h1 bel lt1) trodAll_mk0)), rfl, bel.frame _, fun h => by cases h⟩
theorem over : Rows.growLeftsRow.holds Tryz.pinned (OpenSpec.ofChange Rows.growLeftsSpec) :=
 OpenClaim.holds_of_wide 6 Tryz.f6 rfl rfl rfl rfl rfl rfl rfl ⟨rfl, rfl, rfl, rfl, rfl⟩ rfl rfl rfl rfl rfl (by kernel_rfl) Tryz.func6 (by kernel_rfl)
  (of_decide_eq_true (by kernel_rfl)) (by unfold Func.isWrapper; first | (rw [if_pos (by decide +kernel)]; kernel_rfl) | (rw [if_neg (by decide +kernel)]; exact ⟨rfl, rfl⟩))
  (fun os started H enc _ => lifted os started H enc)
theorem proved : Rows.GrowLeftsCardSaid :=
 Claim7.holds_tied_plain_at .later [] [.data] true (true, "17efdc352ec3d0b200996e0ee9810004bcdd160069ab220330ace2cdfbaefea9") false over (fun _ h => by cases h) (by kernel_rfl) (fun _ h => by cases h) growLefts_row_tie rfl ⟨rfl, rfl⟩ (by kernel_rfl) rfl
  (fun f fn hf hfn => by
   obtain rfl : f = 6 := Option.some.inj ((show Tryz.prog.funcNamed "dendron/dendronlaw26.GrowLefts" = some 6 by kernel_rfl).symm.trans hf) |>.symm
   obtain rfl : fn = Tryz.f6 := (Option.some.inj (Tryz.func6.symm.trans hfn)).symm
   exact ⟨by kernel_rfl, fun j t ht => by
    rw [Tryz.params6] at ht
    have hm : t ∈ [25, 27] := by simpa using Array.mem_of_getElem? ht
    have hall : ([25, 27].all fun u => !Tryz.prog.wantsStandIn u) = true := by kernel_rfl
    exact (show Tryz.prog.wantsStandIn t = false by simpa using List.all_eq_true.1 hall t hm)⟩)
  (by kernel_rfl)
#print axioms proved
end Go.Proofs.YtmdlpmhkpnobeaaGreatDoor.growLefts
namespace Go.Proofs.YtmdlpmhkpnobeaaGreatDoor
theorem growLefts_holds : Rows.GrowLeftsCardSaid := growLefts.proved
end Go.Proofs.YtmdlpmhkpnobeaaGreatDoor
