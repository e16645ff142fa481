/- Part 5 of the texts of ExtremeSwings: words, the machine's side of functions (written by a program), plain lemmas. -/
import Derived.Test.YtomicjfjbfkikaaDoorBExtremeSwings4
set_option linter.unusedVariables false
set_option linter.unusedSimpArgs false
open List renaming getD_eq_getElem?_getD → za, take_of_length_le → zc, getElem?_eq_getElem → ze, take_length → zh, length_map → zi, replicate → zj, length_take → zk, length_append → zl, length_replicate → zm, mem_cons_of_mem → zn, mem_cons_self → zp, length_cons → zr, length_set → zx, drop_zero → zz, mem_singleton → zB, drop_of_length_le → zG
open Int renaming natCast_nonneg → zb, mul_le_mul_of_nonneg_right → zq, ofNat_zero → zy, natAbs → zD
open Bool renaming and_eq_true → zd, false_eq_true → zA
open Option renaming map_eq_some_iff → zf, bind_eq_some_iff → zg, bind_some → zt
open Nat renaming le_refl → zo, mul_le_mul_right → zu, le_trans → zw, add_mul → zE, zero_add → zF
open Rat renaming num → zC
open Go
namespace Go.Pe
def SmT (t : List RNd) (k : Nat) : Prop := ∀ n ∈ t, SmQ n.cov k ∧ SmQ n.cut k ∧ SmQ n.val k
def bdC (n : RNd) : Bool := decide (cmp (vQ n.cov).num 0 ≤ 0)
theorem vsign_c {x : RQt} {k : Nat} (hk : k ≤ 100000000000) (h : SmQ x k) : R FF 162 [(AV.agg [AV.b x.1, (AV.l 1 (List.map u x.2.1)), (AV.l 1 (List.map u x.2.2))])] = some (AV.i .i64 (cmp (vQ x).num 0)) := qsign_c hk h
theorem covers_l0 {t : List RNd} {k : Nat} (hk : k ≤ 10000000000) (ht : t.length ≤ 100000) (hs : SmT t k) : ∀ (d i : Nat), i + d = t.length →
  LP FF [(6, 0), (7, 0), (8, 0)] [(2, 0), (3, 0)] b251_0 [.l 14 (t.map eNd), (AV.i .i64 ((t.length : Int))), (AV.i .i64 ((i : Int)))] = if (t.drop i).any bdC then some (.ret, [(AV.i .i64 ((fstI bdC t i : Int))), (AV.i .i64 12)]) else some (.exit 0, [.junk, .junk]) := by
 intro d
 induction d with
 | zero =>
  intro i hi
  have c1 : ¬ (i : Int) < (t.length : Int) := by omega
  rw [zG (by omega), List.any_nil, if_neg (by decide)]
  rw [LP_go FF b251_0.eq_1]
  simp only [RB, RL, un, St.none, Nat.reduceEqDiff, Nat.reduceAdd, Nat.reduceMul, Nat.reduceMod, Nat.reduceLeDiff, Nat.reduceLT, Int.reduceLT, Int.reduceLE, Int.reduceEq, Int.reduceToNat, Int.reduceSub, Int.reduceNeg, Int.reduceAdd, ↓reduceIte, reduceCtorEq, pack, pid, parN, lid, chkK, apartV, Heap.none, c1]
 | succ d ih =>
  intro i hi
  have hlt : i < t.length := by omega
  have h9 := ih (i + 1) (by omega)
  have c1 : (i : Int) < (t.length : Int) := by omega
  have e2 : IntKind.i64.wrap ((i : Int) + 1) = ((i + 1 : Nat) : Int) := w64succ (by omega)
  rw [any_drop dNd hlt, fstI_step hlt]
  have hm := hs _ (getD_mem' dNd hlt)
  obtain ⟨x, hx⟩ : ∃ x, x = t.getD i dNd := ⟨_, rfl⟩
  rw [← hx] at hm ⊢
  have hx' := hx.symm
  have f1 := vsign_c (by omega) hm.1
  have hb : bdC x = decide (cmp (vQ x.cov).num 0 ≤ 0) := rfl
  generalize cmp (vQ x.cov).num 0 = z at *
  obtain ⟨xl, xf, xc, xa, xb, xm, xv, xw⟩ := x
  simp only at f1
  by_cases b1 : z ≤ 0
  ·rw [hb, decide_eq_true b1, Bool.true_or, if_pos rfl, if_pos rfl]
   rw [LP_go FF b251_0.eq_1]
   simp only [RB, RL, un, St.none, Nat.reduceEqDiff, Nat.reduceAdd, Nat.reduceMul, Nat.reduceMod, Nat.reduceLeDiff, Nat.reduceLT, Int.reduceLT, Int.reduceLE, Int.reduceEq, Int.reduceToNat, Int.reduceSub, Int.reduceNeg, Int.reduceAdd, ↓reduceIte, reduceCtorEq, pack, pid, parN, lid, chkK, apartV, Heap.none, c1, hx', eNd_rules, eNd_row, eNd, zb, e2, n64, f1, b1]
  ·rw [hb, decide_eq_false b1, Bool.false_or, if_neg (show ¬ false = true by decide)]
   rw [LP_go FF b251_0.eq_1]
   simp only [RB, RL, un, St.none, Nat.reduceEqDiff, Nat.reduceAdd, Nat.reduceMul, Nat.reduceMod, Nat.reduceLeDiff, Nat.reduceLT, Int.reduceLT, Int.reduceLE, Int.reduceEq, Int.reduceToNat, Int.reduceSub, Int.reduceNeg, Int.reduceAdd, ↓reduceIte, reduceCtorEq, pack, pid, parN, lid, chkK, apartV, Heap.none, c1, hx', eNd_rules, eNd_row, eNd, zb, e2, n64, f1, b1]
   exact h9
theorem covers_c {t : List RNd} {k : Nat} (hk : k ≤ 10000000000) (ht : t.length ≤ 100000) (hs : SmT t k) : ∃ i : Int, R FF 251 [.l 14 (t.map eNd)] = some (.tup [(AV.i .i64 ((if t.any bdC then i else 0))), (AV.i .i64 ((if t.any bdC then 12 else 0)))]) := by
 refine ⟨(fstI bdC t 0 : Int), ?_⟩
 have l0 := covers_l0 hk ht hs t.length 0 (by omega)
 rw [zy, zz] at l0
 by_cases h : t.any bdC = true
 ·rw [if_pos h] at l0
  rw [if_pos h, if_pos h]
  rw [R_go FF F251 c251.eq_1]
  simp only [RB, RL, un, St.none, Nat.reduceEqDiff, Nat.reduceAdd, Nat.reduceMul, Nat.reduceMod, Nat.reduceLeDiff, Nat.reduceLT, Int.reduceLT, Int.reduceLE, Int.reduceEq, Int.reduceToNat, Int.reduceSub, Int.reduceNeg, Int.reduceAdd, ↓reduceIte, reduceCtorEq, pack, pid, parN, lid, chkK, apartV, Heap.none, l0]
 ·rw [if_neg h] at l0
  rw [if_neg h, if_neg h]
  rw [R_go FF F251 c251.eq_1]
  simp only [RB, RL, un, St.none, Nat.reduceEqDiff, Nat.reduceAdd, Nat.reduceMul, Nat.reduceMod, Nat.reduceLeDiff, Nat.reduceLT, Int.reduceLT, Int.reduceLE, Int.reduceEq, Int.reduceToNat, Int.reduceSub, Int.reduceNeg, Int.reduceAdd, ↓reduceIte, reduceCtorEq, pack, pid, parN, lid, chkK, apartV, Heap.none, l0]
def bdS (t : List RNd) (n : RNd) : Bool := !n.leaf && !decide (vQ n.cov = vQ (t.getD n.lft.toNat dNd).cov + vQ (t.getD n.rgt.toNat dNd).cov)
theorem vadd_c {x y : RQt} {k j : Nat} (hx : SmQ x k) (hy : SmQ y j) (hk : k ≤ 40000000000) (hj : j ≤ 40000000000) : R FF 31 [(AV.agg [AV.b x.1, (AV.l 1 (List.map u x.2.1)), (AV.l 1 (List.map u x.2.2))]), (AV.agg [AV.b y.1, (AV.l 1 (List.map u y.2.1)), (AV.l 1 (List.map u y.2.2))])] = some (AV.agg [AV.b (ng (zC ((vQ x + vQ y)))), (AV.l 1 (List.map u (D (zD (zC ((vQ x + vQ y))))))), (AV.l 1 (List.map u (D (Rat.den ((vQ x + vQ y))))))]) := qadd_s hx hy hk hj
theorem vsums_l0 {t : List RNd} {f : Int} {k : Nat} (hk : k ≤ 10000000000) (h1k : 1 ≤ k) (ht : t.length ≤ 100000) (hs : SmT t k) (hr : t.any (bdR t.length f) = false) : ∀ (d i : Nat), i + d = t.length →
  LP FF [(0, 0), (6, 0), (7, 0), (8, 0)] [(2, 0), (3, 0)] b252_0 [.l 14 (t.map eNd), .l 14 (t.map eNd), (AV.i .i64 ((t.length : Int))), (AV.i .i64 ((i : Int)))] = if (t.drop i).any (bdS t) then some (.ret, [(AV.i .i64 ((fstI (bdS t) t i : Int))), (AV.i .i64 13)]) else some (.exit 0, [.junk, .junk]) := by
 intro d
 induction d with
 | zero =>
  intro i hi
  have c1 : ¬ (i : Int) < (t.length : Int) := by omega
  rw [zG (by omega), List.any_nil, if_neg (by decide)]
  rw [LP_go FF b252_0.eq_1]
  simp only [RB, RL, un, St.none, Nat.reduceEqDiff, Nat.reduceAdd, Nat.reduceMul, Nat.reduceMod, Nat.reduceLeDiff, Nat.reduceLT, Int.reduceLT, Int.reduceLE, Int.reduceEq, Int.reduceToNat, Int.reduceSub, Int.reduceNeg, Int.reduceAdd, ↓reduceIte, reduceCtorEq, pack, pid, parN, lid, chkK, apartV, Heap.none, c1]
 | succ d ih =>
  intro i hi
  have hlt : i < t.length := by omega
  have h9 := ih (i + 1) (by omega)
  have c1 : (i : Int) < (t.length : Int) := by omega
  have e2 : IntKind.i64.wrap ((i : Int) + 1) = ((i + 1 : Nat) : Int) := w64succ (by omega)
  rw [any_drop dNd hlt, fstI_step hlt]
  have hmem := getD_mem' dNd hlt
  have hm := hs _ hmem
  have hr2 : bdR t.length f (t.getD i dNd) = false := by
   rw [List.any_eq_false] at hr
   simpa using hr _ hmem
  obtain ⟨x, hx⟩ : ∃ x, x = t.getD i dNd := ⟨_, rfl⟩
  rw [← hx] at hm hr2 ⊢
  have hx' := hx.symm
  have hb : bdS t x = (!x.leaf && !decide (vQ x.cov = vQ (t.getD x.lft.toNat dNd).cov + vQ (t.getD x.rgt.toNat dNd).cov)) := rfl
  obtain ⟨xl, xf, xc, xa, xb, xm, xv, xw⟩ := x
  simp only at hb hm
  cases xl with
  | true =>
   rw [show bdS t ⟨true, xf, xc, xa, xb, xm, xv, xw⟩ = false from rfl, Bool.false_or, if_neg (show ¬ false = true by decide)]
   rw [LP_go FF b252_0.eq_1]
   simp only [RB, RL, un, St.none, Nat.reduceEqDiff, Nat.reduceAdd, Nat.reduceMul, Nat.reduceMod, Nat.reduceLeDiff, Nat.reduceLT, Int.reduceLT, Int.reduceLE, Int.reduceEq, Int.reduceToNat, Int.reduceSub, Int.reduceNeg, Int.reduceAdd, ↓reduceIte, reduceCtorEq, pack, pid, parN, lid, chkK, apartV, Heap.none, c1, hx', eNd_rules, eNd_row, eNd, zb, e2, n64]
   exact h9
  | false =>
   have hr3 : (decide (xf < 0) || decide (f ≤ xf) || decide (xa < 1) || decide ((t.length : Int) ≤ xa) || decide (xb < 1) || decide ((t.length : Int) ≤ xb)) = false := hr2
   simp only [Bool.or_eq_false_iff, decide_eq_false_iff_not] at hr3
   have ha : xa.toNat < t.length := by omega
   have hb2 : xb.toNat < t.length := by omega
   have a1 : 0 ≤ xa := by omega
   have a2 : xa < (t.length : Int) := by omega
   have b1 : 0 ≤ xb := by omega
   have b2 : xb < (t.length : Int) := by omega
   have sa := (hs _ (getD_mem' dNd ha)).1
   have sb := (hs _ (getD_mem' dNd hb2)).1
   have f1 := vadd_c (k := k) (j := k) sa sb (by omega) (by omega)
   have z1 : sq (vQ (t.getD xa.toNat dNd).cov + vQ (t.getD xb.toNat dNd).cov) ≤ 2 * k + 1 := by
    have q1 := sq_add (vQ (t.getD xa.toNat dNd).cov) (vQ (t.getD xb.toNat dNd).cov)
    have q2 := vQ_sq sa h1k
    have q3 := vQ_sq sb h1k
    omega
   have f2 := vsame_c (x := xw) (y := rQ (vQ (t.getD xa.toNat dNd).cov + vQ (t.getD xb.toNat dNd).cov)) (k := k) (j := 2 * k + 1) hm.1 (sm_cq z1) (by omega) (by omega)
   rw [vQ_rQ] at f2
   generalize vQ (t.getD xa.toNat dNd).cov + vQ (t.getD xb.toNat dNd).cov = s at *
   simp only [rQ] at f2
   by_cases h0 : vQ xw = s
   ·rw [hb, decide_eq_true h0, show (!false && !true) = false from rfl, Bool.false_or, if_neg (show ¬ false = true by decide)]
    rw [decide_eq_true h0] at f2
    rw [LP_go FF b252_0.eq_1]
    simp only [RB, RL, un, St.none, Nat.reduceEqDiff, Nat.reduceAdd, Nat.reduceMul, Nat.reduceMod, Nat.reduceLeDiff, Nat.reduceLT, Int.reduceLT, Int.reduceLE, Int.reduceEq, Int.reduceToNat, Int.reduceSub, Int.reduceNeg, Int.reduceAdd, ↓reduceIte, reduceCtorEq, pack, pid, parN, lid, chkK, apartV, Heap.none, c1, hx', eNd_rules, eNd_row, eNd, zb, e2, n64, a1, a2, b1, b2, f1, f2]
    exact h9
   ·rw [hb, decide_eq_false h0, show (!false && !false) = true from rfl, Bool.true_or, if_pos rfl, if_pos rfl]
    rw [decide_eq_false h0] at f2
    rw [LP_go FF b252_0.eq_1]
    simp only [RB, RL, un, St.none, Nat.reduceEqDiff, Nat.reduceAdd, Nat.reduceMul, Nat.reduceMod, Nat.reduceLeDiff, Nat.reduceLT, Int.reduceLT, Int.reduceLE, Int.reduceEq, Int.reduceToNat, Int.reduceSub, Int.reduceNeg, Int.reduceAdd, ↓reduceIte, reduceCtorEq, pack, pid, parN, lid, chkK, apartV, Heap.none, c1, hx', eNd_rules, eNd_row, eNd, zb, e2, n64, a1, a2, b1, b2, f1, f2]
theorem vsums_c {t : List RNd} {f : Int} {k : Nat} (hk : k ≤ 10000000000) (h1k : 1 ≤ k) (ht : t.length ≤ 100000) (hs : SmT t k) (hr : t.any (bdR t.length f) = false) : ∃ i : Int, R FF 252 [.l 14 (t.map eNd)] = some (.tup [(AV.i .i64 ((if t.any (bdS t) then i else 0))), (AV.i .i64 ((if t.any (bdS t) then 13 else 0)))]) := by
 refine ⟨(fstI (bdS t) t 0 : Int), ?_⟩
 have l0 := vsums_l0 hk h1k ht hs hr t.length 0 (by omega)
 rw [zy, zz] at l0
 by_cases h : t.any (bdS t) = true
 ·rw [if_pos h] at l0
  rw [if_pos h, if_pos h]
  rw [R_go FF F252 c252.eq_1]
  simp only [RB, RL, un, St.none, Nat.reduceEqDiff, Nat.reduceAdd, Nat.reduceMul, Nat.reduceMod, Nat.reduceLeDiff, Nat.reduceLT, Int.reduceLT, Int.reduceLE, Int.reduceEq, Int.reduceToNat, Int.reduceSub, Int.reduceNeg, Int.reduceAdd, ↓reduceIte, reduceCtorEq, pack, pid, parN, lid, chkK, apartV, Heap.none, l0]
 ·rw [if_neg h] at l0
  rw [if_neg h, if_neg h]
  rw [R_go FF F252 c252.eq_1]
  simp only [RB, RL, un, St.none, Nat.reduceEqDiff, Nat.reduceAdd, Nat.reduceMul, Nat.reduceMod, Nat.reduceLeDiff, Nat.reduceLT, Int.reduceLT, Int.reduceLE, Int.reduceEq, Int.reduceToNat, Int.reduceSub, Int.reduceNeg, Int.reduceAdd, ↓reduceIte, reduceCtorEq, pack, pid, parN, lid, chkK, apartV, Heap.none, l0]
def bdF (n : RNd) : Bool := decide (n.ft < 0) || decide (64 < n.ft) || decide (n.lft < 0) || decide (255 < n.lft) || decide (n.rgt < 0) || decide (255 < n.rgt)
def bdT (t : List RNd) : Bool := decide ((t.length : Int) < 1) || decide (255 < (t.length : Int)) || t.any bdF
theorem fits_l1 {t : List RNd} {ts : List (List RNd)} {m j : Int} (ht : t.length ≤ 100000) : ∀ (d i : Nat), i + d = t.length →
  LP FF [(22, 0), (23, 0), (24, 0), (36, 0), (37, 0), (38, 0)] [(2, 0), (22, 0), (23, 0), (24, 0)] b248_1 [.l 1 (ts.map eTr), (AV.i .i64 m), (AV.i .i64 j), .l 14 (t.map eNd), (AV.i .i64 ((t.length : Int))), (AV.i .i64 ((i : Int)))] = if (t.drop i).any bdF then some (.ret, [.b false, .l 1 (ts.map eTr), (AV.i .i64 m), (AV.i .i64 j)]) else some (.exit 2, [.junk, .l 1 (ts.map eTr), (AV.i .i64 m), (AV.i .i64 j)]) := by
 intro d
 induction d with
 | zero =>
  intro i hi
  have c1 : ¬ (i : Int) < (t.length : Int) := by omega
  rw [zG (by omega), List.any_nil, if_neg (by decide)]
  rw [LP_go FF b248_1.eq_1]
  simp only [RB, RL, un, St.none, Nat.reduceEqDiff, Nat.reduceAdd, Nat.reduceMul, Nat.reduceMod, Nat.reduceLeDiff, Nat.reduceLT, Int.reduceLT, Int.reduceLE, Int.reduceEq, Int.reduceToNat, Int.reduceSub, Int.reduceNeg, Int.reduceAdd, ↓reduceIte, reduceCtorEq, pack, pid, parN, lid, chkK, apartV, Heap.none, c1, eTr_rules, eTr_row]
 | succ d ih =>
  intro i hi
  have hlt : i < t.length := by omega
  have h9 := ih (i + 1) (by omega)
  have c1 : (i : Int) < (t.length : Int) := by omega
  have e2 : IntKind.i64.wrap ((i : Int) + 1) = ((i + 1 : Nat) : Int) := w64succ (by omega)
  rw [any_drop dNd hlt]
  obtain ⟨x, hx⟩ : ∃ x, x = t.getD i dNd := ⟨_, rfl⟩
  rw [← hx]
  have hx' := hx.symm
  have hb : bdF x = (decide (x.ft < 0) || decide (64 < x.ft) || decide (x.lft < 0) || decide (255 < x.lft) || decide (x.rgt < 0) || decide (255 < x.rgt)) := rfl
  rw [hb]
  obtain ⟨xl, xf, xc, xa, xb, xm, xv, xw⟩ := x
  simp only
  by_cases b1 : xf < 0
  ·rw [if_pos (by simp [b1])]
   rw [LP_go FF b248_1.eq_1]
   simp only [RB, RL, un, St.none, Nat.reduceEqDiff, Nat.reduceAdd, Nat.reduceMul, Nat.reduceMod, Nat.reduceLeDiff, Nat.reduceLT, Int.reduceLT, Int.reduceLE, Int.reduceEq, Int.reduceToNat, Int.reduceSub, Int.reduceNeg, Int.reduceAdd, ↓reduceIte, reduceCtorEq, pack, pid, parN, lid, chkK, apartV, Heap.none, c1, hx', eNd_rules, eNd_row, eNd, eTr_rules, eTr_row, zb, e2, n64, b1]
  by_cases b2 : 64 < xf
  ·rw [if_pos (by simp [b1, b2])]
   rw [LP_go FF b248_1.eq_1]
   simp only [RB, RL, un, St.none, Nat.reduceEqDiff, Nat.reduceAdd, Nat.reduceMul, Nat.reduceMod, Nat.reduceLeDiff, Nat.reduceLT, Int.reduceLT, Int.reduceLE, Int.reduceEq, Int.reduceToNat, Int.reduceSub, Int.reduceNeg, Int.reduceAdd, ↓reduceIte, reduceCtorEq, pack, pid, parN, lid, chkK, apartV, Heap.none, c1, hx', eNd_rules, eNd_row, eNd, eTr_rules, eTr_row, zb, e2, n64, b1, b2]
  by_cases b3 : xa < 0
  ·rw [if_pos (by simp [b1, b2, b3])]
   rw [LP_go FF b248_1.eq_1]
   simp only [RB, RL, un, St.none, Nat.reduceEqDiff, Nat.reduceAdd, Nat.reduceMul, Nat.reduceMod, Nat.reduceLeDiff, Nat.reduceLT, Int.reduceLT, Int.reduceLE, Int.reduceEq, Int.reduceToNat, Int.reduceSub, Int.reduceNeg, Int.reduceAdd, ↓reduceIte, reduceCtorEq, pack, pid, parN, lid, chkK, apartV, Heap.none, c1, hx', eNd_rules, eNd_row, eNd, eTr_rules, eTr_row, zb, e2, n64, b1, b2, b3]
  by_cases b4 : 255 < xa
  ·rw [if_pos (by simp [b1, b2, b3, b4])]
   rw [LP_go FF b248_1.eq_1]
   simp only [RB, RL, un, St.none, Nat.reduceEqDiff, Nat.reduceAdd, Nat.reduceMul, Nat.reduceMod, Nat.reduceLeDiff, Nat.reduceLT, Int.reduceLT, Int.reduceLE, Int.reduceEq, Int.reduceToNat, Int.reduceSub, Int.reduceNeg, Int.reduceAdd, ↓reduceIte, reduceCtorEq, pack, pid, parN, lid, chkK, apartV, Heap.none, c1, hx', eNd_rules, eNd_row, eNd, eTr_rules, eTr_row, zb, e2, n64, b1, b2, b3, b4]
  by_cases b5 : xb < 0
  ·rw [if_pos (by simp [b1, b2, b3, b4, b5])]
   rw [LP_go FF b248_1.eq_1]
   simp only [RB, RL, un, St.none, Nat.reduceEqDiff, Nat.reduceAdd, Nat.reduceMul, Nat.reduceMod, Nat.reduceLeDiff, Nat.reduceLT, Int.reduceLT, Int.reduceLE, Int.reduceEq, Int.reduceToNat, Int.reduceSub, Int.reduceNeg, Int.reduceAdd, ↓reduceIte, reduceCtorEq, pack, pid, parN, lid, chkK, apartV, Heap.none, c1, hx', eNd_rules, eNd_row, eNd, eTr_rules, eTr_row, zb, e2, n64, b1, b2, b3, b4, b5]
  by_cases b6 : 255 < xb
  ·rw [if_pos (by simp [b1, b2, b3, b4, b5, b6])]
   rw [LP_go FF b248_1.eq_1]
   simp only [RB, RL, un, St.none, Nat.reduceEqDiff, Nat.reduceAdd, Nat.reduceMul, Nat.reduceMod, Nat.reduceLeDiff, Nat.reduceLT, Int.reduceLT, Int.reduceLE, Int.reduceEq, Int.reduceToNat, Int.reduceSub, Int.reduceNeg, Int.reduceAdd, ↓reduceIte, reduceCtorEq, pack, pid, parN, lid, chkK, apartV, Heap.none, c1, hx', eNd_rules, eNd_row, eNd, eTr_rules, eTr_row, zb, e2, n64, b1, b2, b3, b4, b5, b6]
  rw [show (decide (xf < 0) || decide (64 < xf) || decide (xa < 0) || decide (255 < xa) || decide (xb < 0) || decide (255 < xb)) = false by simp [b1, b2, b3, b4, b5, b6], Bool.false_or]
  rw [LP_go FF b248_1.eq_1]
  simp only [RB, RL, un, St.none, Nat.reduceEqDiff, Nat.reduceAdd, Nat.reduceMul, Nat.reduceMod, Nat.reduceLeDiff, Nat.reduceLT, Int.reduceLT, Int.reduceLE, Int.reduceEq, Int.reduceToNat, Int.reduceSub, Int.reduceNeg, Int.reduceAdd, ↓reduceIte, reduceCtorEq, pack, pid, parN, lid, chkK, apartV, Heap.none, c1, hx', eNd_rules, eNd_row, eNd, eTr_rules, eTr_row, zb, e2, n64, b1, b2, b3, b4, b5, b6]
  exact h9
theorem any_dropT {p : List RNd → Bool} {l : List (List RNd)} {i : Nat} (h : i < l.length) : (l.drop i).any p = (p (l.getD i []) || (l.drop (i + 1)).any p) := any_drop [] h
theorem fits_l0 {ts : List (List RNd)} (hts : ts.length ≤ 100000) (ht : ∀ t ∈ ts, t.length ≤ 100000) : ∀ (d i : Nat), i + d = ts.length →
  LP FF [(22, 0), (23, 0), (24, 0)] [(2, 0)] b248_0 [.l 1 (ts.map eTr), (AV.i .i64 ((ts.length : Int))), (AV.i .i64 ((i : Int)))] = if (ts.drop i).any bdT then some (.ret, [.b false]) else some (.exit 0, [.junk]) := by
 intro d
 induction d with
 | zero =>
  intro i hi
  have c1 : ¬ (i : Int) < (ts.length : Int) := by omega
  rw [zG (by omega), List.any_nil, if_neg (by decide)]
  rw [LP_go FF b248_0.eq_1]
  simp only [RB, RL, un, St.none, Nat.reduceEqDiff, Nat.reduceAdd, Nat.reduceMul, Nat.reduceMod, Nat.reduceLeDiff, Nat.reduceLT, Int.reduceLT, Int.reduceLE, Int.reduceEq, Int.reduceToNat, Int.reduceSub, Int.reduceNeg, Int.reduceAdd, ↓reduceIte, reduceCtorEq, pack, pid, parN, lid, chkK, apartV, Heap.none, c1, eTr_rules, eTr_row]
 | succ d ih =>
  intro i hi
  have hlt : i < ts.length := by omega
  have h9 := ih (i + 1) (by omega)
  have c1 : (i : Int) < (ts.length : Int) := by omega
  have e2 : IntKind.i64.wrap ((i : Int) + 1) = ((i + 1 : Nat) : Int) := w64succ (by omega)
  rw [any_dropT hlt]
  have l1 := fits_l1 (t := ts.getD i []) (ts := ts) (m := (ts.length : Int)) (j := (i : Int)) (ht _ (getD_mem' [] hlt)) (ts.getD i []).length 0 (by omega)
  rw [zy, zz] at l1
  obtain ⟨x, hx⟩ : ∃ x, x = ts.getD i [] := ⟨_, rfl⟩
  rw [← hx] at l1 ⊢
  have hx' := hx.symm
  have hb : bdT x = (decide ((x.length : Int) < 1) || decide (255 < (x.length : Int)) || x.any bdF) := rfl
  rw [hb]
  by_cases b1 : (x.length : Int) < 1
  ·rw [if_pos (by simp [b1])]
   rw [LP_go FF b248_0.eq_1]
   simp only [RB, RL, un, St.none, Nat.reduceEqDiff, Nat.reduceAdd, Nat.reduceMul, Nat.reduceMod, Nat.reduceLeDiff, Nat.reduceLT, Int.reduceLT, Int.reduceLE, Int.reduceEq, Int.reduceToNat, Int.reduceSub, Int.reduceNeg, Int.reduceAdd, ↓reduceIte, reduceCtorEq, pack, pid, parN, lid, chkK, apartV, Heap.none, c1, hx', eNd_rules, eNd_row, eTr_rules, eTr_row, zb, e2, n64, b1]
  by_cases b2 : 255 < (x.length : Int)
  ·rw [if_pos (by simp [b2])]
   rw [LP_go FF b248_0.eq_1]
   simp only [RB, RL, un, St.none, Nat.reduceEqDiff, Nat.reduceAdd, Nat.reduceMul, Nat.reduceMod, Nat.reduceLeDiff, Nat.reduceLT, Int.reduceLT, Int.reduceLE, Int.reduceEq, Int.reduceToNat, Int.reduceSub, Int.reduceNeg, Int.reduceAdd, ↓reduceIte, reduceCtorEq, pack, pid, parN, lid, chkK, apartV, Heap.none, c1, hx', eNd_rules, eNd_row, eTr_rules, eTr_row, zb, e2, n64, b1, b2]
  rw [decide_eq_false b1, decide_eq_false b2, Bool.false_or, Bool.false_or]
  cases hf : x.any bdF
  ·rw [hf, if_neg (by decide)] at l1
   rw [Bool.false_or]
   rw [LP_go FF b248_0.eq_1]
   simp only [RB, RL, un, St.none, Nat.reduceEqDiff, Nat.reduceAdd, Nat.reduceMul, Nat.reduceMod, Nat.reduceLeDiff, Nat.reduceLT, Int.reduceLT, Int.reduceLE, Int.reduceEq, Int.reduceToNat, Int.reduceSub, Int.reduceNeg, Int.reduceAdd, ↓reduceIte, reduceCtorEq, pack, pid, parN, lid, chkK, apartV, Heap.none, c1, hx', eNd_rules, eNd_row, eTr_rules, eTr_row, zb, e2, n64, b1, b2, l1]
   exact h9
  ·rw [hf, if_pos rfl] at l1
   rw [Bool.true_or, if_pos rfl]
   rw [LP_go FF b248_0.eq_1]
   simp only [RB, RL, un, St.none, Nat.reduceEqDiff, Nat.reduceAdd, Nat.reduceMul, Nat.reduceMod, Nat.reduceLeDiff, Nat.reduceLT, Int.reduceLT, Int.reduceLE, Int.reduceEq, Int.reduceToNat, Int.reduceSub, Int.reduceNeg, Int.reduceAdd, ↓reduceIte, reduceCtorEq, pack, pid, parN, lid, chkK, apartV, Heap.none, c1, hx', eNd_rules, eNd_row, eTr_rules, eTr_row, zb, e2, n64, b1, b2, l1]
def fitB (m : RM) : Bool := !(decide (m.1 < 0) || decide (64 < m.1) || decide (64 < (m.2.length : Int)) || m.2.any bdT)
theorem fits_c {m : RM} (hts : m.2.length ≤ 100000) (ht : ∀ t ∈ m.2, t.length ≤ 100000) : R FF 248 [.agg (eM m)] = some (.b (fitB m)) := by
 obtain ⟨f, ts⟩ := m
 have hts : ts.length ≤ 100000 := hts
 have ht : ∀ t ∈ ts, t.length ≤ 100000 := ht
 have l0 := fits_l0 hts ht ts.length 0 (by omega)
 rw [zy, zz] at l0
 have hb : fitB (f, ts) = !(decide (f < 0) || decide (64 < f) || decide (64 < (ts.length : Int)) || ts.any bdT) := rfl
 rw [hb]
 simp only [eM] at l0 ⊢
 by_cases b1 : f < 0
 ·rw [decide_eq_true b1]
  rw [R_go FF F248 c248.eq_1]
  simp only [RB, RL, un, St.none, Nat.reduceEqDiff, Nat.reduceAdd, Nat.reduceMul, Nat.reduceMod, Nat.reduceLeDiff, Nat.reduceLT, Int.reduceLT, Int.reduceLE, Int.reduceEq, Int.reduceToNat, Int.reduceSub, Int.reduceNeg, Int.reduceAdd, ↓reduceIte, reduceCtorEq, pack, pid, parN, lid, chkK, apartV, Heap.none, b1, eTr_rules, eTr_row, n64]
 by_cases b2 : 64 < f
 ·rw [decide_eq_true b2]
  rw [R_go FF F248 c248.eq_1]
  simp only [RB, RL, un, St.none, Nat.reduceEqDiff, Nat.reduceAdd, Nat.reduceMul, Nat.reduceMod, Nat.reduceLeDiff, Nat.reduceLT, Int.reduceLT, Int.reduceLE, Int.reduceEq, Int.reduceToNat, Int.reduceSub, Int.reduceNeg, Int.reduceAdd, ↓reduceIte, reduceCtorEq, pack, pid, parN, lid, chkK, apartV, Heap.none, b1, b2, eTr_rules, eTr_row, n64]
 by_cases b3 : 64 < (ts.length : Int)
 ·rw [decide_eq_true b3]
  rw [R_go FF F248 c248.eq_1]
  simp only [RB, RL, un, St.none, Nat.reduceEqDiff, Nat.reduceAdd, Nat.reduceMul, Nat.reduceMod, Nat.reduceLeDiff, Nat.reduceLT, Int.reduceLT, Int.reduceLE, Int.reduceEq, Int.reduceToNat, Int.reduceSub, Int.reduceNeg, Int.reduceAdd, ↓reduceIte, reduceCtorEq, pack, pid, parN, lid, chkK, apartV, Heap.none, b1, b2, b3, eTr_rules, eTr_row, n64]
 rw [decide_eq_false b1, decide_eq_false b2, decide_eq_false b3, Bool.false_or, Bool.false_or, Bool.false_or]
 cases hf : ts.any bdT
 ·rw [hf, if_neg (by decide)] at l0
  rw [R_go FF F248 c248.eq_1]
  simp only [RB, RL, un, St.none, Nat.reduceEqDiff, Nat.reduceAdd, Nat.reduceMul, Nat.reduceMod, Nat.reduceLeDiff, Nat.reduceLT, Int.reduceLT, Int.reduceLE, Int.reduceEq, Int.reduceToNat, Int.reduceSub, Int.reduceNeg, Int.reduceAdd, ↓reduceIte, reduceCtorEq, pack, pid, parN, lid, chkK, apartV, Heap.none, b1, b2, b3, eTr_rules, eTr_row, n64, l0]
 ·rw [hf, if_pos rfl] at l0
  rw [R_go FF F248 c248.eq_1]
  simp only [RB, RL, un, St.none, Nat.reduceEqDiff, Nat.reduceAdd, Nat.reduceMul, Nat.reduceMod, Nat.reduceLeDiff, Nat.reduceLT, Int.reduceLT, Int.reduceLE, Int.reduceEq, Int.reduceToNat, Int.reduceSub, Int.reduceNeg, Int.reduceAdd, ↓reduceIte, reduceCtorEq, pack, pid, parN, lid, chkK, apartV, Heap.none, b1, b2, b3, eTr_rules, eTr_row, n64, l0]
def bump (P : List Int) (n : RNd) : List Int := if n.leaf then P else
 (P.set n.lft.toNat (P.getD n.lft.toNat 0 + 1)).set n.rgt.toNat ((P.set n.lft.toNat (P.getD n.lft.toNat 0 + 1)).getD n.rgt.toNat 0 + 1)
def parL (t : List RNd) : List Int := t.foldl bump (zj t.length 0)
theorem bump_len (P : List Int) (n : RNd) : (bump P n).length = P.length := by
 unfold bump; split
 ·rfl
 ·rw [zx, zx]
theorem getD_set (P : List Int) (a b : Nat) (x : Int) : (P.set a x).getD b 0 = if a = b ∧ a < P.length then x else P.getD b 0 := by
 rw [za, za, List.getElem?_set]
 by_cases h : a = b
 ·subst h
  by_cases h2 : a < P.length
  ·rw [if_pos rfl, if_pos h2, if_pos ⟨rfl, h2⟩]; rfl
  ·rw [if_pos rfl, if_neg h2, if_neg (fun h => h2 h.2), List.getElem?_eq_none (by omega)]
 ·rw [if_neg h, if_neg (fun k => h k.1)]
def Bnd (P : List Int) (k : Int) : Prop := ∀ j, 0 ≤ P.getD j 0 ∧ P.getD j 0 ≤ k
theorem bump_bnd {P : List Int} {k : Int} (h : Bnd P k) (n : RNd) : Bnd (bump P n) (k + 2) := by
 intro j
 unfold bump
 split
 ·have := h j; omega
 ·have h1 : ∀ i, 0 ≤ (P.set n.lft.toNat (P.getD n.lft.toNat 0 + 1)).getD i 0 ∧ (P.set n.lft.toNat (P.getD n.lft.toNat 0 + 1)).getD i 0 ≤ k + 1 := by
   intro i
   rw [getD_set]
   have a := h i
   have b := h n.lft.toNat
   split <;> omega
  rw [getD_set]
  have a := h1 j
  have b := h1 n.rgt.toNat
  split <;> omega
theorem drop_foldT {β : Type} {g : β → RNd → β} {l : List RNd} {i : Nat} (o : β) (h : i < l.length) : (l.drop i).foldl g o = (l.drop (i + 1)).foldl g (g o (l.getD i dNd)) := by
 rw [List.drop_eq_getElem_cons h, List.foldl_cons, za, ze h]; rfl
theorem shape_l3 {t : List RNd} {f : Int} (ht : t.length ≤ 100000) (hr : t.any (bdR t.length f) = false) : ∀ (d i : Nat) (P : List Int), i + d = t.length → P.length = t.length → Bnd P (2 * (i : Int)) →
  LP FF [(4, 1), (0, 0), (18, 0), (19, 0), (20, 0)] [(0, 0), (4, 0)] b250_3 [.own true 1 (P.map n64), .l 14 (t.map eNd), .l 14 (t.map eNd), (AV.i .i64 ((t.length : Int))), (AV.i .i64 ((i : Int)))] = some (.exit 0, [.l 14 (t.map eNd), .l 1 (((t.drop i).foldl bump P).map n64)]) := by
 intro d
 induction d with
 | zero =>
  intro i P hi hP hB
  have c1 : ¬ (i : Int) < (t.length : Int) := by omega
  rw [zG (by omega), List.foldl_nil]
  rw [LP_go FF b250_3.eq_1]
  simp only [RB, RL, un, St.none, Nat.reduceEqDiff, Nat.reduceAdd, Nat.reduceMul, Nat.reduceMod, Nat.reduceLeDiff, Nat.reduceLT, Int.reduceLT, Int.reduceLE, Int.reduceEq, Int.reduceToNat, Int.reduceSub, Int.reduceNeg, Int.reduceAdd, ↓reduceIte, reduceCtorEq, pack, pid, parN, lid, chkK, apartV, Heap.none, c1, eNd_rules, eNd_row, zh]
 | succ d ih =>
  intro i P hi hP hB
  have hlt : i < t.length := by omega
  have c1 : (i : Int) < (t.length : Int) := by omega
  have e2 : IntKind.i64.wrap ((i : Int) + 1) = ((i + 1 : Nat) : Int) := w64succ (by omega)
  have hmem := getD_mem' dNd hlt
  have hr2 : bdR t.length f (t.getD i dNd) = false := by
   rw [List.any_eq_false] at hr
   simpa using hr _ hmem
  have h9 := ih (i + 1) (bump P (t.getD i dNd)) (by omega) (by rw [bump_len, hP]) (by
   have := bump_bnd hB (t.getD i dNd)
   rwa [show 2 * (i : Int) + 2 = 2 * ((i + 1 : Nat) : Int) by omega] at this)
  rw [drop_foldT P hlt]
  obtain ⟨x, hx⟩ : ∃ x, x = t.getD i dNd := ⟨_, rfl⟩
  rw [← hx] at hr2 h9 ⊢
  have hx' := hx.symm
  obtain ⟨xl, xf, xc, xa, xb, xm, xv, xw⟩ := x
  cases xl with
  | true =>
   rw [show bump P ⟨true, xf, xc, xa, xb, xm, xv, xw⟩ = P from rfl] at h9 ⊢
   rw [LP_go FF b250_3.eq_1]
   simp only [RB, RL, un, St.none, Nat.reduceEqDiff, Nat.reduceAdd, Nat.reduceMul, Nat.reduceMod, Nat.reduceLeDiff, Nat.reduceLT, Int.reduceLT, Int.reduceLE, Int.reduceEq, Int.reduceToNat, Int.reduceSub, Int.reduceNeg, Int.reduceAdd, ↓reduceIte, reduceCtorEq, pack, pid, parN, lid, chkK, apartV, Heap.none, c1, hx', eNd_rules, eNd_row, eNd, zb, e2, zh]
   exact h9
  | false =>
   have hr3 : (decide (xf < 0) || decide (f ≤ xf) || decide (xa < 1) || decide ((t.length : Int) ≤ xa) || decide (xb < 1) || decide ((t.length : Int) ≤ xb)) = false := hr2
   simp only [Bool.or_eq_false_iff, decide_eq_false_iff_not] at hr3
   have a1 : 0 ≤ xa := by omega
   have a2 : xa < (t.length : Int) := by omega
   have b1 : 0 ≤ xb := by omega
   have b2 : xb < (t.length : Int) := by omega
   have a3 : xa.toNat < t.length := by omega
   have b3 : xb.toNat < t.length := by omega
   have q1 := hB xa.toNat
   have w1 : IntKind.i64.wrap (P.getD xa.toNat 0 + 1) = P.getD xa.toNat 0 + 1 := w64 (by omega) (by omega)
   have eb : bump P ⟨false, xf, xc, xa, xb, xm, xv, xw⟩ = (P.set xa.toNat (P.getD xa.toNat 0 + 1)).set xb.toNat ((P.set xa.toNat (P.getD xa.toNat 0 + 1)).getD xb.toNat 0 + 1) := rfl
   have q2 : 0 ≤ (P.set xa.toNat (P.getD xa.toNat 0 + 1)).getD xb.toNat 0 ∧ (P.set xa.toNat (P.getD xa.toNat 0 + 1)).getD xb.toNat 0 ≤ 2 * (i : Int) + 1 := by
    rw [getD_set]
    have a := hB xb.toNat
    split <;> omega
   have w2 : IntKind.i64.wrap ((P.set xa.toNat (P.getD xa.toNat 0 + 1)).getD xb.toNat 0 + 1) = (P.set xa.toNat (P.getD xa.toNat 0 + 1)).getD xb.toNat 0 + 1 := w64 (by omega) (by omega)
   rw [eb] at h9 ⊢
   have hl1 : (P.set xa.toNat (P.getD xa.toNat 0 + 1)).length = t.length := by rw [zx, hP]
   generalize hP1 : P.set xa.toNat (P.getD xa.toNat 0 + 1) = P1 at *
   have hl2 : (P1.set xb.toNat (P1.getD xb.toNat 0 + 1)).length = t.length := by rw [zx, hl1]
   generalize hP2 : P1.set xb.toNat (P1.getD xb.toNat 0 + 1) = P2 at *
   have t2 : List.take t.length P2 = P2 := zc (by omega)
   rw [LP_go FF b250_3.eq_1]
   simp only [RB, RL, un, St.none, Nat.reduceEqDiff, Nat.reduceAdd, Nat.reduceMul, Nat.reduceMod, Nat.reduceLeDiff, Nat.reduceLT, Int.reduceLT, Int.reduceLE, Int.reduceEq, Int.reduceToNat, Int.reduceSub, Int.reduceNeg, Int.reduceAdd, ↓reduceIte, reduceCtorEq, pack, pid, parN, lid, chkK, apartV, Heap.none, c1, hx', eNd_rules, eNd_row, eNd, zb, e2, a1, a2, b1, b2, a3, b3, hP, hl1, hl2, w1, w2, hP1, hP2, t2]
   exact h9
theorem shape_l2 {t : List RNd} {P : List Int} (ht : t.length ≤ 100000) (hP : P.length = t.length) : ∀ (d i : Nat), i + d = t.length →
  (∃ j, 0 < j ∧ j < t.length ∧ P.getD j 0 ≠ 1 ∧ LP FF [(0, 0), (42, 0), (43, 0), (44, 0)] [(0, 0), (2, 0), (3, 0)] b250_2 [.l 14 (t.map eNd), .l 1 (P.map n64), (AV.i .i64 ((t.length : Int))), (AV.i .i64 ((i : Int)))] = some (.ret, [.l 14 (t.map eNd), (AV.i .i64 ((j : Int))), (AV.i .i64 11)])) ∨
  ((∀ j, i ≤ j → j < t.length → 0 < j → P.getD j 0 = 1) ∧ LP FF [(0, 0), (42, 0), (43, 0), (44, 0)] [(0, 0), (2, 0), (3, 0)] b250_2 [.l 14 (t.map eNd), .l 1 (P.map n64), (AV.i .i64 ((t.length : Int))), (AV.i .i64 ((i : Int)))] = some (.exit 2, [.l 14 (t.map eNd), .junk, .junk])) := by
 intro d
 induction d with
 | zero =>
  intro i hi
  refine .inr ⟨fun j h1 h2 => by omega, ?_⟩
  have c1 : ¬ (i : Int) < (t.length : Int) := by omega
  rw [LP_go FF b250_2.eq_1]
  simp only [RB, RL, un, St.none, Nat.reduceEqDiff, Nat.reduceAdd, Nat.reduceMul, Nat.reduceMod, Nat.reduceLeDiff, Nat.reduceLT, Int.reduceLT, Int.reduceLE, Int.reduceEq, Int.reduceToNat, Int.reduceSub, Int.reduceNeg, Int.reduceAdd, ↓reduceIte, reduceCtorEq, pack, pid, parN, lid, chkK, apartV, Heap.none, c1, eNd_rules, eNd_row]
 | succ d ih =>
  intro i hi
  have hlt : i < t.length := by omega
  have c1 : (i : Int) < (t.length : Int) := by omega
  have c2 : i < t.length := hlt
  have e2 : IntKind.i64.wrap ((i : Int) + 1) = ((i + 1 : Nat) : Int) := w64succ (by omega)
  by_cases h0 : 0 < (i : Int)
  ·by_cases h1 : P.getD i 0 = 1
   ·have step : LP FF [(0, 0), (42, 0), (43, 0), (44, 0)] [(0, 0), (2, 0), (3, 0)] b250_2 [.l 14 (t.map eNd), .l 1 (P.map n64), (AV.i .i64 ((t.length : Int))), (AV.i .i64 ((i : Int)))] = LP FF [(0, 0), (42, 0), (43, 0), (44, 0)] [(0, 0), (2, 0), (3, 0)] b250_2 [.l 14 (t.map eNd), .l 1 (P.map n64), (AV.i .i64 ((t.length : Int))), (AV.i .i64 (((i + 1 : Nat) : Int)))] := by
     rw [LP_go FF b250_2.eq_1]
     simp only [RB, RL, un, St.none, Nat.reduceEqDiff, Nat.reduceAdd, Nat.reduceMul, Nat.reduceMod, Nat.reduceLeDiff, Nat.reduceLT, Int.reduceLT, Int.reduceLE, Int.reduceEq, Int.reduceToNat, Int.reduceSub, Int.reduceNeg, Int.reduceAdd, ↓reduceIte, reduceCtorEq, pack, pid, parN, lid, chkK, apartV, Heap.none, c1, c2, h0, h1, hP, eNd_rules, eNd_row, zb, e2]
    rw [step]
    rcases ih (i + 1) (by omega) with h9 | ⟨h8, h9⟩
    ·exact .inl h9
    ·exact .inr ⟨fun j a b c => by
      rcases Nat.eq_or_lt_of_le a with rfl | a
      ·exact h1
      ·exact h8 j a b c, h9⟩
   ·refine .inl ⟨i, by omega, hlt, h1, ?_⟩
    rw [LP_go FF b250_2.eq_1]
    simp only [RB, RL, un, St.none, Nat.reduceEqDiff, Nat.reduceAdd, Nat.reduceMul, Nat.reduceMod, Nat.reduceLeDiff, Nat.reduceLT, Int.reduceLT, Int.reduceLE, Int.reduceEq, Int.reduceToNat, Int.reduceSub, Int.reduceNeg, Int.reduceAdd, ↓reduceIte, reduceCtorEq, pack, pid, parN, lid, chkK, apartV, Heap.none, c1, c2, h0, h1, hP, eNd_rules, eNd_row, zb, e2]
  ·have step : LP FF [(0, 0), (42, 0), (43, 0), (44, 0)] [(0, 0), (2, 0), (3, 0)] b250_2 [.l 14 (t.map eNd), .l 1 (P.map n64), (AV.i .i64 ((t.length : Int))), (AV.i .i64 ((i : Int)))] = LP FF [(0, 0), (42, 0), (43, 0), (44, 0)] [(0, 0), (2, 0), (3, 0)] b250_2 [.l 14 (t.map eNd), .l 1 (P.map n64), (AV.i .i64 ((t.length : Int))), (AV.i .i64 (((i + 1 : Nat) : Int)))] := by
    rw [LP_go FF b250_2.eq_1]
    simp only [RB, RL, un, St.none, Nat.reduceEqDiff, Nat.reduceAdd, Nat.reduceMul, Nat.reduceMod, Nat.reduceLeDiff, Nat.reduceLT, Int.reduceLT, Int.reduceLE, Int.reduceEq, Int.reduceToNat, Int.reduceSub, Int.reduceNeg, Int.reduceAdd, ↓reduceIte, reduceCtorEq, pack, pid, parN, lid, chkK, apartV, Heap.none, c1, c2, h0, hP, eNd_rules, eNd_row, zb, e2]
   rw [step]
   rcases ih (i + 1) (by omega) with h9 | ⟨h8, h9⟩
   ·exact .inl h9
   ·exact .inr ⟨fun j a b c => h8 j (by omega) b c, h9⟩
def kids (n : RNd) : List Nat := if n.leaf then [] else [n.rgt.toNat, n.lft.toNat]
def cntN (j : Nat) (n : RNd) : Nat := if n.leaf then 0 else (if n.lft.toNat = j then 1 else 0) + (if n.rgt.toNat = j then 1 else 0)
def cnt (j : Nat) : List RNd → Nat
 | [] => 0
 | n :: l => cntN j n + cnt j l
theorem bump_cnt {P : List Int} {n : RNd} (hn : n.leaf = false → n.lft.toNat < P.length ∧ n.rgt.toNat < P.length) (j : Nat) : (bump P n).getD j 0 = P.getD j 0 + (cntN j n : Nat) := by
 unfold bump cntN
 cases hl : n.leaf with
 | true => simp
 | false =>
  obtain ⟨h1, h2⟩ := hn hl
  simp only [zA, if_false]
  rw [getD_set, getD_set, getD_set, zx]
  by_cases e1 : n.lft.toNat = j <;> by_cases e2 : n.rgt.toNat = j
  ·have e3 : n.lft.toNat = n.rgt.toNat := by omega
   rw [if_pos ⟨e2, h2⟩, if_pos ⟨e3, h1⟩, if_pos e1, if_pos e2, e1]; omega
  ·rw [if_neg (fun h => e2 h.1), if_pos ⟨e1, h1⟩, if_pos e1, if_neg e2, e1]; omega
  ·have e3 : ¬ n.lft.toNat = n.rgt.toNat := by omega
   rw [if_pos ⟨e2, h2⟩, if_neg (fun h => e3 h.1), if_neg e1, if_pos e2, e2]; omega
  ·rw [if_neg (fun h => e2 h.1), if_neg (fun h => e1 h.1), if_neg e1, if_neg e2]; omega
theorem foldl_cnt : ∀ (l : List RNd) (P : List Int), (∀ n ∈ l, n.leaf = false → n.lft.toNat < P.length ∧ n.rgt.toNat < P.length) → ∀ j, (l.foldl bump P).getD j 0 = P.getD j 0 + (cnt j l : Nat) := by
 intro l
 induction l with
 | nil => intro P _ j; show P.getD j 0 = P.getD j 0 + ((0 : Nat) : Int); omega
 | cons n l ih =>
  intro P h j
  have h1 := bump_cnt (h n (zp ..)) j
  have h2 := ih (bump P n) (fun m hm => by rw [bump_len]; exact h m (zn _ hm)) j
  rw [List.foldl_cons, h2, h1]
  show _ = _ + ((cntN j n + cnt j l : Nat) : Int)
  omega
theorem parL_cnt {t : List RNd} (h : ∀ n ∈ t, n.leaf = false → n.lft.toNat < t.length ∧ n.rgt.toNat < t.length) (j : Nat) : (parL t).getD j 0 = (cnt j t : Nat) := by
 unfold parL
 rw [foldl_cnt t _ (fun n hn hl => by rw [zm]; exact h n hn hl)]
 have e : (zj t.length (0 : Int)).getD j 0 = 0 := by
  rw [za, List.getElem?_replicate]
  split <;> rfl
 rw [e]; omega
theorem cntN_kids {j : Nat} {n : RNd} (h : j ∈ kids n) : 1 ≤ cntN j n := by
 unfold kids at h
 unfold cntN
 split at h
 ·exact (List.not_mem_nil h).elim
 ·rename_i hl
  rw [if_neg hl]
  simp only [List.mem_cons, List.not_mem_nil, or_false] at h
  rcases h with rfl | rfl <;> simp
theorem cnt_one : ∀ (l : List RNd) (i j : Nat), i < l.length → j ∈ kids (l.getD i dNd) → 1 ≤ cnt j l := by
 intro l
 induction l with
 | nil => intro i j h; exact absurd h (Nat.not_lt_zero _)
 | cons n l ih =>
  intro i j hi hk
  show 1 ≤ cntN j n + cnt j l
  cases i with
  | zero => have := cntN_kids (show j ∈ kids n from hk); omega
  | succ i => have := ih i j (by rw [zr] at hi; omega) hk; omega
theorem cnt_two : ∀ (l : List RNd) (i i' j : Nat), i < i' → i' < l.length → j ∈ kids (l.getD i dNd) → j ∈ kids (l.getD i' dNd) → 2 ≤ cnt j l := by
 intro l
 induction l with
 | nil => intro i i' j _ h; exact absurd h (Nat.not_lt_zero _)
 | cons n l ih =>
  intro i i' j hlt hi hk hk'
  show 2 ≤ cntN j n + cnt j l
  cases i' with
  | zero => omega
  | succ i' =>
   rw [zr] at hi
   cases i with
   | zero =>
    have h1 := cntN_kids (show j ∈ kids n from hk)
    have h2 := cnt_one l i' j (by omega) hk'
    omega
   | succ i => have := ih i i' j (by omega) (by omega) hk hk'; omega
theorem cnt_dup : ∀ (l : List RNd) (i : Nat), i < l.length → (l.getD i dNd).leaf = false → (l.getD i dNd).lft.toNat = (l.getD i dNd).rgt.toNat → 2 ≤ cnt (l.getD i dNd).lft.toNat l := by
 intro l
 induction l with
 | nil => intro i h; exact absurd h (Nat.not_lt_zero _)
 | cons n l ih =>
  intro i hi hl he
  cases i with
  | zero =>
   have hl : n.leaf = false := hl
   have he : n.lft.toNat = n.rgt.toNat := he
   show 2 ≤ cntN n.lft.toNat n + cnt n.lft.toNat l
   unfold cntN
   rw [hl, if_neg (by decide), if_pos rfl, if_pos he.symm]; omega
  | succ i =>
   have := ih i (by rw [zr] at hi; omega) hl he
   show 2 ≤ cntN (l.getD i dNd).lft.toNat n + cnt (l.getD i dNd).lft.toNat l
   omega
structure Par (t : List RNd) : Prop where
 rng : ∀ i, i < t.length → ∀ c ∈ kids (t.getD i dNd), 1 ≤ c ∧ c < t.length
 one : ∀ j, 0 < j → j < t.length → cnt j t = 1
theorem Par.uniq {t : List RNd} (h : Par t) {i i' c : Nat} (hi : i < t.length) (hi' : i' < t.length) (hc : c ∈ kids (t.getD i dNd)) (hc' : c ∈ kids (t.getD i' dNd)) : i = i' := by
 obtain ⟨r1, r2⟩ := h.rng i hi c hc
 have h1 := h.one c (by omega) r2
 rcases Nat.lt_trichotomy i i' with hl | hl | hl
 ·have := cnt_two t i i' c hl hi' hc hc'; omega
 ·exact hl
 ·have := cnt_two t i' i c hl hi hc' hc; omega
theorem Par.nd {t : List RNd} (h : Par t) {i : Nat} (hi : i < t.length) : (kids (t.getD i dNd)).Nodup := by
 have hr := h.rng i hi
 have hd := cnt_dup t i hi
 unfold kids at *
 cases hl : (t.getD i dNd).leaf with
 | true => simp
 | false =>
  rw [hl] at hr hd
  simp only [zA, if_false] at hr ⊢
  have hne : (t.getD i dNd).rgt.toNat ≠ (t.getD i dNd).lft.toNat := fun e => by
   have h2 := hd rfl e.symm
   have r := hr (t.getD i dNd).lft.toNat (by simp)
   have := h.one _ (by omega) r.2
   omega
  exact List.nodup_cons.2 ⟨fun hm => hne (List.mem_singleton.1 hm), List.nodup_cons.2 ⟨List.not_mem_nil, List.nodup_nil⟩⟩
def dfs (t : List RNd) : Nat → List Nat → Option (List Nat)
 | _, [] => some []
 | 0, _ :: _ => none
 | k + 1, a :: S => (dfs t k (kids (t.getD a dNd) ++ S)).map (a :: ·)
theorem nodup_len : ∀ (n : Nat) {l : List Nat}, l.Nodup → (∀ x ∈ l, x < n) → l.length ≤ n := by
 intro n
 induction n with
 | zero =>
  intro l _ hl
  cases l with
  | nil => exact zo _
  | cons a l => exact absurd (hl a (zp ..)) (Nat.not_lt_zero _)
 | succ n ih =>
  intro l h hl
  by_cases hm : n ∈ l
  ·have h1 := ih (h.erase n) (fun x hx => by
    have h2 := (h.mem_erase_iff).1 hx
    have h3 := hl x h2.2
    omega)
   rw [List.length_erase_of_mem hm] at h1
   omega
  ·have h1 := ih h (fun x hx => by
    have h3 := hl x hx
    have h4 : x ≠ n := fun e => hm (e ▸ hx)
    omega)
   omega
theorem dfs_some {t : List RNd} (h : Par t) : ∀ (k : Nat) (V S : List Nat), (V ++ S).Nodup → (∀ c ∈ V ++ S, c < t.length) → (∀ c ∈ V ++ S, c = 0 ∨ ∃ p ∈ V, c ∈ kids (t.getD p dNd)) → t.length ≤ V.length + k →
  ∃ vis, dfs t k S = some vis ∧ (V ++ vis).Nodup ∧ (∀ c ∈ vis, c < t.length) ∧ ∀ c ∈ S, c ∈ vis := by
 intro k
 induction k with
 | zero =>
  intro V S hnd hlt hp hk
  cases S with
  | nil => exact ⟨[], rfl, hnd, fun _ h => (List.not_mem_nil h).elim, fun _ h => (List.not_mem_nil h).elim⟩
  | cons a S =>
   have := nodup_len t.length hnd hlt
   rw [zl, zr] at this
   omega
 | succ k ih =>
  intro V S hnd hlt hp hk
  cases S with
  | nil => exact ⟨[], rfl, hnd, fun _ h => (List.not_mem_nil h).elim, fun _ h => (List.not_mem_nil h).elim⟩
  | cons a S =>
   have ha : a < t.length := hlt a (by simp)
   have hk1 : ∀ c ∈ kids (t.getD a dNd), c ∉ V ++ a :: S := by
    intro c hc hm
    have hr := h.rng a ha c hc
    rcases hp c hm with h0 | ⟨p, hpV, hpc⟩
    ·omega
    ·have hpl : p < t.length := hlt p (by simp [hpV])
     have e := h.uniq hpl ha hpc hc
     subst e
     have := (List.nodup_append.1 hnd).2.2 p hpV p (zp ..)
     exact this rfl
   have hnd2 : (V ++ [a] ++ (kids (t.getD a dNd) ++ S)).Nodup := by
    rw [List.nodup_append] at hnd ⊢
    obtain ⟨n1, n2, n3⟩ := hnd
    obtain ⟨n4, n5⟩ := List.nodup_cons.1 n2
    refine ⟨?_, ?_, ?_⟩
    ·rw [List.nodup_append]
     exact ⟨n1, by simp, fun x hx y hy => by rw [List.mem_singleton.1 hy]; exact n3 x hx a (zp ..)⟩
    ·rw [List.nodup_append]
     exact ⟨h.nd ha, n5, fun x hx y hy e => hk1 x hx (by rw [e]; simp [hy])⟩
    ·intro x hx y hy e
     subst e
     rcases List.mem_append.1 hy with hy | hy
     ·rcases List.mem_append.1 hx with hx | hx
      ·exact hk1 x hy (by simp [hx])
      ·rw [List.mem_singleton.1 hx] at hy; exact hk1 a hy (by simp)
     ·rcases List.mem_append.1 hx with hx | hx
      ·exact n3 x hx x (zn _ hy) rfl
      ·rw [List.mem_singleton.1 hx] at hy; exact n4 hy
   obtain ⟨vis, v1, v2, v3, v4⟩ := ih (V ++ [a]) (kids (t.getD a dNd) ++ S) hnd2 (fun c hc => by
    simp only [List.mem_append, zB] at hc
    rcases hc with (hc | hc) | (hc | hc)
    ·exact hlt c (by simp [hc])
    ·rw [hc]; exact ha
    ·exact (h.rng a ha c hc).2
    ·exact hlt c (by simp [hc])) (fun c hc => by
    simp only [List.mem_append, zB] at hc
    rcases hc with (hc | hc) | (hc | hc)
    ·rcases hp c (by simp [hc]) with h0 | ⟨p, hpV, hpc⟩
     ·exact .inl h0
     ·exact .inr ⟨p, by simp [hpV], hpc⟩
    ·rcases hp c (by simp [hc]) with h0 | ⟨p, hpV, hpc⟩
     ·exact .inl h0
     ·exact .inr ⟨p, by simp [hpV], hpc⟩
    ·exact .inr ⟨a, by simp, hc⟩
    ·rcases hp c (by simp [hc]) with h0 | ⟨p, hpV, hpc⟩
     ·exact .inl h0
     ·exact .inr ⟨p, by simp [hpV], hpc⟩) (by rw [zl, List.length_singleton]; omega)
   refine ⟨a :: vis, by rw [dfs, v1]; rfl, by rwa [List.append_assoc] at v2, fun c hc => ?_, fun c hc => ?_⟩
   ·rcases List.mem_cons.1 hc with rfl | hc
    ·exact ha
    ·exact v3 c hc
   ·rcases List.mem_cons.1 hc with rfl | hc
    ·exact zp ..
    ·exact zn _ (v4 c (List.mem_append_right _ hc))
def eB (b : Bool) : List AV := [.b b]
theorem eB_rules : (∀ x, (eB x).length = 1) ∧ (∀ h x, (eB x).map (tellC h) = eB x) ∧ (∀ h x, (eB x).map (tell0 h) = eB x) ∧ (∀ h x, (eB x).flatMap (refC h) = []) ∧ (∀ x, (eB x).flatMap ref0 = []) ∧
  (∀ x, ldC false 1 0 (eB x) = some (.b x)) := by
 refine ⟨?_, ?_, ?_, ?_, ?_, ?_⟩ <;> intros <;> rfl
theorem eB_row : type_of% (row_rules eB false 1 (fun _ => rfl) (fun _ _ => rfl)) := row_rules eB false 1 (fun _ => rfl) (fun _ _ => rfl)
theorem shape_l1 {t : List RNd} (ht : t.length ≤ 100000) (hp : Par t) : ∀ (k : Nat) (S : List Nat) (seen : List Bool) (vis : List Nat), dfs t k S = some vis → (∀ c ∈ S, c < t.length) → seen.length = t.length →
  (∀ c ∈ vis, c < t.length) → S.length + k ≤ 1000000 →
  LP FF [(9, 1), (10, 1), (0, 0)] [(9, 0)] b250_1 [.own true 1 (seen.map eB), .own true 1 (S.reverse.map eX), .l 14 (t.map eNd)] = some (.exit 4, [.l 1 ((vis.foldl (fun s a => s.set a true) seen).map eB)]) := by
 intro k
 induction k with
 | zero =>
  intro S seen vis hd hS hs hv hk
  cases S with
  | nil =>
   cases hd
   rw [List.foldl_nil]
   rw [LP_go FF b250_1.eq_1]
   simp only [RB, RL, un, St.none, Nat.reduceEqDiff, Nat.reduceAdd, Nat.reduceMul, Nat.reduceMod, Nat.reduceLeDiff, Nat.reduceLT, Int.reduceLT, Int.reduceLE, Int.reduceEq, Int.reduceToNat, Int.reduceSub, Int.reduceNeg, Int.reduceAdd, ↓reduceIte, reduceCtorEq, pack, pid, parN, lid, chkK, apartV, Heap.none, eB_rules, eB_row, eX_rules, eX_row, zh, List.reverse_nil]
  | cons a S => cases hd
 | succ k ih =>
  intro S seen vis hd hS hs hv hk
  cases S with
  | nil =>
   cases hd
   rw [List.foldl_nil]
   rw [LP_go FF b250_1.eq_1]
   simp only [RB, RL, un, St.none, Nat.reduceEqDiff, Nat.reduceAdd, Nat.reduceMul, Nat.reduceMod, Nat.reduceLeDiff, Nat.reduceLT, Int.reduceLT, Int.reduceLE, Int.reduceEq, Int.reduceToNat, Int.reduceSub, Int.reduceNeg, Int.reduceAdd, ↓reduceIte, reduceCtorEq, pack, pid, parN, lid, chkK, apartV, Heap.none, eB_rules, eB_row, eX_rules, eX_row, zh, List.reverse_nil]
  | cons a S =>
   have ha : a < t.length := hS a (zp ..)
   rw [dfs] at hd
   obtain ⟨vis', hd', rfl⟩ := Option.map_eq_some_iff.1 hd
   have hkl : (kids (t.getD a dNd)).length ≤ 2 := by unfold kids; split <;> simp
   have hv' : ∀ c ∈ vis', c < t.length := fun c hc => hv c (zn _ hc)
   have h9 := ih (kids (t.getD a dNd) ++ S) (seen.set a true) vis' hd' (fun c hc => by
    rcases List.mem_append.1 hc with hc | hc
    ·exact (hp.rng a ha c hc).2
    ·exact hS c (zn _ hc)) (by rw [zx, hs]) hv' (by
     rw [zl]; rw [zr] at hk; omega)
   rw [List.foldl_cons, List.reverse_cons]
   rw [List.reverse_append] at h9
   have hrl : S.reverse.length = S.length := List.length_reverse ..
   rw [zr] at hk
   generalize S.reverse = Q at *
   have hQ : Q.length = S.length := hrl
   have hl1 : (Q ++ [a]).length = Q.length + 1 := by rw [zl, List.length_singleton]
   have hg : (Q ++ [a]).getD Q.length 0 = a := by rw [za, List.getElem?_append_right (zo _), Nat.sub_self]; rfl
   have mt : List.take Q.length (Q ++ [a]) = Q := List.take_left
   have c0 : 0 < ((Q.length + 1 : Nat) : Int) := by omega
   have e1 : IntKind.i64.wrap (((Q.length + 1 : Nat) : Int) - 1) = (Q.length : Int) := by rw [w64 (by omega) (by omega)]; omega
   have c1 : (Q.length : Int) < ((Q.length + 1 : Nat) : Int) := by omega
   have c2 : Q.length < Q.length + 1 := by omega
   have c3 : (Q.length : Int) ≤ ((Q.length + 1 : Nat) : Int) := by omega
   have c4 : Q.length ≤ Q.length + 1 := by omega
   have d1 : (a : Int) < (t.length : Int) := by omega
   have hss : (seen.set a true).length = t.length := by rw [zx, hs]
   have hpc : putC 1 (List.map eB seen) a 0 [AV.b true] = List.map eB (seen.set a true) := eB_row.2.2.2.1 seen a true
   have hst : List.take t.length (seen.set a true) = seen.set a true := zc (by omega)
   generalize hsn : seen.set a true = seen' at *
   have hrn := hp.rng a ha
   obtain ⟨x, hx⟩ : ∃ x, x = t.getD a dNd := ⟨_, rfl⟩
   rw [← hx] at h9 hkl hrn
   have hx' := hx.symm
   obtain ⟨xl, xf, xc, xa, xb, xm, xv, xw⟩ := x
   cases xl with
   | true =>
    rw [show kids ⟨true, xf, xc, xa, xb, xm, xv, xw⟩ = [] from rfl, List.reverse_nil, List.append_nil] at h9
    rw [LP_go FF b250_1.eq_1]
    simp only [RB, RL, un, St.none, Nat.reduceEqDiff, Nat.reduceAdd, Nat.reduceMul, Nat.reduceMod, Nat.reduceLeDiff, Nat.reduceLT, Int.reduceLT, Int.reduceLE, Int.reduceEq, Int.reduceToNat, Int.reduceSub, Int.reduceNeg, Int.reduceAdd, ↓reduceIte, reduceCtorEq, pack, pid, parN, lid, chkK, apartV, Heap.none, eB_rules, eB_row, eX_rules, eX_row, eNd_rules, eNd_row, eNd, hx', zh, hl1, hg, mt, c0, e1, c1, c2, c3, c4, d1, ha, hs, hpc, hst, hss, zb, Int.le_refl]
    exact h9
   | false =>
    have r1 : 1 ≤ xb.toNat ∧ xb.toNat < t.length := hrn xb.toNat (by show _ ∈ [xb.toNat, xa.toNat]; simp)
    have r2 : 1 ≤ xa.toNat ∧ xa.toNat < t.length := hrn xa.toNat (by show _ ∈ [xb.toNat, xa.toNat]; simp)
    obtain ⟨p, rfl⟩ : ∃ p : Nat, xa = p := ⟨xa.toNat, by omega⟩
    obtain ⟨q, rfl⟩ : ∃ q : Nat, xb = q := ⟨xb.toNat, by omega⟩
    rw [show (kids ⟨false, xf, xc, (p : Int), (q : Int), xm, xv, xw⟩).reverse = [p, q] from rfl] at h9
    have m1 : List.map eX Q ++ [[AV.i .i64 (p : Int)], [AV.i .i64 (q : Int)]] = List.map eX (Q ++ [p, q]) := by rw [List.map_append]; rfl
    have m2 : List.take (Q.length + 2) (Q ++ [p, q]) = Q ++ [p, q] := zc (by rw [zl]; exact zo _)
    have b2 : (Q.length + 2) * 8 ≤ 140737488355328 := by omega
    rw [LP_go FF b250_1.eq_1]
    simp only [RB, RL, un, St.none, Nat.reduceEqDiff, Nat.reduceAdd, Nat.reduceMul, Nat.reduceMod, Nat.reduceLeDiff, Nat.reduceLT, Int.reduceLT, Int.reduceLE, Int.reduceEq, Int.reduceToNat, Int.reduceSub, Int.reduceNeg, Int.reduceAdd, ↓reduceIte, reduceCtorEq, pack, pid, parN, lid, chkK, apartV, Heap.none, eB_rules, eB_row, eX_rules, eX_row, eNd_rules, eNd_row, eNd, hx', zh, hl1, hg, mt, c0, e1, c1, c2, c3, c4, d1, ha, hs, hpc, hst, hss, zb, Int.le_refl, n64, m1, m2, b2]
    exact h9
theorem marks (vis : List Nat) : ∀ (s : List Bool) (j : Nat), (vis.foldl (fun s a => s.set a true) s).length = s.length ∧ ((vis.foldl (fun s a => s.set a true) s).getD j false = true ↔ s.getD j false = true ∨ (j ∈ vis ∧ j < s.length)) := by
 induction vis with
 | nil => intro s j; exact ⟨rfl, ⟨.inl, fun h => h.elim id fun h => (List.not_mem_nil h.1).elim⟩⟩
 | cons a vis ih =>
  intro s j
  obtain ⟨h1, h2⟩ := ih (s.set a true) j
  rw [zx] at h1 h2
  refine ⟨h1, ?_⟩
  rw [List.foldl_cons, h2]
  have e : (s.set a true).getD j false = true ↔ s.getD j false = true ∨ (j = a ∧ j < s.length) := by
   rw [za, za, List.getElem?_set]
   by_cases h : a = j
   ·subst h
    by_cases h3 : a < s.length
    ·rw [if_pos rfl, if_pos h3]; simp [h3]
    ·rw [if_pos rfl, if_neg h3, List.getElem?_eq_none (by omega)]; simp [h3]
   ·rw [if_neg h]
    constructor
    ·exact .inl
    ·rintro (k | k)
     ·exact k
     ·exact (h k.1.symm).elim
  rw [e, List.mem_cons]
  constructor
  ·rintro ((k | k) | k)
   ·exact .inl k
   ·exact .inr ⟨.inl k.1, k.2⟩
   ·exact .inr ⟨.inr k.1, k.2⟩
  ·rintro (k | ⟨k | k, k2⟩)
   ·exact .inl (.inl k)
   ·exact .inl (.inr ⟨k, k2⟩)
   ·exact .inr ⟨k, k2⟩
theorem shape_l0 {s : List Bool} (hs : s.length ≤ 100000) : ∀ (d i : Nat), i + d = s.length →
  (∃ j, j < s.length ∧ s.getD j false = false ∧ LP FF [(92, 0), (93, 0), (94, 0)] [(2, 0), (3, 0)] b250_0 [.l 1 (s.map eB), (AV.i .i64 ((s.length : Int))), (AV.i .i64 ((i : Int)))] = some (.ret, [(AV.i .i64 ((j : Int))), (AV.i .i64 11)])) ∨
  ((∀ j, i ≤ j → j < s.length → s.getD j false = true) ∧ LP FF [(92, 0), (93, 0), (94, 0)] [(2, 0), (3, 0)] b250_0 [.l 1 (s.map eB), (AV.i .i64 ((s.length : Int))), (AV.i .i64 ((i : Int)))] = some (.exit 6, [.junk, .junk])) := by
 intro d
 induction d with
 | zero =>
  intro i hi
  refine .inr ⟨fun j h1 h2 => by omega, ?_⟩
  have c1 : ¬ (i : Int) < (s.length : Int) := by omega
  rw [LP_go FF b250_0.eq_1]
  simp only [RB, RL, un, St.none, Nat.reduceEqDiff, Nat.reduceAdd, Nat.reduceMul, Nat.reduceMod, Nat.reduceLeDiff, Nat.reduceLT, Int.reduceLT, Int.reduceLE, Int.reduceEq, Int.reduceToNat, Int.reduceSub, Int.reduceNeg, Int.reduceAdd, ↓reduceIte, reduceCtorEq, pack, pid, parN, lid, chkK, apartV, Heap.none, c1]
 | succ d ih =>
  intro i hi
  have hlt : i < s.length := by omega
  have c1 : (i : Int) < (s.length : Int) := by omega
  have e2 : IntKind.i64.wrap ((i : Int) + 1) = ((i + 1 : Nat) : Int) := w64succ (by omega)
  cases h1 : s.getD i false with
  | true =>
   have step : LP FF [(92, 0), (93, 0), (94, 0)] [(2, 0), (3, 0)] b250_0 [.l 1 (s.map eB), (AV.i .i64 ((s.length : Int))), (AV.i .i64 ((i : Int)))] = LP FF [(92, 0), (93, 0), (94, 0)] [(2, 0), (3, 0)] b250_0 [.l 1 (s.map eB), (AV.i .i64 ((s.length : Int))), (AV.i .i64 (((i + 1 : Nat) : Int)))] := by
    rw [LP_go FF b250_0.eq_1]
    simp only [RB, RL, un, St.none, Nat.reduceEqDiff, Nat.reduceAdd, Nat.reduceMul, Nat.reduceMod, Nat.reduceLeDiff, Nat.reduceLT, Int.reduceLT, Int.reduceLE, Int.reduceEq, Int.reduceToNat, Int.reduceSub, Int.reduceNeg, Int.reduceAdd, ↓reduceIte, reduceCtorEq, pack, pid, parN, lid, chkK, apartV, Heap.none, c1, h1, eB_rules, eB_row, zb, e2]
   rw [step]
   rcases ih (i + 1) (by omega) with h9 | ⟨h8, h9⟩
   ·exact .inl h9
   ·exact .inr ⟨fun j a b => by
     rcases Nat.eq_or_lt_of_le a with rfl | a
     ·exact h1
     ·exact h8 j a b, h9⟩
  | false =>
   refine .inl ⟨i, hlt, h1, ?_⟩
   rw [LP_go FF b250_0.eq_1]
   simp only [RB, RL, un, St.none, Nat.reduceEqDiff, Nat.reduceAdd, Nat.reduceMul, Nat.reduceMod, Nat.reduceLeDiff, Nat.reduceLT, Int.reduceLT, Int.reduceLE, Int.reduceEq, Int.reduceToNat, Int.reduceSub, Int.reduceNeg, Int.reduceAdd, ↓reduceIte, reduceCtorEq, pack, pid, parN, lid, chkK, apartV, Heap.none, c1, h1, eB_rules, eB_row, zb, e2]
structure Shp (t : List RNd) : Prop where
 par : Par t
 all : ∃ vis, dfs t t.length [0] = some vis ∧ ∀ j, j < t.length → j ∈ vis
theorem rng_of {t : List RNd} {f : Int} (hr : t.any (bdR t.length f) = false) {n : RNd} (hn : n ∈ t) (hl : n.leaf = false) : 0 ≤ n.ft ∧ n.ft < f ∧ 1 ≤ n.lft ∧ n.lft < (t.length : Int) ∧ 1 ≤ n.rgt ∧ n.rgt < (t.length : Int) := by
 rw [List.any_eq_false] at hr
 have h := hr n hn
 unfold bdR at h
 rw [hl] at h
 simp only [Bool.not_false, Bool.true_and, Bool.or_eq_true, decide_eq_true_eq, not_or] at h
 omega
theorem kids_rng {t : List RNd} {f : Int} (hr : t.any (bdR t.length f) = false) : ∀ i, i < t.length → ∀ c ∈ kids (t.getD i dNd), 1 ≤ c ∧ c < t.length := by
 intro i hi c hc
 unfold kids at hc
 split at hc
 ·exact (List.not_mem_nil hc).elim
 ·rename_i hl
  have hl' : (t.getD i dNd).leaf = false := by simpa using hl
  have h := rng_of hr (getD_mem' dNd hi) hl'
  simp only [List.mem_cons, List.not_mem_nil, or_false] at hc
  rcases hc with rfl | rfl <;> omega
theorem shape_c {t : List RNd} {f : Int} (h1t : 1 ≤ t.length) (ht : t.length ≤ 100000) (hr : t.any (bdR t.length f) = false) : ∃ i e : Int, R FF 250 [.l 14 (t.map eNd)] = some (.tup [(AV.i .i64 i), (AV.i .i64 e)]) ∧ ((Shp t ∧ i = 0 ∧ e = 0) ∨ (¬ Shp t ∧ e = 11)) := by
 have l3 := shape_l3 ht hr t.length 0 (zj t.length 0) (by omega) (zm ..) (fun j => by
  rw [za, List.getElem?_replicate]
  split <;> simp)
 rw [zy, zz] at l3
 change LP FF [(4, 1), (0, 0), (18, 0), (19, 0), (20, 0)] [(0, 0), (4, 0)] b250_3 _ = some (Ex.exit 0, [AV.l 14 (t.map eNd), AV.l 1 ((parL t).map n64)]) at l3
 have hpl : (parL t).length = t.length := by
  have : ∀ (l : List RNd) (P : List Int), (l.foldl bump P).length = P.length := by
   intro l
   induction l with
   | nil => intro P; rfl
   | cons n l ih => intro P; rw [List.foldl_cons, ih, bump_len]
  unfold parL; rw [this, zm]
 have hpc := parL_cnt (t := t) (fun n hn hl => by have := rng_of hr hn hl; omega)
 have l2 := shape_l2 ht hpl t.length 0 (by omega)
 rw [zy] at l2
 have c0 : (0 : Int) ≤ (t.length : Int) := by omega
 have b1 : t.length * 8 ≤ 281474976710656 := by omega
 have b2 : t.length * 1 ≤ 281474976710656 := by omega
 have b3 : t.length ≤ 281474976710656 := by omega
 have tr1 : List.take t.length (zj t.length (0 : Int)) = zj t.length 0 := zc (by rw [zm]; exact zo _)
 have tr2 : List.take t.length (zj t.length false) = zj t.length false := zc (by rw [zm]; exact zo _)
 have rB : ∀ n, zj n [AV.b false] = (zj n false).map eB := fun n => by rw [List.map_replicate]; rfl
 rcases l2 with ⟨j, j0, j1, j2, l2⟩ | ⟨h2, l2⟩
 ·refine ⟨j, 11, ?_, .inr ⟨fun h => ?_, rfl⟩⟩
  ·generalize parL t = P at *
   rw [R_go FF F250 c250.eq_1]
   simp only [RB, RL, un, St.none, Nat.reduceEqDiff, Nat.reduceAdd, Nat.reduceMul, Nat.reduceMod, Nat.reduceLeDiff, Nat.reduceLT, Int.reduceLT, Int.reduceLE, Int.reduceEq, Int.reduceToNat, Int.reduceSub, Int.reduceNeg, Int.reduceAdd, ↓reduceIte, reduceCtorEq, pack, pid, parN, lid, chkK, apartV, Heap.none, tr1, tr2, l3, l2, c0, b1, b2, b3, hpl, eNd_rules, eNd_row, n64, Int.toNat_natCast]
  ·rw [hpc, h.par.one j j0 j1] at j2
   exact j2 rfl
 ·have hpar : Par t := ⟨kids_rng hr, fun j j0 j1 => by
   have := h2 j (Nat.zero_le _) j1 j0
   rw [hpc] at this
   omega⟩
  obtain ⟨vis, v1, v2, v3, v4⟩ := dfs_some hpar t.length [] [0] (by simp) (fun c hc => by
   rw [List.nil_append, zB] at hc; omega) (fun c hc => by
   rw [List.nil_append, zB] at hc; exact .inl hc) (by simp)
  have l1 := shape_l1 ht hpar t.length [0] (zj t.length false) vis v1 (fun c hc => by
   rw [zB] at hc; omega) (zm ..) v3 (by rw [List.length_singleton]; omega)
  have hm := marks vis (zj t.length false)
  have hrf : ∀ j, (zj t.length false).getD j false = false := fun j => by
   rw [za, List.getElem?_replicate]; split <;> rfl
  have hml : (vis.foldl (fun s a => s.set a true) (zj t.length false)).length = t.length := by rw [(hm 0).1, zm]
  have l0 := shape_l0 (s := vis.foldl (fun s a => s.set a true) (zj t.length false)) (by omega) _ 0 (zF _)
  rw [hml, zy] at l0
  have e10 : List.map eX [0].reverse = [[AV.i .i64 0]] := rfl
  rw [e10] at l1
  have hz : vis.foldl (fun s a => s.set a true) (zj t.length false) = vis.foldl (fun s a => s.set a true) (zj t.length false) := rfl
  rcases l0 with ⟨j, j1, j2, l0⟩ | ⟨h0, l0⟩
  ·refine ⟨j, 11, ?_, .inr ⟨fun h => ?_, rfl⟩⟩
   ·generalize vis.foldl (fun s a => s.set a true) (zj t.length false) = M at *
    generalize parL t = P at *
    rw [R_go FF F250 c250.eq_1]
    simp only [RB, RL, un, St.none, Nat.reduceEqDiff, Nat.reduceAdd, Nat.reduceMul, Nat.reduceMod, Nat.reduceLeDiff, Nat.reduceLT, Int.reduceLT, Int.reduceLE, Int.reduceEq, Int.reduceToNat, Int.reduceSub, Int.reduceNeg, Int.reduceAdd, ↓reduceIte, reduceCtorEq, pack, pid, parN, lid, chkK, apartV, Heap.none, tr1, tr2, l3, l2, l1, l0, c0, b1, b2, b3, hpl, hml, rB, eNd_rules, eNd_row, eB_rules, eB_row, eX_rules, eX_row, n64, Int.toNat_natCast]
   ·obtain ⟨vis', w1, w2⟩ := h.all
    rw [v1] at w1
    cases w1
    have h5 := (hm j).2.2 (.inr ⟨w2 j j1, by rw [zm]; exact j1⟩)
    rw [j2] at h5
    cases h5
  ·refine ⟨0, 0, ?_, .inl ⟨⟨hpar, vis, v1, fun j hj => ?_⟩, rfl, rfl⟩⟩
   ·generalize vis.foldl (fun s a => s.set a true) (zj t.length false) = M at *
    generalize parL t = P at *
    rw [R_go FF F250 c250.eq_1]
    simp only [RB, RL, un, St.none, Nat.reduceEqDiff, Nat.reduceAdd, Nat.reduceMul, Nat.reduceMod, Nat.reduceLeDiff, Nat.reduceLT, Int.reduceLT, Int.reduceLE, Int.reduceEq, Int.reduceToNat, Int.reduceSub, Int.reduceNeg, Int.reduceAdd, ↓reduceIte, reduceCtorEq, pack, pid, parN, lid, chkK, apartV, Heap.none, tr1, tr2, l3, l2, l1, l0, c0, b1, b2, b3, hpl, hml, rB, eNd_rules, eNd_row, eB_rules, eB_row, eX_rules, eX_row, n64, Int.toNat_natCast]
   ·have h5 := (hm j).2.1 (h0 j (Nat.zero_le _) hj)
    rcases h5 with h5 | h5
    ·rw [hrf] at h5; cases h5
    ·exact h5.1
def okR (f : Int) (r : Nat) (t : List RNd) : Prop := match r with
 | 0 => t.any (bdR t.length f) = false
 | 1 => Shp t
 | 2 => t.any bdC = false
 | _ => t.any (bdS t) = false
structure VT (t : List RNd) (f : Int) : Prop where
 rg : t.any (bdR t.length f) = false
 sh : Shp t
 cv : t.any bdC = false
 sm : t.any (bdS t) = false
theorem check_l1 {f : Int} {ts : List (List RNd)} {k r : Nat} (hk : k ≤ 10000000000) (h1k : 1 ≤ k) (hts : ts.length ≤ 100000) (ht : ∀ t ∈ ts, 1 ≤ t.length ∧ t.length ≤ 100000 ∧ SmT t k) (hr4 : r < 4) (hr : r = 0 ∨ ∀ t ∈ ts, t.any (bdR t.length f) = false) : ∀ (d i : Nat), i + d = ts.length →
  (∃ e a b c : Int, e ≠ 0 ∧ (∃ t ∈ ts, ¬ okR f r t) ∧ LP FF [(2, 1), (1, 0), (3, 0), (12, 0), (16, 0), (17, 0), (18, 0)] [(2, 1), (1, 0), (12, 0)] b237_1 [.ownp [(AV.i .i64 0), (AV.i .i64 0), (AV.i .i64 0), (AV.i .i64 0)], .tp (eM (f, ts)) 0, (AV.i .i64 ((r : Int))), (AV.i .i64 ((r : Int))), .l 1 (ts.map eTr), (AV.i .i64 ((ts.length : Int))), (AV.i .i64 ((i : Int)))] = some (.ret, [.ownp [(AV.i .i64 e), (AV.i .i64 a), (AV.i .i64 b), (AV.i .i64 c)], .tp (eM (f, ts)) 0, (AV.i .i64 ((r : Int)))])) ∨
  ((∀ j, i ≤ j → j < ts.length → okR f r (ts.getD j [])) ∧ LP FF [(2, 1), (1, 0), (3, 0), (12, 0), (16, 0), (17, 0), (18, 0)] [(2, 1), (1, 0), (12, 0)] b237_1 [.ownp [(AV.i .i64 0), (AV.i .i64 0), (AV.i .i64 0), (AV.i .i64 0)], .tp (eM (f, ts)) 0, (AV.i .i64 ((r : Int))), (AV.i .i64 ((r : Int))), .l 1 (ts.map eTr), (AV.i .i64 ((ts.length : Int))), (AV.i .i64 ((i : Int)))] = some (.exit 2, [.ownp [(AV.i .i64 0), (AV.i .i64 0), (AV.i .i64 0), (AV.i .i64 0)], .tp (eM (f, ts)) 0, (AV.i .i64 ((r : Int)))])) := by
 intro d
 induction d with
 | zero =>
  intro i hi
  refine .inr ⟨fun j h1 h2 => by omega, ?_⟩
  have c1 : ¬ (i : Int) < (ts.length : Int) := by omega
  simp only [eM]
  rw [LP_go FF b237_1.eq_1]
  simp only [RB, RL, un, St.none, Nat.reduceEqDiff, Nat.reduceAdd, Nat.reduceMul, Nat.reduceMod, Nat.reduceLeDiff, Nat.reduceLT, Int.reduceLT, Int.reduceLE, Int.reduceEq, Int.reduceToNat, Int.reduceSub, Int.reduceNeg, Int.reduceAdd, ↓reduceIte, reduceCtorEq, pack, pid, parN, lid, chkK, apartV, Heap.none, c1, eTr_rules, eTr_row]
 | succ d ih =>
  intro i hi
  have hlt : i < ts.length := by omega
  have hmem := getD_mem' ([] : List RNd) hlt
  obtain ⟨t1, t2, t3⟩ := ht _ hmem
  have c1 : (i : Int) < (ts.length : Int) := by omega
  have e2 : IntKind.i64.wrap ((i : Int) + 1) = ((i + 1 : Nat) : Int) := w64succ (by omega)
  have hcon : ∃ a e : Int, ((okR f r (ts.getD i []) ∧ e = 0) ∨ (¬ okR f r (ts.getD i []) ∧ e ≠ 0)) ∧
    (r = 0 → R FF 249 [.l 14 ((ts.getD i []).map eNd), (AV.i .i64 f)] = some (.tup [(AV.i .i64 a), (AV.i .i64 e)])) ∧ (r = 1 → R FF 250 [.l 14 ((ts.getD i []).map eNd)] = some (.tup [(AV.i .i64 a), (AV.i .i64 e)])) ∧
    (r = 2 → R FF 251 [.l 14 ((ts.getD i []).map eNd)] = some (.tup [(AV.i .i64 a), (AV.i .i64 e)])) ∧ (r = 3 → R FF 252 [.l 14 ((ts.getD i []).map eNd)] = some (.tup [(AV.i .i64 a), (AV.i .i64 e)])) := by
   rcases (show r = 0 ∨ r = 1 ∨ r = 2 ∨ r = 3 by omega) with rfl | rfl | rfl | rfl
   ·obtain ⟨a, h⟩ := ranges_c (f := f) t2
    refine ⟨_, _, ?_, fun _ => h, fun h => (by omega), fun h => (by omega), fun h => (by omega)⟩
    show (((ts.getD i []).any (bdR (ts.getD i []).length f) = false) ∧ _) ∨ (¬ ((ts.getD i []).any (bdR (ts.getD i []).length f) = false) ∧ _)
    cases (ts.getD i []).any (bdR (ts.getD i []).length f)
    ·exact .inl ⟨rfl, rfl⟩
    ·exact .inr ⟨by decide, by decide⟩
   ·obtain ⟨a, e, h, h2⟩ := shape_c t1 t2 (hr.resolve_left (by omega) _ hmem)
    refine ⟨a, e, ?_, fun h => (by omega), fun _ => h, fun h => (by omega), fun h => (by omega)⟩
    rcases h2 with ⟨h3, _, h4⟩ | ⟨h3, h4⟩
    ·exact .inl ⟨h3, h4⟩
    ·exact .inr ⟨h3, by omega⟩
   ·obtain ⟨a, h⟩ := covers_c hk t2 t3
    refine ⟨_, _, ?_, fun h => (by omega), fun h => (by omega), fun _ => h, fun h => (by omega)⟩
    show (((ts.getD i []).any bdC = false) ∧ _) ∨ (¬ ((ts.getD i []).any bdC = false) ∧ _)
    cases (ts.getD i []).any bdC
    ·exact .inl ⟨rfl, rfl⟩
    ·exact .inr ⟨by decide, by decide⟩
   ·obtain ⟨a, h⟩ := vsums_c hk h1k t2 t3 (hr.resolve_left (by omega) _ hmem)
    refine ⟨_, _, ?_, fun h => (by omega), fun h => (by omega), fun h => (by omega), fun _ => h⟩
    show (((ts.getD i []).any (bdS (ts.getD i [])) = false) ∧ _) ∨ (¬ ((ts.getD i []).any (bdS (ts.getD i [])) = false) ∧ _)
    cases (ts.getD i []).any (bdS (ts.getD i []))
    ·exact .inl ⟨rfl, rfl⟩
    ·exact .inr ⟨by decide, by decide⟩
  obtain ⟨a, e, he, k0, k1, k2, k3⟩ := hcon
  rcases he with ⟨h1, rfl⟩ | ⟨h1, h2⟩
  ·have step : LP FF [(2, 1), (1, 0), (3, 0), (12, 0), (16, 0), (17, 0), (18, 0)] [(2, 1), (1, 0), (12, 0)] b237_1 [.ownp [(AV.i .i64 0), (AV.i .i64 0), (AV.i .i64 0), (AV.i .i64 0)], .tp (eM (f, ts)) 0, (AV.i .i64 ((r : Int))), (AV.i .i64 ((r : Int))), .l 1 (ts.map eTr), (AV.i .i64 ((ts.length : Int))), (AV.i .i64 ((i : Int)))] = LP FF [(2, 1), (1, 0), (3, 0), (12, 0), (16, 0), (17, 0), (18, 0)] [(2, 1), (1, 0), (12, 0)] b237_1 [.ownp [(AV.i .i64 0), (AV.i .i64 0), (AV.i .i64 0), (AV.i .i64 0)], .tp (eM (f, ts)) 0, (AV.i .i64 ((r : Int))), (AV.i .i64 ((r : Int))), .l 1 (ts.map eTr), (AV.i .i64 ((ts.length : Int))), (AV.i .i64 (((i + 1 : Nat) : Int)))] := by
    simp only [eM]
    rcases (show r = 0 ∨ r = 1 ∨ r = 2 ∨ r = 3 by omega) with rfl | rfl | rfl | rfl
    ·have k0 := k0 rfl
     rw [zy]
     rw [LP_go FF b237_1.eq_1]
     simp only [RB, RL, un, St.none, Nat.reduceEqDiff, Nat.reduceAdd, Nat.reduceMul, Nat.reduceMod, Nat.reduceLeDiff, Nat.reduceLT, Int.reduceLT, Int.reduceLE, Int.reduceEq, Int.reduceToNat, Int.reduceSub, Int.reduceNeg, Int.reduceAdd, ↓reduceIte, reduceCtorEq, pack, pid, parN, lid, chkK, apartV, Heap.none, c1, e2, eTr_rules, eTr_row, zb, k0]
    ·have k1 := k1 rfl
     rw [show ((1 : Nat) : Int) = 1 from rfl]
     rw [LP_go FF b237_1.eq_1]
     simp only [RB, RL, un, St.none, Nat.reduceEqDiff, Nat.reduceAdd, Nat.reduceMul, Nat.reduceMod, Nat.reduceLeDiff, Nat.reduceLT, Int.reduceLT, Int.reduceLE, Int.reduceEq, Int.reduceToNat, Int.reduceSub, Int.reduceNeg, Int.reduceAdd, ↓reduceIte, reduceCtorEq, pack, pid, parN, lid, chkK, apartV, Heap.none, c1, e2, eTr_rules, eTr_row, zb, k1]
    ·have k2 := k2 rfl
     rw [show ((2 : Nat) : Int) = 2 from rfl]
     rw [LP_go FF b237_1.eq_1]
     simp only [RB, RL, un, St.none, Nat.reduceEqDiff, Nat.reduceAdd, Nat.reduceMul, Nat.reduceMod, Nat.reduceLeDiff, Nat.reduceLT, Int.reduceLT, Int.reduceLE, Int.reduceEq, Int.reduceToNat, Int.reduceSub, Int.reduceNeg, Int.reduceAdd, ↓reduceIte, reduceCtorEq, pack, pid, parN, lid, chkK, apartV, Heap.none, c1, e2, eTr_rules, eTr_row, zb, k2]
    ·have k3 := k3 rfl
     rw [show ((3 : Nat) : Int) = 3 from rfl]
     rw [LP_go FF b237_1.eq_1]
     simp only [RB, RL, un, St.none, Nat.reduceEqDiff, Nat.reduceAdd, Nat.reduceMul, Nat.reduceMod, Nat.reduceLeDiff, Nat.reduceLT, Int.reduceLT, Int.reduceLE, Int.reduceEq, Int.reduceToNat, Int.reduceSub, Int.reduceNeg, Int.reduceAdd, ↓reduceIte, reduceCtorEq, pack, pid, parN, lid, chkK, apartV, Heap.none, c1, e2, eTr_rules, eTr_row, zb, k3]
   rw [step]
   rcases ih (i + 1) (by omega) with h9 | ⟨h8, h9⟩
   ·exact .inl h9
   ·exact .inr ⟨fun j a b => by
     rcases Nat.eq_or_lt_of_le a with rfl | a
     ·exact h1
     ·exact h8 j a b, h9⟩
  ·have fl : R FF 253 [(AV.i .i64 e), (AV.i .i64 ((i : Int))), (AV.i .i64 a)] = some (.agg [(AV.i .i64 e), (AV.i .i64 0), (AV.i .i64 ((i : Int))), (AV.i .i64 a)]) := by
    rw [R_go FF F253 c253.eq_1]
    simp only [RB, RL, un, St.none, Nat.reduceEqDiff, Nat.reduceAdd, Nat.reduceMul, Nat.reduceMod, Nat.reduceLeDiff, Nat.reduceLT, Int.reduceLT, Int.reduceLE, Int.reduceEq, Int.reduceToNat, Int.reduceSub, Int.reduceNeg, Int.reduceAdd, ↓reduceIte, reduceCtorEq, pack, pid, parN, lid, chkK, apartV, Heap.none, n64]
   refine .inl ⟨e, 0, i, a, h2, ⟨_, hmem, h1⟩, ?_⟩
   simp only [eM]
   rcases (show r = 0 ∨ r = 1 ∨ r = 2 ∨ r = 3 by omega) with rfl | rfl | rfl | rfl
   ·have k0 := k0 rfl
    rw [zy]
    rw [LP_go FF b237_1.eq_1]
    simp only [RB, RL, un, St.none, Nat.reduceEqDiff, Nat.reduceAdd, Nat.reduceMul, Nat.reduceMod, Nat.reduceLeDiff, Nat.reduceLT, Int.reduceLT, Int.reduceLE, Int.reduceEq, Int.reduceToNat, Int.reduceSub, Int.reduceNeg, Int.reduceAdd, ↓reduceIte, reduceCtorEq, pack, pid, parN, lid, chkK, apartV, Heap.none, c1, e2, eTr_rules, eTr_row, zb, k0, h2, fl]
   ·have k1 := k1 rfl
    rw [show ((1 : Nat) : Int) = 1 from rfl]
    rw [LP_go FF b237_1.eq_1]
    simp only [RB, RL, un, St.none, Nat.reduceEqDiff, Nat.reduceAdd, Nat.reduceMul, Nat.reduceMod, Nat.reduceLeDiff, Nat.reduceLT, Int.reduceLT, Int.reduceLE, Int.reduceEq, Int.reduceToNat, Int.reduceSub, Int.reduceNeg, Int.reduceAdd, ↓reduceIte, reduceCtorEq, pack, pid, parN, lid, chkK, apartV, Heap.none, c1, e2, eTr_rules, eTr_row, zb, k1, h2, fl]
   ·have k2 := k2 rfl
    rw [show ((2 : Nat) : Int) = 2 from rfl]
    rw [LP_go FF b237_1.eq_1]
    simp only [RB, RL, un, St.none, Nat.reduceEqDiff, Nat.reduceAdd, Nat.reduceMul, Nat.reduceMod, Nat.reduceLeDiff, Nat.reduceLT, Int.reduceLT, Int.reduceLE, Int.reduceEq, Int.reduceToNat, Int.reduceSub, Int.reduceNeg, Int.reduceAdd, ↓reduceIte, reduceCtorEq, pack, pid, parN, lid, chkK, apartV, Heap.none, c1, e2, eTr_rules, eTr_row, zb, k2, h2, fl]
   ·have k3 := k3 rfl
    rw [show ((3 : Nat) : Int) = 3 from rfl]
    rw [LP_go FF b237_1.eq_1]
    simp only [RB, RL, un, St.none, Nat.reduceEqDiff, Nat.reduceAdd, Nat.reduceMul, Nat.reduceMod, Nat.reduceLeDiff, Nat.reduceLT, Int.reduceLT, Int.reduceLE, Int.reduceEq, Int.reduceToNat, Int.reduceSub, Int.reduceNeg, Int.reduceAdd, ↓reduceIte, reduceCtorEq, pack, pid, parN, lid, chkK, apartV, Heap.none, c1, e2, eTr_rules, eTr_row, zb, k3, h2, fl]
theorem check_l0 {f : Int} {ts : List (List RNd)} {k : Nat} (hk : k ≤ 10000000000) (h1k : 1 ≤ k) (hts : ts.length ≤ 100000) (ht : ∀ t ∈ ts, 1 ≤ t.length ∧ t.length ≤ 100000 ∧ SmT t k) : ∀ (d r : Nat), r + d = 4 → (∀ s, s < r → ∀ t ∈ ts, okR f s t) →
  (∃ e a b c : Int, e ≠ 0 ∧ (∃ t ∈ ts, ¬ VT t f) ∧ LP FF [(2, 1), (1, 0), (12, 0)] [(2, 1)] b237_0 [.ownp [(AV.i .i64 0), (AV.i .i64 0), (AV.i .i64 0), (AV.i .i64 0)], .tp (eM (f, ts)) 0, (AV.i .i64 ((r : Int)))] = some (.ret, [.ownp [(AV.i .i64 e), (AV.i .i64 a), (AV.i .i64 b), (AV.i .i64 c)]])) ∨
  ((∀ t ∈ ts, VT t f) ∧ LP FF [(2, 1), (1, 0), (12, 0)] [(2, 1)] b237_0 [.ownp [(AV.i .i64 0), (AV.i .i64 0), (AV.i .i64 0), (AV.i .i64 0)], .tp (eM (f, ts)) 0, (AV.i .i64 ((r : Int)))] = some (.exit 0, [.ownp [(AV.i .i64 0), (AV.i .i64 0), (AV.i .i64 0), (AV.i .i64 0)]])) := by
 intro d
 induction d with
 | zero =>
  intro r hr hs
  have hr : r = 4 := by omega
  subst hr
  refine .inr ⟨fun t h => ⟨hs 0 (by omega) t h, hs 1 (by omega) t h, hs 2 (by omega) t h, hs 3 (by omega) t h⟩, ?_⟩
  simp only [eM]
  rw [show ((4 : Nat) : Int) = 4 from rfl]
  rw [LP_go FF b237_0.eq_1]
  simp only [RB, RL, un, St.none, Nat.reduceEqDiff, Nat.reduceAdd, Nat.reduceMul, Nat.reduceMod, Nat.reduceLeDiff, Nat.reduceLT, Int.reduceLT, Int.reduceLE, Int.reduceEq, Int.reduceToNat, Int.reduceSub, Int.reduceNeg, Int.reduceAdd, ↓reduceIte, reduceCtorEq, pack, pid, parN, lid, chkK, apartV, Heap.none, eTr_rules, eTr_row]
 | succ d ih =>
  intro r hr hs
  have c1 : (r : Int) < 4 := by omega
  have e2 : IntKind.i64.wrap ((r : Int) + 1) = ((r + 1 : Nat) : Int) := w64succ (by omega)
  have l1 := check_l1 (f := f) (r := r) hk h1k hts ht (by omega) (by
   rcases Nat.eq_zero_or_pos r with h | h
   ·exact .inl h
   ·exact .inr (hs 0 h)) ts.length 0 (by omega)
  rw [zy] at l1
  rcases l1 with ⟨e, a, b, c, h1, ⟨t, h2, h3⟩, l1⟩ | ⟨h1, l1⟩
  ·refine .inl ⟨e, a, b, c, h1, ⟨t, h2, fun v => h3 ?_⟩, ?_⟩
   ·rcases (show r = 0 ∨ r = 1 ∨ r = 2 ∨ r = 3 by omega) with rfl | rfl | rfl | rfl
    ·exact v.rg
    ·exact v.sh
    ·exact v.cv
    ·exact v.sm
   ·simp only [eM] at l1 ⊢
    rw [LP_go FF b237_0.eq_1]
    simp only [RB, RL, un, St.none, Nat.reduceEqDiff, Nat.reduceAdd, Nat.reduceMul, Nat.reduceMod, Nat.reduceLeDiff, Nat.reduceLT, Int.reduceLT, Int.reduceLE, Int.reduceEq, Int.reduceToNat, Int.reduceSub, Int.reduceNeg, Int.reduceAdd, ↓reduceIte, reduceCtorEq, pack, pid, parN, lid, chkK, apartV, Heap.none, eTr_rules, eTr_row, c1, l1]
  ·have h9 := ih (r + 1) (by omega) (fun s hs' t h => by
    rcases Nat.lt_or_eq_of_le (show s ≤ r by omega) with h' | rfl
    ·exact hs s h' t h
    ·obtain ⟨i, hi, rfl⟩ := List.getElem_of_mem h
     have := h1 i (Nat.zero_le _) hi
     rwa [za, ze hi, Option.getD_some] at this)
   have step : LP FF [(2, 1), (1, 0), (12, 0)] [(2, 1)] b237_0 [.ownp [(AV.i .i64 0), (AV.i .i64 0), (AV.i .i64 0), (AV.i .i64 0)], .tp (eM (f, ts)) 0, (AV.i .i64 ((r : Int)))] = LP FF [(2, 1), (1, 0), (12, 0)] [(2, 1)] b237_0 [.ownp [(AV.i .i64 0), (AV.i .i64 0), (AV.i .i64 0), (AV.i .i64 0)], .tp (eM (f, ts)) 0, (AV.i .i64 (((r + 1 : Nat) : Int)))] := by
    simp only [eM] at l1 ⊢
    rw [LP_go FF b237_0.eq_1]
    simp only [RB, RL, un, St.none, Nat.reduceEqDiff, Nat.reduceAdd, Nat.reduceMul, Nat.reduceMod, Nat.reduceLeDiff, Nat.reduceLT, Int.reduceLT, Int.reduceLE, Int.reduceEq, Int.reduceToNat, Int.reduceSub, Int.reduceNeg, Int.reduceAdd, ↓reduceIte, reduceCtorEq, pack, pid, parN, lid, chkK, apartV, Heap.none, eTr_rules, eTr_row, c1, l1, e2]
   rw [step]
   exact h9
structure VM (m : RM) : Prop where
 fit : fitB m = true
 all : ∀ t ∈ m.2, VT t m.1
theorem ok_c {m : RM} {k : Nat} (hk : k ≤ 10000000000) (h1k : 1 ≤ k) (hts : m.2.length ≤ 100000) (ht : ∀ t ∈ m.2, t.length ≤ 100000 ∧ SmT t k) : ∃ b : Bool, R FF 211 [.agg (eM m)] = some (.b b) ∧ (b = true ↔ VM m) := by
 have f1 := fits_c hts (fun t h => (ht t h).1)
 obtain ⟨f, ts⟩ := m
 cases hf : fitB (f, ts) with
 | false =>
  refine ⟨false, ?_, ⟨fun h => (by cases h), fun h => by have := h.fit; rw [hf] at this; cases this⟩⟩
  rw [hf] at f1
  have ck : R FF 237 [.agg (eM (f, ts))] = some (.agg [(AV.i .i64 1), (AV.i .i64 0), (AV.i .i64 0), (AV.i .i64 0)]) := by
   simp only [eM] at f1 ⊢
   rw [R_go FF F237 c237.eq_1]
   simp only [RB, RL, un, St.none, Nat.reduceEqDiff, Nat.reduceAdd, Nat.reduceMul, Nat.reduceMod, Nat.reduceLeDiff, Nat.reduceLT, Int.reduceLT, Int.reduceLE, Int.reduceEq, Int.reduceToNat, Int.reduceSub, Int.reduceNeg, Int.reduceAdd, ↓reduceIte, reduceCtorEq, pack, pid, parN, lid, chkK, apartV, Heap.none, f1, n64, eTr_rules, eTr_row]
  simp only [eM] at ck ⊢
  rw [R_go FF F211 c211.eq_1]
  simp only [RB, RL, un, St.none, Nat.reduceEqDiff, Nat.reduceAdd, Nat.reduceMul, Nat.reduceMod, Nat.reduceLeDiff, Nat.reduceLT, Int.reduceLT, Int.reduceLE, Int.reduceEq, Int.reduceToNat, Int.reduceSub, Int.reduceNeg, Int.reduceAdd, ↓reduceIte, reduceCtorEq, pack, pid, parN, lid, chkK, apartV, Heap.none, ck, n64, eTr_rules, eTr_row]
 | true =>
  rw [hf] at f1
  have hb : fitB (f, ts) = !(decide (f < 0) || decide (64 < f) || decide (64 < (ts.length : Int)) || ts.any bdT) := rfl
  rw [hf] at hb
  have hT : ts.any bdT = false := by
   cases h : ts.any bdT with
   | false => rfl
   | true => rw [h, Bool.or_true] at hb; cases hb
  have ht2 : ∀ t ∈ ts, 1 ≤ t.length ∧ t.length ≤ 100000 ∧ SmT t k := fun t h => by
   have h2 := ht t h
   rw [List.any_eq_false] at hT
   have h3 := hT t h
   unfold bdT at h3
   simp only [Bool.or_eq_true, decide_eq_true_eq, not_or] at h3
   exact ⟨by omega, h2.1, h2.2⟩
  have l0 := check_l0 (f := f) hk h1k hts ht2 4 0 (by omega) (fun s h => absurd h (Nat.not_lt_zero _))
  rw [zy] at l0
  rcases l0 with ⟨e, a, b, c, h1, ⟨t, h2, h3⟩, l0⟩ | ⟨h1, l0⟩
  ·refine ⟨false, ?_, ⟨fun h => (by cases h), fun h => (h3 (h.all t h2)).elim⟩⟩
   have ck : R FF 237 [.agg (eM (f, ts))] = some (.agg [(AV.i .i64 e), (AV.i .i64 a), (AV.i .i64 b), (AV.i .i64 c)]) := by
    simp only [eM] at f1 l0 ⊢
    rw [R_go FF F237 c237.eq_1]
    simp only [RB, RL, un, St.none, Nat.reduceEqDiff, Nat.reduceAdd, Nat.reduceMul, Nat.reduceMod, Nat.reduceLeDiff, Nat.reduceLT, Int.reduceLT, Int.reduceLE, Int.reduceEq, Int.reduceToNat, Int.reduceSub, Int.reduceNeg, Int.reduceAdd, ↓reduceIte, reduceCtorEq, pack, pid, parN, lid, chkK, apartV, Heap.none, f1, l0, n64, eTr_rules, eTr_row]
   simp only [eM] at ck ⊢
   rw [R_go FF F211 c211.eq_1]
   simp only [RB, RL, un, St.none, Nat.reduceEqDiff, Nat.reduceAdd, Nat.reduceMul, Nat.reduceMod, Nat.reduceLeDiff, Nat.reduceLT, Int.reduceLT, Int.reduceLE, Int.reduceEq, Int.reduceToNat, Int.reduceSub, Int.reduceNeg, Int.reduceAdd, ↓reduceIte, reduceCtorEq, pack, pid, parN, lid, chkK, apartV, Heap.none, ck, n64, eTr_rules, eTr_row, h1]
  ·refine ⟨true, ?_, ⟨fun _ => ⟨hf, h1⟩, fun _ => rfl⟩⟩
   have ck : R FF 237 [.agg (eM (f, ts))] = some (.agg [(AV.i .i64 0), (AV.i .i64 0), (AV.i .i64 0), (AV.i .i64 0)]) := by
    simp only [eM] at f1 l0 ⊢
    rw [R_go FF F237 c237.eq_1]
    simp only [RB, RL, un, St.none, Nat.reduceEqDiff, Nat.reduceAdd, Nat.reduceMul, Nat.reduceMod, Nat.reduceLeDiff, Nat.reduceLT, Int.reduceLT, Int.reduceLE, Int.reduceEq, Int.reduceToNat, Int.reduceSub, Int.reduceNeg, Int.reduceAdd, ↓reduceIte, reduceCtorEq, pack, pid, parN, lid, chkK, apartV, Heap.none, f1, l0, n64, eTr_rules, eTr_row]
   simp only [eM] at ck ⊢
   rw [R_go FF F211 c211.eq_1]
   simp only [RB, RL, un, St.none, Nat.reduceEqDiff, Nat.reduceAdd, Nat.reduceMul, Nat.reduceMod, Nat.reduceLeDiff, Nat.reduceLT, Int.reduceLT, Int.reduceLE, Int.reduceEq, Int.reduceToNat, Int.reduceSub, Int.reduceNeg, Int.reduceAdd, ↓reduceIte, reduceCtorEq, pack, pid, parN, lid, chkK, apartV, Heap.none, ck, n64, eTr_rules, eTr_row]
theorem vtree_c {t : List RNd} {f : Int} {k : Nat} (hk : k ≤ 10000000000) (h1k : 1 ≤ k) (ht : t.length ≤ 100000) (hs : SmT t k) : ∃ b : Bool, R FF 244 [.l 14 (t.map eNd), (AV.i .i64 f)] = some (.b b) ∧ (b = true ↔ VM (f, [t])) := by
 obtain ⟨b, h1, h2⟩ := ok_c (m := (f, [t])) hk h1k (by show 1 ≤ _; omega) (fun x hx => by rw [List.mem_singleton.1 hx]; exact ⟨ht, hs⟩)
 refine ⟨b, ?_, h2⟩
 change R FF 211 [AV.agg [AV.i .i64 f, AV.l 1 [[AV.l 14 (t.map eNd)]]]] = _ at h1
 rw [R_go FF F244 c244.eq_1]
 simp only [RB, RL, un, St.none, Nat.reduceEqDiff, Nat.reduceAdd, Nat.reduceMul, Nat.reduceMod, Nat.reduceLeDiff, Nat.reduceLT, Int.reduceLT, Int.reduceLE, Int.reduceEq, Int.reduceToNat, Int.reduceSub, Int.reduceNeg, Int.reduceAdd, ↓reduceIte, reduceCtorEq, pack, pid, parN, lid, chkK, apartV, Heap.none, h1, n64]
inductive All2 (R : RNd → RNd → Prop) : List RNd → List RNd → Prop where
 | nil : All2 R [] []
 | cons {a b : RNd} {l m : List RNd} (h : R a b) (hs : All2 R l m) : All2 R (a :: l) (b :: m)
inductive Sub (T : List RNd) (f : Int) : Nat → Nat → Rat → Prop where
 | leaf {p : Nat} (hp : p < T.length) (hl : (T.getD p dNd).leaf = true) (hc : 0 < vQ (T.getD p dNd).cov) : Sub T f p (p + 1) (vQ (T.getD p dNd).cov)
 | node {p q r : Nat} {a b : Rat} (hl : (T.getD p dNd).leaf = false) (hf : 0 ≤ (T.getD p dNd).ft ∧ (T.getD p dNd).ft < f) (h1 : (T.getD p dNd).lft = ((p + 1 : Nat) : Int)) (h2 : (T.getD p dNd).rgt = (q : Int))
  (hc : vQ (T.getD p dNd).cov = a + b) (ha : Sub T f (p + 1) q a) (hb : Sub T f q r b) : Sub T f p r (a + b)
def goN (n : RNd) (row : List RC) : Bool := goV (vQ n.cut) n.miss (row.getD n.ft.toNat dC)
def nextN (n : RNd) (row : List RC) : Nat := if goN n row then n.lft.toNat else n.rgt.toNat
def walk (t : List RNd) (row : List RC) : Nat → Nat → Option Nat
 | 0, a => if (t.getD a dNd).leaf then some a else none
 | k + 1, a => if (t.getD a dNd).leaf then some a else walk t row k (nextN (t.getD a dNd) row)
theorem next_kid {n : RNd} (row : List RC) (h : n.leaf = false) : nextN n row ∈ kids n := by
 unfold nextN kids
 rw [h, if_neg (show ¬ false = true by decide)]
 split
 ·exact zn _ (zp ..)
 ·exact zp ..
theorem walk_some {t : List RNd} (h : Par t) (row : List RC) : ∀ (k : Nat) (V : List Nat) (a : Nat), (a :: V).Nodup → (∀ c ∈ a :: V, c < t.length) → (∀ c ∈ a :: V, c = 0 ∨ ∃ p ∈ V, c ∈ kids (t.getD p dNd)) → t.length ≤ V.length + k →
  ∃ b, walk t row k a = some b ∧ b < t.length ∧ (t.getD b dNd).leaf = true := by
 intro k
 induction k with
 | zero =>
  intro V a hnd hlt hp hk
  have := nodup_len t.length hnd hlt
  rw [zr] at this
  omega
 | succ k ih =>
  intro V a hnd hlt hp hk
  have ha : a < t.length := hlt a (zp ..)
  cases hl : (t.getD a dNd).leaf with
  | true => exact ⟨a, by rw [walk, if_pos hl], ha, hl⟩
  | false =>
   have hc := next_kid row hl
   have hr := h.rng a ha _ hc
   rw [walk, if_neg (by rw [hl]; decide)]
   refine ih (a :: V) _ ?_ ?_ ?_ (by rw [zr]; omega)
   ·refine List.nodup_cons.2 ⟨fun hm => ?_, hnd⟩
    rcases hp _ hm with h0 | ⟨p, hpV, hpc⟩
    ·omega
    ·have hpl : p < t.length := hlt p (zn _ hpV)
     have e := h.uniq hpl ha hpc hc
     subst e
     exact (List.nodup_cons.1 hnd).1 hpV
   ·intro c hc2
    rcases List.mem_cons.1 hc2 with rfl | hc2
    ·exact hr.2
    ·exact hlt c hc2
   ·intro c hc2
    rcases List.mem_cons.1 hc2 with rfl | hc2
    ·exact .inr ⟨a, zp .., hc⟩
    ·rcases hp c hc2 with h0 | ⟨p, hpV, hpc⟩
     ·exact .inl h0
     ·exact .inr ⟨p, zn _ hpV, hpc⟩
theorem walk_root {t : List RNd} (h : Par t) (h1 : 1 ≤ t.length) (row : List RC) : ∃ b, walk t row t.length 0 = some b ∧ b < t.length ∧ (t.getD b dNd).leaf = true :=
 walk_some h row t.length [] 0 (by simp) (fun c hc => by rw [zB] at hc; omega) (fun c hc => by rw [zB] at hc; exact .inl hc) (by simp)
def SmW (row : List RC) (k : Nat) : Prop := ∀ c ∈ row, SmQ c.2 k
theorem rnext_c {n : RNd} {row : List RC} {k : Nat} (hk : k ≤ 10000000000) (hn : SmQ n.cut k) (hr : SmW row k) (h0 : 0 ≤ n.ft) (h1 : n.ft < (row.length : Int)) : R FF 245 [.agg (eNd n), .l 4 (row.map eC)] = some (AV.i .i64 ((if goN n row then n.lft else n.rgt))) := by
 have hf : n.ft.toNat < row.length := by omega
 have f1 := rgoes_c (n := n) (x := row.getD n.ft.toNat dC) (k := k) (j := k) hn (hr _ (getD_mem' dC hf)) (by omega) (by omega)
 change R FF 246 _ = some (AV.b (goN n row)) at f1
 generalize goN n row = g at *
 obtain ⟨nl, nf, nc, na, nb, nm, nv, nw⟩ := n
 simp only [eNd, eC] at f1 h0 h1 ⊢
 cases g
 ·rw [R_go FF F245 c245.eq_1]
  simp only [RB, RL, un, St.none, Nat.reduceEqDiff, Nat.reduceAdd, Nat.reduceMul, Nat.reduceMod, Nat.reduceLeDiff, Nat.reduceLT, Int.reduceLT, Int.reduceLE, Int.reduceEq, Int.reduceToNat, Int.reduceSub, Int.reduceNeg, Int.reduceAdd, ↓reduceIte, reduceCtorEq, pack, pid, parN, lid, chkK, apartV, Heap.none, f1, h0, h1, n64, eC_rules, eC_row]
 ·rw [R_go FF F245 c245.eq_1]
  simp only [RB, RL, un, St.none, Nat.reduceEqDiff, Nat.reduceAdd, Nat.reduceMul, Nat.reduceMod, Nat.reduceLeDiff, Nat.reduceLT, Int.reduceLT, Int.reduceLE, Int.reduceEq, Int.reduceToNat, Int.reduceSub, Int.reduceNeg, Int.reduceAdd, ↓reduceIte, reduceCtorEq, pack, pid, parN, lid, chkK, apartV, Heap.none, f1, h0, h1, n64, eC_rules, eC_row]
theorem value_l0 {t : List RNd} {row : List RC} {f : Int} {k : Nat} (hk : k ≤ 10000000000) (ht : t.length ≤ 100000) (hs : SmT t k) (hr : SmW row k) (hrg : t.any (bdR t.length f) = false) (hf : (row.length : Int) = f) : ∀ (d a b : Nat), a < t.length → walk t row d a = some b →
  LP FF [(4, 1), (0, 0), (1, 0), (5, 0)] [(4, 1), (0, 0), (5, 0)] b233_0 [.ownp [.b false, .l 1 [], .l 1 []], .l 14 (t.map eNd), .l 4 (row.map eC), (AV.i .i64 ((a : Int)))] = some (.exit 0, [.ownp [.b false, .l 1 [], .l 1 []], .l 14 (t.map eNd), (AV.i .i64 ((b : Int)))]) := by
 intro d
 induction d with
 | zero =>
  intro a b ha h
  rw [walk] at h
  split at h
  ·rename_i hl
   cases h
   have c1 : (a : Int) < (t.length : Int) := by omega
   rw [LP_go FF b233_0.eq_1]
   simp only [RB, RL, un, St.none, Nat.reduceEqDiff, Nat.reduceAdd, Nat.reduceMul, Nat.reduceMod, Nat.reduceLeDiff, Nat.reduceLT, Int.reduceLT, Int.reduceLE, Int.reduceEq, Int.reduceToNat, Int.reduceSub, Int.reduceNeg, Int.reduceAdd, ↓reduceIte, reduceCtorEq, pack, pid, parN, lid, chkK, apartV, Heap.none, c1, hl, eNd_rules, eNd_row, eC_rules, eC_row, zb]
  ·cases h
 | succ d ih =>
  intro a b ha h
  have c1 : (a : Int) < (t.length : Int) := by omega
  have hmem := getD_mem' dNd ha
  cases hl : (t.getD a dNd).leaf with
  | true =>
   rw [walk, if_pos hl] at h
   cases h
   rw [LP_go FF b233_0.eq_1]
   simp only [RB, RL, un, St.none, Nat.reduceEqDiff, Nat.reduceAdd, Nat.reduceMul, Nat.reduceMod, Nat.reduceLeDiff, Nat.reduceLT, Int.reduceLT, Int.reduceLE, Int.reduceEq, Int.reduceToNat, Int.reduceSub, Int.reduceNeg, Int.reduceAdd, ↓reduceIte, reduceCtorEq, pack, pid, parN, lid, chkK, apartV, Heap.none, c1, hl, eNd_rules, eNd_row, eC_rules, eC_row, zb]
  | false =>
   rw [walk, if_neg (by rw [hl]; decide)] at h
   have hg := rng_of hrg hmem hl
   have hn : nextN (t.getD a dNd) row < t.length := by unfold nextN; split <;> omega
   have h9 := ih _ b hn h
   have f1 := rnext_c (n := t.getD a dNd) (row := row) hk (hs _ hmem).2.1 hr (by omega) (by omega)
   have e : (if goN (t.getD a dNd) row then (t.getD a dNd).lft else (t.getD a dNd).rgt) = ((nextN (t.getD a dNd) row : Nat) : Int) := by unfold nextN; split <;> omega
   rw [e] at f1
   rw [LP_go FF b233_0.eq_1]
   simp only [RB, RL, un, St.none, Nat.reduceEqDiff, Nat.reduceAdd, Nat.reduceMul, Nat.reduceMod, Nat.reduceLeDiff, Nat.reduceLT, Int.reduceLT, Int.reduceLE, Int.reduceEq, Int.reduceToNat, Int.reduceSub, Int.reduceNeg, Int.reduceAdd, ↓reduceIte, reduceCtorEq, pack, pid, parN, lid, chkK, apartV, Heap.none, c1, hl, eNd_rules, eNd_row, eC_rules, eC_row, zb, f1]
   exact h9
def valT (t : List RNd) (row : List RC) : Rat := vQ (t.getD ((walk t row t.length 0).getD 0) dNd).val
theorem value_c {t : List RNd} {row : List RC} {f : Int} {k : Nat} (hk : k ≤ 10000000000) (h1 : 1 ≤ t.length) (ht : t.length ≤ 100000) (hs : SmT t k) (hr : SmW row k) (hv : VT t f) (hf : (row.length : Int) = f) : R FF 233 [.l 14 (t.map eNd), .l 4 (row.map eC)] = some (AV.agg [AV.b (ng (zC ((valT t row)))), (AV.l 1 (List.map u (D (zD (zC ((valT t row))))))), (AV.l 1 (List.map u (D (Rat.den ((valT t row))))))]) := by
 obtain ⟨b, hb, hb1, hb2⟩ := walk_root hv.sh.par h1 row
 have l0 := value_l0 hk ht hs hr hv.rg hf t.length 0 b (by omega) hb
 have e : valT t row = vQ (t.getD b dNd).val := by unfold valT; rw [hb]; rfl
 have f1 := vclean_c (hs _ (getD_mem' dNd hb1)).2.2 (by omega)
 have c1 : (b : Int) < (t.length : Int) := by omega
 rw [← e] at f1
 rw [zy] at l0
 generalize valT t row = v at *
 rw [R_go FF F233 c233.eq_1]
 simp only [RB, RL, un, St.none, Nat.reduceEqDiff, Nat.reduceAdd, Nat.reduceMul, Nat.reduceMod, Nat.reduceLeDiff, Nat.reduceLT, Int.reduceLT, Int.reduceLE, Int.reduceEq, Int.reduceToNat, Int.reduceSub, Int.reduceNeg, Int.reduceAdd, ↓reduceIte, reduceCtorEq, pack, pid, parN, lid, chkK, apartV, Heap.none, l0, c1, f1, eNd_rules, eNd_row, zb]
def SmM (m : RM) (k : Nat) : Prop := m.2.length ≤ 1000 ∧ ∀ t ∈ m.2, t.length ≤ 100000 ∧ SmT t k
theorem vt_len {m : RM} (h : VM m) : ∀ t ∈ m.2, 1 ≤ t.length := by
 intro t ht
 have hf := h.fit
 unfold fitB at hf
 rw [Bool.not_eq_true'] at hf
 rw [Bool.or_eq_false_iff, List.any_eq_false] at hf
 have h2 := hf.2 t ht
 unfold bdT at h2
 simp only [Bool.or_eq_true, decide_eq_true_eq, not_or] at h2
 omega
theorem rfits_c {m : RM} {row : List RC} {k : Nat} (hk : k ≤ 10000000000) (h1k : 1 ≤ k) (hm : SmM m k) : ∃ e : Int, R FF 232 [.agg (eM m), .l 4 (row.map eC)] = some (AV.i .i64 e) ∧ (VM m → (row.length : Int) = m.1 → e = 0) ∧ (¬ VM m → e = 1) ∧ (VM m → (row.length : Int) ≠ m.1 → e = 14) := by
 obtain ⟨b, h1, h2⟩ := ok_c hk h1k (by have := hm.1; omega) hm.2
 obtain ⟨f, ts⟩ := m
 simp only [eM] at h1 ⊢
 cases b with
 | false =>
  refine ⟨1, ?_, fun v => (by have := h2.2 v; cases this), fun _ => rfl, fun v => (by have := h2.2 v; cases this)⟩
  rw [R_go FF F232 c232.eq_1]
  simp only [RB, RL, un, St.none, Nat.reduceEqDiff, Nat.reduceAdd, Nat.reduceMul, Nat.reduceMod, Nat.reduceLeDiff, Nat.reduceLT, Int.reduceLT, Int.reduceLE, Int.reduceEq, Int.reduceToNat, Int.reduceSub, Int.reduceNeg, Int.reduceAdd, ↓reduceIte, reduceCtorEq, pack, pid, parN, lid, chkK, apartV, Heap.none, h1, n64, eTr_rules, eTr_row, eC_rules, eC_row]
 | true =>
  by_cases hl : (row.length : Int) = f
  ·refine ⟨0, ?_, fun _ _ => rfl, fun v => (v (h2.1 rfl)).elim, fun _ h => (h hl).elim⟩
   rw [R_go FF F232 c232.eq_1]
   simp only [RB, RL, un, St.none, Nat.reduceEqDiff, Nat.reduceAdd, Nat.reduceMul, Nat.reduceMod, Nat.reduceLeDiff, Nat.reduceLT, Int.reduceLT, Int.reduceLE, Int.reduceEq, Int.reduceToNat, Int.reduceSub, Int.reduceNeg, Int.reduceAdd, ↓reduceIte, reduceCtorEq, pack, pid, parN, lid, chkK, apartV, Heap.none, h1, n64, eTr_rules, eTr_row, eC_rules, eC_row, hl]
  ·refine ⟨14, ?_, fun _ h => (hl h).elim, fun v => (v (h2.1 rfl)).elim, fun _ _ => rfl⟩
   rw [R_go FF F232 c232.eq_1]
   simp only [RB, RL, un, St.none, Nat.reduceEqDiff, Nat.reduceAdd, Nat.reduceMul, Nat.reduceMod, Nat.reduceLeDiff, Nat.reduceLT, Int.reduceLT, Int.reduceLE, Int.reduceEq, Int.reduceToNat, Int.reduceSub, Int.reduceNeg, Int.reduceAdd, ↓reduceIte, reduceCtorEq, pack, pid, parN, lid, chkK, apartV, Heap.none, h1, n64, eTr_rules, eTr_row, eC_rules, eC_row, hl]
def predV (ts : List (List RNd)) (row : List RC) : Rat := sR (ts.map fun t => valT t row)
theorem valT_sq {t : List RNd} {row : List RC} {f : Int} {k : Nat} (h1k : 1 ≤ k) (h1 : 1 ≤ t.length) (hs : SmT t k) (hv : VT t f) : sq (valT t row) ≤ k := by
 obtain ⟨b, hb, hb1, hb2⟩ := walk_root hv.sh.par h1 row
 have e : valT t row = vQ (t.getD b dNd).val := by unfold valT; rw [hb]; rfl
 rw [e]
 exact vQ_sq (hs _ (getD_mem' dNd hb1)).2.2 h1k
theorem predict_l0 {f : Int} {ts : List (List RNd)} {row : List RC} {k : Nat} (hk : k ≤ 1000000) (h1k : 1 ≤ k) (hm : SmM (f, ts) k) (hv : ∀ t ∈ ts, VT t f) (h1 : ∀ t ∈ ts, 1 ≤ t.length) (hr : SmW row k) (hf : (row.length : Int) = f) : ∀ (d i : Nat), i + d = ts.length →
  LP FF [(4, 1), (7, 1), (1, 0), (19, 0), (20, 0), (21, 0)] [(4, 1), (7, 0)] b208_0 [.ownp [.b false, .l 1 [], .l 1 []], .ownp [.b (ng (predV (ts.take i) row).num), (AV.l 1 (List.map u (D (predV (ts.take i) row).num.natAbs))), (AV.l 1 (List.map u (D (predV (ts.take i) row).den)))], .l 4 (row.map eC), .l 1 (ts.map eTr), (AV.i .i64 ((ts.length : Int))), (AV.i .i64 ((i : Int)))] =
   some (.exit 0, [.ownp [.b false, .l 1 [], .l 1 []], .tp [.b (ng (predV ts row).num), (AV.l 1 (List.map u (D (predV ts row).num.natAbs))), (AV.l 1 (List.map u (D (predV ts row).den)))] 0]) := by
 intro d
 induction d with
 | zero =>
  intro i hi
  have hi' : i = ts.length := by omega
  rw [hi', zc (zo _)]
  have c1 : ¬ (ts.length : Int) < (ts.length : Int) := by omega
  rw [LP_go FF b208_0.eq_1]
  simp only [RB, RL, un, St.none, Nat.reduceEqDiff, Nat.reduceAdd, Nat.reduceMul, Nat.reduceMod, Nat.reduceLeDiff, Nat.reduceLT, Int.reduceLT, Int.reduceLE, Int.reduceEq, Int.reduceToNat, Int.reduceSub, Int.reduceNeg, Int.reduceAdd, ↓reduceIte, reduceCtorEq, pack, pid, parN, lid, chkK, apartV, Heap.none, c1, eTr_rules, eTr_row, eC_rules, eC_row]
 | succ d ih =>
  intro i hi
  have hlt : i < ts.length := by omega
  have h9 := ih (i + 1) (by omega)
  have hmem := getD_mem' ([] : List RNd) hlt
  have hp : predV (ts.take (i + 1)) row = predV (ts.take i) row + valT (ts.getD i []) row := by
   unfold predV
   rw [List.take_add_one, ze hlt, List.map_append, za, ze hlt]
   exact sR_snoc _ _
  rw [hp] at h9
  have hl := hm.1
  have hl : ts.length ≤ 1000 := hl
  have ha : AllQ ((ts.take i).map fun t => valT t row) k := fun x hx => by
   obtain ⟨t, ht, rfl⟩ := List.mem_map.1 hx
   have ht := List.mem_of_mem_take ht
   exact valT_sq h1k (h1 t ht) (hm.2 t ht).2 (hv t ht)
  have s1 := sR_sq ha
  rw [zi] at s1
  have hti : (ts.take i).length ≤ 1000 := zw (List.length_take_le _ _) (by omega)
  have s3 := len_mul hti (show k + 1 ≤ 1000001 by omega)
  have f1 := value_c (k := k) (by omega) (h1 _ hmem) (hm.2 _ hmem).1 (hm.2 _ hmem).2 hr (hv _ hmem) hf
  have v1 := valT_sq (row := row) h1k (h1 _ hmem) (hm.2 _ hmem).2 (hv _ hmem)
  have f2 := qadd_cc (s := predV (ts.take i) row) (t := valT (ts.getD i []) row) (k := 1000001001) (j := 1000000) (by unfold predV; omega) (by omega) (by omega) (by omega)
  generalize predV (ts.take i) row = s at *
  generalize valT (ts.getD i []) row = v at *
  have c1 : (i : Int) < (ts.length : Int) := by omega
  have e2 : IntKind.i64.wrap ((i : Int) + 1) = ((i + 1 : Nat) : Int) := w64succ (by omega)
  rw [LP_go FF b208_0.eq_1]
  simp only [RB, RL, un, St.none, Nat.reduceEqDiff, Nat.reduceAdd, Nat.reduceMul, Nat.reduceMod, Nat.reduceLeDiff, Nat.reduceLT, Int.reduceLT, Int.reduceLE, Int.reduceEq, Int.reduceToNat, Int.reduceSub, Int.reduceNeg, Int.reduceAdd, ↓reduceIte, reduceCtorEq, pack, pid, parN, lid, chkK, apartV, Heap.none, c1, e2, eTr_rules, eTr_row, eC_rules, eC_row, zb, f1, f2]
  exact h9
theorem predict_c {m : RM} {row : List RC} {k : Nat} (hk : k ≤ 1000000) (h1k : 1 ≤ k) (hm : SmM m k) (hr : SmW row k) (hv : VM m) (hf : (row.length : Int) = m.1) : R FF 208 [.agg (eM m), .l 4 (row.map eC)] = some (.tup [(AV.agg [AV.b (ng (zC ((predV m.2 row)))), (AV.l 1 (List.map u (D (zD (zC ((predV m.2 row))))))), (AV.l 1 (List.map u (D (Rat.den ((predV m.2 row))))))]), (AV.i .i64 0)]) := by
 obtain ⟨e, f1, f2, _⟩ := rfits_c (row := row) (by omega) h1k hm
 rw [f2 hv hf] at f1
 have z1 := qzero_c
 have l0 := predict_l0 (f := m.1) (ts := m.2) hk h1k hm hv.all (vt_len hv) hr hf m.2.length 0 (by omega)
 obtain ⟨f, ts⟩ := m
 rw [List.take_zero, zy, show predV [] row = 0 from rfl] at l0
 simp only [eM] at f1 ⊢
 generalize predV ts row = p at *
 rw [R_go FF F208 c208.eq_1]
 simp only [RB, RL, un, St.none, Nat.reduceEqDiff, Nat.reduceAdd, Nat.reduceMul, Nat.reduceMod, Nat.reduceLeDiff, Nat.reduceLT, Int.reduceLT, Int.reduceLE, Int.reduceEq, Int.reduceToNat, Int.reduceSub, Int.reduceNeg, Int.reduceAdd, ↓reduceIte, reduceCtorEq, pack, pid, parN, lid, chkK, apartV, Heap.none, f1, z1, l0, n64, eTr_rules, eTr_row, eC_rules, eC_row]
theorem left10_c {n : RNd} {x : RC} {k j : Nat} (hc : SmQ n.cut k) (hx : SmQ x.2 j) (hk : k ≤ 100000000000) (hj : j ≤ 100000000000) : R FF 231 [.agg (eNd n), .agg (eC x)] = some (.b (!n.leaf && goV (vQ n.cut) n.miss x)) := by
 have f1 := vcmp_c hx hc hj hk
 have e : decide (vQ x.2 < vQ n.cut) = decide (qcmp (vQ x.2) (vQ n.cut) < 0) := decide_eq_decide.2 qcmp_lt.symm
 unfold goV
 rw [e]
 generalize qcmp (vQ x.2) (vQ n.cut) = z at *
 obtain ⟨lf, ft, c, a, b, m, v, w⟩ := n
 obtain ⟨a', q, l, d⟩ := x
 simp only [eNd, eC]
 cases lf
 ·cases a'
  ·rw [R_go FF F231 c231.eq_1]
   simp only [RB, RL, un, St.none, Nat.reduceEqDiff, Nat.reduceAdd, Nat.reduceMul, Nat.reduceMod, Nat.reduceLeDiff, Nat.reduceLT, Int.reduceLT, Int.reduceLE, Int.reduceEq, Int.reduceToNat, Int.reduceSub, Int.reduceNeg, Int.reduceAdd, ↓reduceIte, reduceCtorEq, pack, pid, parN, lid, chkK, apartV, Heap.none, f1, n64]
   try rfl
  ·cases m
   ·rw [R_go FF F231 c231.eq_1]
    simp only [RB, RL, un, St.none, Nat.reduceEqDiff, Nat.reduceAdd, Nat.reduceMul, Nat.reduceMod, Nat.reduceLeDiff, Nat.reduceLT, Int.reduceLT, Int.reduceLE, Int.reduceEq, Int.reduceToNat, Int.reduceSub, Int.reduceNeg, Int.reduceAdd, ↓reduceIte, reduceCtorEq, pack, pid, parN, lid, chkK, apartV, Heap.none, f1, n64]
    try rfl
   ·rw [R_go FF F231 c231.eq_1]
    simp only [RB, RL, un, St.none, Nat.reduceEqDiff, Nat.reduceAdd, Nat.reduceMul, Nat.reduceMod, Nat.reduceLeDiff, Nat.reduceLT, Int.reduceLT, Int.reduceLE, Int.reduceEq, Int.reduceToNat, Int.reduceSub, Int.reduceNeg, Int.reduceAdd, ↓reduceIte, reduceCtorEq, pack, pid, parN, lid, chkK, apartV, Heap.none, f1, n64]
    try rfl
 ·rw [R_go FF F231 c231.eq_1]
  simp only [RB, RL, un, St.none, Nat.reduceEqDiff, Nat.reduceAdd, Nat.reduceMul, Nat.reduceMod, Nat.reduceLeDiff, Nat.reduceLT, Int.reduceLT, Int.reduceLE, Int.reduceEq, Int.reduceToNat, Int.reduceSub, Int.reduceNeg, Int.reduceAdd, ↓reduceIte, reduceCtorEq, pack, pid, parN, lid, chkK, apartV, Heap.none, f1, n64]
  try rfl
theorem way10_c {t : List RNd} {row : List RC} {f : Int} {k : Nat} (hk : k ≤ 10000000000) (ht : t.length ≤ 100000) (hs : SmT t k) (hr : SmW row k) (hrg : t.any (bdR t.length f) = false) (hf : (row.length : Int) = f) : ∀ (d a b : Nat), d ≤ 100000 → a < t.length → walk t row d a = some b →
  ∃ P : List Nat, 1 ≤ P.length ∧ P.length ≤ d + 1 ∧ P.getD (P.length - 1) 0 = b ∧ R FF 206 [.l 14 (t.map eNd), (AV.i .i64 ((a : Int))), .l 4 (row.map eC)] = some (.l 1 (P.map eX)) := by
 intro d
 induction d with
 | zero =>
  intro a b hd ha h
  rw [walk] at h
  split at h
  ·rename_i hl
   cases h
   refine ⟨[a], zo _, zo _, rfl, ?_⟩
   have c1 : (a : Int) < (t.length : Int) := by omega
   have e : [[AV.i .i64 (a : Int)]] = [a].map eX := rfl
   rw [← e]
   rw [R_go FF F206 c206.eq_1]
   simp only [RB, RL, un, St.none, Nat.reduceEqDiff, Nat.reduceAdd, Nat.reduceMul, Nat.reduceMod, Nat.reduceLeDiff, Nat.reduceLT, Int.reduceLT, Int.reduceLE, Int.reduceEq, Int.reduceToNat, Int.reduceSub, Int.reduceNeg, Int.reduceAdd, ↓reduceIte, reduceCtorEq, pack, pid, parN, lid, chkK, apartV, Heap.none, c1, hl, n64, eNd_rules, eNd_row, eC_rules, eC_row, zb]
  ·cases h
 | succ d ih =>
  intro a b hd ha h
  have c1 : (a : Int) < (t.length : Int) := by omega
  have hmem := getD_mem' dNd ha
  cases hl : (t.getD a dNd).leaf with
  | true =>
   rw [walk, if_pos hl] at h
   cases h
   refine ⟨[a], zo _, by show 1 ≤ _; omega, rfl, ?_⟩
   have e : [[AV.i .i64 (a : Int)]] = [a].map eX := rfl
   rw [← e]
   rw [R_go FF F206 c206.eq_1]
   simp only [RB, RL, un, St.none, Nat.reduceEqDiff, Nat.reduceAdd, Nat.reduceMul, Nat.reduceMod, Nat.reduceLeDiff, Nat.reduceLT, Int.reduceLT, Int.reduceLE, Int.reduceEq, Int.reduceToNat, Int.reduceSub, Int.reduceNeg, Int.reduceAdd, ↓reduceIte, reduceCtorEq, pack, pid, parN, lid, chkK, apartV, Heap.none, c1, hl, n64, eNd_rules, eNd_row, eC_rules, eC_row, zb]
  | false =>
   rw [walk, if_neg (by rw [hl]; decide)] at h
   have hg := rng_of hrg hmem hl
   have hn : nextN (t.getD a dNd) row < t.length := by unfold nextN; split <;> omega
   obtain ⟨P, q1, q2, q3, q4⟩ := ih _ b (by omega) hn h
   have hft : (t.getD a dNd).ft.toNat < row.length := by omega
   have f1 := left10_c (n := t.getD a dNd) (x := row.getD (t.getD a dNd).ft.toNat dC) (k := k) (j := k) (hs _ hmem).2.1 (hr _ (getD_mem' dC hft)) (by omega) (by omega)
   rw [hl, show (!false && goV (vQ (t.getD a dNd).cut) (t.getD a dNd).miss (row.getD (t.getD a dNd).ft.toNat dC)) = goN (t.getD a dNd) row from rfl] at f1
   refine ⟨a :: P, by rw [zr]; omega, by rw [zr]; omega, ?_, ?_⟩
   ·rw [zr, show P.length + 1 - 1 = (P.length - 1) + 1 by omega]; exact q3
   ·have b2 : (1 + P.length) * 8 ≤ 140737488355328 := by omega
    have t1 : List.take (1 + P.length) ([[AV.i .i64 (a : Int)]] ++ List.map eX P) = (a :: P).map eX := by
     rw [zc (by rw [zl, zi]; exact zo _)]; rfl
    have hnx : nextN (t.getD a dNd) row = if goN (t.getD a dNd) row then (t.getD a dNd).lft.toNat else (t.getD a dNd).rgt.toNat := rfl
    obtain ⟨x, hx⟩ : ∃ x, x = t.getD a dNd := ⟨_, rfl⟩
    rw [← hx] at hl hg f1 hnx hft q4
    have hx' := hx.symm
    generalize goN x row = g at *
    obtain ⟨xl, xf, xc, xa, xb, xm, xv, xw⟩ := x
    simp only at hl hg hft
    subst hl
    have g1 : 0 ≤ xf := by omega
    have g2 : xf < (row.length : Int) := by omega
    simp only [eNd, eC] at f1
    cases g
    ·have q5 : ((nextN ⟨false, xf, xc, xa, xb, xm, xv, xw⟩ row : Nat) : Int) = xb := by rw [hnx, if_neg (by decide)]; show ((xb.toNat : Nat) : Int) = xb; omega
     rw [q5] at q4
     rw [R_go FF F206 c206.eq_1]
     simp only [RB, RL, un, St.none, Nat.reduceEqDiff, Nat.reduceAdd, Nat.reduceMul, Nat.reduceMod, Nat.reduceLeDiff, Nat.reduceLT, Int.reduceLT, Int.reduceLE, Int.reduceEq, Int.reduceToNat, Int.reduceSub, Int.reduceNeg, Int.reduceAdd, ↓reduceIte, reduceCtorEq, pack, pid, parN, lid, chkK, apartV, Heap.none, c1, hx', eNd, f1, g1, g2, n64, eNd_rules, eNd_row, eC_rules, eC_row, eX_rules, eX_row, zb, q4, b2, t1]
    ·have q5 : ((nextN ⟨false, xf, xc, xa, xb, xm, xv, xw⟩ row : Nat) : Int) = xa := by rw [hnx, if_pos rfl]; show ((xa.toNat : Nat) : Int) = xa; omega
     rw [q5] at q4
     rw [R_go FF F206 c206.eq_1]
     simp only [RB, RL, un, St.none, Nat.reduceEqDiff, Nat.reduceAdd, Nat.reduceMul, Nat.reduceMod, Nat.reduceLeDiff, Nat.reduceLT, Int.reduceLT, Int.reduceLE, Int.reduceEq, Int.reduceToNat, Int.reduceSub, Int.reduceNeg, Int.reduceAdd, ↓reduceIte, reduceCtorEq, pack, pid, parN, lid, chkK, apartV, Heap.none, c1, hx', eNd, f1, g1, g2, n64, eNd_rules, eNd_row, eC_rules, eC_row, eX_rules, eX_row, zb, q4, b2, t1]
theorem predict10_l0 {f : Int} {ts : List (List RNd)} {row : List RC} {k : Nat} (hk : k ≤ 1000000) (h1k : 1 ≤ k) (hm : SmM (f, ts) k) (hv : ∀ t ∈ ts, VT t f) (h1 : ∀ t ∈ ts, 1 ≤ t.length) (hr : SmW row k) (hf : (row.length : Int) = f) : ∀ (d i : Nat), i + d = ts.length →
  LP FF [(4, 1), (5, 1), (1, 0), (2, 0), (6, 0)] [(4, 1), (5, 0)] b201_0 [.ownp [.b false, .l 1 [], .l 1 []], .ownp [.b (ng (predV (ts.take i) row).num), (AV.l 1 (List.map u (D (predV (ts.take i) row).num.natAbs))), (AV.l 1 (List.map u (D (predV (ts.take i) row).den)))], .l 4 (row.map eC), .tp (eM (f, ts)) 0, (AV.i .i64 ((i : Int)))] =
   some (.exit 0, [.ownp [.b false, .l 1 [], .l 1 []], .tp [.b (ng (predV ts row).num), (AV.l 1 (List.map u (D (predV ts row).num.natAbs))), (AV.l 1 (List.map u (D (predV ts row).den)))] 0]) := by
 intro d
 induction d with
 | zero =>
  intro i hi
  have hi' : i = ts.length := by omega
  rw [hi', zc (zo _)]
  have c1 : ¬ (ts.length : Int) < (ts.length : Int) := by omega
  simp only [eM]
  rw [LP_go FF b201_0.eq_1]
  simp only [RB, RL, un, St.none, Nat.reduceEqDiff, Nat.reduceAdd, Nat.reduceMul, Nat.reduceMod, Nat.reduceLeDiff, Nat.reduceLT, Int.reduceLT, Int.reduceLE, Int.reduceEq, Int.reduceToNat, Int.reduceSub, Int.reduceNeg, Int.reduceAdd, ↓reduceIte, reduceCtorEq, pack, pid, parN, lid, chkK, apartV, Heap.none, c1, eTr_rules, eTr_row, eC_rules, eC_row]
 | succ d ih =>
  intro i hi
  have hlt : i < ts.length := by omega
  have h9 := ih (i + 1) (by omega)
  have hmem := getD_mem' ([] : List RNd) hlt
  have hp : predV (ts.take (i + 1)) row = predV (ts.take i) row + valT (ts.getD i []) row := by
   unfold predV
   rw [List.take_add_one, ze hlt, List.map_append, za, ze hlt]
   exact sR_snoc _ _
  rw [hp] at h9
  have hl : ts.length ≤ 1000 := hm.1
  have ha : AllQ ((ts.take i).map fun t => valT t row) k := fun x hx => by
   obtain ⟨t, ht, rfl⟩ := List.mem_map.1 hx
   have ht := List.mem_of_mem_take ht
   exact valT_sq h1k (h1 t ht) (hm.2 t ht).2 (hv t ht)
  have s1 := sR_sq ha
  rw [zi] at s1
  have hti : (ts.take i).length ≤ 1000 := zw (List.length_take_le _ _) (by omega)
  have s3 := len_mul hti (show k + 1 ≤ 1000001 by omega)
  obtain ⟨b, hb, hb1, hb2⟩ := walk_root (hv _ hmem).sh.par (h1 _ hmem) row
  obtain ⟨P, q1, q2, q3, q4⟩ := way10_c (k := k) (by omega) (hm.2 _ hmem).1 (hm.2 _ hmem).2 hr (hv _ hmem).rg hf (ts.getD i []).length 0 b (hm.2 _ hmem).1 (h1 _ hmem) hb
  have ev : valT (ts.getD i []) row = vQ ((ts.getD i []).getD b dNd).val := by unfold valT; rw [hb]; rfl
  have hval := ((hm.2 _ hmem).2 _ (getD_mem' dNd hb1)).2.2
  have f2 := qadd_v (s := predV (ts.take i) row) (x := ((ts.getD i []).getD b dNd).val) (k := 1000001001) (j := k) (by unfold predV; omega) hval (by omega) (by omega)
  rw [ev] at h9
  rw [zy] at q4
  generalize predV (ts.take i) row = s at *
  have c1 : (i : Int) < (ts.length : Int) := by omega
  have e2 : IntKind.i64.wrap ((i : Int) + 1) = ((i + 1 : Nat) : Int) := w64succ (by omega)
  have htl := (hm.2 _ hmem).1
  have e3 : IntKind.i64.wrap ((P.length : Int) - 1) = ((P.length - 1 : Nat) : Int) := by rw [w64 (by omega) (by omega)]; omega
  have c2 : ((P.length - 1 : Nat) : Int) < (P.length : Int) := by omega
  have c3 : (b : Int) < ((ts.getD i []).length : Int) := by omega
  have q3' : P.getD (P.length - 1) 0 = b := q3
  generalize vQ ((ts.getD i []).getD b dNd).val = v at *
  simp only [eM] at h9 ⊢
  rw [LP_go FF b201_0.eq_1]
  simp only [RB, RL, un, St.none, Nat.reduceEqDiff, Nat.reduceAdd, Nat.reduceMul, Nat.reduceMod, Nat.reduceLeDiff, Nat.reduceLT, Int.reduceLT, Int.reduceLE, Int.reduceEq, Int.reduceToNat, Int.reduceSub, Int.reduceNeg, Int.reduceAdd, ↓reduceIte, reduceCtorEq, pack, pid, parN, lid, chkK, apartV, Heap.none, c1, e2, e3, c2, c3, q3', eTr_rules, eTr_row, eC_rules, eC_row, eX_rules, eX_row, eNd_rules, eNd_row, zb, q4, f2]
  exact h9
theorem predict10_c {m : RM} {row : List RC} {k : Nat} (hk : k ≤ 1000000) (h1k : 1 ≤ k) (hm : SmM m k) (hr : SmW row k) (hv : VM m) (hf : (row.length : Int) = m.1) : R FF 201 [.agg (eM m), .l 4 (row.map eC)] = some (AV.agg [AV.b (ng (zC ((predV m.2 row)))), (AV.l 1 (List.map u (D (zD (zC ((predV m.2 row))))))), (AV.l 1 (List.map u (D (Rat.den ((predV m.2 row))))))]) := by
 have z1 := qzero_c
 have l0 := predict10_l0 (f := m.1) (ts := m.2) hk h1k hm hv.all (vt_len hv) hr hf m.2.length 0 (by omega)
 obtain ⟨f, ts⟩ := m
 rw [List.take_zero, zy, show predV [] row = 0 from rfl] at l0
 simp only [eM] at l0 ⊢
 generalize predV ts row = p at *
 rw [R_go FF F201 c201.eq_1]
 simp only [RB, RL, un, St.none, Nat.reduceEqDiff, Nat.reduceAdd, Nat.reduceMul, Nat.reduceMod, Nat.reduceLeDiff, Nat.reduceLT, Int.reduceLT, Int.reduceLE, Int.reduceEq, Int.reduceToNat, Int.reduceSub, Int.reduceNeg, Int.reduceAdd, ↓reduceIte, reduceCtorEq, pack, pid, parN, lid, chkK, apartV, Heap.none, z1, l0, n64, eTr_rules, eTr_row, eC_rules, eC_row]
theorem walk_mono {t : List RNd} {row : List RC} : ∀ (k a b : Nat), walk t row k a = some b → walk t row (k + 1) a = some b := by
 intro k
 induction k with
 | zero =>
  intro a b h
  rw [walk] at h
  rw [walk]
  split at h
  ·rename_i hl; rw [if_pos hl]; exact h
  ·cases h
 | succ k ih =>
  intro a b h
  rw [walk] at h
  rw [walk]
  split at h
  ·rename_i hl; rw [if_pos hl]; exact h
  ·rename_i hl; rw [if_neg hl]; exact ih _ b h
theorem walk_le {t : List RNd} {row : List RC} {k m a b : Nat} (hm : k ≤ m) (h : walk t row k a = some b) : walk t row m a = some b := by
 induction hm with
 | refl => exact h
 | step _ ih => exact walk_mono _ _ _ ih
inductive TT where
 | lf (a : Nat) : TT
 | nd (a : Nat) (l r : TT) : TT
def TT.top : TT → Nat
 | .lf a => a
 | .nd a _ _ => a
def TT.pre : TT → List Nat
 | .lf a => [a]
 | .nd a l r => a :: (r.pre ++ l.pre)
def TT.lvs : TT → List Nat
 | .lf a => [a]
 | .nd _ l r => l.lvs ++ r.lvs
def UN (t : List RNd) : TT → Prop
 | .lf a => a < t.length ∧ (t.getD a dNd).leaf = true
 | .nd a l r => a < t.length ∧ (t.getD a dNd).leaf = false ∧ l.top = (t.getD a dNd).lft.toNat ∧ r.top = (t.getD a dNd).rgt.toNat ∧ UN t l ∧ UN t r
def gl (t : List RNd) (row : List RC) : TT → Nat
 | .lf a => a
 | .nd a l r => if goN (t.getD a dNd) row then gl t row l else gl t row r
theorem gl_lvs (t : List RNd) (row : List RC) : ∀ T : TT, gl t row T ∈ T.lvs
 | .lf a => List.mem_singleton.2 rfl
 | .nd a l r => by
  rw [gl, TT.lvs]
  split
  ·exact List.mem_append.2 (.inl (gl_lvs t row l))
  ·exact List.mem_append.2 (.inr (gl_lvs t row r))
theorem lvs_pre : ∀ (T : TT) {a : Nat}, a ∈ T.lvs → a ∈ T.pre
 | .lf _, _, h => h
 | .nd b l r, a, h => by
  rw [TT.lvs] at h
  rw [TT.pre]
  rcases List.mem_append.1 h with h | h
  ·exact zn _ (List.mem_append.2 (.inr (lvs_pre l h)))
  ·exact zn _ (List.mem_append.2 (.inl (lvs_pre r h)))
theorem pre_sub {a : Nat} {l r : TT} (h : (TT.nd a l r).pre.Nodup) : l.pre.Nodup ∧ r.pre.Nodup ∧ ∀ x, x ∈ l.pre → x ∉ r.pre := by
 rw [TT.pre] at h
 have h2 := List.nodup_append.1 (List.nodup_cons.1 h).2
 exact ⟨h2.2.1, h2.1, fun x h3 h4 => h2.2.2 x h4 x h3 rfl⟩
theorem par_next {t : List RNd} (h : Par t) {V : List Nat} {a c : Nat} (hnd : (a :: V).Nodup) (hlt : ∀ c ∈ a :: V, c < t.length) (hp : ∀ c ∈ a :: V, c = 0 ∨ ∃ p ∈ V, c ∈ kids (t.getD p dNd)) (hc : c ∈ kids (t.getD a dNd)) :
  (c :: a :: V).Nodup ∧ (∀ x ∈ c :: a :: V, x < t.length) ∧ ∀ x ∈ c :: a :: V, x = 0 ∨ ∃ p ∈ a :: V, x ∈ kids (t.getD p dNd) := by
 have ha : a < t.length := hlt a (zp ..)
 have hr := h.rng a ha _ hc
 refine ⟨List.nodup_cons.2 ⟨fun hm => ?_, hnd⟩, fun x hx => ?_, fun x hx => ?_⟩
 ·rcases hp _ hm with h0 | ⟨p, hpV, hpc⟩
  ·omega
  ·have hpl : p < t.length := hlt p (zn _ hpV)
   have e := h.uniq hpl ha hpc hc
   subst e
   exact (List.nodup_cons.1 hnd).1 hpV
 ·rcases List.mem_cons.1 hx with rfl | hx
  ·exact hr.2
  ·exact hlt x hx
 ·rcases List.mem_cons.1 hx with rfl | hx
  ·exact .inr ⟨a, zp .., hc⟩
  ·rcases hp x hx with h0 | ⟨p, hpV, hpc⟩
   ·exact .inl h0
   ·exact .inr ⟨p, zn _ hpV, hpc⟩
theorem un_some {t : List RNd} (h : Par t) : ∀ (k : Nat) (V : List Nat) (a : Nat), (a :: V).Nodup → (∀ c ∈ a :: V, c < t.length) → (∀ c ∈ a :: V, c = 0 ∨ ∃ p ∈ V, c ∈ kids (t.getD p dNd)) → t.length ≤ V.length + k →
  ∃ T : TT, T.top = a ∧ UN t T := by
 intro k
 induction k with
 | zero =>
  intro V a hnd hlt hp hk
  have := nodup_len t.length hnd hlt
  rw [zr] at this
  omega
 | succ k ih =>
  intro V a hnd hlt hp hk
  have ha : a < t.length := hlt a (zp ..)
  cases hl : (t.getD a dNd).leaf with
  | true => exact ⟨.lf a, rfl, ha, hl⟩
  | false =>
   have k1 : (t.getD a dNd).lft.toNat ∈ kids (t.getD a dNd) := by unfold kids; rw [hl]; simp
   have k2 : (t.getD a dNd).rgt.toNat ∈ kids (t.getD a dNd) := by unfold kids; rw [hl]; simp
   obtain ⟨a1, a2, a3⟩ := par_next h hnd hlt hp k1
   obtain ⟨b1, b2, b3⟩ := par_next h hnd hlt hp k2
   obtain ⟨L, l1, l2⟩ := ih (a :: V) _ a1 a2 a3 (by rw [zr]; omega)
   obtain ⟨Rt, r1, r2⟩ := ih (a :: V) _ b1 b2 b3 (by rw [zr]; omega)
   exact ⟨.nd a L Rt, rfl, ha, hl, l1, r1, l2, r2⟩
theorem dfs_mono {t : List RNd} : ∀ (k : Nat) (S v : List Nat), dfs t k S = some v → dfs t (k + 1) S = some v := by
 intro k
 induction k with
 | zero =>
  intro S v h
  cases S with
  | nil => exact h
  | cons a S => cases h
 | succ k ih =>
  intro S v h
  cases S with
  | nil => exact h
  | cons a S =>
   rw [dfs] at h
   cases h2 : dfs t k (kids (t.getD a dNd) ++ S) with
   | none => rw [h2] at h; cases h
   | some w =>
    rw [h2] at h
    rw [dfs, ih _ _ h2]
    exact h
theorem dfs_le {t : List RNd} {k m : Nat} {S v : List Nat} (hm : k ≤ m) (h : dfs t k S = some v) : dfs t m S = some v := by
 induction hm with
 | refl => exact h
 | step _ ih => exact dfs_mono _ _ _ ih
theorem un_dfs {t : List RNd} : ∀ (T : TT), UN t T → ∀ k S, dfs t (k + T.pre.length) (T.top :: S) = (dfs t k S).map (T.pre ++ ·)
 | .lf a, h, k, S => by
  show dfs t (k + 1) (a :: S) = _
  rw [dfs, show kids (t.getD a dNd) = [] by unfold kids; rw [h.2]; rfl]
  rfl
 | .nd a l r, h, k, S => by
  obtain ⟨h1, h2, h3, h4, h5, h6⟩ := h
  show dfs t (k + (r.pre ++ l.pre).length + 1) (a :: S) = _
  rw [dfs, show kids (t.getD a dNd) = [r.top, l.top] by unfold kids; rw [h2, h3, h4]; rfl, zl, show k + (r.pre.length + l.pre.length) = k + l.pre.length + r.pre.length by omega]
  show (dfs t (k + l.pre.length + r.pre.length) (r.top :: l.top :: S)).map _ = _
  rw [un_dfs r h6, un_dfs l h5, Option.map_map, Option.map_map]
  congr 1
  funext x
  simp [TT.pre]
theorem unf {t : List RNd} (hs : Shp t) (h1 : 1 ≤ t.length) : ∃ T : TT, T.top = 0 ∧ UN t T ∧ T.pre.Nodup ∧ T.pre.length ≤ t.length ∧ ∀ x ∈ T.pre, x < t.length := by
 obtain ⟨T, e, hT⟩ := un_some hs.par t.length [] 0 (by simp) (fun c hc => by rw [zB] at hc; omega) (fun c hc => by rw [zB] at hc; exact .inl hc) (by simp)
 obtain ⟨vis, v1, v2, v3, v4⟩ := dfs_some hs.par t.length [] [0] (by simp) (fun c hc => by rw [List.nil_append, zB] at hc; omega) (fun c hc => by rw [List.nil_append, zB] at hc; exact .inl hc) (by simp)
 have q := un_dfs T hT t.length []
 rw [e, dfs_le (Nat.le_add_right _ _) v1, dfs] at q
 have q2 : vis = T.pre := by
  have := Option.some.inj q
  rw [this]
  exact List.append_nil _
 rw [List.nil_append, q2] at v2
 rw [q2] at v3
 exact ⟨T, e, hT, v2, nodup_len _ v2 v3, v3⟩
theorem un_walk {t : List RNd} (row : List RC) : ∀ (T : TT), UN t T → walk t row T.pre.length T.top = some (gl t row T)
 | .lf a, h => by
  show walk t row 1 a = some a
  rw [walk, if_pos h.2]
 | .nd a l r, h => by
  obtain ⟨h1, h2, h3, h4, h5, h6⟩ := h
  show walk t row ((r.pre ++ l.pre).length + 1) a = some (gl t row (.nd a l r))
  rw [walk, if_neg (by rw [h2]; decide), gl, nextN, zl]
  cases goN (t.getD a dNd) row
  ·rw [if_neg (by decide), if_neg (by decide), ← h4]
   exact walk_le (by omega) (un_walk row r h6)
  ·rw [if_pos rfl, if_pos rfl, ← h3]
   exact walk_le (by omega) (un_walk row l h5)
theorem un_walk' {t : List RNd} {T : TT} (row : List RC) (e : T.top = 0) (h : UN t T) (hl : T.pre.length ≤ t.length) : walk t row t.length 0 = some (gl t row T) := by
 rw [← e]; exact walk_le hl (un_walk row T h)
theorem valT_gl {t : List RNd} {T : TT} (row : List RC) (e : T.top = 0) (h : UN t T) (hl : T.pre.length ≤ t.length) : valT t row = vQ (t.getD (gl t row T) dNd).val := by
 unfold valT
 rw [un_walk' row e h hl]; rfl
theorem un_lvs {t : List RNd} : ∀ (T : TT), UN t T → ∀ a ∈ T.lvs, a < t.length ∧ (t.getD a dNd).leaf = true
 | .lf a, h, b, hb => by rw [List.mem_singleton.1 hb]; exact h
 | .nd a l r, h, b, hb => by
  obtain ⟨h1, h2, h3, h4, h5, h6⟩ := h
  rcases List.mem_append.1 hb with hb | hb
  ·exact un_lvs l h5 b hb
  ·exact un_lvs r h6 b hb
abbrev dS : RS := (false, false, (false, [], []), (false, [], []), false)
theorem eS_rules : (∀ x, (eS x).length = 9) ∧ (∀ h x, (eS x).map (tellC h) = eS x) ∧ (∀ h x, (eS x).map (tell0 h) = eS x) ∧ (∀ h x, (eS x).flatMap (refC h) = []) ∧ (∀ x, (eS x).flatMap ref0 = []) ∧
  (∀ x, ldC true 9 0 (eS x) = some (.agg [.b x.1, .b x.2.1, .b x.2.2.1.1, .l 1 (x.2.2.1.2.1.map u), .l 1 (x.2.2.1.2.2.map u), .b x.2.2.2.1.1, .l 1 (x.2.2.2.1.2.1.map u), .l 1 (x.2.2.2.1.2.2.map u), .b x.2.2.2.2])) := by
 refine ⟨?_, ?_, ?_, ?_, ?_, ?_⟩ <;> intros <;> rfl
theorem eS_row : type_of% (row_rules eS dS 9 (fun _ => rfl) (fun _ _ => rfl)) := row_rules eS dS 9 (fun _ => rfl) (fun _ _ => rfl)
def hF (b : List RS) (r : List RC) : Nat → Nat → Bool
 | _, 0 => true
 | i, d + 1 => inV (b.getD i dS) (r.getD i dC) && hF b r (i + 1) d
def SmB (b : List RS) (k : Nat) : Prop := ∀ x ∈ b, SmS x k
def SmR (r : List RC) (k : Nat) : Prop := ∀ x ∈ r, SmQ x.2 k
def inB (b : List RS) (r : List RC) : Bool := decide (b.length = r.length) && hF b r 0 r.length
theorem with_c {b : List RS} {i : Nat} {s : RS} {k : Nat} (hk : k ≤ 100000000000) (hs : SmS s k) (hi : i < b.length) (hn : b.length ≤ 100000000000) : R FF 36 [.l 9 (b.map eS), (AV.i .i64 ((i : Int))), .agg (eS s)] = some (.tup [.l 9 ((b.set i (cS s)).map eS), (AV.i .i64 0)]) := by
 have g1 := bclean_c hk hs
 have c1 : ¬ (i : Int) < 0 := by omega
 have c2 : ¬ (b.length : Int) ≤ (i : Int) := by omega
 have c3 : (i : Int) < (b.length : Int) := by omega
 have b2 : b.length * 128 ≤ 140737488355328 := by omega
 rw [eS, eS] at g1
 rw [eS]
 rw [R_go FF F36 c36.eq_1]
 simp only [RB, RL, un, St.none, Nat.reduceEqDiff, Nat.reduceAdd, Nat.reduceMul, Nat.reduceMod, Nat.reduceLeDiff, Nat.reduceLT, Int.reduceLT, Int.reduceLE, Int.reduceEq, Int.reduceToNat, Int.reduceSub, Int.reduceNeg, Int.reduceAdd, ↓reduceIte, reduceCtorEq, pack, pid, parN, lid, chkK, apartV, Heap.none, c1, c2, c3, eS_rules, eS_row, zb, g1, b2]
 rw [if_pos hi]
 show some (AV.tup [.l 9 (List.take b.length (putC 9 (List.map eS b) i 0 (eS (cS s)))), (AV.i .i64 0)]) = _
 rw [eS_row.2.2.2.1, zc (by rw [zi, zx]; exact zo _)]
theorem hF_congr {b b' : List RS} {r : List RC} : ∀ (d i : Nat), (∀ j, i ≤ j → j < i + d → inV (b.getD j dS) (r.getD j dC) = inV (b'.getD j dS) (r.getD j dC)) → hF b r i d = hF b' r i d := by
 intro d
 induction d with
 | zero => intro i _; rfl
 | succ d ih =>
  intro i h
  unfold hF
  rw [h i (by omega) (by omega), ih (i + 1) fun j h1 h2 => h j (by omega) (by omega)]
theorem getD_set' {α : Type} (l : List α) (i j : Nat) (x d : α) : (l.set i x).getD j d = if i = j ∧ j < l.length then x else l.getD j d := by
 rw [za, List.getElem?_set]
 by_cases h : i = j
 ·subst h
  by_cases h2 : i < l.length
  ·simp [h2]
  ·simp [h2, za]
 ·simp [h, za]
theorem inB_set {b : List RS} {i : Nat} {s : RS} {r : List RC} : inB (b.set i (cS s)) r = inB (b.set i s) r := by
 unfold inB
 rw [zx, zx]
 congr 1
 refine hF_congr _ _ fun j _ _ => ?_
 rw [getD_set', getD_set']
 split
 ·exact inV_cS s _
 ·rfl
theorem set_sm {b : List RS} {i k : Nat} {s : RS} (h1 : SmB b k) (hs : SmS s k) : SmB (b.set i s) k := fun x hx => by
 rcases List.mem_or_eq_of_mem_set hx with h | h
 ·exact h1 x h
 ·rw [h]; exact hs
theorem few_smR {l : List RC} (hu : ∀ x ∈ l, OkC x) (n : Nat) : SmR ((l.take n).map t3) 3 := fun x hx => by
 obtain ⟨y, hy, rfl⟩ := List.mem_map.1 hx
 exact Sm.take (k := maxL) (hu y (List.mem_of_mem_take hy)) 3
def vF (b : List RS) : Nat → Nat → Bool
 | _, 0 => false
 | i, d + 1 => empV (b.getD i dS) || vF b (i + 1) d
theorem void_l0 {b : List RS} {n k : Nat} (hk : k ≤ 100000000000) (hb : b.length = n) (hn : n ≤ 100000000000) (h1 : SmB b k) : ∀ (d i : Nat), i + d = n →
  LP FF [(5, 0), (6, 0), (7, 0)] [(2, 0)] b51_0 [.l 9 (b.map eS), (AV.i .i64 ((n : Int))), (AV.i .i64 ((i : Int)))] = some (if vF b i d then (.ret, [.b true]) else (.exit 0, [.junk])) := by
 intro d
 induction d with
 | zero =>
  intro i hi
  obtain rfl : i = n := by omega
  have c1 : ¬ (i : Int) < (i : Int) := by omega
  simp only [vF, zA, if_false]
  rw [LP_go FF b51_0.eq_1]
  simp only [RB, RL, un, St.none, Nat.reduceEqDiff, Nat.reduceAdd, Nat.reduceMul, Nat.reduceMod, Nat.reduceLeDiff, Nat.reduceLT, Int.reduceLT, Int.reduceLE, Int.reduceEq, Int.reduceToNat, Int.reduceSub, Int.reduceNeg, Int.reduceAdd, ↓reduceIte, reduceCtorEq, pack, pid, parN, lid, chkK, apartV, Heap.none, c1]
 | succ d ih =>
  intro i hi
  have h9 := ih (i + 1) (by omega)
  have c0 : (i : Int) < (n : Int) := by omega
  have c2 : (i : Int) < (b.length : Int) := by omega
  have e1 : IntKind.i64.wrap ((i : Int) + 1) = ((i + 1 : Nat) : Int) := w64succ (by omega)
  have hb1 := h1 (b.getD i dS) (getD_mem' dS (by omega))
  have g1 := empty_c hk hb1
  rw [eS] at g1
  unfold vF
  cases hv : empV (b.getD i dS) <;> rw [hv] at g1
  ·simp only [Bool.false_or]
   rw [LP_go FF b51_0.eq_1]
   simp only [RB, RL, un, St.none, Nat.reduceEqDiff, Nat.reduceAdd, Nat.reduceMul, Nat.reduceMod, Nat.reduceLeDiff, Nat.reduceLT, Int.reduceLT, Int.reduceLE, Int.reduceEq, Int.reduceToNat, Int.reduceSub, Int.reduceNeg, Int.reduceAdd, ↓reduceIte, reduceCtorEq, pack, pid, parN, lid, chkK, apartV, Heap.none, c0, c2, e1, eS_rules, eS_row, zb, g1]
   exact h9
  ·simp only [Bool.true_or, if_true]
   rw [LP_go FF b51_0.eq_1]
   simp only [RB, RL, un, St.none, Nat.reduceEqDiff, Nat.reduceAdd, Nat.reduceMul, Nat.reduceMod, Nat.reduceLeDiff, Nat.reduceLT, Int.reduceLT, Int.reduceLE, Int.reduceEq, Int.reduceToNat, Int.reduceSub, Int.reduceNeg, Int.reduceAdd, ↓reduceIte, reduceCtorEq, pack, pid, parN, lid, chkK, apartV, Heap.none, c0, c2, e1, eS_rules, eS_row, zb, g1]
theorem void_c {b : List RS} {k : Nat} (hk : k ≤ 100000000000) (hn : b.length ≤ 100000000000) (h1 : SmB b k) : R FF 51 [.l 9 (b.map eS)] = some (.b (vF b 0 b.length)) := by
 have l0 := void_l0 hk rfl hn h1 b.length 0 (by omega)
 rw [zy] at l0
 cases hv : vF b 0 b.length <;> rw [hv] at l0 <;> simp only [if_true, zA, if_false] at l0 <;>
 (rw [R_go FF F51 c51.eq_1]
  simp only [RB, RL, un, St.none, Nat.reduceEqDiff, Nat.reduceAdd, Nat.reduceMul, Nat.reduceMod, Nat.reduceLeDiff, Nat.reduceLT, Int.reduceLT, Int.reduceLE, Int.reduceEq, Int.reduceToNat, Int.reduceSub, Int.reduceNeg, Int.reduceAdd, ↓reduceIte, reduceCtorEq, pack, pid, parN, lid, chkK, apartV, Heap.none, l0])
def rB (b : List RS) (i : Nat) : List RC := (List.range i).map fun j => someV (b.getD j dS)
theorem rB_len (b : List RS) (i : Nat) : (rB b i).length = i := by simp [rB]
theorem rB_succ (b : List RS) (i : Nat) : rB b (i + 1) = rB b i ++ [someV (b.getD i dS)] := by simp [rB, List.range_succ]
theorem rB_get (b : List RS) {i j : Nat} (h : j < i) : (rB b i).getD j dC = someV (b.getD j dS) := by simp [rB, za, h]
theorem row_l0 {b : List RS} {n k : Nat} (hk : k ≤ 40000000000) (h1k : 1 ≤ k) (hb : b.length = n) (hn : n ≤ 100000000000) (h1 : SmB b k) : ∀ (d i : Nat), i + d = n →
  ∃ a, LP FF [(4, 1), (9, 0), (10, 0), (11, 0)] [(2, 0), (3, 0), (4, 0)] b52_0 [.own true 4 ((rB b i).map eC), .l 9 (b.map eS), (AV.i .i64 ((n : Int))), (AV.i .i64 ((i : Int)))] = some (if vF b i d then (.ret, [.l 4 [], .b false, a]) else (.exit 0, [.junk, .junk, .l 4 ((rB b n).map eC)])) := by
 intro d
 induction d with
 | zero =>
  intro i hi
  obtain rfl : i = n := by omega
  have c1 : ¬ (i : Int) < (i : Int) := by omega
  simp only [vF, zA, if_false]
  refine ⟨.junk, ?_⟩
  rw [LP_go FF b52_0.eq_1]
  simp only [RB, RL, un, St.none, Nat.reduceEqDiff, Nat.reduceAdd, Nat.reduceMul, Nat.reduceMod, Nat.reduceLeDiff, Nat.reduceLT, Int.reduceLT, Int.reduceLE, Int.reduceEq, Int.reduceToNat, Int.reduceSub, Int.reduceNeg, Int.reduceAdd, ↓reduceIte, reduceCtorEq, pack, pid, parN, lid, chkK, apartV, Heap.none, c1]
 | succ d ih =>
  intro i hi
  obtain ⟨a, h9⟩ := ih (i + 1) (by omega)
  have c0 : (i : Int) < (n : Int) := by omega
  have c2 : (i : Int) < (b.length : Int) := by omega
  have e1 : IntKind.i64.wrap ((i : Int) + 1) = ((i + 1 : Nat) : Int) := w64succ (by omega)
  have hb1 := h1 (b.getD i dS) (getD_mem' dS (by omega))
  unfold vF
  cases hv : empV (b.getD i dS)
  ·have g1 := some_c hk h1k hb1 hv
   rw [eS, eC] at g1
   rw [rB_succ] at h9
   have hlen := rB_len b i
   have b2 : (i + 1) * 64 ≤ 140737488355328 := by omega
   have m2 : ∀ y : RC, List.take (i + 1) (rB b i ++ [y]) = rB b i ++ [y] := fun y => zc (by rw [zl, hlen]; simp)
   have m3 : List.take i (rB b i) = rB b i := zc (by omega)
   have m1 : ∀ y : RC, List.map eC (rB b i) ++ [[.b y.1, .b y.2.1, .l 1 (y.2.2.1.map u), .l 1 (y.2.2.2.map u)]] = List.map eC (rB b i ++ [y]) := fun y => by rw [List.map_append]; rfl
   have m1' := m1 (someV (b.getD i dS))
   generalize someV (b.getD i dS) = y at *
   simp only [Bool.false_or]
   refine ⟨a, ?_⟩
   rw [LP_go FF b52_0.eq_1]
   simp only [RB, RL, un, St.none, Nat.reduceEqDiff, Nat.reduceAdd, Nat.reduceMul, Nat.reduceMod, Nat.reduceLeDiff, Nat.reduceLT, Int.reduceLT, Int.reduceLE, Int.reduceEq, Int.reduceToNat, Int.reduceSub, Int.reduceNeg, Int.reduceAdd, ↓reduceIte, reduceCtorEq, pack, pid, parN, lid, chkK, apartV, Heap.none, c0, c2, e1, eS_rules, eS_row, eC_rules, eC_row, zb, g1, hlen, b2, m3, m1', m2]
   exact h9
  ·have g1 := some_none hk hb1 hv
   rw [eS] at g1
   simp only [Bool.true_or, if_true]
   refine ⟨.l 4 (List.map eC (rB b i)), ?_⟩
   rw [LP_go FF b52_0.eq_1]
   simp only [RB, RL, un, St.none, Nat.reduceEqDiff, Nat.reduceAdd, Nat.reduceMul, Nat.reduceMod, Nat.reduceLeDiff, Nat.reduceLT, Int.reduceLT, Int.reduceLE, Int.reduceEq, Int.reduceToNat, Int.reduceSub, Int.reduceNeg, Int.reduceAdd, ↓reduceIte, reduceCtorEq, pack, pid, parN, lid, chkK, apartV, Heap.none, c0, c2, e1, eS_rules, eS_row, zb, g1]
theorem row_c {b : List RS} {k : Nat} (hk : k ≤ 40000000000) (h1k : 1 ≤ k) (hn : b.length ≤ 100000000000) (h1 : SmB b k) (hv : vF b 0 b.length = false) : R FF 52 [.l 9 (b.map eS)] = some (.tup [.l 4 ((rB b b.length).map eC), .b true]) := by
 obtain ⟨a, l0⟩ := row_l0 hk h1k rfl hn h1 b.length 0 (by omega)
 rw [zy, show rB b 0 = [] from rfl, hv] at l0
 simp only [List.map_nil, zA, if_false] at l0
 rw [R_go FF F52 c52.eq_1]
 simp only [RB, RL, un, St.none, Nat.reduceEqDiff, Nat.reduceAdd, Nat.reduceMul, Nat.reduceMod, Nat.reduceLeDiff, Nat.reduceLT, Int.reduceLT, Int.reduceLE, Int.reduceEq, Int.reduceToNat, Int.reduceSub, Int.reduceNeg, Int.reduceAdd, ↓reduceIte, reduceCtorEq, pack, pid, parN, lid, chkK, apartV, Heap.none, l0]
theorem hF_vF {b : List RS} {r : List RC} : ∀ (d i : Nat), hF b r i d = true → vF b i d = false := by
 intro d
 induction d with
 | zero => intro i _; rfl
 | succ d ih =>
  intro i h
  unfold hF at h
  unfold vF
  simp only [zd] at h
  rw [in_num h.1, ih _ h.2]; rfl
theorem rB_hF {b : List RS} {n : Nat} : ∀ (d i : Nat), i + d = n → vF b i d = false → hF b (rB b n) i d = true := by
 intro d
 induction d with
 | zero => intro i _ _; rfl
 | succ d ih =>
  intro i hi h
  unfold vF at h
  unfold hF
  simp only [Bool.or_eq_false_iff] at h
  rw [rB_get b (by omega), in_some h.1, ih (i + 1) (by omega) h.2]; rfl
theorem rB_sm {b : List RS} {k : Nat} (hk : 1 ≤ k) (h : SmB b k) : SmR (rB b b.length) (k + 2) := by
 intro x hx
 unfold rB at hx
 obtain ⟨j, hj, rfl⟩ := List.mem_map.1 hx
 exact someV_sm (h _ (getD_mem' dS (List.mem_range.1 hj))) hk
theorem hF_iff {b : List RS} {r : List RC} : ∀ (d i : Nat), hF b r i d = true ↔ ∀ j, i ≤ j → j < i + d → inV (b.getD j dS) (r.getD j dC) = true := by
 intro d
 induction d with
 | zero => intro i; exact ⟨fun _ j h1 h2 => by omega, fun _ => rfl⟩
 | succ d ih =>
  intro i
  rw [hF, zd, ih]
  constructor
  ·intro h j h1 h2
   rcases Nat.eq_or_lt_of_le h1 with rfl | h3
   ·exact h.1
   ·exact h.2 j h3 (by omega)
  ·intro h
   exact ⟨h i (zo _) (by omega), fun j h1 h2 => h j (by omega) (by omega)⟩
theorem inB_iff {b : List RS} {r : List RC} : inB b r = true ↔ b.length = r.length ∧ ∀ j, j < r.length → inV (b.getD j dS) (r.getD j dC) = true := by
 unfold inB
 rw [zd, decide_eq_true_eq, hF_iff]
 exact ⟨fun h => ⟨h.1, fun j hj => h.2 j (Nat.zero_le _) (by omega)⟩, fun h => ⟨h.1, fun j _ hj => h.2 j (by omega)⟩⟩
theorem vF_iff {b : List RS} : ∀ (d i : Nat), vF b i d = false ↔ ∀ j, i ≤ j → j < i + d → empV (b.getD j dS) = false := by
 intro d
 induction d with
 | zero => intro i; exact ⟨fun _ j h1 h2 => by omega, fun _ => rfl⟩
 | succ d ih =>
  intro i
  rw [vF, Bool.or_eq_false_iff, ih]
  constructor
  ·intro h j h1 h2
   rcases Nat.eq_or_lt_of_le h1 with rfl | h3
   ·exact h.1
   ·exact h.2 j h3 (by omega)
  ·intro h
   exact ⟨h i (zo _) (by omega), fun j h1 h2 => h j (by omega) (by omega)⟩
def sdV (b : List RS) (n : RNd) (left : Bool) : RS := if left then belV (b.getD n.ft.toNat dS) n.cut n.miss else abvV (b.getD n.ft.toNat dS) n.cut (!n.miss)
def partB (b : List RS) (n : RNd) (left : Bool) : List RS := b.set n.ft.toNat (cS (sdV b n left))
theorem prtB_len (b : List RS) (n : RNd) (left : Bool) : (partB b n left).length = b.length := zx
theorem sd_in (b : List RS) (n : RNd) (left : Bool) (row : List RC) : inV (sdV b n left) (row.getD n.ft.toNat dC) = (inV (b.getD n.ft.toNat dS) (row.getD n.ft.toNat dC) && (goN n row == left)) := by
 unfold sdV goN goV
 generalize row.getD n.ft.toNat dC = c
 cases left
 ·rw [if_neg (by decide), abv_in]
  obtain ⟨m, w⟩ := c
  cases m <;> simp
 ·rw [if_pos rfl, bel_in]
  obtain ⟨m, w⟩ := c
  cases m <;> simp
theorem part_in {b : List RS} {n : RNd} {left : Bool} {row : List RC} (hf : n.ft.toNat < b.length) : inB (partB b n left) row = (inB b row && (goN n row == left)) := by
 unfold partB
 rw [inB_set, Bool.eq_iff_iff, zd, inB_iff, inB_iff, zx]
 constructor
 ·intro h
  have h2 := h.2 n.ft.toNat (by omega)
  rw [getD_set', if_pos ⟨rfl, hf⟩, sd_in, zd] at h2
  refine ⟨⟨h.1, fun j hj => ?_⟩, h2.2⟩
  have h3 := h.2 j hj
  rw [getD_set'] at h3
  split at h3
  ·rename_i e
   rw [← e.1]; exact h2.1
  ·exact h3
 ·intro h
  refine ⟨h.1.1, fun j hj => ?_⟩
  rw [getD_set']
  split
  ·rename_i e
   rw [← e.1, sd_in, h.1.2 _ (by omega), h.2]; rfl
  ·exact h.1.2 j hj
theorem part_emp {b : List RS} {n : RNd} {left : Bool} {row : List RC} (hf : n.ft.toNat < b.length) (he : empV (sdV b n left) = true) (hb : inB b row = true) : ¬ goN n row = left := by
 intro hg
 have h1 := part_in (b := b) (n := n) (left := left) (row := row) hf
 rw [hb, hg, beq_self_eq_true, Bool.and_true] at h1
 unfold partB at h1
 rw [inB_set, inB_iff] at h1
 have hl := h1.1
 rw [zx] at hl
 have h2 := h1.2 n.ft.toNat (by omega)
 rw [getD_set', if_pos ⟨rfl, hf⟩] at h2
 rw [in_num h2] at he
 cases he
theorem emp_cS (s : RS) : empV (cS s) = empV s := by
 obtain ⟨hl, hh, x, y, ms⟩ := s
 unfold empV numV cS
 cases hl <;> cases hh <;> simp [vQ_cQ]
theorem part_void {b : List RS} {n : RNd} {left : Bool} (hf : n.ft.toNat < b.length) (he : empV (sdV b n left) = false) (hv : vF b 0 b.length = false) : vF (partB b n left) 0 (partB b n left).length = false := by
 rw [vF_iff] at hv ⊢
 intro j h1 h2
 unfold partB
 rw [getD_set']
 split
 ·rw [emp_cS]; exact he
 ·rw [prtB_len] at h2; exact hv j h1 h2
theorem sd_sm {b : List RS} {n : RNd} {left : Bool} {k : Nat} (h : SmB b k) (hc : SmQ n.cut k) (hk : 1 ≤ k) (hf : n.ft.toNat < b.length) : SmS (sdV b n left) k := by
 have h1 := h _ (getD_mem' dS hf)
 unfold sdV
 cases left
 ·exact abv_sm h1 hc hk
 ·exact bel_sm h1 hc hk
theorem part_sm {b : List RS} {n : RNd} {left : Bool} {k : Nat} (h : SmB b k) (hc : SmQ n.cut k) (hk : 1 ≤ k) (hf : n.ft.toNat < b.length) : SmB (partB b n left) k :=
 set_sm h (cS_sm (sd_sm h hc hk hf) hk)
def regV (t : List RNd) : TT → List RS → List (Nat × List RS)
 | .lf a, b => [(a, b)]
 | .nd a l r, b => (if empV (sdV b (t.getD a dNd) true) then [] else regV t l (partB b (t.getD a dNd) true)) ++ (if empV (sdV b (t.getD a dNd) false) then [] else regV t r (partB b (t.getD a dNd) false))
theorem un_ft {t : List RNd} {f : Int} {n : Nat} (hrg : t.any (bdR t.length f) = false) (hn : (n : Int) = f) {a : Nat} (ha : a < t.length) (hl : (t.getD a dNd).leaf = false) : (t.getD a dNd).ft.toNat < n ∧ 0 ≤ (t.getD a dNd).ft := by
 have := rng_of hrg (getD_mem' dNd ha) hl
 omega
theorem reg_mem {t : List RNd} : ∀ (T : TT) (b : List RS) {x : Nat × List RS}, x ∈ regV t T b → x.1 ∈ T.lvs
 | .lf a, b, x, h => by rw [List.mem_singleton.1 h]; exact List.mem_singleton.2 rfl
 | .nd a l r, b, x, h => by
  rw [regV] at h
  rw [TT.lvs]
  rcases List.mem_append.1 h with h | h
  ·split at h
   ·cases h
   ·exact List.mem_append.2 (.inl (reg_mem l _ h))
  ·split at h
   ·cases h
   ·exact List.mem_append.2 (.inr (reg_mem r _ h))
theorem reg_len {t : List RNd} : ∀ (T : TT) (b : List RS) {x : Nat × List RS}, x ∈ regV t T b → x.2.length = b.length
 | .lf a, b, x, h => by rw [List.mem_singleton.1 h]
 | .nd a l r, b, x, h => by
  rw [regV] at h
  rcases List.mem_append.1 h with h | h
  ·split at h
   ·cases h
   ·rw [reg_len l _ h, prtB_len]
  ·split at h
   ·cases h
   ·rw [reg_len r _ h, prtB_len]
theorem reg_in {t : List RNd} {f : Int} (hrg : t.any (bdR t.length f) = false) (row : List RC) : ∀ (T : TT) (b : List RS), (b.length : Int) = f → UN t T → T.pre.Nodup → ∀ {x : Nat × List RS}, x ∈ regV t T b → (inB x.2 row = true ↔ inB b row = true ∧ gl t row T = x.1)
 | .lf a, b, hb, hT, hn, x, h => by rw [List.mem_singleton.1 h]; simp [gl]
 | .nd a l r, b, hb, hT, hn, x, h => by
  obtain ⟨h1, h2, h3, h4, h5, h6⟩ := hT
  obtain ⟨n1, n2, n3⟩ := pre_sub hn
  have hf := (un_ft hrg hb h1 h2).1
  rw [regV] at h
  rw [gl]
  rcases List.mem_append.1 h with h | h
  ·split at h
   ·cases h
   ·rename_i he
    have q := reg_in hrg row l _ (by rw [prtB_len]; exact hb) h5 n1 h
    rw [q, part_in hf, zd, beq_iff_eq]
    have m := reg_mem l _ h
    constructor
    ·rintro ⟨⟨q1, q2⟩, q3⟩
     rw [q2, if_pos rfl]; exact ⟨q1, q3⟩
    ·rintro ⟨q1, q3⟩
     cases hg : goN (t.getD a dNd) row with
     | true => rw [hg, if_pos rfl] at q3; exact ⟨⟨q1, rfl⟩, q3⟩
     | false =>
      rw [hg, if_neg (by decide)] at q3
      exact (n3 _ (lvs_pre l m) (q3 ▸ lvs_pre r (gl_lvs t row r))).elim
  ·split at h
   ·cases h
   ·rename_i he
    have q := reg_in hrg row r _ (by rw [prtB_len]; exact hb) h6 n2 h
    rw [q, part_in hf, zd, beq_iff_eq]
    have m := reg_mem r _ h
    constructor
    ·rintro ⟨⟨q1, q2⟩, q3⟩
     rw [q2, if_neg (by decide)]; exact ⟨q1, q3⟩
    ·rintro ⟨q1, q3⟩
     cases hg : goN (t.getD a dNd) row with
     | false => rw [hg, if_neg (by decide)] at q3; exact ⟨⟨q1, rfl⟩, q3⟩
     | true =>
      rw [hg, if_pos rfl] at q3
      exact (n3 _ (q3 ▸ lvs_pre l (gl_lvs t row l)) (lvs_pre r m)).elim
theorem reg_has {t : List RNd} {f : Int} (hrg : t.any (bdR t.length f) = false) (row : List RC) : ∀ (T : TT) (b : List RS), (b.length : Int) = f → UN t T → inB b row = true → ∃ B, (gl t row T, B) ∈ regV t T b
 | .lf a, b, hb, hT, hi => ⟨b, List.mem_singleton.2 rfl⟩
 | .nd a l r, b, hb, hT, hi => by
  obtain ⟨h1, h2, h3, h4, h5, h6⟩ := hT
  have hf := (un_ft hrg hb h1 h2).1
  rw [gl, regV]
  cases hg : goN (t.getD a dNd) row with
  | true =>
   rw [if_pos rfl]
   have he : empV (sdV b (t.getD a dNd) true) = false := by
    cases he : empV (sdV b (t.getD a dNd) true) with
    | false => rfl
    | true => exact (part_emp hf he hi hg).elim
   obtain ⟨B, hB⟩ := reg_has hrg row l (partB b (t.getD a dNd) true) (by rw [prtB_len]; exact hb) h5 (by rw [part_in hf, hi, hg]; rfl)
   exact ⟨B, List.mem_append.2 (.inl (by rw [he, if_neg (by decide)]; exact hB))⟩
  | false =>
   rw [if_neg (show ¬ false = true by decide)]
   have he : empV (sdV b (t.getD a dNd) false) = false := by
    cases he : empV (sdV b (t.getD a dNd) false) with
    | false => rfl
    | true => exact (part_emp hf he hi hg).elim
   obtain ⟨B, hB⟩ := reg_has hrg row r (partB b (t.getD a dNd) false) (by rw [prtB_len]; exact hb) h6 (by rw [part_in hf, hi, hg]; rfl)
   exact ⟨B, List.mem_append.2 (.inr (by rw [he, if_neg (by decide)]; exact hB))⟩
theorem reg_sm {t : List RNd} {f : Int} {k : Nat} (hk : 1 ≤ k) (hrg : t.any (bdR t.length f) = false) (hs : SmT t k) : ∀ (T : TT) (b : List RS), (b.length : Int) = f → UN t T → SmB b k → vF b 0 b.length = false → ∀ {x : Nat × List RS}, x ∈ regV t T b → SmB x.2 k ∧ vF x.2 0 x.2.length = false
 | .lf a, b, hb, hT, hB, hv, x, h => by rw [List.mem_singleton.1 h]; exact ⟨hB, hv⟩
 | .nd a l r, b, hb, hT, hB, hv, x, h => by
  obtain ⟨h1, h2, h3, h4, h5, h6⟩ := hT
  have hf := (un_ft hrg hb h1 h2).1
  have hc := (hs _ (getD_mem' dNd h1)).2.1
  rw [regV] at h
  rcases List.mem_append.1 h with h | h
  ·split at h
   ·cases h
   ·rename_i he
    exact reg_sm hk hrg hs l _ (by rw [prtB_len]; exact hb) h5 (part_sm hB hc hk hf) (part_void hf (by simpa using he) hv) h
  ·split at h
   ·cases h
   ·rename_i he
    exact reg_sm hk hrg hs r _ (by rw [prtB_len]; exact hb) h6 (part_sm hB hc hk hf) (part_void hf (by simpa using he) hv) h
theorem reg_lvs {t : List RNd} : ∀ (T : TT) (b : List RS), ((regV t T b).map (·.1)).Sublist T.lvs
 | .lf a, b => List.Sublist.refl _
 | .nd a l r, b => by
  rw [regV, TT.lvs, List.map_append]
  refine List.Sublist.append ?_ ?_
  ·split
   ·exact List.nil_sublist _
   ·exact reg_lvs l _
  ·split
   ·exact List.nil_sublist _
   ·exact reg_lvs r _
theorem reg_count {t : List RNd} (T : TT) (b : List RS) : (regV t T b).length ≤ T.lvs.length := by
 have := (reg_lvs (t := t) T b).length_le
 rw [zi] at this; exact this
theorem lvs_count : ∀ T : TT, T.lvs.length ≤ T.pre.length
 | .lf a => zo _
 | .nd a l r => by
  have h1 := lvs_count l
  have h2 := lvs_count r
  rw [TT.lvs, TT.pre, zr, zl, zl]; omega
structure GT (t : List RNd) (f : Int) (T : TT) : Prop where
 rg : t.any (bdR t.length f) = false
 top : T.top = 0
 un : UN t T
 nd : T.pre.Nodup
 le : T.pre.length ≤ t.length
theorem gt_of {t : List RNd} {f : Int} (h : VT t f) (h1 : 1 ≤ t.length) : ∃ T : TT, GT t f T := by
 obtain ⟨T, a, b, c, d, e⟩ := unf h.sh h1
 exact ⟨T, h.rg, a, b, c, d⟩
def ngN (n : RNd) : RNd := if n.leaf then { n with val := rQ (-(vQ n.val)) } else n
def negT (t : List RNd) : List RNd := t.map ngN
theorem ng_same (n : RNd) : (ngN n).leaf = n.leaf ∧ (ngN n).ft = n.ft ∧ (ngN n).cut = n.cut ∧ (ngN n).lft = n.lft ∧ (ngN n).rgt = n.rgt ∧ (ngN n).miss = n.miss := by
 unfold ngN; split <;> exact ⟨rfl, rfl, rfl, rfl, rfl, rfl⟩
theorem neg_get (t : List RNd) (a : Nat) : (negT t).getD a dNd = ngN (t.getD a dNd) := by
 unfold negT
 rw [za, List.getElem?_map, za]
 cases t[a]? <;> rfl
theorem neg_len (t : List RNd) : (negT t).length = t.length := zi ..
theorem ng_bdR (len : Nat) (f : Int) (n : RNd) : bdR len f (ngN n) = bdR len f n := by
 obtain ⟨a, b, c, d, e, g⟩ := ng_same n
 unfold bdR
 rw [a, b, d, e]
theorem neg_rg {t : List RNd} {f : Int} (h : t.any (bdR t.length f) = false) : (negT t).any (bdR (negT t).length f) = false := by
 rw [neg_len]
 unfold negT
 rw [List.any_map, show (bdR t.length f ∘ ngN) = bdR t.length f from funext fun n => ng_bdR _ _ n]
 exact h
theorem un_neg {t : List RNd} : ∀ T : TT, UN t T → UN (negT t) T
 | .lf a, h => ⟨by rw [neg_len]; exact h.1, by rw [neg_get, (ng_same _).1]; exact h.2⟩
 | .nd a l r, h => by
  obtain ⟨h1, h2, h3, h4, h5, h6⟩ := h
  refine ⟨by rw [neg_len]; exact h1, by rw [neg_get, (ng_same _).1]; exact h2, ?_, ?_, un_neg l h5, un_neg r h6⟩
  ·rw [neg_get, (ng_same _).2.2.2.1]; exact h3
  ·rw [neg_get, (ng_same _).2.2.2.2.1]; exact h4
theorem GT.neg {t : List RNd} {f : Int} {T : TT} (h : GT t f T) : GT (negT t) f T :=
 ⟨neg_rg h.rg, h.top, un_neg T h.un, h.nd, by rw [neg_len]; exact h.le⟩
theorem gl_neg (t : List RNd) (row : List RC) : ∀ T : TT, gl (negT t) row T = gl t row T
 | .lf a => rfl
 | .nd a l r => by
  rw [gl, gl, neg_get, gl_neg t row l, gl_neg t row r]
  have e : goN (ngN (t.getD a dNd)) row = goN (t.getD a dNd) row := by
   obtain ⟨a, b, c, d, e, g⟩ := ng_same (t.getD a dNd)
   unfold goN
   rw [b, c, g]
  rw [e]
theorem GT.val {t : List RNd} {f : Int} {T : TT} (h : GT t f T) (row : List RC) : valT t row = vQ (t.getD (gl t row T) dNd).val := valT_gl row h.top h.un h.le
theorem GT.leaf {t : List RNd} {f : Int} {T : TT} (h : GT t f T) (row : List RC) : gl t row T < t.length ∧ (t.getD (gl t row T) dNd).leaf = true := un_lvs T h.un _ (gl_lvs t row T)
theorem valT_neg {t : List RNd} {f : Int} {T : TT} (h : GT t f T) (row : List RC) : valT (negT t) row = -valT t row := by
 rw [h.neg.val, h.val, gl_neg, neg_get]
 have := (h.leaf row).2
 unfold ngN
 rw [if_pos this]
 exact vQ_rQ _
theorem predV_neg {ts : List (List RNd)} {f : Int} (h : ∀ t ∈ ts, ∃ T : TT, GT t f T) (row : List RC) : predV (ts.map negT) row = -predV ts row := by
 induction ts with
 | nil => show (0 : Rat) = -0; grind
 | cons t ts ih =>
  obtain ⟨T, hT⟩ := h t (zp ..)
  have e := ih fun t ht => h t (zn _ ht)
  show valT (negT t) row + predV (ts.map negT) row = -(valT t row + predV ts row)
  rw [valT_neg hT, e]
  grind
theorem negT_sm {t : List RNd} {k : Nat} (h1k : 1 ≤ k) (h : SmT t k) : SmT (negT t) k := by
 intro n hn
 obtain ⟨m, hm, rfl⟩ := List.mem_map.1 hn
 have h2 := h m hm
 unfold ngN
 split
 ·refine ⟨h2.1, h2.2.1, ?_⟩
  exact sm_cq (by rw [sq_neg]; exact vQ_sq h2.2.2 h1k)
 ·exact h2
def mstS (o : Option Rat) (n : RNd) : Option Rat := if n.leaf then (match o with | none => some (vQ n.val) | some v => if v < vQ n.val then some (vQ n.val) else some v) else o
def mstV (t : List RNd) : Option Rat := t.foldl mstS none
theorem mst_step (o : Option Rat) (n : RNd) : (∀ v, mstS o n = some v → (n.leaf = true → vQ n.val ≤ v) ∧ (∀ w, o = some w → w ≤ v) ∧ (o = some v ∨ n.leaf = true ∧ vQ n.val = v)) ∧ (mstS o n = none → o = none ∧ n.leaf = false) := by
 unfold mstS
 cases hl : n.leaf with
 | false => exact ⟨fun v h => ⟨fun h2 => (by cases h2), fun w hw => by rw [if_neg (by decide), hw] at h; cases h; exact Rat.le_refl, .inl (by rw [if_neg (by decide)] at h; exact h)⟩, fun h => ⟨h, rfl⟩⟩
 | true =>
  rw [if_pos rfl]
  cases o with
  | none => exact ⟨fun v h => by cases h; exact ⟨fun _ => Rat.le_refl, fun w hw => (by cases hw), .inr ⟨rfl, rfl⟩⟩, fun h => (by cases h)⟩
  | some u =>
   simp only
   refine ⟨fun v h => ?_, fun h => ?_⟩
   ·split at h
    ·rename_i hlt
     cases h
     exact ⟨fun _ => Rat.le_refl, fun w hw => by cases hw; exact Rat.le_of_lt hlt, .inr ⟨trivial, rfl⟩⟩
    ·rename_i hlt
     cases h
     exact ⟨fun _ => Rat.not_lt.1 hlt, fun w hw => by cases hw; exact Rat.le_refl, .inl rfl⟩
   ·split at h <;> cases h
theorem mst_fold : ∀ (t : List RNd) (o : Option Rat), (∀ v, t.foldl mstS o = some v → (∀ n ∈ t, n.leaf = true → vQ n.val ≤ v) ∧ (∀ w, o = some w → w ≤ v) ∧ (o = some v ∨ ∃ n ∈ t, n.leaf = true ∧ vQ n.val = v)) ∧ (t.foldl mstS o = none → o = none ∧ ∀ n ∈ t, n.leaf = false) := by
 intro t
 induction t with
 | nil => intro o; exact ⟨fun v h => ⟨fun n hn => (List.not_mem_nil hn).elim, fun w hw => by rw [List.foldl_nil, hw] at h; cases h; exact Rat.le_refl, .inl h⟩, fun h => ⟨h, fun n hn => (List.not_mem_nil hn).elim⟩⟩
 | cons a t ih =>
  intro o
  obtain ⟨s1, s2⟩ := mst_step o a
  obtain ⟨i1, i2⟩ := ih (mstS o a)
  refine ⟨fun v h => ?_, fun h => ?_⟩
  ·rw [List.foldl_cons] at h
   obtain ⟨j1, j2, j3⟩ := i1 v h
   have hst : ∀ w, mstS o a = some w → (a.leaf = true → vQ a.val ≤ v) ∧ (∀ x, o = some x → x ≤ v) := fun w hw => ⟨fun hl => Rat.le_trans ((s1 w hw).1 hl) (j2 w hw), fun x hx => Rat.le_trans ((s1 w hw).2.1 x hx) (j2 w hw)⟩
   refine ⟨fun n hn hl => ?_, fun w hw => ?_, ?_⟩
   ·rcases List.mem_cons.1 hn with rfl | hn
    ·cases hm : mstS o n with
     | none => have := (s2 hm).2; rw [hl] at this; cases this
     | some w => exact (hst w hm).1 hl
    ·exact j1 n hn hl
   ·cases hm : mstS o a with
    | none => have := (s2 hm).1; rw [hw] at this; cases this
    | some x => exact (hst x hm).2 w hw
   ·rcases j3 with j3 | ⟨n, hn, hl⟩
    ·rcases (s1 v j3).2.2 with h3 | h3
     ·exact .inl h3
     ·exact .inr ⟨a, zp .., h3⟩
    ·exact .inr ⟨n, zn _ hn, hl⟩
  ·rw [List.foldl_cons] at h
   obtain ⟨j1, j2⟩ := i2 h
   obtain ⟨k1, k2⟩ := s2 j1
   exact ⟨k1, fun n hn => (List.mem_cons.1 hn).elim (fun e => e ▸ k2) (fun hn => j2 n hn)⟩
theorem GT.most {t : List RNd} {f : Int} {T : TT} (h : GT t f T) : ∃ v, mstV t = some v ∧ (∀ row, valT t row ≤ v) ∧ (∀ n ∈ t, n.leaf = true → vQ n.val ≤ v) ∧ ∃ n ∈ t, n.leaf = true ∧ vQ n.val = v := by
 obtain ⟨f1, f2⟩ := mst_fold t none
 have hl := h.leaf []
 cases hm : mstV t with
 | none => have := (f2 hm).2 _ (getD_mem' dNd hl.1); rw [hl.2] at this; cases this
 | some v =>
  obtain ⟨a, b, c⟩ := f1 v hm
  refine ⟨v, rfl, fun row => ?_, a, ?_⟩
  ·rw [h.val]
   exact a _ (getD_mem' dNd (h.leaf row).1) (h.leaf row).2
  ·rcases c with c | c
   ·cases c
   ·exact c
theorem mst_sq {t : List RNd} {k : Nat} (hk : 1 ≤ k) (h : SmT t k) {v : Rat} (hv : mstV t = some v) : sq v ≤ k := by
 rcases ((mst_fold t none).1 v hv).2.2 with c | ⟨n, hn, _, e⟩
 ·cases c
 ·rw [← e]; exact vQ_sq (h n hn).2.2 hk
theorem rep_hF {n : Nat} {o : List RC} : ∀ (d i : Nat), i + d ≤ n → hF (zj n (none9 true)) o i d = true := by
 intro d
 induction d with
 | zero => intro i _; rfl
 | succ d ih =>
  intro i h
  unfold hF
  rw [ih (i + 1) (by omega), za, List.getElem?_replicate, if_pos (by omega)]
  show (inV (none9 true) _ && true) = true
  unfold inV inS none9
  simp
def wyV (t : List RNd) (row : List RC) : TT → List Nat
 | .lf a => [a]
 | .nd a l r => a :: (if goN (t.getD a dNd) row then wyV t row l else wyV t row r)
theorem wy_len (t : List RNd) (row : List RC) : ∀ T : TT, 1 ≤ (wyV t row T).length ∧ (wyV t row T).length ≤ T.pre.length
 | .lf a => ⟨zo _, zo _⟩
 | .nd a l r => by
  have h1 := wy_len t row l
  have h2 := wy_len t row r
  rw [wyV, TT.pre, zr, zr, zl]
  split <;> omega
def clT (t : List RNd) (row : List RC) (P : List Nat) (b : List RS) : List RS := P.foldl (fun b a => partB b (t.getD a dNd) (goN (t.getD a dNd) row)) b
theorem cl_len (t : List RNd) (row : List RC) : ∀ (P : List Nat) (b : List RS), (clT t row P b).length = b.length := by
 intro P
 induction P with
 | nil => intro b; rfl
 | cons a P ih => intro b; show (clT t row P _).length = _; rw [ih, prtB_len]
theorem cl_way (t : List RNd) (row : List RC) {f : Int} (hrg : t.any (bdR t.length f) = false) : ∀ (T : TT) (b : List RS), UN t T → T.pre.Nodup → (b.length : Int) = f →
  ∀ o, (inB (clT t row ((wyV t row T).take ((wyV t row T).length - 1)) b) o = true ↔ inB b o = true ∧ gl t o T = gl t row T)
 | .lf a, b, h, hn, hb, o => by
  show inB b o = true ↔ _
  exact ⟨fun h => ⟨h, rfl⟩, fun h => h.1⟩
 | .nd a l r, b, h, hn, hb, o => by
  obtain ⟨h1, h2, h3, h4, h5, h6⟩ := h
  obtain ⟨n1, n2, n3⟩ := pre_sub hn
  have hf := (un_ft hrg hb h1 h2).1
  have w1 := (wy_len t row l).1
  have w2 := (wy_len t row r).1
  rw [wyV, gl, gl, zr]
  cases hg : goN (t.getD a dNd) row with
  | true =>
   rw [if_pos rfl, if_pos rfl, show (wyV t row l).length + 1 - 1 = (wyV t row l).length - 1 + 1 by omega, List.take_succ_cons]
   show inB (clT t row _ (partB b (t.getD a dNd) (goN (t.getD a dNd) row))) o = true ↔ _
   rw [cl_way t row hrg l _ h5 n1 (by rw [prtB_len]; exact hb) o, part_in hf, zd, beq_iff_eq, hg]
   constructor
   ·rintro ⟨⟨q1, q2⟩, q3⟩
    rw [q2, if_pos rfl]; exact ⟨q1, q3⟩
   ·rintro ⟨q1, q3⟩
    cases ho : goN (t.getD a dNd) o with
    | true => rw [ho, if_pos rfl] at q3; exact ⟨⟨q1, rfl⟩, q3⟩
    | false =>
     rw [ho, if_neg (by decide)] at q3
     exact (n3 _ (lvs_pre l (gl_lvs t row l)) (q3 ▸ lvs_pre r (gl_lvs t o r))).elim
  | false =>
   rw [if_neg (show ¬ false = true by decide), if_neg (show ¬ false = true by decide), show (wyV t row r).length + 1 - 1 = (wyV t row r).length - 1 + 1 by omega, List.take_succ_cons]
   show inB (clT t row _ (partB b (t.getD a dNd) (goN (t.getD a dNd) row))) o = true ↔ _
   rw [cl_way t row hrg r _ h6 n2 (by rw [prtB_len]; exact hb) o, part_in hf, zd, beq_iff_eq, hg]
   constructor
   ·rintro ⟨⟨q1, q2⟩, q3⟩
    rw [q2, if_neg (by decide)]; exact ⟨q1, q3⟩
   ·rintro ⟨q1, q3⟩
    cases ho : goN (t.getD a dNd) o with
    | false => rw [ho, if_neg (by decide)] at q3; exact ⟨⟨q1, rfl⟩, q3⟩
    | true =>
     rw [ho, if_pos rfl] at q3
     exact (n3 _ (q3 ▸ lvs_pre l (gl_lvs t o l)) (lvs_pre r (gl_lvs t row r))).elim
theorem rep_in {n : Nat} {row : List RC} (h : row.length = n) : inB (zj n (none9 true)) row = true := by
 unfold inB
 rw [zm, decide_eq_true h.symm, Bool.true_and]
 exact rep_hF row.length 0 (by omega)
abbrev FS := Option (Rat × List RS)
def gdF (n k : Nat) (st : FS) : Prop := ∀ v B, st = some (v, B) → B.length = n ∧ SmB B k ∧ vF B 0 B.length = false ∧ sq v ≤ 200
def Pst (n k : Nat) (X : List RC → Prop) (val : List RC → Rat) (st st' : FS) : Prop :=
 (∃ v B, st' = some (v, B) ∧ (∀ v0 B0, st = some (v0, B0) → v0 ≤ v) ∧ (∀ row, X row → val row ≤ v) ∧ (st' = st ∨ ∀ row, inB B row = true → X row ∧ val row = v)) ∧ gdF n k st'
theorem Pst.comp {n k : Nat} {X Y : List RC → Prop} {val : List RC → Rat} {st s1 s2 : FS} (h1 : Pst n k X val st s1) (h2 : Pst n k Y val s1 s2) : Pst n k (fun row => X row ∨ Y row) val st s2 := by
 obtain ⟨⟨v1, B1, e1, a1, b1, c1⟩, g1⟩ := h1
 obtain ⟨⟨v2, B2, e2, a2, b2, c2⟩, g2⟩ := h2
 refine ⟨⟨v2, B2, e2, fun v0 B0 h0 => Rat.le_trans (a1 v0 B0 h0) (a2 v1 B1 e1), fun row hr => ?_, ?_⟩, g2⟩
 ·rcases hr with hr | hr
  ·exact Rat.le_trans (b1 row hr) (a2 v1 B1 e1)
  ·exact b2 row hr
 ·rcases c2 with c2 | c2
  ·rcases c1 with c1 | c1
   ·exact .inl (c2.trans c1)
   ·rw [e1, e2] at c2
    cases c2
    exact .inr fun row hr => ⟨.inl (c1 row hr).1, (c1 row hr).2⟩
  ·exact .inr fun row hr => ⟨.inr (c2 row hr).1, (c2 row hr).2⟩
theorem Pst.eqv {n k : Nat} {X Y : List RC → Prop} {val wal : List RC → Rat} {st st' : FS} (h : Pst n k X val st st') (hxy : ∀ row, X row ↔ Y row) (hv : ∀ row, X row → val row = wal row) : Pst n k Y wal st st' := by
 obtain ⟨⟨v, B, e, a, b, c⟩, g⟩ := h
 refine ⟨⟨v, B, e, a, fun row hr => ?_, ?_⟩, g⟩
 ·have h := (hxy row).2 hr
  rw [← hv row h]; exact b row h
 ·rcases c with c | c
  ·exact .inl c
  ·exact .inr fun row hr => ⟨(hxy row).1 (c row hr).1, by rw [← hv row (c row hr).1]; exact (c row hr).2⟩
theorem Pst.none {n k : Nat} {X : List RC → Prop} {val : List RC → Rat} {v : Rat} {B : List RS} (g : gdF n k (some (v, B))) (h : ∀ row, X row → val row ≤ v) : Pst n k X val (some (v, B)) (some (v, B)) :=
 ⟨⟨v, B, rfl, fun v0 B0 h0 => by cases h0; exact Rat.le_refl, h, .inl rfl⟩, g⟩
theorem predV_cons (t : List RNd) (ts : List (List RNd)) (row : List RC) : predV (t :: ts) row = valT t row + predV ts row := rfl
def mstD (t : List RNd) : Rat := (mstV t).getD 0
def rsV : List (List RNd) → Rat
 | [] => 0
 | t :: ts => rsV ts + mstD t
theorem rs_le {f : Int} : ∀ {ts : List (List RNd)}, (∀ t ∈ ts, ∃ T : TT, GT t f T) → ∀ row, predV ts row ≤ rsV ts
 | [], _, row => Rat.le_refl
 | t :: ts, h, row => by
  have i := rs_le (fun t ht => h t (zn _ ht)) row
  obtain ⟨T, hT⟩ := h t (zp ..)
  obtain ⟨v, e, a, _⟩ := hT.most
  have := a row
  rw [predV_cons, rsV, mstD, e, Option.getD_some]
  grind
theorem mstD_sq {t : List RNd} {k : Nat} (hk : 1 ≤ k) (h : SmT t k) : sq (mstD t) ≤ k := by
 unfold mstD
 cases hm : mstV t with
 | none => have := sq_zero; show sq 0 ≤ k; omega
 | some v => exact mst_sq hk h hm
theorem rs_sq {k : Nat} (hk : 1 ≤ k) : ∀ {ts : List (List RNd)}, (∀ t ∈ ts, SmT t k) → sq (rsV ts) ≤ ts.length * (k + 1) + 1
 | [], _ => by have := sq_zero; show sq 0 ≤ 0 * _ + 1; omega
 | t :: ts, h => by
  have i := rs_sq hk (fun t ht => h t (zn _ ht))
  have j := mstD_sq hk (h t (zp ..))
  have a := sq_add (rsV ts) (mstD t)
  rw [rsV, zr, zE, Nat.one_mul]; omega
def rsL : List (List RNd) → List Rat
 | [] => [0]
 | t :: ts => (rsV ts + mstD t) :: rsL ts
theorem rsL_len : ∀ ts, (rsL ts).length = ts.length + 1
 | [] => rfl
 | t :: ts => by rw [rsL, zr, rsL_len ts, zr]
theorem rsL_get : ∀ (ts : List (List RNd)) (i : Nat), i ≤ ts.length → (rsL ts).getD i 0 = rsV (ts.drop i)
 | [], i, h => by rw [show i = 0 by simpa using h]; rfl
 | t :: ts, 0, h => rfl
 | t :: ts, i + 1, h => by
  rw [rsL, List.drop_succ_cons]
  show (rsL ts).getD i 0 = _
  exact rsL_get ts i (by simpa using h)
theorem reg_val {t : List RNd} {f : Int} {T : TT} (h : GT t f T) {b : List RS} (hb : (b.length : Int) = f) {x : Nat × List RS} (hx : x ∈ regV t T b) {row : List RC} (hr : inB x.2 row = true) : valT t row = vQ (t.getD x.1 dNd).val := by
 have := (reg_in h.rg row T b hb h.un h.nd hx).1 hr
 rw [h.val, this.2]
theorem reg_all {t : List RNd} {f : Int} {T : TT} (h : GT t f T) {b : List RS} (hb : (b.length : Int) = f) (row : List RC) : (∃ x ∈ regV t T b, inB x.2 row = true) ↔ inB b row = true := by
 constructor
 ·rintro ⟨x, hx, hr⟩
  exact ((reg_in h.rg row T b hb h.un h.nd hx).1 hr).1
 ·intro hr
  obtain ⟨B, hB⟩ := reg_has h.rg row T b hb h.un hr
  exact ⟨_, hB, (reg_in h.rg row T b hb h.un h.nd hB).2 ⟨hr, rfl⟩⟩
theorem reg_some {t : List RNd} {f : Int} {T : TT} (h : GT t f T) {b : List RS} (hb : (b.length : Int) = f) (hv : vF b 0 b.length = false) : 0 < (regV t T b).length := by
 have h2 : inB b (rB b b.length) = true := by
  unfold inB
  rw [rB_len, decide_eq_true rfl, Bool.true_and]
  exact rB_hF b.length 0 (by omega) hv
 obtain ⟨x, hx, _⟩ := (reg_all h hb _).2 h2
 exact List.length_pos_of_mem hx
theorem rB_in {b : List RS} (hv : vF b 0 b.length = false) : inB b (rB b b.length) = true := by
 unfold inB
 rw [rB_len, decide_eq_true rfl, Bool.true_and]
 exact rB_hF b.length 0 (by omega) hv
def t4 (x : RQt) : RQt := (x.1, x.2.1.take 4, x.2.2.take 4)
def fN (n : RNd) : RNd := { n with cut := t4 n.cut, val := t4 n.val, cov := t4 n.cov }
def fT7 (t : List RNd) : List RNd := (t.take 15).map fN
def fM7 (m : RM) : RM := (m.1, (m.2.take 6).map fT7)
theorem fT7_sm {t : List RNd} (h : ∀ a ∈ t, OkNd a) : SmT (fT7 t) 4 := by
 intro n hn
 obtain ⟨m, hm, rfl⟩ := List.mem_map.1 hn
 have h2 := h m (List.mem_of_mem_take hm)
 exact ⟨Sm.take (k := maxL) h2.2.2.2.2.2 4, Sm.take (k := maxL) h2.2.1 4, Sm.take (k := maxL) h2.2.2.2.2.1 4⟩
theorem fT7_len (t : List RNd) : (fT7 t).length ≤ 15 := by unfold fT7; rw [zi]; exact List.length_take_le _ _
theorem fM7_sm {m : RM} (h : OkM m) : SmM (fM7 m) 4 := by
 refine ⟨?_, fun t ht => ?_⟩
 ·show ((m.2.take 6).map fT7).length ≤ 1000
  rw [zi]; exact zw (List.length_take_le _ _) (by omega)
 ·obtain ⟨s, hs, rfl⟩ := List.mem_map.1 (show t ∈ (m.2.take 6).map fT7 from ht)
  have h2 := h.2.2 s (List.mem_of_mem_take hs)
  exact ⟨zw (fT7_len s) (by omega), fT7_sm h2.2⟩
theorem number07_c {q : Bool} {l d : List Int} (hl : l.length ≤ maxL) (hd : d.length ≤ maxL) : R FF 234 [(AV.agg [AV.b q, (AV.l 1 (List.map u l)), (AV.l 1 (List.map u d))])] = some (AV.agg [AV.b q, (AV.l 1 (List.map u (((l.take 4))))), (AV.l 1 (List.map u (((d.take 4)))))]) := by
 have e3 : (4 : Int).toNat = 4 := rfl
 by_cases c1 : 4 < (l.length : Int)
 ·have c3 : (4 : Int) ≤ (l.length : Int) := by omega
  by_cases c2 : 4 < (d.length : Int)
  ·have c4 : (4 : Int) ≤ (d.length : Int) := by omega
   rw [R_go FF F234 c234.eq_1]
   simp only [RB, RL, un, St.none, Nat.reduceEqDiff, Nat.reduceAdd, Nat.reduceMul, Nat.reduceMod, Nat.reduceLeDiff, Nat.reduceLT, Int.reduceLT, Int.reduceLE, Int.reduceEq, Int.reduceToNat, Int.reduceSub, Int.reduceNeg, Int.reduceAdd, ↓reduceIte, reduceCtorEq, pack, pid, parN, lid, chkK, apartV, Heap.none, c1, c2, c3, c4]
  ·have t2 : d.take 4 = d := zc (by omega)
   rw [t2]
   rw [R_go FF F234 c234.eq_1]
   simp only [RB, RL, un, St.none, Nat.reduceEqDiff, Nat.reduceAdd, Nat.reduceMul, Nat.reduceMod, Nat.reduceLeDiff, Nat.reduceLT, Int.reduceLT, Int.reduceLE, Int.reduceEq, Int.reduceToNat, Int.reduceSub, Int.reduceNeg, Int.reduceAdd, ↓reduceIte, reduceCtorEq, pack, pid, parN, lid, chkK, apartV, Heap.none, c1, c2, c3]
 ·have t1 : l.take 4 = l := zc (by omega)
  rw [t1]
  by_cases c2 : 4 < (d.length : Int)
  ·have c4 : (4 : Int) ≤ (d.length : Int) := by omega
   rw [R_go FF F234 c234.eq_1]
   simp only [RB, RL, un, St.none, Nat.reduceEqDiff, Nat.reduceAdd, Nat.reduceMul, Nat.reduceMod, Nat.reduceLeDiff, Nat.reduceLT, Int.reduceLT, Int.reduceLE, Int.reduceEq, Int.reduceToNat, Int.reduceSub, Int.reduceNeg, Int.reduceAdd, ↓reduceIte, reduceCtorEq, pack, pid, parN, lid, chkK, apartV, Heap.none, c1, c2, c4]
  ·have t2 : d.take 4 = d := zc (by omega)
   rw [t2]
   rw [R_go FF F234 c234.eq_1]
   simp only [RB, RL, un, St.none, Nat.reduceEqDiff, Nat.reduceAdd, Nat.reduceMul, Nat.reduceMod, Nat.reduceLeDiff, Nat.reduceLT, Int.reduceLT, Int.reduceLE, Int.reduceEq, Int.reduceToNat, Int.reduceSub, Int.reduceNeg, Int.reduceAdd, ↓reduceIte, reduceCtorEq, pack, pid, parN, lid, chkK, apartV, Heap.none, c1, c2]
theorem take_min {α : Type} {l : List α} {i n : Nat} (h : i = min l.length n) : l.take i = l.take n := by
 rw [h]
 rcases Nat.le_total l.length n with h | h
 ·rw [Nat.min_eq_left h, zc (zo _), zc h]
 ·rw [Nat.min_eq_right h]
theorem few07_l1 {f : Int} {ts : List (List RNd)} {i : Nat} {acc : List (List RNd)} (hi : i < ts.length) (hu : ∀ a ∈ ts.getD i [], OkNd a) (hl : (ts.getD i []).length ≤ maxL) : ∀ (d j : Nat), j + d = min (ts.getD i []).length 15 →
  LP FF [(2, 1), (3, 4), (5, 1), (1, 0), (4, 0), (6, 0)] [(2, 1), (3, 4), (1, 0), (4, 0), (5, 0)] b209_1 [.ownp [(AV.i .i64 0), .l 1 []], .ownp [(AV.i .i64 f), .own true 1 (acc.map eTr)], .own true 14 ((((ts.getD i []).take j).map fN).map eNd), .tp (eM (f, ts)) 0, (AV.i .i64 ((i : Int))), (AV.i .i64 ((j : Int)))] =
   some (.exit 2, [.ownp [(AV.i .i64 0), .l 1 []], .ownp [(AV.i .i64 f), .own true 1 (acc.map eTr)], .tp (eM (f, ts)) 0, (AV.i .i64 ((i : Int))), .l 14 ((fT7 (ts.getD i [])).map eNd)]) := by
 have c0 : (i : Int) < (ts.length : Int) := by omega
 intro d
 induction d with
 | zero =>
  intro j hj
  rw [take_min (show j = min (ts.getD i []).length 15 by omega), show ((ts.getD i []).take 15).map fN = fT7 (ts.getD i []) from rfl]
  generalize fT7 (ts.getD i []) = F at *
  simp only [eM]
  by_cases c1 : (j : Int) < ((ts.getD i []).length : Int)
  ·have c2 : ¬ (j : Int) < 15 := by omega
   rw [LP_go FF b209_1.eq_1]
   simp only [RB, RL, un, St.none, Nat.reduceEqDiff, Nat.reduceAdd, Nat.reduceMul, Nat.reduceMod, Nat.reduceLeDiff, Nat.reduceLT, Int.reduceLT, Int.reduceLE, Int.reduceEq, Int.reduceToNat, Int.reduceSub, Int.reduceNeg, Int.reduceAdd, ↓reduceIte, reduceCtorEq, pack, pid, parN, lid, chkK, apartV, Heap.none, c0, c1, c2, eTr_rules, eTr_row, zb, nJ, nK, Row.freeze, zh]
  ·rw [LP_go FF b209_1.eq_1]
   simp only [RB, RL, un, St.none, Nat.reduceEqDiff, Nat.reduceAdd, Nat.reduceMul, Nat.reduceMod, Nat.reduceLeDiff, Nat.reduceLT, Int.reduceLT, Int.reduceLE, Int.reduceEq, Int.reduceToNat, Int.reduceSub, Int.reduceNeg, Int.reduceAdd, ↓reduceIte, reduceCtorEq, pack, pid, parN, lid, chkK, apartV, Heap.none, c0, c1, eTr_rules, eTr_row, zb, nJ, nK, Row.freeze, zh]
 | succ d ih =>
  intro j hj
  have hlt : j < (ts.getD i []).length := by omega
  have h9 := ih (j + 1) (by omega)
  have hx := hu _ (getD_mem' dNd hlt)
  have ht : ((ts.getD i []).take (j + 1)).map fN = ((ts.getD i []).take j).map fN ++ [fN ((ts.getD i []).getD j dNd)] := by
   rw [List.take_add_one, ze hlt, List.map_append, za (i := j), ze hlt]
   rfl
  rw [ht] at h9
  have hlen : (((ts.getD i []).take j).map fN).length = j := by rw [zi, zk]; omega
  have c1 : (j : Int) < ((ts.getD i []).length : Int) := by omega
  have c2 : (j : Int) < 15 := by omega
  have e2 : IntKind.i64.wrap ((j : Int) + 1) = ((j + 1 : Nat) : Int) := w64succ (by omega)
  have b2 : (j + 1) * 208 ≤ 140737488355328 := by omega
  generalize ((ts.getD i []).take j).map fN = A at *
  obtain ⟨x, hx'⟩ : ∃ x, (ts.getD i []).getD j dNd = x := ⟨_, rfl⟩
  rw [hx'] at h9 hx
  obtain ⟨xl, xf, ⟨cq, cl, cd⟩, xa, xb, xm, ⟨vq, vl, vd⟩, ⟨wq, wl, wd⟩⟩ := x
  obtain ⟨k1, k2, k3, k4, k5, k6⟩ := hx
  have f1 := number07_c (q := cq) (l := cl) (d := cd) k2.1.2 k2.2.2
  have f2 := number07_c (q := vq) (l := vl) (d := vd) k5.1.2 k5.2.2
  have f3 := number07_c (q := wq) (l := wl) (d := wd) k6.1.2 k6.2.2
  have m2 : List.take (j + 1) (A ++ [fN ⟨xl, xf, (cq, cl, cd), xa, xb, xm, (vq, vl, vd), (wq, wl, wd)⟩]) = A ++ [fN ⟨xl, xf, (cq, cl, cd), xa, xb, xm, (vq, vl, vd), (wq, wl, wd)⟩] := zc (by rw [zl, hlen]; exact zo _)
  have m3 : List.take j A = A := zc (by omega)
  have m1 : List.map eNd A ++ [[.b xl, .i .i64 xf, .b cq, .l 1 ((cl.take 4).map u), .l 1 ((cd.take 4).map u), .i .i64 xa, .i .i64 xb, .b xm, .b vq, .l 1 ((vl.take 4).map u), .l 1 ((vd.take 4).map u), .b wq, .l 1 ((wl.take 4).map u), .l 1 ((wd.take 4).map u)]] = List.map eNd (A ++ [fN ⟨xl, xf, (cq, cl, cd), xa, xb, xm, (vq, vl, vd), (wq, wl, wd)⟩]) := by rw [List.map_append]; rfl
  simp only [eM] at h9 ⊢
  rw [LP_go FF b209_1.eq_1]
  simp only [RB, RL, un, St.none, Nat.reduceEqDiff, Nat.reduceAdd, Nat.reduceMul, Nat.reduceMod, Nat.reduceLeDiff, Nat.reduceLT, Int.reduceLT, Int.reduceLE, Int.reduceEq, Int.reduceToNat, Int.reduceSub, Int.reduceNeg, Int.reduceAdd, ↓reduceIte, reduceCtorEq, pack, pid, parN, lid, chkK, apartV, Heap.none, c0, c1, c2, hx', eNd, eTr_rules, eTr_row, eNd_rules, eNd_row, zb, nJ, nK, Row.freeze, f1, f2, f3, e2, hlen, b2, m3, m1, m2]
  exact h9
theorem few07_l0 {f : Int} {ts : List (List RNd)} (hu : ∀ t ∈ ts, t.length ≤ maxL ∧ ∀ a ∈ t, OkNd a) (hl : ts.length ≤ maxL) : ∀ (d i : Nat), i + d = min ts.length 6 →
  LP FF [(2, 1), (3, 4), (1, 0), (4, 0)] [(2, 1), (3, 0)] b209_0 [.ownp [(AV.i .i64 0), .l 1 []], .ownp [(AV.i .i64 f), .own true 1 (((ts.take i).map fT7).map eTr)], .tp (eM (f, ts)) 0, (AV.i .i64 ((i : Int)))] =
   some (.exit 0, [.ownp [(AV.i .i64 0), .l 1 []], .tp (eM (fM7 (f, ts))) 0]) := by
 intro d
 induction d with
 | zero =>
  intro i hi
  rw [take_min (show i = min ts.length 6 by omega), show eM (fM7 (f, ts)) = [(AV.i .i64 f), .l 1 (((ts.take 6).map fT7).map eTr)] from rfl]
  simp only [eM]
  generalize (ts.take 6).map fT7 = F at *
  by_cases c1 : (i : Int) < (ts.length : Int)
  ·have c2 : ¬ (i : Int) < 6 := by omega
   rw [LP_go FF b209_0.eq_1]
   simp only [RB, RL, un, St.none, Nat.reduceEqDiff, Nat.reduceAdd, Nat.reduceMul, Nat.reduceMod, Nat.reduceLeDiff, Nat.reduceLT, Int.reduceLT, Int.reduceLE, Int.reduceEq, Int.reduceToNat, Int.reduceSub, Int.reduceNeg, Int.reduceAdd, ↓reduceIte, reduceCtorEq, pack, pid, parN, lid, chkK, apartV, Heap.none, c1, c2, eTr_rules, eTr_row, nJ, nK, Row.freeze, zh]
  ·rw [LP_go FF b209_0.eq_1]
   simp only [RB, RL, un, St.none, Nat.reduceEqDiff, Nat.reduceAdd, Nat.reduceMul, Nat.reduceMod, Nat.reduceLeDiff, Nat.reduceLT, Int.reduceLT, Int.reduceLE, Int.reduceEq, Int.reduceToNat, Int.reduceSub, Int.reduceNeg, Int.reduceAdd, ↓reduceIte, reduceCtorEq, pack, pid, parN, lid, chkK, apartV, Heap.none, c1, eTr_rules, eTr_row, nJ, nK, Row.freeze, zh]
 | succ d ih =>
  intro i hi
  have hlt : i < ts.length := by omega
  have h9 := ih (i + 1) (by omega)
  have hx := hu _ (getD_mem' ([] : List RNd) hlt)
  have l1 := few07_l1 (f := f) (ts := ts) (i := i) (acc := (ts.take i).map fT7) hlt hx.2 hx.1 (min (ts.getD i []).length 15) 0 (by omega)
  rw [List.take_zero, zy] at l1
  simp only [List.map_nil] at l1
  have ht : (ts.take (i + 1)).map fT7 = (ts.take i).map fT7 ++ [fT7 (ts.getD i [])] := by
   rw [List.take_add_one, ze hlt, List.map_append, za, ze hlt]
   rfl
  rw [ht] at h9
  have hlen : ((ts.take i).map fT7).length = i := by rw [zi, zk]; omega
  have c1 : (i : Int) < (ts.length : Int) := by omega
  have c2 : (i : Int) < 6 := by omega
  have e2 : IntKind.i64.wrap ((i : Int) + 1) = ((i + 1 : Nat) : Int) := w64succ (by omega)
  have b2 : (i + 1) * 24 ≤ 140737488355328 := by omega
  generalize (ts.take i).map fT7 = A at *
  generalize fT7 (ts.getD i []) = x at *
  have m2 : List.take (i + 1) (A ++ [x]) = A ++ [x] := zc (by rw [zl, hlen]; exact zo _)
  have m3 : List.take i A = A := zc (by omega)
  have m1 : List.map eTr A ++ [[AV.l 14 (x.map eNd)]] = List.map eTr (A ++ [x]) := by rw [List.map_append (f := eTr)]; rfl
  simp only [eM] at l1 h9 ⊢
  rw [LP_go FF b209_0.eq_1]
  simp only [RB, RL, un, St.none, Nat.reduceEqDiff, Nat.reduceAdd, Nat.reduceMul, Nat.reduceMod, Nat.reduceLeDiff, Nat.reduceLT, Int.reduceLT, Int.reduceLE, Int.reduceEq, Int.reduceToNat, Int.reduceSub, Int.reduceNeg, Int.reduceAdd, ↓reduceIte, reduceCtorEq, pack, pid, parN, lid, chkK, apartV, Heap.none, c1, c2, eTr_rules, eTr_row, zb, nJ, nK, Row.freeze, l1, e2, hlen, b2, m3, m1, m2]
  exact h9
theorem few07_c {m : RM} (h : OkM m) : R FF 209 [.agg (eM m)] = some (.agg (eM (fM7 m))) := by
 obtain ⟨f, ts⟩ := m
 have l0 := few07_l0 (f := f) (ts := ts) h.2.2 h.2.1 (min ts.length 6) 0 (by omega)
 rw [List.take_zero, zy] at l0
 simp only [List.map_nil] at l0
 generalize fM7 (f, ts) = F at *
 obtain ⟨g, us⟩ := F
 simp only [eM] at l0 ⊢
 rw [R_go FF F209 c209.eq_1]
 simp only [RB, RL, un, St.none, Nat.reduceEqDiff, Nat.reduceAdd, Nat.reduceMul, Nat.reduceMod, Nat.reduceLeDiff, Nat.reduceLT, Int.reduceLT, Int.reduceLE, Int.reduceEq, Int.reduceToNat, Int.reduceSub, Int.reduceNeg, Int.reduceAdd, ↓reduceIte, reduceCtorEq, pack, pid, parN, lid, chkK, apartV, Heap.none, l0, nJ, nK, n64, eTr_rules, eTr_row]
abbrev RG := Nat × Rat × List RS
def eG (x : RG) : List AV := [.i .i64 (x.1 : Int), .b (ng x.2.1.num), .l 1 ((D x.2.1.num.natAbs).map u), .l 1 ((D x.2.1.den).map u), .l 9 (x.2.2.map eS)]
abbrev dG : RG := (0, 0, [])
theorem eG_rules : (∀ x, (eG x).length = 5) ∧ (∀ h x, (eG x).map (tellC h) = eG x) ∧ (∀ h x, (eG x).map (tell0 h) = eG x) ∧ (∀ h x, (eG x).flatMap (refC h) = []) ∧ (∀ x, (eG x).flatMap ref0 = []) ∧
  (∀ x, ldC true 5 0 (eG x) = some (.agg (eG x))) ∧ (∀ x, ldC false 1 0 (eG x) = some (.i .i64 (x.1 : Int))) ∧ (∀ x, ldC true 3 1 (eG x) = some (.agg [.b (ng x.2.1.num), .l 1 ((D x.2.1.num.natAbs).map u), .l 1 ((D x.2.1.den).map u)])) ∧ (∀ x, ldC false 1 4 (eG x) = some (.l 9 (x.2.2.map eS))) := by
 refine ⟨?_, ?_, ?_, ?_, ?_, ?_, ?_, ?_, ?_⟩ <;> intros <;> rfl
theorem eG_row : type_of% (row_rules eG dG 5 (fun _ => rfl) (fun _ _ => rfl)) := row_rules eG dG 5 (fun _ => rfl) (fun _ _ => rfl)
def mkG (t : List RNd) (x : Nat × List RS) : RG := (x.1, vQ (t.getD x.1 dNd).val, x.2)
def regG (t : List RNd) (T : TT) (b : List RS) : List RG := (regV t T b).map (mkG t)
theorem part_c {b : List RS} {n : RNd} {left : Bool} {k : Nat} (hk : k ≤ 100000000000) (h1k : 1 ≤ k) (hB : SmB b k) (hc : SmQ n.cut k) (h0 : 0 ≤ n.ft) (hf : n.ft.toNat < b.length) (hn : b.length ≤ 1000) :
  R FF 229 [.l 9 (b.map eS), .agg (eNd n), .b left] = some (if empV (sdV b n left) then .tup [.l 9 [], .b false] else .tup [.l 9 ((partB b n left).map eS), .b true]) := by
 have hs := hB _ (getD_mem' dS hf)
 have f1 := above_c (mi := !n.miss) hk h1k hs hc
 have f2 := below_c (mi := n.miss) hk h1k hs hc
 have g1 := abv_sm (mi := !n.miss) hs hc h1k
 have g2 := bel_sm (mi := n.miss) hs hc h1k
 have e0 : sdV b n left = if left then belV (b.getD n.ft.toNat dS) n.cut n.miss else abvV (b.getD n.ft.toNat dS) n.cut (!n.miss) := rfl
 unfold partB
 have ft : ((n.ft.toNat : Nat) : Int) = n.ft := by omega
 have c2 : n.ft < (b.length : Int) := by omega
 obtain ⟨lf, fx, c, a', b', m, v, w⟩ := n
 simp only at f1 f2 g1 g2 e0 ft c2 h0 hf ⊢
 cases left
 ·rw [if_neg (by decide)] at e0
  rw [e0]
  have f3 := empty_c hk g1
  have f4 := with_c hk g1 hf (by omega)
  rw [ft] at f4
  generalize abvV (b.getD fx.toNat dS) c (!m) = s at *
  simp only [eNd, eS, eQ] at f1 f3 f4 ⊢
  cases hE : empV s <;> rw [hE] at f3
  ·rw [if_neg (by decide)]
   rw [R_go FF F229 c229.eq_1]
   simp only [RB, RL, un, St.none, Nat.reduceEqDiff, Nat.reduceAdd, Nat.reduceMul, Nat.reduceMod, Nat.reduceLeDiff, Nat.reduceLT, Int.reduceLT, Int.reduceLE, Int.reduceEq, Int.reduceToNat, Int.reduceSub, Int.reduceNeg, Int.reduceAdd, ↓reduceIte, reduceCtorEq, pack, pid, parN, lid, chkK, apartV, Heap.none, f1, f3, f4, h0, c2, eS_rules, eS_row, n64]
  ·rw [if_pos rfl]
   rw [R_go FF F229 c229.eq_1]
   simp only [RB, RL, un, St.none, Nat.reduceEqDiff, Nat.reduceAdd, Nat.reduceMul, Nat.reduceMod, Nat.reduceLeDiff, Nat.reduceLT, Int.reduceLT, Int.reduceLE, Int.reduceEq, Int.reduceToNat, Int.reduceSub, Int.reduceNeg, Int.reduceAdd, ↓reduceIte, reduceCtorEq, pack, pid, parN, lid, chkK, apartV, Heap.none, f1, f3, h0, c2, eS_rules, eS_row, n64]
 ·rw [if_pos rfl] at e0
  rw [e0]
  have f3 := empty_c hk g2
  have f4 := with_c hk g2 hf (by omega)
  rw [ft] at f4
  generalize belV (b.getD fx.toNat dS) c m = s at *
  generalize abvV (b.getD fx.toNat dS) c (!m) = s' at *
  simp only [eNd, eS, eQ] at f1 f2 f3 f4 ⊢
  cases hE : empV s <;> rw [hE] at f3
  ·rw [if_neg (by decide)]
   rw [R_go FF F229 c229.eq_1]
   simp only [RB, RL, un, St.none, Nat.reduceEqDiff, Nat.reduceAdd, Nat.reduceMul, Nat.reduceMod, Nat.reduceLeDiff, Nat.reduceLT, Int.reduceLT, Int.reduceLE, Int.reduceEq, Int.reduceToNat, Int.reduceSub, Int.reduceNeg, Int.reduceAdd, ↓reduceIte, reduceCtorEq, pack, pid, parN, lid, chkK, apartV, Heap.none, f1, f2, f3, f4, h0, c2, eS_rules, eS_row, n64]
  ·rw [if_pos rfl]
   rw [R_go FF F229 c229.eq_1]
   simp only [RB, RL, un, St.none, Nat.reduceEqDiff, Nat.reduceAdd, Nat.reduceMul, Nat.reduceMod, Nat.reduceLeDiff, Nat.reduceLT, Int.reduceLT, Int.reduceLE, Int.reduceEq, Int.reduceToNat, Int.reduceSub, Int.reduceNeg, Int.reduceAdd, ↓reduceIte, reduceCtorEq, pack, pid, parN, lid, chkK, apartV, Heap.none, f1, f2, f3, h0, c2, eS_rules, eS_row, n64]
theorem regG_len (t : List RNd) (T : TT) (b : List RS) : (regG t T b).length ≤ T.pre.length := by
 unfold regG
 rw [zi]
 exact zw (reg_count T b) (lvs_count T)
theorem take_app9 {α : Type} (l m : List α) : (l ++ m).take (l.length + m.length) = l ++ m := zc (by rw [zl]; exact zo _)
theorem regions_c {t : List RNd} {f : Int} {k : Nat} (hk : k ≤ 1000000000) (h1k : 1 ≤ k) (ht : t.length ≤ 1000) (hs : SmT t k) (hrg : t.any (bdR t.length f) = false) : ∀ (T : TT) (b : List RS), UN t T → T.pre.length ≤ 1000 → (b.length : Int) = f → b.length ≤ 1000 → SmB b k →
  R FF 259 [.l 14 (t.map eNd), (AV.i .i64 ((T.top : Int))), .l 9 (b.map eS)] = some (.l 5 ((regG t T b).map eG))
 | .lf a, b, hT, hp, hb, hn, hB => by
  have c1 : (a : Int) < (t.length : Int) := by have := hT.1; omega
  have hv := (hs _ (getD_mem' dNd hT.1)).2.2
  have f1 := qclean_s (q := (t.getD a dNd).val.1) hv (by omega)
  change R FF 63 [(AV.agg [AV.b ((t.getD a dNd).val.1), (AV.l 1 (List.map u (((t.getD a dNd).val.2.1)))), (AV.l 1 (List.map u (((t.getD a dNd).val.2.2))))])] = some (AV.agg [AV.b (ng (zC ((vQ (t.getD a dNd).val)))), (AV.l 1 (List.map u (D (zD (zC ((vQ (t.getD a dNd).val))))))), (AV.l 1 (List.map u (D (Rat.den ((vQ (t.getD a dNd).val))))))]) at f1
  have e : (regG t (.lf a) b).map eG = [[.i .i64 (a : Int), .b (ng (vQ (t.getD a dNd).val).num), (AV.l 1 (List.map u (D (vQ (t.getD a dNd).val).num.natAbs))), (AV.l 1 (List.map u (D (vQ (t.getD a dNd).val).den))), .l 9 (b.map eS)]] := rfl
  have hl := hT.2
  rw [e]
  show R FF 259 [.l 14 (t.map eNd), (AV.i .i64 ((a : Int))), .l 9 (b.map eS)] = _
  generalize vQ (t.getD a dNd).val = v at *
  rw [R_go FF F259 c259.eq_1]
  simp only [RB, RL, un, St.none, Nat.reduceEqDiff, Nat.reduceAdd, Nat.reduceMul, Nat.reduceMod, Nat.reduceLeDiff, Nat.reduceLT, Int.reduceLT, Int.reduceLE, Int.reduceEq, Int.reduceToNat, Int.reduceSub, Int.reduceNeg, Int.reduceAdd, ↓reduceIte, reduceCtorEq, pack, pid, parN, lid, chkK, apartV, Heap.none, c1, hl, f1, n64, eNd_rules, eNd_row, eS_rules, eS_row, zb]
 | .nd a l r, b, hT, hp, hb, hn, hB => by
  obtain ⟨h1, h2, h3, h4, h5, h6⟩ := hT
  have hft := un_ft hrg hb h1 h2
  have hrn := rng_of hrg (getD_mem' dNd h1) h2
  have hc := (hs _ (getD_mem' dNd h1)).2.1
  have hlen : (TT.nd a l r).pre.length = r.pre.length + l.pre.length + 1 := by rw [TT.pre, zr, zl]
  have p1 := part_c (n := t.getD a dNd) (left := true) (by omega) h1k hB hc hft.2 hft.1 hn
  have p2 := part_c (n := t.getD a dNd) (left := false) (by omega) h1k hB hc hft.2 hft.1 hn
  have i1 := regions_c hk h1k ht hs hrg l (partB b (t.getD a dNd) true) h5 (by omega) (by rw [prtB_len]; exact hb) (by rw [prtB_len]; exact hn) (part_sm hB hc h1k hft.1)
  have i2 := regions_c hk h1k ht hs hrg r (partB b (t.getD a dNd) false) h6 (by omega) (by rw [prtB_len]; exact hb) (by rw [prtB_len]; exact hn) (part_sm hB hc h1k hft.1)
  rw [show (l.top : Int) = (t.getD a dNd).lft by rw [h3]; omega] at i1
  rw [show (r.top : Int) = (t.getD a dNd).rgt by rw [h4]; omega] at i2
  have n1 := regG_len t l (partB b (t.getD a dNd) true)
  have n2 := regG_len t r (partB b (t.getD a dNd) false)
  have e : (regG t (.nd a l r) b).map eG = (if empV (sdV b (t.getD a dNd) true) then [] else (regG t l (partB b (t.getD a dNd) true)).map eG) ++ (if empV (sdV b (t.getD a dNd) false) then [] else (regG t r (partB b (t.getD a dNd) false)).map eG) := by
   unfold regG
   rw [regV, List.map_append, List.map_append]
   congr 1
   ·split <;> rfl
   ·split <;> rfl
  rw [e]
  show R FF 259 [.l 14 (t.map eNd), (AV.i .i64 ((a : Int))), .l 9 (b.map eS)] = _
  have c1 : (a : Int) < (t.length : Int) := by omega
  generalize regG t l (partB b (t.getD a dNd) true) = G1 at *
  generalize regG t r (partB b (t.getD a dNd) false) = G2 at *
  generalize partB b (t.getD a dNd) true = b1 at *
  generalize partB b (t.getD a dNd) false = b2 at *
  generalize empV (sdV b (t.getD a dNd) true) = E1 at *
  generalize empV (sdV b (t.getD a dNd) false) = E2 at *
  clear hrn hft hc h3 h4
  obtain ⟨x, hx⟩ : ∃ x, x = t.getD a dNd := ⟨_, rfl⟩
  rw [← hx] at h2 p1 p2 i1 i2
  have hx' := hx.symm
  obtain ⟨xl, xf, xc, xa, xb, xm, xv, xw⟩ := x
  simp only at h2
  subst h2
  simp only [eNd] at p1 p2
  have q1 : G1.length * 88 ≤ 140737488355328 := by omega
  have q2 : G2.length * 88 ≤ 140737488355328 := by omega
  have q3 : (G1.length + G2.length) * 88 ≤ 140737488355328 := by omega
  have t3 := take_app9 G1 G2
  cases E1 <;> cases E2 <;> simp only [zA, if_false, if_true] at p1 p2 ⊢
  ·rw [R_go FF F259 c259.eq_1]
   simp only [RB, RL, un, St.none, Nat.reduceEqDiff, Nat.reduceAdd, Nat.reduceMul, Nat.reduceMod, Nat.reduceLeDiff, Nat.reduceLT, Int.reduceLT, Int.reduceLE, Int.reduceEq, Int.reduceToNat, Int.reduceSub, Int.reduceNeg, Int.reduceAdd, ↓reduceIte, reduceCtorEq, pack, pid, parN, lid, chkK, apartV, Heap.none, c1, hx', eNd, p1, p2, i1, i2, n64, eNd_rules, eNd_row, eS_rules, eS_row, eG_rules, eG_row, zb, q1, q3, List.nil_append, List.append_nil, t3, zi, zh]
  ·rw [R_go FF F259 c259.eq_1]
   simp only [RB, RL, un, St.none, Nat.reduceEqDiff, Nat.reduceAdd, Nat.reduceMul, Nat.reduceMod, Nat.reduceLeDiff, Nat.reduceLT, Int.reduceLT, Int.reduceLE, Int.reduceEq, Int.reduceToNat, Int.reduceSub, Int.reduceNeg, Int.reduceAdd, ↓reduceIte, reduceCtorEq, pack, pid, parN, lid, chkK, apartV, Heap.none, c1, hx', eNd, p1, p2, i1, n64, eNd_rules, eNd_row, eS_rules, eS_row, eG_rules, eG_row, zb, q1, List.nil_append, List.append_nil, zi, zh]
  ·rw [R_go FF F259 c259.eq_1]
   simp only [RB, RL, un, St.none, Nat.reduceEqDiff, Nat.reduceAdd, Nat.reduceMul, Nat.reduceMod, Nat.reduceLeDiff, Nat.reduceLT, Int.reduceLT, Int.reduceLE, Int.reduceEq, Int.reduceToNat, Int.reduceSub, Int.reduceNeg, Int.reduceAdd, ↓reduceIte, reduceCtorEq, pack, pid, parN, lid, chkK, apartV, Heap.none, c1, hx', eNd, p1, p2, i2, n64, eNd_rules, eNd_row, eS_rules, eS_row, eG_rules, eG_row, zb, q2, List.nil_append, List.append_nil, zi, zh]
  ·rw [R_go FF F259 c259.eq_1]
   simp only [RB, RL, un, St.none, Nat.reduceEqDiff, Nat.reduceAdd, Nat.reduceMul, Nat.reduceMod, Nat.reduceLeDiff, Nat.reduceLT, Int.reduceLT, Int.reduceLE, Int.reduceEq, Int.reduceToNat, Int.reduceSub, Int.reduceNeg, Int.reduceAdd, ↓reduceIte, reduceCtorEq, pack, pid, parN, lid, chkK, apartV, Heap.none, c1, hx', eNd, p1, p2, n64, eNd_rules, eNd_row, eS_rules, eS_row, eG_rules, eG_row, zb, List.nil_append]
def oqL (o : Option Rat) : RQt := match o with
 | none => dQ
 | some v => rQ v
theorem mstS_eq (o : Option Rat) (n : RNd) : mstS o n = if n.leaf then (match o with | none => some (vQ n.val) | some v => if v < vQ n.val then some (vQ n.val) else some v) else o := rfl
theorem most_l0 {t : List RNd} {k : Nat} (hk : k ≤ 1000000000) (h1k : 1 ≤ k) (ht : t.length ≤ 100000) (hs : SmT t k) : ∀ (d i : Nat) (o : Option Rat), i + d = t.length → (∀ v, o = some v → sq v ≤ k) →
  LP FF [(2, 1), (3, 1), (4, 0), (7, 0), (8, 0), (9, 0)] [(2, 1), (3, 0)] b236_0 [.ownp [.b false, .l 1 [], .l 1 []], .ownp [.b (oqL o).1, (AV.l 1 (List.map u ((oqL o).2.1))), (AV.l 1 (List.map u ((oqL o).2.2)))], .b o.isNone, .l 14 (t.map eNd), (AV.i .i64 ((t.length : Int))), (AV.i .i64 ((i : Int)))] =
   some (.exit 0, [.ownp [.b false, .l 1 [], .l 1 []], .tp [.b (oqL ((t.drop i).foldl mstS o)).1, (AV.l 1 (List.map u ((oqL ((t.drop i).foldl mstS o)).2.1))), (AV.l 1 (List.map u ((oqL ((t.drop i).foldl mstS o)).2.2)))] 0]) := by
 intro d
 induction d with
 | zero =>
  intro i o hi ho
  have c1 : ¬ (i : Int) < (t.length : Int) := by omega
  rw [zG (by omega), List.foldl_nil]
  generalize oqL o = q at *
  rw [LP_go FF b236_0.eq_1]
  simp only [RB, RL, un, St.none, Nat.reduceEqDiff, Nat.reduceAdd, Nat.reduceMul, Nat.reduceMod, Nat.reduceLeDiff, Nat.reduceLT, Int.reduceLT, Int.reduceLE, Int.reduceEq, Int.reduceToNat, Int.reduceSub, Int.reduceNeg, Int.reduceAdd, ↓reduceIte, reduceCtorEq, pack, pid, parN, lid, chkK, apartV, Heap.none, c1, eNd_rules, eNd_row]
 | succ d ih =>
  intro i o hi ho
  have hlt : i < t.length := by omega
  have c1 : (i : Int) < (t.length : Int) := by omega
  have e2 : IntKind.i64.wrap ((i : Int) + 1) = ((i + 1 : Nat) : Int) := w64succ (by omega)
  have hmem := getD_mem' dNd hlt
  have hv := (hs _ hmem).2.2
  have es := mstS_eq o (t.getD i dNd)
  have hst : ∀ v, mstS o (t.getD i dNd) = some v → sq v ≤ k := by
   intro v h
   rcases ((mst_step o (t.getD i dNd)).1 v h).2.2 with h3 | h3
   ·exact ho v h3
   ·rw [← h3.2]; exact vQ_sq hv h1k
  have h9 := ih (i + 1) (mstS o (t.getD i dNd)) (by omega) hst
  rw [drop_foldT o hlt]
  obtain ⟨x, hx⟩ : ∃ x, x = t.getD i dNd := ⟨_, rfl⟩
  rw [← hx] at hv h9 es ⊢
  have hx' := hx.symm
  obtain ⟨xl, xf, xc, xa, xb, xm, xv, xw⟩ := x
  simp only at hv es
  have f1 := qclean_s (q := xv.1) hv (by omega)
  change R FF 63 [(AV.agg [AV.b xv.1, (AV.l 1 (List.map u xv.2.1)), (AV.l 1 (List.map u xv.2.2))])] = some (AV.agg [AV.b (ng (zC ((vQ xv)))), (AV.l 1 (List.map u (D (zD (zC ((vQ xv))))))), (AV.l 1 (List.map u (D (Rat.den ((vQ xv))))))]) at f1
  generalize hr : (t.drop (i + 1)).foldl mstS (mstS o ⟨xl, xf, xc, xa, xb, xm, xv, xw⟩) = res at *
  clear hr
  cases xl with
  | false =>
   rw [if_neg (by decide)] at es
   rw [es] at h9
   generalize o.isNone = fi at *
   generalize oqL o = q at *
   generalize oqL res = z at *
   rw [LP_go FF b236_0.eq_1]
   simp only [RB, RL, un, St.none, Nat.reduceEqDiff, Nat.reduceAdd, Nat.reduceMul, Nat.reduceMod, Nat.reduceLeDiff, Nat.reduceLT, Int.reduceLT, Int.reduceLE, Int.reduceEq, Int.reduceToNat, Int.reduceSub, Int.reduceNeg, Int.reduceAdd, ↓reduceIte, reduceCtorEq, pack, pid, parN, lid, chkK, apartV, Heap.none, c1, hx', eNd_rules, eNd_row, eNd, zb, e2]
   exact h9
  | true =>
   rw [if_pos rfl] at es
   cases o with
   | none =>
    simp only at es
    rw [es, show oqL (some (vQ xv)) = (ng (vQ xv).num, D (vQ xv).num.natAbs, D (vQ xv).den) from rfl, show (some (vQ xv)).isNone = false from rfl] at h9
    rw [show (none : Option Rat).isNone = true from rfl, show oqL none = (false, [], []) from rfl]
    generalize vQ xv = v at *
    generalize oqL res = z at *
    rw [LP_go FF b236_0.eq_1]
    simp only [RB, RL, un, St.none, Nat.reduceEqDiff, Nat.reduceAdd, Nat.reduceMul, Nat.reduceMod, Nat.reduceLeDiff, Nat.reduceLT, Int.reduceLT, Int.reduceLE, Int.reduceEq, Int.reduceToNat, Int.reduceSub, Int.reduceNeg, Int.reduceAdd, ↓reduceIte, reduceCtorEq, pack, pid, parN, lid, chkK, apartV, Heap.none, c1, hx', eNd_rules, eNd_row, eNd, zb, e2, f1, List.map_nil]
    exact h9
   | some w =>
    simp only at es
    have hw := ho w rfl
    have f2 := vcmp_c (x := xv) (y := rQ w) (k := k) (j := k) hv (sm_cq hw) (by omega) (by omega)
    rw [vQ_rQ] at f2
    have e1 := qcmp_gt (x := vQ xv) (y := w)
    rw [show (some w).isNone = false from rfl, show oqL (some w) = (ng w.num, D w.num.natAbs, D w.den) from rfl]
    simp only [rQ] at f2
    generalize vQ xv = v at *
    generalize qcmp v w = z at *
    by_cases b1 : w < v
    ·rw [if_pos b1] at es
     rw [es, show oqL (some v) = (ng v.num, D v.num.natAbs, D v.den) from rfl, show (some v).isNone = false from rfl] at h9
     have b2 := e1.2 b1
     generalize oqL res = y at *
     rw [LP_go FF b236_0.eq_1]
     simp only [RB, RL, un, St.none, Nat.reduceEqDiff, Nat.reduceAdd, Nat.reduceMul, Nat.reduceMod, Nat.reduceLeDiff, Nat.reduceLT, Int.reduceLT, Int.reduceLE, Int.reduceEq, Int.reduceToNat, Int.reduceSub, Int.reduceNeg, Int.reduceAdd, ↓reduceIte, reduceCtorEq, pack, pid, parN, lid, chkK, apartV, Heap.none, c1, hx', eNd_rules, eNd_row, eNd, zb, e2, f1, f2, b2]
     exact h9
    ·rw [if_neg b1] at es
     rw [es, show oqL (some w) = (ng w.num, D w.num.natAbs, D w.den) from rfl, show (some w).isNone = false from rfl] at h9
     have b2 : ¬ 0 < z := fun h => b1 (e1.1 h)
     generalize oqL res = y at *
     rw [LP_go FF b236_0.eq_1]
     simp only [RB, RL, un, St.none, Nat.reduceEqDiff, Nat.reduceAdd, Nat.reduceMul, Nat.reduceMod, Nat.reduceLeDiff, Nat.reduceLT, Int.reduceLT, Int.reduceLE, Int.reduceEq, Int.reduceToNat, Int.reduceSub, Int.reduceNeg, Int.reduceAdd, ↓reduceIte, reduceCtorEq, pack, pid, parN, lid, chkK, apartV, Heap.none, c1, hx', eNd_rules, eNd_row, eNd, zb, e2, f1, f2, b2]
     exact h9
theorem most_c {t : List RNd} {f : Int} {T : TT} {k : Nat} (hk : k ≤ 1000000000) (h1k : 1 ≤ k) (ht : t.length ≤ 100000) (hs : SmT t k) (hT : GT t f T) : R FF 236 [.l 14 (t.map eNd)] = some (AV.agg [AV.b (ng (zC ((mstD t)))), (AV.l 1 (List.map u (D (zD (zC ((mstD t))))))), (AV.l 1 (List.map u (D (Rat.den ((mstD t))))))]) := by
 have l0 := most_l0 hk h1k ht hs t.length 0 none (by omega) (fun v h => by cases h)
 obtain ⟨v, e, _⟩ := hT.most
 rw [zz, zy, show t.foldl mstS none = some v from e, show oqL none = (false, [], []) from rfl, show oqL (some v) = (ng v.num, D v.num.natAbs, D v.den) from rfl, show (none : Option Rat).isNone = true from rfl] at l0
 simp only [List.map_nil] at l0
 rw [show mstD t = v by unfold mstD; rw [e]; rfl]
 rw [R_go FF F236 c236.eq_1]
 simp only [RB, RL, un, St.none, Nat.reduceEqDiff, Nat.reduceAdd, Nat.reduceMul, Nat.reduceMod, Nat.reduceLeDiff, Nat.reduceLT, Int.reduceLT, Int.reduceLE, Int.reduceEq, Int.reduceToNat, Int.reduceSub, Int.reduceNeg, Int.reduceAdd, ↓reduceIte, reduceCtorEq, pack, pid, parN, lid, chkK, apartV, Heap.none, l0, eNd_rules, eNd_row]
def ngI (t : List RNd) (i : Nat) : List RNd := (t.take i).map ngN ++ t.drop i
theorem ngI_len (t : List RNd) (i : Nat) : (ngI t i).length = t.length := by
 unfold ngI
 rw [zl, zi, zk, List.length_drop]; omega
theorem ngI_get {t : List RNd} {i : Nat} (h : i < t.length) : (ngI t i).getD i dNd = t.getD i dNd := by
 unfold ngI
 rw [za, List.getElem?_append_right (by rw [zi, zk]; omega), zi, zk, Nat.min_eq_left (by omega), Nat.sub_self, List.getElem?_drop, za, Nat.add_zero]
theorem ngI_set {t : List RNd} {i : Nat} (h : i < t.length) : (ngI t i).set i (ngN (t.getD i dNd)) = ngI t (i + 1) := by
 unfold ngI
 rw [List.set_append_right _ _ (by rw [zi, zk]; omega), zi, zk, Nat.min_eq_left (by omega), Nat.sub_self, List.drop_eq_getElem_cons h, List.set_cons_zero, List.take_add_one, ze h, List.map_append, List.append_assoc, za, ze h]
 rfl
theorem ngI_same {t : List RNd} {i : Nat} (h : i < t.length) (hl : (t.getD i dNd).leaf = false) : ngI t i = ngI t (i + 1) := by
 rw [← ngI_set h, show ngN (t.getD i dNd) = t.getD i dNd by unfold ngN; rw [hl]; rfl, ← ngI_get h]
 have hi : i < (ngI t i).length := by rw [ngI_len]; exact h
 rw [za, ze hi, Option.getD_some, List.set_getElem_self]
theorem neg_l1 {t : List RNd} {acc us : List (List RNd)} {n j : Int} {k : Nat} (hk : k ≤ 1000000000) (h1k : 1 ≤ k) (ht : t.length ≤ 100000) (hs : SmT t k) : ∀ (d i : Nat), i + d = t.length →
  LP FF [(3, 1), (6, 1), (8, 0), (9, 0), (10, 0), (18, 0), (19, 0)] [(3, 1), (6, 0), (8, 0), (9, 0), (10, 0)] b226_1 [.own true 1 (acc.map eTr), .own true 14 ((ngI t i).map eNd), .l 1 (us.map eTr), (AV.i .i64 n), (AV.i .i64 j), (AV.i .i64 ((t.length : Int))), (AV.i .i64 ((i : Int)))] = some (.exit 2, [.own true 1 (acc.map eTr), .l 14 ((negT t).map eNd), .l 1 (us.map eTr), (AV.i .i64 n), (AV.i .i64 j)]) := by
 intro d
 induction d with
 | zero =>
  intro i hi
  have c1 : ¬ (i : Int) < (t.length : Int) := by omega
  rw [show ngI t i = negT t by unfold ngI negT; rw [show i = t.length by omega, zc (zo _), zG (zo _), List.append_nil]]
  generalize negT t = F at *
  rw [LP_go FF b226_1.eq_1]
  simp only [RB, RL, un, St.none, Nat.reduceEqDiff, Nat.reduceAdd, Nat.reduceMul, Nat.reduceMod, Nat.reduceLeDiff, Nat.reduceLT, Int.reduceLT, Int.reduceLE, Int.reduceEq, Int.reduceToNat, Int.reduceSub, Int.reduceNeg, Int.reduceAdd, ↓reduceIte, reduceCtorEq, pack, pid, parN, lid, chkK, apartV, Heap.none, c1, eNd_rules, eNd_row, eTr_rules, eTr_row, Row.freeze, zh]
 | succ d ih =>
  intro i hi
  have hlt : i < t.length := by omega
  have c1 : (i : Int) < (t.length : Int) := by omega
  have e2 : IntKind.i64.wrap ((i : Int) + 1) = ((i + 1 : Nat) : Int) := w64succ (by omega)
  have h9 := ih (i + 1) (by omega)
  have hmem := getD_mem' dNd hlt
  have hv := (hs _ hmem).2.2
  have hg := ngI_get hlt
  have hset := ngI_set hlt
  have hsame := ngI_same hlt
  have hlen := ngI_len t i
  obtain ⟨x, hx⟩ : ∃ x, x = t.getD i dNd := ⟨_, rfl⟩
  rw [← hx] at hv hg hset hsame
  obtain ⟨xl, xf, xc, xa, xb, xm, xv, xw⟩ := x
  simp only at hv hsame
  have f1 := qneg_c (q := xv.1) hv.1.1 (zw hv.1.2 (by omega)) hv.2.1 (zw hv.2.2 (by omega))
  change R FF 96 [(AV.agg [AV.b xv.1, (AV.l 1 (List.map u xv.2.1)), (AV.l 1 (List.map u xv.2.2))])] = some (AV.agg [AV.b (ng (zC ((-vQ xv)))), (AV.l 1 (List.map u (D (zD (zC ((-vQ xv))))))), (AV.l 1 (List.map u (D (Rat.den ((-vQ xv))))))]) at f1
  cases xl with
  | false =>
   rw [← hsame rfl] at h9
   generalize ngI t i = A at *
   have c2 : (i : Int) < (A.length : Int) := by omega
   rw [LP_go FF b226_1.eq_1]
   have m3 : List.take t.length A = A := zc (by omega)
   simp only [RB, RL, un, St.none, Nat.reduceEqDiff, Nat.reduceAdd, Nat.reduceMul, Nat.reduceMod, Nat.reduceLeDiff, Nat.reduceLT, Int.reduceLT, Int.reduceLE, Int.reduceEq, Int.reduceToNat, Int.reduceSub, Int.reduceNeg, Int.reduceAdd, ↓reduceIte, reduceCtorEq, pack, pid, parN, lid, chkK, apartV, Heap.none, c1, c2, hg, hlen, eNd_rules, eNd_row, eNd, eTr_rules, eTr_row, zb, e2, hlt, m3]
   exact h9
  | true =>
   rw [show ngN ⟨true, xf, xc, xa, xb, xm, xv, xw⟩ = ⟨true, xf, xc, xa, xb, xm, rQ (-vQ xv), xw⟩ from rfl] at hset
   generalize -vQ xv = v at *
   rw [← hset] at h9
   generalize ngI t i = A at *
   have c2 : (i : Int) < (A.length : Int) := by omega
   have m1 : putC 14 (List.map eNd A) i 8 [AV.b (ng v.num), AV.l 1 (List.map u (D v.num.natAbs)), AV.l 1 (List.map u (D v.den))] = List.map eNd (A.set i ⟨true, xf, xc, xa, xb, xm, rQ v, xw⟩) := by
    have hg2 : (List.map eNd A).getD i [] = eNd ⟨true, xf, xc, xa, xb, xm, xv, xw⟩ := by
     rw [← hg, za, List.getElem?_map, za, ze (by omega)]; rfl
    rw [putC, if_neg (show ¬ (8 = 0 ∧ _) from fun h => absurd h.1 (by decide)), hg2, List.map_set]
    rfl
   have m4 : List.take t.length (List.map eNd (A.set i ⟨true, xf, xc, xa, xb, xm, rQ v, xw⟩)) = List.map eNd (A.set i ⟨true, xf, xc, xa, xb, xm, rQ v, xw⟩) := zc (by rw [zi, zx]; omega)
   rw [LP_go FF b226_1.eq_1]
   simp only [RB, RL, un, St.none, Nat.reduceEqDiff, Nat.reduceAdd, Nat.reduceMul, Nat.reduceMod, Nat.reduceLeDiff, Nat.reduceLT, Int.reduceLT, Int.reduceLE, Int.reduceEq, Int.reduceToNat, Int.reduceSub, Int.reduceNeg, Int.reduceAdd, ↓reduceIte, reduceCtorEq, pack, pid, parN, lid, chkK, apartV, Heap.none, c1, c2, hg, hlen, eNd_rules, eNd_row, eNd, eTr_rules, eTr_row, zb, e2, f1, m1, m4, hlt]
   exact h9
theorem neg_l0 {ts : List (List RNd)} {k : Nat} (hk : k ≤ 1000000000) (h1k : 1 ≤ k) (hn : ts.length ≤ 1000) (hs : ∀ t ∈ ts, t.length ≤ 100000 ∧ SmT t k) : ∀ (d i : Nat), i + d = ts.length →
  LP FF [(3, 1), (8, 0), (9, 0), (10, 0)] [(3, 0)] b226_0 [.own true 1 (((ts.take i).map negT).map eTr), .l 1 (ts.map eTr), (AV.i .i64 ((ts.length : Int))), (AV.i .i64 ((i : Int)))] = some (.exit 0, [.l 1 ((ts.map negT).map eTr)]) := by
 intro d
 induction d with
 | zero =>
  intro i hi
  have c1 : ¬ (i : Int) < (ts.length : Int) := by omega
  rw [zc (by omega)]
  generalize ts.map negT = F at *
  rw [LP_go FF b226_0.eq_1]
  simp only [RB, RL, un, St.none, Nat.reduceEqDiff, Nat.reduceAdd, Nat.reduceMul, Nat.reduceMod, Nat.reduceLeDiff, Nat.reduceLT, Int.reduceLT, Int.reduceLE, Int.reduceEq, Int.reduceToNat, Int.reduceSub, Int.reduceNeg, Int.reduceAdd, ↓reduceIte, reduceCtorEq, pack, pid, parN, lid, chkK, apartV, Heap.none, c1, eTr_rules, eTr_row, Row.freeze, zh]
 | succ d ih =>
  intro i hi
  have hlt : i < ts.length := by omega
  have h9 := ih (i + 1) (by omega)
  have hx := hs _ (getD_mem' ([] : List RNd) hlt)
  have l1 := neg_l1 (t := ts.getD i []) (acc := (ts.take i).map negT) (us := ts) (n := (ts.length : Int)) (j := (i : Int)) hk h1k hx.1 hx.2 (ts.getD i []).length 0 (by omega)
  rw [show ngI (ts.getD i []) 0 = ts.getD i [] from rfl, zy] at l1
  have ht : (ts.take (i + 1)).map negT = (ts.take i).map negT ++ [negT (ts.getD i [])] := by
   rw [List.take_add_one, ze hlt, List.map_append, za, ze hlt]
   rfl
  rw [ht] at h9
  have hlen : ((ts.take i).map negT).length = i := by rw [zi, zk]; omega
  have c1 : (i : Int) < (ts.length : Int) := by omega
  have e2 : IntKind.i64.wrap ((i : Int) + 1) = ((i + 1 : Nat) : Int) := w64succ (by omega)
  have b2 : (i + 1) * 24 ≤ 140737488355328 := by omega
  have b3 : (0 + (ts.getD i []).length) * 208 ≤ 140737488355328 := by omega
  have b4 : (ts.getD i []).length * 208 ≤ 140737488355328 := by omega
  generalize (ts.take i).map negT = A at *
  generalize negT (ts.getD i []) = x at *
  have m2 : List.take (i + 1) (A ++ [x]) = A ++ [x] := zc (by rw [zl, hlen]; exact zo _)
  have m3 : List.take i A = A := zc (by omega)
  have m1 : List.map eTr A ++ [[AV.l 14 (x.map eNd)]] = List.map eTr (A ++ [x]) := by rw [List.map_append (f := eTr)]; rfl
  rw [LP_go FF b226_0.eq_1]
  simp only [RB, RL, un, St.none, Nat.reduceEqDiff, Nat.reduceAdd, Nat.reduceMul, Nat.reduceMod, Nat.reduceLeDiff, Nat.reduceLT, Int.reduceLT, Int.reduceLE, Int.reduceEq, Int.reduceToNat, Int.reduceSub, Int.reduceNeg, Int.reduceAdd, ↓reduceIte, reduceCtorEq, pack, pid, parN, lid, chkK, apartV, Heap.none, c1, eNd_rules, eNd_row, eTr_rules, eTr_row, zb, l1, e2, hlen, b2, b3, b4, m3, m1, m2, List.nil_append, zF, zh]
  exact h9
theorem negative_c {ts : List (List RNd)} {k : Nat} (hk : k ≤ 1000000000) (h1k : 1 ≤ k) (hn : ts.length ≤ 1000) (hs : ∀ t ∈ ts, t.length ≤ 100000 ∧ SmT t k) : R FF 226 [.l 1 (ts.map eTr)] = some (.l 1 ((ts.map negT).map eTr)) := by
 have l0 := neg_l0 hk h1k hn hs ts.length 0 (by omega)
 rw [List.take_zero, zy] at l0
 simp only [List.map_nil] at l0
 generalize ts.map negT = F at *
 rw [R_go FF F226 c226.eq_1]
 simp only [RB, RL, un, St.none, Nat.reduceEqDiff, Nat.reduceAdd, Nat.reduceMul, Nat.reduceMod, Nat.reduceLeDiff, Nat.reduceLT, Int.reduceLT, Int.reduceLE, Int.reduceEq, Int.reduceToNat, Int.reduceSub, Int.reduceNeg, Int.reduceAdd, ↓reduceIte, reduceCtorEq, pack, pid, parN, lid, chkK, apartV, Heap.none, l0, eTr_rules, eTr_row]
def fQ (st : FS) : RQt := match st with
 | none => dQ
 | some x => rQ x.1
def fB (st : FS) : List RS := match st with
 | none => []
 | some x => x.2
def eF (ts : List (List RNd)) (st : FS) : List AV := [.i .i64 0, .b (fQ st).1, (AV.l 1 (List.map u ((fQ st).2.1))), (AV.l 1 (List.map u ((fQ st).2.2))), .l 9 ((fB st).map eS), .l 1 (ts.map eTr), (AV.l 3 (List.map eQ (List.map rQ (rsL ts)))), .b st.isSome]
structure OkT (ts : List (List RNd)) (f : Int) (k : Nat) : Prop where
 n : ts.length ≤ 6
 gt : ∀ t ∈ ts, ∃ T : TT, GT t f T
 len : ∀ t ∈ ts, t.length ≤ 1000
 sm : ∀ t ∈ ts, SmT t k
structure OkB (b : List RS) (n k : Nat) : Prop where
 len : b.length = n
 sm : SmB b k
 nv : vF b 0 b.length = false
def LookC (ts : List (List RNd)) (n k i : Nat) : Prop := ∀ (b : List RS) (sum : Rat) (st : FS), OkB b n k → sq sum ≤ 20 * i + 1 → gdF n k st →
  ∃ st', R FF 243 [.ownp (eF ts st), (AV.i .i64 ((i : Int))), .l 9 (b.map eS), (AV.agg [AV.b (ng (zC sum)), (AV.l 1 (List.map u (D (zD (zC sum))))), (AV.l 1 (List.map u (D (Rat.den sum))))])] = some (.back (.tup []) [.ownp (eF ts st')]) ∧ Pst n k (fun row => inB b row = true) (fun row => sum + predV (ts.drop i) row) st st'
theorem drop_getD {α : Type} {l : List α} (d : α) {j : Nat} (h : j < l.length) : l.drop j = l.getD j d :: l.drop (j + 1) := by
 rw [za, ze h]
 exact List.drop_eq_getElem_cons h
theorem mkG_get {t : List RNd} {T : TT} {b : List RS} {j : Nat} (h : j < (regV t T b).length) : (regG t T b).getD j dG = mkG t ((regV t T b).getD j (0, [])) := by
 unfold regG
 rw [za, List.getElem?_map, za, ze h]; rfl
theorem look_l0 {ts : List (List RNd)} {f : Int} {k n i : Nat} {b : List RS} {T : TT} {sum : Rat} (hk : k ≤ 10) (h1k : 1 ≤ k) (hn : (n : Int) = f) (hts : OkT ts f k) (hi : i < ts.length) (hT : GT (ts.getD i []) f T) (hb : OkB b n k) (hsum : sq sum ≤ 20 * i + 1) (ih : LookC ts n k (i + 1)) :
  ∀ (e j : Nat) (st : FS), j + e = (regV (ts.getD i []) T b).length → gdF n k st → (e = 0 → ∃ x, st = some x) →
  ∃ st', LP FF [(200000, 2), (0, 1), (1, 0), (7, 0), (60, 0), (61, 0), (62, 0)] [(200000, 2), (0, 1)] b243_0 [.ownp (eF ts st), .p 200000 0 0, (AV.i .i64 ((i : Int))), .tp [.b (ng sum.num), (AV.l 1 (List.map u (D sum.num.natAbs))), (AV.l 1 (List.map u (D sum.den)))] 0, .l 5 ((regG (ts.getD i []) T b).map eG), (AV.i .i64 (((regG (ts.getD i []) T b).length : Int))), (AV.i .i64 ((j : Int)))] = some (.exit 0, [.ownp (eF ts st'), .p 200000 0 0]) ∧
   Pst n k (fun row => ∃ x ∈ (regV (ts.getD i []) T b).drop j, inB x.2 row = true) (fun row => sum + predV (ts.drop i) row) st st' := by
 have hlenG : (regG (ts.getD i []) T b).length = (regV (ts.getD i []) T b).length := by unfold regG; rw [zi]
 intro e
 induction e with
 | zero =>
  intro j st hj hst hs0
  obtain ⟨⟨v, B⟩, rfl⟩ := hs0 rfl
  refine ⟨some (v, B), ?_, Pst.none hst fun row hr => ?_⟩
  ·have c1 : ¬ (j : Int) < ((regG (ts.getD i []) T b).length : Int) := by omega
   generalize regG (ts.getD i []) T b = G at *
   simp only [eF]
   generalize fQ (some (v, B)) = q at *
   generalize fB (some (v, B)) = C at *
   generalize rsL ts = L at *
   rw [LP_go FF b243_0.eq_1]
   simp only [RB, RL, un, St.none, Nat.reduceEqDiff, Nat.reduceAdd, Nat.reduceMul, Nat.reduceMod, Nat.reduceLeDiff, Nat.reduceLT, Int.reduceLT, Int.reduceLE, Int.reduceEq, Int.reduceToNat, Int.reduceSub, Int.reduceNeg, Int.reduceAdd, ↓reduceIte, reduceCtorEq, pack, pid, parN, lid, chkK, apartV, Heap.none, c1, eG_rules, eG_row, eS_rules, eS_row, eTr_rules, eTr_row, eQ_rules, eQ_row]
  ·rw [zG (by omega)] at hr
   obtain ⟨x, hx, _⟩ := hr
   exact (List.not_mem_nil hx).elim
 | succ e ihe =>
  intro j st hj hst hs0
  have hlt : j < (regV (ts.getD i []) T b).length := by omega
  have hmem := getD_mem' (0, []) hlt
  have hn6 := hts.n
  have ht := getD_mem' ([] : List RNd) hi
  have hsm := hts.sm _ ht
  have hbf : (b.length : Int) = f := by rw [hb.len]; exact hn
  obtain ⟨x, hx⟩ : ∃ x, x = (regV (ts.getD i []) T b).getD j (0, []) := ⟨_, rfl⟩
  rw [← hx] at hmem
  have hxs := reg_sm h1k hT.rg hsm T b hbf hT.un hb.sm hb.nv hmem
  have hxl := reg_len T b hmem
  have hxa := un_lvs T hT.un _ (reg_mem T b hmem)
  have hlv := vQ_sq (hsm _ (getD_mem' dNd hxa.1)).2.2 h1k
  have hadd := sq_add sum (vQ ((ts.getD i []).getD x.1 dNd).val)
  obtain ⟨s1, r1, p1⟩ := ih x.2 (sum + vQ ((ts.getD i []).getD x.1 dNd).val) st ⟨by rw [hxl]; exact hb.len, hxs.1, hxs.2⟩ (by omega) hst
  have g1 := p1.2
  have so : e = 0 → ∃ y, s1 = some y := fun _ => by
   obtain ⟨⟨v, B, e1, _⟩, _⟩ := p1
   exact ⟨_, e1⟩
  obtain ⟨s2, r2, p2⟩ := ihe (j + 1) s1 (by omega) g1 so
  have hdr : (ts.drop i) = ts.getD i [] :: ts.drop (i + 1) := by
   rw [List.drop_eq_getElem_cons hi, za, ze hi]; rfl
  refine ⟨s2, ?_, ?_⟩
  ·have f1 := qadd_cc hsum hlv (by omega) (by omega)
   have hg := mkG_get (t := ts.getD i []) (T := T) (b := b) hlt
   rw [← hx, show mkG (ts.getD i []) x = (x.1, vQ ((ts.getD i []).getD x.1 dNd).val, x.2) from rfl] at hg
   have c1 : (j : Int) < ((regG (ts.getD i []) T b).length : Int) := by omega
   have e2 : IntKind.i64.wrap ((j : Int) + 1) = ((j + 1 : Nat) : Int) := w64succ (by have := regG_len (ts.getD i []) T b; have := hT.le; have := hts.len _ ht; omega)
   have e3 : IntKind.i64.wrap ((i : Int) + 1) = ((i + 1 : Nat) : Int) := w64succ (by have := hts.n; omega)
   generalize regG (ts.getD i []) T b = G at *
   generalize vQ ((ts.getD i []).getD x.1 dNd).val = v at *
   generalize x.2 = B at *
   generalize x.1 = a at *
   simp only [eF] at r1 r2 ⊢
   generalize fQ st = q at *
   generalize fB st = C at *
   generalize st.isSome = w at *
   generalize fQ s1 = q1 at *
   generalize fB s1 = C1 at *
   generalize s1.isSome = w1 at *
   generalize fQ s2 = q2 at *
   generalize fB s2 = C2 at *
   generalize s2.isSome = w2 at *
   generalize rsL ts = L at *
   rw [LP_go FF b243_0.eq_1]
   simp only [RB, RL, un, St.none, Nat.reduceEqDiff, Nat.reduceAdd, Nat.reduceMul, Nat.reduceMod, Nat.reduceLeDiff, Nat.reduceLT, Int.reduceLT, Int.reduceLE, Int.reduceEq, Int.reduceToNat, Int.reduceSub, Int.reduceNeg, Int.reduceAdd, ↓reduceIte, reduceCtorEq, pack, pid, parN, lid, chkK, apartV, Heap.none, c1, e2, e3, hg, f1, r1, eG_rules, eG_row, eS_rules, eS_row, eTr_rules, eTr_row, eQ_rules, eQ_row, zb, n64]
   exact r2
  ·have q1 : Pst n k (fun row => inB x.2 row = true) (fun row => sum + predV (ts.drop i) row) st s1 := p1.eqv (fun _ => Iff.rfl) fun row hr => by
    rw [hdr, predV_cons, reg_val hT hbf hmem hr]; grind
   refine (q1.comp p2).eqv (fun row => ?_) fun _ _ => rfl
   have hd : (regV (ts.getD i []) T b).drop j = x :: (regV (ts.getD i []) T b).drop (j + 1) := by
    rw [hx]; exact drop_getD _ hlt
   rw [hd]
   constructor
   ·rintro (h | ⟨y, hy, h⟩)
    ·exact ⟨x, zp .., h⟩
    ·exact ⟨y, zn _ hy, h⟩
   ·rintro ⟨y, hy, h⟩
    rcases List.mem_cons.1 hy with rfl | hy
    ·exact .inl h
    ·exact .inr ⟨y, hy, h⟩
theorem look_c {ts : List (List RNd)} {f : Int} {k n : Nat} (hk : k ≤ 10) (h1k : 1 ≤ k) (hn : (n : Int) = f) (hn2 : n ≤ 1000) (hts : OkT ts f k) : ∀ (d i : Nat), i + d = ts.length → LookC ts n k i := by
 have hlenL := rsL_len ts
 have hn6 := hts.n
 intro d
 induction d with
 | zero =>
  intro i hi b sum st hb hsum hst
  obtain rfl : i = ts.length := by omega
  have hd : ts.drop ts.length = [] := zG (by omega)
  have hv0 : ∀ row, sum + predV (ts.drop ts.length) row = sum := fun row => by rw [hd]; show sum + 0 = sum; grind
  have upd : Pst n k (fun row => inB b row = true) (fun row => sum + predV (ts.drop ts.length) row) none (some (sum, b)) := by
   refine ⟨⟨sum, b, rfl, (fun v0 B0 h => by cases h), (fun row _ => by show sum + predV (ts.drop ts.length) row ≤ sum; rw [hv0]; exact Rat.le_refl), .inr fun row h => ⟨h, hv0 row⟩⟩, fun v B h => ?_⟩
   cases h
   exact ⟨hb.len, hb.sm, hb.nv, by omega⟩
  have f1 := rsL_get ts ts.length (by omega)
  rw [hd] at f1
  have f1 : (rsL ts).getD ts.length 0 = 0 := f1
  have f2 := qadd_cc (s := sum) (t := (0 : Rat)) (k := 20 * ts.length + 1) (j := 1) hsum sq_zero (by omega) (by omega)
  rw [Rat.add_zero] at f2
  cases st with
  | none =>
   refine ⟨some (sum, b), ?_, upd⟩
   simp only [eF]
   rw [show fQ (some (sum, b)) = (ng sum.num, D sum.num.natAbs, D sum.den) from rfl, show fB (some (sum, b)) = b from rfl, show (some (sum, b)).isSome = true from rfl, show (none : FS).isSome = false from rfl]
   generalize fQ none = q at *
   generalize fB none = C at *
   generalize rsL ts = L at *
   rw [R_go FF F243 c243.eq_1]
   simp only [RB, RL, un, St.none, Nat.reduceEqDiff, Nat.reduceAdd, Nat.reduceMul, Nat.reduceMod, Nat.reduceLeDiff, Nat.reduceLT, Int.reduceLT, Int.reduceLE, Int.reduceEq, Int.reduceToNat, Int.reduceSub, Int.reduceNeg, Int.reduceAdd, ↓reduceIte, reduceCtorEq, pack, pid, parN, lid, chkK, apartV, Heap.none, eq_self, eS_rules, eS_row, eTr_rules, eTr_row, eQ_rules, eQ_row, zb, n64]
  | some y =>
   obtain ⟨v, B⟩ := y
   have hg := hst v B rfl
   have f3 := vcmp_c (x := rQ sum) (y := rQ v) (k := 20 * ts.length + 1) (j := 200) (sm_cq hsum) (sm_cq hg.2.2.2) (by omega) (by omega)
   rw [vQ_rQ, vQ_rQ] at f3
   have e1 := qcmp_le (x := sum) (y := v)
   have hlL : (L : List Rat) → L.length = ts.length + 1 → (ts.length : Int) < ((L.map rQ).length : Int) := fun L h => by rw [zi]; omega
   have hgL := getD_map_rQ (rsL ts) ts.length (by omega)
   rw [f1, show rQ 0 = (ng (0 : Rat).num, D (0 : Rat).num.natAbs, D (0 : Rat).den) from rfl] at hgL
   have hcL := hlL _ hlenL
   simp only [rQ] at f3
   by_cases hle : sum ≤ v
   ·have b2 := e1.2 hle
    refine ⟨some (v, B), ?_, Pst.none hst fun row _ => by rw [hv0]; exact hle⟩
    simp only [eF]
    rw [show fQ (some (v, B)) = (ng v.num, D v.num.natAbs, D v.den) from rfl, show fB (some (v, B)) = B from rfl, show (some (v, B)).isSome = true from rfl]
    generalize (rsL ts).map rQ = L at *
    generalize (0 : Rat) = z0 at *
    rw [R_go FF F243 c243.eq_1]
    simp only [RB, RL, un, St.none, Nat.reduceEqDiff, Nat.reduceAdd, Nat.reduceMul, Nat.reduceMod, Nat.reduceLeDiff, Nat.reduceLT, Int.reduceLT, Int.reduceLE, Int.reduceEq, Int.reduceToNat, Int.reduceSub, Int.reduceNeg, Int.reduceAdd, ↓reduceIte, reduceCtorEq, pack, pid, parN, lid, chkK, apartV, Heap.none, eq_self, f2, f3, b2, hgL, hcL, eS_rules, eS_row, eTr_rules, eTr_row, eQ_rules, eQ_row, zb, n64]
   ·have b2 : ¬ qcmp sum v ≤ 0 := fun h => hle (e1.1 h)
    obtain ⟨⟨w1, w2, w3, w4, w5, w6⟩, w7⟩ := upd
    refine ⟨some (sum, b), ?_, ⟨⟨sum, b, rfl, (fun v0 B0 h => by cases h; exact Rat.le_of_lt (Rat.not_le.1 hle)), (fun row _ => by show sum + predV (ts.drop ts.length) row ≤ sum; rw [hv0]; exact Rat.le_refl), .inr fun row h => ⟨h, hv0 row⟩⟩, w7⟩⟩
    simp only [eF]
    rw [show fQ (some (v, B)) = (ng v.num, D v.num.natAbs, D v.den) from rfl, show fB (some (v, B)) = B from rfl, show (some (v, B)).isSome = true from rfl, show fQ (some (sum, b)) = (ng sum.num, D sum.num.natAbs, D sum.den) from rfl, show fB (some (sum, b)) = b from rfl, show (some (sum, b)).isSome = true from rfl]
    generalize (rsL ts).map rQ = L at *
    generalize (0 : Rat) = z0 at *
    rw [R_go FF F243 c243.eq_1]
    simp only [RB, RL, un, St.none, Nat.reduceEqDiff, Nat.reduceAdd, Nat.reduceMul, Nat.reduceMod, Nat.reduceLeDiff, Nat.reduceLT, Int.reduceLT, Int.reduceLE, Int.reduceEq, Int.reduceToNat, Int.reduceSub, Int.reduceNeg, Int.reduceAdd, ↓reduceIte, reduceCtorEq, pack, pid, parN, lid, chkK, apartV, Heap.none, eq_self, f2, f3, b2, hgL, hcL, eS_rules, eS_row, eTr_rules, eTr_row, eQ_rules, eQ_row, zb, n64]
 | succ d ih =>
  intro i hi b sum st hb hsum hst
  have hlt : i < ts.length := by omega
  have hbf : (b.length : Int) = f := by rw [hb.len]; exact hn
  have ht := getD_mem' ([] : List RNd) hlt
  have hsm := hts.sm _ ht
  have htl := hts.len _ ht
  obtain ⟨T, hT⟩ := hts.gt _ ht
  have c1 : ¬ (i : Int) = (ts.length : Int) := by omega
  have c2 : (i : Int) < (ts.length : Int) := by omega
  have f0 := regions_c (by omega) h1k htl hsm hT.rg T b hT.un (zw hT.le htl) hbf (by rw [hb.len]; exact hn2) hb.sm
  rw [hT.top, zy] at f0
  have hpos := reg_some hT hbf hb.nv
  obtain ⟨s1, r1, p1⟩ := look_l0 hk h1k hn hts hlt hT hb hsum (ih (i + 1) (by omega)) (regV (ts.getD i []) T b).length 0 st (by omega) hst (fun h => by omega)
  rw [zz, zy] at *
  have q1 : Pst n k (fun row => inB b row = true) (fun row => sum + predV (ts.drop i) row) st s1 := p1.eqv (fun row => reg_all hT hbf row) fun _ _ => rfl
  have f1 := rsL_get ts i (by omega)
  have hrs := rs_sq (k := k) h1k (ts := ts.drop i) fun t h => hts.sm t (List.mem_of_mem_drop h)
  have hdl : (ts.drop i).length ≤ 6 := by rw [List.length_drop]; omega
  have hrs2 : sq (rsV (ts.drop i)) ≤ 100 := by
   have := Nat.mul_le_mul hdl (show k + 1 ≤ 11 by omega)
   omega
  have hle9 := rs_le (f := f) (ts := ts.drop i) fun t h => hts.gt t (List.mem_of_mem_drop h)
  have f2 := qadd_cc (s := sum) (t := rsV (ts.drop i)) (k := 20 * i + 1) (j := 100) hsum hrs2 (by omega) (by omega)
  have hsq2 := sq_add sum (rsV (ts.drop i))
  have hgL := getD_map_rQ (rsL ts) i (by omega)
  rw [f1] at hgL
  have hcL : (i : Int) < (((rsL ts).map rQ).length : Int) := by rw [zi]; omega
  generalize rsV (ts.drop i) = rs at *
  rw [show rQ rs = (ng rs.num, D rs.num.natAbs, D rs.den) from rfl] at hgL
  cases st with
  | none =>
   refine ⟨s1, ?_, q1⟩
   generalize regG (ts.getD i []) T b = G at *
   simp only [eF] at r1 ⊢
   rw [show (none : FS).isSome = false from rfl] at r1 ⊢
   generalize fQ none = q at *
   generalize fB none = C at *
   generalize fQ s1 = q1 at *
   generalize fB s1 = C1 at *
   generalize s1.isSome = w1 at *
   generalize (rsL ts).map rQ = L at *
   rw [R_go FF F243 c243.eq_1]
   simp only [RB, RL, un, St.none, Nat.reduceEqDiff, Nat.reduceAdd, Nat.reduceMul, Nat.reduceMod, Nat.reduceLeDiff, Nat.reduceLT, Int.reduceLT, Int.reduceLE, Int.reduceEq, Int.reduceToNat, Int.reduceSub, Int.reduceNeg, Int.reduceAdd, ↓reduceIte, reduceCtorEq, pack, pid, parN, lid, chkK, apartV, Heap.none, c1, c2, f0, r1, eG_rules, eG_row, eS_rules, eS_row, eTr_rules, eTr_row, eQ_rules, eQ_row, zb, n64]
  | some y =>
   obtain ⟨v, B⟩ := y
   have hg := hst v B rfl
   have f3 := vcmp_c (x := rQ (sum + rs)) (y := rQ v) (k := 300) (j := 200) (sm_cq (by omega)) (sm_cq hg.2.2.2) (by omega) (by omega)
   rw [vQ_rQ, vQ_rQ] at f3
   have e1 := qcmp_le (x := sum + rs) (y := v)
   simp only [rQ] at f3
   by_cases hle : sum + rs ≤ v
   ·have b2 := e1.2 hle
    refine ⟨some (v, B), ?_, Pst.none hst fun row hr => ?_⟩
    ·simp only [eF]
     rw [show fQ (some (v, B)) = (ng v.num, D v.num.natAbs, D v.den) from rfl, show fB (some (v, B)) = B from rfl, show (some (v, B)).isSome = true from rfl]
     generalize (rsL ts).map rQ = L at *
     rw [R_go FF F243 c243.eq_1]
     simp only [RB, RL, un, St.none, Nat.reduceEqDiff, Nat.reduceAdd, Nat.reduceMul, Nat.reduceMod, Nat.reduceLeDiff, Nat.reduceLT, Int.reduceLT, Int.reduceLE, Int.reduceEq, Int.reduceToNat, Int.reduceSub, Int.reduceNeg, Int.reduceAdd, ↓reduceIte, reduceCtorEq, pack, pid, parN, lid, chkK, apartV, Heap.none, c1, c2, f2, f3, b2, hgL, hcL, eS_rules, eS_row, eTr_rules, eTr_row, eQ_rules, eQ_row, zb, n64]
    ·have := hle9 row
     grind
   ·have b2 : ¬ qcmp (sum + rs) v ≤ 0 := fun h => hle (e1.1 h)
    refine ⟨s1, ?_, q1⟩
    generalize regG (ts.getD i []) T b = G at *
    simp only [eF] at r1 ⊢
    rw [show fQ (some (v, B)) = (ng v.num, D v.num.natAbs, D v.den) from rfl, show fB (some (v, B)) = B from rfl, show (some (v, B)).isSome = true from rfl] at r1 ⊢
    generalize fQ s1 = q1 at *
    generalize fB s1 = C1 at *
    generalize s1.isSome = w1 at *
    generalize (rsL ts).map rQ = L at *
    rw [R_go FF F243 c243.eq_1]
    simp only [RB, RL, un, St.none, Nat.reduceEqDiff, Nat.reduceAdd, Nat.reduceMul, Nat.reduceMod, Nat.reduceLeDiff, Nat.reduceLT, Int.reduceLT, Int.reduceLE, Int.reduceEq, Int.reduceToNat, Int.reduceSub, Int.reduceNeg, Int.reduceAdd, ↓reduceIte, reduceCtorEq, pack, pid, parN, lid, chkK, apartV, Heap.none, c1, c2, f0, f2, f3, b2, hgL, hcL, r1, eG_rules, eG_row, eS_rules, eS_row, eTr_rules, eTr_row, eQ_rules, eQ_row, zb, n64]
def roL (ts : List (List RNd)) (i : Nat) : List (Option RQt) := zj i none ++ (rsL (ts.drop i)).map fun x => some (rQ x)
theorem ro_len {ts : List (List RNd)} {i : Nat} (h : i ≤ ts.length) : (roL ts i).length = ts.length + 1 := by
 unfold roL
 rw [zl, zm, zi, rsL_len, List.length_drop]; omega
theorem ro_set {ts : List (List RNd)} {i : Nat} (h : i < ts.length) : (roL ts (i + 1)).set i (some (rQ (rsV (ts.drop (i + 1)) + mstD (ts.getD i [])))) = roL ts i := by
 unfold roL
 rw [drop_getD [] h, List.replicate_succ' (n := i), List.append_assoc, List.set_append_right _ _ (by rw [zm]; exact zo _), zm, Nat.sub_self]
 rfl
theorem ro_get {ts : List (List RNd)} {i : Nat} (h : i < ts.length) : (roL ts (i + 1)).getD (i + 1) none = some (rQ (rsV (ts.drop (i + 1)))) := by
 unfold roL
 rw [za, List.getElem?_append_right (by rw [zm]; exact zo _), zm, Nat.sub_self, List.getElem?_map]
 have h2 := rsL_get (ts.drop (i + 1)) 0 (Nat.zero_le _)
 rw [zz, za] at h2
 have h3 : 0 < (rsL (ts.drop (i + 1))).length := by rw [rsL_len]; omega
 rw [ze h3] at h2 ⊢
 simp only [Option.map_some, Option.getD_some] at h2 ⊢
 rw [h2]
theorem ro_zero (ts : List (List RNd)) : (roL ts 0).map eO = ((rsL ts).map rQ).map eQ := by
 unfold roL
 rw [List.replicate_zero, List.nil_append, zz, List.map_map, List.map_map]
 rfl
theorem ro_init (ts : List (List RNd)) : (zj (ts.length + 1) (none : Option RQt)).set ts.length (some (rQ 0)) = roL ts ts.length := by
 unfold roL
 rw [zG (zo _), List.replicate_succ', List.set_append_right _ _ (by rw [zm]; exact zo _), zm, Nat.sub_self]
 rfl
theorem great_l0 {ts : List (List RNd)} {b : List RS} {f : Int} {k : Nat} (hk : k ≤ 10) (h1k : 1 ≤ k) (hts : OkT ts f k) : ∀ (i : Nat), i ≤ ts.length →
  LP FF [(4, 1), (6, 4), (0, 0), (1, 0), (7, 0)] [(4, 1), (6, 4), (1, 0)] b225_0 [.ownp [.b false, .l 1 [], .l 1 []], .ownp [.i .i64 0, .b false, .own true 1 [], .own true 1 [], .own true 9 [], .l 1 (ts.map eTr), .own true 3 ((roL ts i).map eO), .b false], .l 1 (ts.map eTr), .l 9 (b.map eS), (AV.i .i64 ((i : Int) - 1))] =
   some (.exit 0, [.ownp [.b false, .l 1 [], .l 1 []], .ownp [.i .i64 0, .b false, .own true 1 [], .own true 1 [], .own true 9 [], .l 1 (ts.map eTr), .own true 3 (((rsL ts).map rQ).map eQ), .b false], .l 9 (b.map eS)]) := by
 intro i
 induction i with
 | zero =>
  intro _
  rw [ro_zero, zy]
  generalize (rsL ts).map rQ = L at *
  rw [LP_go FF b225_0.eq_1]
  simp only [RB, RL, un, St.none, Nat.reduceEqDiff, Nat.reduceAdd, Nat.reduceMul, Nat.reduceMod, Nat.reduceLeDiff, Nat.reduceLT, Int.reduceLT, Int.reduceLE, Int.reduceEq, Int.reduceToNat, Int.reduceSub, Int.reduceNeg, Int.reduceAdd, ↓reduceIte, reduceCtorEq, pack, pid, parN, lid, chkK, apartV, Heap.none, eQ_rules, eQ_row, eTr_rules, eTr_row, eS_rules, eS_row, nJ, nK, zh, zz]
 | succ i ih =>
  intro hi
  have h9 := ih (by omega)
  have hn6 := hts.n
  have hlt : i < ts.length := by omega
  have ht := getD_mem' ([] : List RNd) hlt
  obtain ⟨T, hT⟩ := hts.gt _ ht
  have hsm := hts.sm _ ht
  have htl := hts.len _ ht
  have f1 := most_c (by omega) h1k (by omega) hsm hT
  have hms := mstD_sq h1k hsm
  have hrs := rs_sq (k := k) h1k (ts := ts.drop (i + 1)) fun t h => hts.sm t (List.mem_of_mem_drop h)
  have hdl : (ts.drop (i + 1)).length ≤ 6 := by rw [List.length_drop]; omega
  have hrs2 : sq (rsV (ts.drop (i + 1))) ≤ 100 := by
   have := Nat.mul_le_mul hdl (show k + 1 ≤ 11 by omega)
   omega
  have f2 := qadd_cc hrs2 hms (by omega) (by omega)
  have e0 : ((i + 1 : Nat) : Int) - 1 = (i : Int) := by omega
  have c0 : (0 : Int) ≤ (i : Int) := by omega
  have e4 : IntKind.i64.wrap ((i : Int) - 1) = (i : Int) - 1 := w64 (by omega) (by omega)
  have e5 : IntKind.i64.wrap ((i : Int) + 1) = ((i + 1 : Nat) : Int) := w64succ (by omega)
  have c1 : (i : Int) < (ts.length : Int) := by omega
  have hg := ro_get hlt
  have hset := ro_set hlt
  have hl1 := ro_len (ts := ts) (i := i + 1) (by omega)
  have hl2 := ro_len (ts := ts) (i := i) (by omega)
  have pu := eO_put (roL ts (i + 1)) i (rQ (rsV (ts.drop (i + 1)) + mstD (ts.getD i [])))
  rw [hset] at pu
  generalize rsV (ts.drop (i + 1)) = r at *
  generalize mstD (ts.getD i []) = v at *
  change putC 3 ((roL ts (i + 1)).map eO) i 0 [.b (ng (r + v).num), (AV.l 1 (List.map u (D (r + v).num.natAbs))), (AV.l 1 (List.map u (D (r + v).den)))] = _ at pu
  rw [show rQ r = (ng r.num, D r.num.natAbs, D r.den) from rfl] at hg
  generalize roL ts (i + 1) = A at *
  generalize roL ts i = B at *
  have c2 : i < ts.length + 1 := by omega
  have c3 : (i : Int) < ((ts.length + 1 : Nat) : Int) := by omega
  have c4 : i + 1 < ts.length + 1 := by omega
  have c5 : ((i + 1 : Nat) : Int) < ((ts.length + 1 : Nat) : Int) := by omega
  have t1 : List.take (ts.length + 1) B = B := zc (by omega)
  rw [e0]
  rw [LP_go FF b225_0.eq_1]
  simp only [RB, RL, un, St.none, Nat.reduceEqDiff, Nat.reduceAdd, Nat.reduceMul, Nat.reduceMod, Nat.reduceLeDiff, Nat.reduceLT, Int.reduceLT, Int.reduceLE, Int.reduceEq, Int.reduceToNat, Int.reduceSub, Int.reduceNeg, Int.reduceAdd, ↓reduceIte, reduceCtorEq, pack, pid, parN, lid, chkK, apartV, Heap.none, c0, c1, c2, c3, c4, c5, e4, e5, eQ_rules, eQ_row, eO_at, eTr_rules, eTr_row, eS_rules, eS_row, zb, zi, hl1, hl2, hg, f1, f2, pu, t1, ← List.map_take, nJ, nK, zh, zz]
  exact h9
structure Great (ts : List (List RNd)) (b : List RS) (k : Nat) (v : Rat) (row : List RC) : Prop where
 all : ∀ r, inB b r = true → predV ts r ≤ v
 wit : inB b row = true ∧ predV ts row = v
 len : row.length = b.length
 sm : SmR row (k + 2)
 sq : sq v ≤ 200
theorem great_c {ts : List (List RNd)} {f : Int} {k n : Nat} {b : List RS} (hk : k ≤ 10) (h1k : 1 ≤ k) (hn : (n : Int) = f) (hn2 : n ≤ 1000) (hts : OkT ts f k) (hb : OkB b n k) :
  ∃ v row, R FF 225 [.l 1 (ts.map eTr), .l 9 (b.map eS)] = some (.tup [(AV.agg [AV.b (ng (zC v)), (AV.l 1 (List.map u (D (zD (zC v))))), (AV.l 1 (List.map u (D (Rat.den v))))]), .l 4 (row.map eC)]) ∧ Great ts b k v row := by
 have l0 := great_l0 (b := b) hk h1k hts ts.length (zo _)
 have hn6 := hts.n
 obtain ⟨st, r1, ⟨⟨v, B, e1, _, h3, h4⟩, g1⟩⟩ := look_c hk h1k hn hn2 hts ts.length 0 (by omega) b 0 none hb (by have := sq_zero; omega) (fun v B h => by cases h)
 subst e1
 obtain ⟨gl, gs, gv, gq⟩ := g1 v B rfl
 have f2 := row_c (b := B) (k := k) (by omega) h1k (by omega) gs gv
 have h5 : ∀ row, inB B row = true → inB b row = true ∧ predV ts row = v := fun row hr => by
  rcases h4 with h4 | h4
  ·cases h4
  ·have h6 := h4 row hr
   refine ⟨h6.1, ?_⟩
   have h7 : 0 + predV (ts.drop 0) row = v := h6.2
   rw [zz] at h7; grind
 refine ⟨v, rB B B.length, ?_, fun r hr => ?_, h5 _ (rB_in gv), by rw [rB_len, gl, hb.len], rB_sm h1k gs, gq⟩
 ·have z1 := qzero_c
  have e0 : IntKind.i64.wrap ((ts.length : Int) + 1) = ((ts.length + 1 : Nat) : Int) := w64succ (by omega)
  have e2 : IntKind.i64.wrap ((ts.length : Int) - 1) = (ts.length : Int) - 1 := w64 (by omega) (by omega)
  have b1 : (ts.length + 1) * 56 ≤ 281474976710656 := by omega
  have e3 : zj (ts.length + 1) [AV.b false, AV.ns 1, AV.ns 1] = (zj (ts.length + 1) (none : Option RQt)).map eO := by rw [List.map_replicate]; rfl
  have hl0 : (zj (ts.length + 1) (none : Option RQt)).length = ts.length + 1 := zm
  have pu := eO_put (zj (ts.length + 1) none) ts.length (rQ 0)
  rw [ro_init] at pu
  have hl1 := ro_len (ts := ts) (i := ts.length) (zo _)
  change putC 3 _ ts.length 0 [.b (ng (0 : Rat).num), (AV.l 1 (List.map u (D (0 : Rat).num.natAbs))), (AV.l 1 (List.map u (D (0 : Rat).den)))] = _ at pu
  generalize zj (ts.length + 1) (none : Option RQt) = Z at *
  generalize roL ts ts.length = A at *
  have c2 : ts.length < ts.length + 1 := by omega
  have c3 : (ts.length : Int) < ((ts.length + 1 : Nat) : Int) := by omega
  have t1 : List.take (ts.length + 1) A = A := zc (by omega)
  simp only [eF] at r1
  rw [show fQ none = (false, [], []) from rfl, show fB none = [] from rfl, show (none : FS).isSome = false from rfl, show fQ (some (v, B)) = (ng v.num, D v.num.natAbs, D v.den) from rfl, show fB (some (v, B)) = B from rfl, show (some (v, B)).isSome = true from rfl] at r1
  simp only [List.map_nil, zy] at r1
  have hLl : ((rsL ts).map rQ).length = ts.length + 1 := by rw [zi, rsL_len]
  have t2 : List.take (ts.length + 1) ((rsL ts).map rQ) = (rsL ts).map rQ := zc (by omega)
  generalize (rsL ts).map rQ = L at *
  generalize (0 : Rat) = z0 at *
  rw [R_go FF F225 c225.eq_1]
  simp only [RB, RL, un, St.none, Nat.reduceEqDiff, Nat.reduceAdd, Nat.reduceMul, Nat.reduceMod, Nat.reduceLeDiff, Nat.reduceLT, Int.reduceLT, Int.reduceLE, Int.reduceEq, Int.reduceToNat, Int.reduceSub, Int.reduceNeg, Int.reduceAdd, ↓reduceIte, reduceCtorEq, pack, pid, parN, lid, chkK, apartV, Heap.none, z1, e0, e2, b1, e3, hl0, pu, hl1, c2, c3, t1, l0, r1, f2, hLl, t2, eQ_rules, eQ_row, eTr_rules, eTr_row, eS_rules, eS_row, eC_rules, eC_row, zb, zi, ← List.map_take, nJ, nK, zh, zz, Row.freeze, n64, List.cons_append, List.nil_append]
 ·have h7 : 0 + predV (ts.drop 0) r ≤ v := h3 r hr
  rw [zz] at h7; grind
structure Fw (m : RM) (k : Nat) : Prop where
 n : m.2.length ≤ 6
 len : ∀ t ∈ m.2, t.length ≤ 1000
 sm : ∀ t ∈ m.2, SmT t k
theorem Fw.smM {m : RM} {k : Nat} (h : Fw m k) : SmM m k := ⟨by have := h.n; omega, fun t ht => ⟨by have := h.len t ht; omega, h.sm t ht⟩⟩
theorem Fw.okT {m : RM} {k : Nat} (h : Fw m k) (hv : VM m) : OkT m.2 m.1 k := ⟨h.n, fun t ht => gt_of (hv.all t ht) (vt_len hv t ht), h.len, h.sm⟩
theorem OkT.neg {ts : List (List RNd)} {f : Int} {k : Nat} (h1k : 1 ≤ k) (h : OkT ts f k) : OkT (ts.map negT) f k := by
 refine ⟨by rw [zi]; exact h.n, fun t ht => ?_, fun t ht => ?_, fun t ht => ?_⟩
 ·obtain ⟨s, hs, rfl⟩ := List.mem_map.1 ht
  obtain ⟨T, hT⟩ := h.gt s hs
  exact ⟨T, hT.neg⟩
 ·obtain ⟨s, hs, rfl⟩ := List.mem_map.1 ht
  rw [neg_len]; exact h.len s hs
 ·obtain ⟨s, hs, rfl⟩ := List.mem_map.1 ht
  exact negT_sm h1k (h.sm s hs)
noncomputable def wyE (m : RM) (b : List RS) : Int := @ite _ (VM m) (Classical.propDecidable _) (if (b.length : Int) = m.1 then (if vF b 0 b.length then 15 else 0) else 14) 1
theorem wyE_bad {m : RM} {b : List RS} (h : ¬ VM m) : wyE m b = 1 := if_neg h
theorem wyE_ok {m : RM} {b : List RS} (h : VM m) : wyE m b = if (b.length : Int) = m.1 then (if vF b 0 b.length then 15 else 0) else 14 := if_pos h
theorem wyE_zero {m : RM} {b : List RS} (h : wyE m b = 0) : VM m ∧ (b.length : Int) = m.1 ∧ vF b 0 b.length = false := by
 by_cases hv : VM m
 ·rw [wyE_ok hv] at h
  split at h
  ·rename_i hl
   split at h
   ·omega
   ·rename_i hw
    exact ⟨hv, hl, by simpa using hw⟩
  ·omega
 ·rw [wyE_bad hv] at h; omega
theorem fits24_c {m : RM} {b : List RS} {k : Nat} (hk : k ≤ 1000000) (h1k : 1 ≤ k) (hm : Fw m k) (hb : SmB b k) (hn : b.length ≤ 1000) : R FF 224 [.agg (eM m), .l 9 (b.map eS)] = some (AV.i .i64 ((wyE m b))) := by
 obtain ⟨c, f1, f2⟩ := ok_c (m := m) (k := k) (by omega) h1k (by have := hm.n; omega) (fun t ht => ⟨by have := hm.len t ht; omega, hm.sm t ht⟩)
 have f3 := void_c (b := b) (k := k) (by omega) (by omega) hb
 by_cases hv : VM m
 ·rw [wyE_ok hv]
  have hc : c = true := f2.2 hv
  subst hc
  obtain ⟨mf, ts⟩ := m
  simp only [eM] at f1 ⊢
  by_cases h1 : (b.length : Int) = mf
  ·rw [if_pos h1]
   cases hw : vF b 0 b.length with
   | true =>
    rw [hw] at f3
    rw [if_pos rfl]
    rw [R_go FF F224 c224.eq_1]
    simp only [RB, RL, un, St.none, Nat.reduceEqDiff, Nat.reduceAdd, Nat.reduceMul, Nat.reduceMod, Nat.reduceLeDiff, Nat.reduceLT, Int.reduceLT, Int.reduceLE, Int.reduceEq, Int.reduceToNat, Int.reduceSub, Int.reduceNeg, Int.reduceAdd, ↓reduceIte, reduceCtorEq, pack, pid, parN, lid, chkK, apartV, Heap.none, f1, f3, h1, eTr_rules, eTr_row, eS_rules, eS_row, n64]
   | false =>
    rw [hw] at f3
    rw [if_neg (by decide)]
    rw [R_go FF F224 c224.eq_1]
    simp only [RB, RL, un, St.none, Nat.reduceEqDiff, Nat.reduceAdd, Nat.reduceMul, Nat.reduceMod, Nat.reduceLeDiff, Nat.reduceLT, Int.reduceLT, Int.reduceLE, Int.reduceEq, Int.reduceToNat, Int.reduceSub, Int.reduceNeg, Int.reduceAdd, ↓reduceIte, reduceCtorEq, pack, pid, parN, lid, chkK, apartV, Heap.none, f1, f3, h1, eTr_rules, eTr_row, eS_rules, eS_row, n64]
  ·rw [if_neg h1]
   rw [R_go FF F224 c224.eq_1]
   simp only [RB, RL, un, St.none, Nat.reduceEqDiff, Nat.reduceAdd, Nat.reduceMul, Nat.reduceMod, Nat.reduceLeDiff, Nat.reduceLT, Int.reduceLT, Int.reduceLE, Int.reduceEq, Int.reduceToNat, Int.reduceSub, Int.reduceNeg, Int.reduceAdd, ↓reduceIte, reduceCtorEq, pack, pid, parN, lid, chkK, apartV, Heap.none, f1, h1, eTr_rules, eTr_row, eS_rules, eS_row, n64]
 ·rw [wyE_bad hv]
  have hc : c = false := by
   cases c
   ·rfl
   ·exact (hv (f2.1 rfl)).elim
  subst hc
  obtain ⟨mf, ts⟩ := m
  simp only [eM] at f1 ⊢
  rw [R_go FF F224 c224.eq_1]
  simp only [RB, RL, un, St.none, Nat.reduceEqDiff, Nat.reduceAdd, Nat.reduceMul, Nat.reduceMod, Nat.reduceLeDiff, Nat.reduceLT, Int.reduceLT, Int.reduceLE, Int.reduceEq, Int.reduceToNat, Int.reduceSub, Int.reduceNeg, Int.reduceAdd, ↓reduceIte, reduceCtorEq, pack, pid, parN, lid, chkK, apartV, Heap.none, f1, eTr_rules, eTr_row, eS_rules, eS_row, n64]
structure Small (ts : List (List RNd)) (b : List RS) (k : Nat) (v : Rat) (row : List RC) : Prop where
 all : ∀ r, inB b r = true → v ≤ predV ts r
 wit : inB b row = true ∧ predV ts row = v
 len : row.length = b.length
 sm : SmR row (k + 2)
 sq : sq v ≤ 200
theorem most24_c {m : RM} {b : List RS} {k : Nat} (hk : k ≤ 10) (h1k : 1 ≤ k) (hm : Fw m k) (hb : SmB b k) (hn : b.length ≤ 1000) (h0 : wyE m b = 0) :
  ∃ v row, R FF 197 [.agg (eM m), .l 9 (b.map eS)] = some (.tup [(AV.agg [AV.b (ng (zC v)), (AV.l 1 (List.map u (D (zD (zC v))))), (AV.l 1 (List.map u (D (Rat.den v))))]), .l 4 (row.map eC), (AV.i .i64 0)]) ∧ Great m.2 b k v row := by
 have f1 := fits24_c (by omega) h1k hm hb hn
 obtain ⟨hv, hl, hw⟩ := wyE_zero h0
 obtain ⟨v, row, f2, f3⟩ := great_c hk h1k hl hn (hm.okT hv) ⟨rfl, hb, hw⟩
 refine ⟨v, row, ?_, f3⟩
 rw [h0] at f1
 obtain ⟨mf, ts⟩ := m
 simp only [eM] at f1 f2 ⊢
 rw [R_go FF F197 c197.eq_1]
 simp only [RB, RL, un, St.none, Nat.reduceEqDiff, Nat.reduceAdd, Nat.reduceMul, Nat.reduceMod, Nat.reduceLeDiff, Nat.reduceLT, Int.reduceLT, Int.reduceLE, Int.reduceEq, Int.reduceToNat, Int.reduceSub, Int.reduceNeg, Int.reduceAdd, ↓reduceIte, reduceCtorEq, pack, pid, parN, lid, chkK, apartV, Heap.none, f1, f2, eTr_rules, eTr_row, eS_rules, eS_row, eC_rules, eC_row, n64]
theorem least24_c {m : RM} {b : List RS} {k : Nat} (hk : k ≤ 10) (h1k : 1 ≤ k) (hm : Fw m k) (hb : SmB b k) (hn : b.length ≤ 1000) (h0 : wyE m b = 0) :
  ∃ v row, R FF 196 [.agg (eM m), .l 9 (b.map eS)] = some (.tup [(AV.agg [AV.b (ng (zC v)), (AV.l 1 (List.map u (D (zD (zC v))))), (AV.l 1 (List.map u (D (Rat.den v))))]), .l 4 (row.map eC), (AV.i .i64 0)]) ∧ Small m.2 b k v row := by
 have f1 := fits24_c (by omega) h1k hm hb hn
 obtain ⟨hv, hl, hw⟩ := wyE_zero h0
 have hT := hm.okT hv
 obtain ⟨v, row, f2, f3⟩ := great_c hk h1k hl hn (hT.neg h1k) ⟨rfl, hb, hw⟩
 have f4 := negative_c (ts := m.2) (k := k) (by omega) h1k (by have := hm.n; omega) (fun t ht => ⟨by have := hm.len t ht; omega, hm.sm t ht⟩)
 have s1 := sm_cq f3.sq
 have f5 := qneg_c (q := ng v.num) s1.1.1 (zw s1.1.2 (by omega)) s1.2.1 (zw s1.2.2 (by omega))
 rw [qv_cq] at f5
 refine ⟨-v, row, ?_, ?_⟩
 ·rw [h0] at f1
  generalize -v = w at *
  generalize m.2.map negT = us at *
  obtain ⟨mf, ts⟩ := m
  simp only [eM] at f1 f2 f4 ⊢
  rw [R_go FF F196 c196.eq_1]
  simp only [RB, RL, un, St.none, Nat.reduceEqDiff, Nat.reduceAdd, Nat.reduceMul, Nat.reduceMod, Nat.reduceLeDiff, Nat.reduceLT, Int.reduceLT, Int.reduceLE, Int.reduceEq, Int.reduceToNat, Int.reduceSub, Int.reduceNeg, Int.reduceAdd, ↓reduceIte, reduceCtorEq, pack, pid, parN, lid, chkK, apartV, Heap.none, f1, f2, f4, f5, eTr_rules, eTr_row, eS_rules, eS_row, eC_rules, eC_row, n64]
 ·refine ⟨fun r hr => ?_, ⟨f3.wit.1, ?_⟩, f3.len, f3.sm, by rw [sq_neg]; exact f3.sq⟩
  ·have h1 := f3.all r hr
   rw [predV_neg hT.gt] at h1
   grind
  ·have h1 := f3.wit.2
   rw [predV_neg hT.gt] at h1
   grind
def ovE : Nat → List AV → Option AV :=
 ovF 31 (two fun x y => encQ (x + y)) <| ovF 55 (two fun x y => encQ (x - y)) <| ovF 14 (two fun x y => some (AV.i .i64 (qcmp x y))) <| ovF 57 (two fun x y => some (.b (decide (x = y)))) <| ovF 162 (one fun x => some (AV.i .i64 (cmp x.num 0))) <|
 ovF 63 (one encQ) <| ovF 68 ofG <| ovF 54 (nilG 0) <| ovF 56 (nilG 1) nothing
theorem ovE_ok : LeC ovE (R FF) :=
 ovF_ok ov_add <| ovF_ok ov_sub <| ovF_ok ov_cmp <| ovF_ok ov_same <| ovF_ok ov_sign <| ovF_ok ov_clean <| ovF_ok ov_of <| ovF_ok ov_zero <| ovF_ok ov_one nothing_ok
theorem runE {k f : Nat} {xs : List AV} {v : AV} (h : runV ovE FF k f xs = some v) : R FF f xs = some v := runV_ok ovE_ok k f xs v h
theorem awake24e : R FF 199 [] = some (.b true) := runE (k := 30) (by kernel_rfl)
def fM9 (m : RM) : RM := (m.1, (fM7 m).2.take 3)
theorem SmQ.mono {x : RQt} {k j : Nat} (h : SmQ x k) (hj : k ≤ j) : SmQ x j := Sm.mono h hj
theorem SmR.mono {r : List RC} {k j : Nat} (h : SmR r k) (hj : k ≤ j) : SmR r j := fun x hx => (h x hx).mono hj
theorem fM7_fw {m : RM} (h : OkM m) : Fw (fM7 m) 4 := by
 have h2 := fM7_sm h
 refine ⟨?_, fun t ht => ?_, fun t ht => (h2.2 t ht).2⟩
 ·show ((m.2.take 6).map fT7).length ≤ 6
  rw [zi]; exact List.length_take_le _ _
 ·obtain ⟨s, hs, rfl⟩ := List.mem_map.1 (show t ∈ (m.2.take 6).map fT7 from ht)
  have := fT7_len s
  omega
theorem fM9_fw {m : RM} (h : OkM m) : Fw (fM9 m) 4 := by
 have h2 := fM7_fw h
 exact ⟨by show ((fM7 m).2.take 3).length ≤ 6; rw [zk]; omega, fun t ht => h2.len t (List.mem_of_mem_take ht), fun t ht => h2.sm t (List.mem_of_mem_take ht)⟩
theorem small11_c {m : RM} {row : List RC} (h : OkM m) (hr : row.length ≤ maxL ∧ ∀ x ∈ row, OkC x) : R FF 203 [.agg (eM m), .l 4 (row.map eC)] = some (.tup [.agg (eM (fM9 m)), .l 4 ((fw 70 row).map eC)]) := by
 have f1 := few07_c h
 have f2 := few09_c (n := 70) (by omega) hr.2 hr.1
 rw [show (row.take 70).map t3 = fw 70 row from rfl] at f2
 unfold fM9
 generalize fw 70 row = w at *
 obtain ⟨us, hu⟩ : ∃ us, (fM7 m).2 = us := ⟨_, rfl⟩
 rw [show fM7 m = (m.1, us) by rw [← hu]; rfl] at f1
 rw [hu]
 obtain ⟨mf, ts⟩ := m
 simp only [eM] at f1 ⊢
 have f2 : R FF 29 [.l 4 (row.map eC), (AV.i .i64 70)] = some (.l 4 (w.map eC)) := f2
 have c3 : (3 : Int).toNat = 3 := rfl
 by_cases c1 : 3 < (us.length : Int)
 ·have c2 : (3 : Int) ≤ (us.length : Int) := by omega
  rw [R_go FF F203 c203.eq_1]
  simp only [RB, RL, un, St.none, Nat.reduceEqDiff, Nat.reduceAdd, Nat.reduceMul, Nat.reduceMod, Nat.reduceLeDiff, Nat.reduceLT, Int.reduceLT, Int.reduceLE, Int.reduceEq, Int.reduceToNat, Int.reduceSub, Int.reduceNeg, Int.reduceAdd, ↓reduceIte, reduceCtorEq, pack, pid, parN, lid, chkK, apartV, Heap.none, f1, f2, c1, c2, c3, eTr_rules, eTr_row, eC_rules, eC_row, n64, zz, ← List.map_take, zk]
 ·rw [zc (by omega)]
  rw [R_go FF F203 c203.eq_1]
  simp only [RB, RL, un, St.none, Nat.reduceEqDiff, Nat.reduceAdd, Nat.reduceMul, Nat.reduceMod, Nat.reduceLeDiff, Nat.reduceLT, Int.reduceLT, Int.reduceLE, Int.reduceEq, Int.reduceToNat, Int.reduceSub, Int.reduceNeg, Int.reduceAdd, ↓reduceIte, reduceCtorEq, pack, pid, parN, lid, chkK, apartV, Heap.none, f1, f2, c1, eTr_rules, eTr_row, eC_rules, eC_row, n64]
theorem ccmp_c {x y : Rat} {k j : Nat} (hx : sq x ≤ k) (hy : sq y ≤ j) (hk : k ≤ 100000000000) (hj : j ≤ 100000000000) : R FF 14 [(AV.agg [AV.b (ng (zC x)), (AV.l 1 (List.map u (D (zD (zC x))))), (AV.l 1 (List.map u (D (Rat.den x))))]), (AV.agg [AV.b (ng (zC y)), (AV.l 1 (List.map u (D (zD (zC y))))), (AV.l 1 (List.map u (D (Rat.den y))))])] = some (AV.i .i64 (qcmp x y)) := by
 have h := vcmp_c (x := rQ x) (y := rQ y) (sm_cq hx) (sm_cq hy) hk hj
 rw [vQ_rQ, vQ_rQ] at h; exact h
theorem csame_c {x y : Rat} {k j : Nat} (hx : sq x ≤ k) (hy : sq y ≤ j) (hk : k ≤ 100000000000) (hj : j ≤ 100000000000) : R FF 57 [(AV.agg [AV.b (ng (zC x)), (AV.l 1 (List.map u (D (zD (zC x))))), (AV.l 1 (List.map u (D (Rat.den x))))]), (AV.agg [AV.b (ng (zC y)), (AV.l 1 (List.map u (D (zD (zC y))))), (AV.l 1 (List.map u (D (Rat.den y))))])] = some (.b (decide (x = y))) := by
 have h := vsame_c (x := rQ x) (y := rQ y) (sm_cq hx) (sm_cq hy) hk hj
 rw [vQ_rQ, vQ_rQ] at h; exact h
theorem fw6_sm {row : List RC} (hr : row.length ≤ maxL ∧ ∀ x ∈ row, OkC x) (n : Nat) : SmR (fw n row) 4 := (few_smR hr.2 n).mono (by omega)
theorem predV_sq9 {m : RM} {k : Nat} (hk : k ≤ 10) (h1k : 1 ≤ k) (hm : Fw m k) (hv : VM m) (row : List RC) : sq (predV m.2 row) ≤ 200 := by
 have h1 := sR_sq (k := k) (l := m.2.map fun t => valT t row) fun x hx => by
  obtain ⟨t, ht, rfl⟩ := List.mem_map.1 hx
  exact valT_sq h1k (vt_len hv t ht) (hm.sm t ht) (hv.all t ht)
 rw [zi] at h1
 have h2 := Nat.mul_le_mul hm.n (show k + 1 ≤ 11 by omega)
 unfold predV
 omega
theorem ballw_l0 {n : Nat} (hn : n ≤ 100000000000) : ∀ (d i : Nat), i + d = n →
  LP FF [(3, 1), (4, 0), (5, 0)] [(3, 1)] b327_0 [.own true 9 ((zj i (none9 true)).map eS), (AV.i .i64 ((n : Int))), (AV.i .i64 ((i : Int)))] = some (.exit 0, [.own true 9 ((zj n (none9 true)).map eS)]) := by
 intro d
 induction d with
 | zero =>
  intro i hi
  obtain rfl : i = n := by omega
  have c1 : ¬ (i : Int) < (i : Int) := by omega
  have t1 : List.take i (zj i (none9 true)) = zj i (none9 true) := zc (by rw [zm]; exact zo _)
  have hlen : (zj i (none9 true)).length = i := zm
  generalize zj i (none9 true) = L at *
  rw [LP_go FF b327_0.eq_1]
  simp only [RB, RL, un, St.none, Nat.reduceEqDiff, Nat.reduceAdd, Nat.reduceMul, Nat.reduceMod, Nat.reduceLeDiff, Nat.reduceLT, Int.reduceLT, Int.reduceLE, Int.reduceEq, Int.reduceToNat, Int.reduceSub, Int.reduceNeg, Int.reduceAdd, ↓reduceIte, reduceCtorEq, pack, pid, parN, lid, chkK, apartV, Heap.none, c1, eS_rules, eS_row, t1, hlen]
 | succ d ih =>
  intro i hi
  have h9 := ih (i + 1) (by omega)
  have c1 : (i : Int) < (n : Int) := by omega
  have e1 : IntKind.i64.wrap ((i : Int) + 1) = ((i + 1 : Nat) : Int) := w64succ (by omega)
  have ev := every_c
  rw [List.replicate_succ'] at h9
  have hlen : (zj i (none9 true)).length = i := zm
  have b2 : (i + 1) * 128 ≤ 140737488355328 := by omega
  have m2 : ∀ y : RS, List.take (i + 1) (zj i (none9 true) ++ [y]) = zj i (none9 true) ++ [y] := fun y => zc (by rw [zl, hlen]; simp)
  have m3 : List.take i (zj i (none9 true)) = zj i (none9 true) := zc (by omega)
  have m1 : ∀ y : RS, List.map eS (zj i (none9 true)) ++ [[.b y.1, .b y.2.1, .b y.2.2.1.1, .l 1 (y.2.2.1.2.1.map u), .l 1 (y.2.2.1.2.2.map u), .b y.2.2.2.1.1, .l 1 (y.2.2.2.1.2.1.map u), .l 1 (y.2.2.2.1.2.2.map u), .b y.2.2.2.2]] = List.map eS (zj i (none9 true) ++ [y]) := fun y => by rw [List.map_append]; rfl
  have m1' := m1 (none9 true)
  generalize zj i (none9 true) = L at *
  rw [eS] at ev
  generalize none9 true = y at *
  rw [LP_go FF b327_0.eq_1]
  simp only [RB, RL, un, St.none, Nat.reduceEqDiff, Nat.reduceAdd, Nat.reduceMul, Nat.reduceMod, Nat.reduceLeDiff, Nat.reduceLT, Int.reduceLT, Int.reduceLE, Int.reduceEq, Int.reduceToNat, Int.reduceSub, Int.reduceNeg, Int.reduceAdd, ↓reduceIte, reduceCtorEq, pack, pid, parN, lid, chkK, apartV, Heap.none, c1, eS_rules, eS_row, zb, ev, e1, hlen, b2, m3, m1', m2]
  exact h9
theorem ballw_c {n : Nat} (hn : n ≤ 100000000000) : R FF 327 [(AV.i .i64 ((n : Int)))] = some (.own true 9 ((zj n (none9 true)).map eS)) := by
 have l0 := ballw_l0 hn n 0 (by omega)
 rw [zy, List.replicate_zero, List.map_nil] at l0
 have t1 : List.take n (zj n (none9 true)) = zj n (none9 true) := zc (by rw [zm]; exact zo _)
 have hlen : (zj n (none9 true)).length = n := zm
 generalize zj n (none9 true) = L at *
 rw [R_go FF F327 c327.eq_1]
 simp only [RB, RL, un, St.none, Nat.reduceEqDiff, Nat.reduceAdd, Nat.reduceMul, Nat.reduceMod, Nat.reduceLeDiff, Nat.reduceLT, Int.reduceLT, Int.reduceLE, Int.reduceEq, Int.reduceToNat, Int.reduceSub, Int.reduceNeg, Int.reduceAdd, ↓reduceIte, reduceCtorEq, pack, pid, parN, lid, chkK, apartV, Heap.none, l0, eS_rules, eS_row, t1, hlen, zi, zz]
theorem withw_c {b : List RS} {i : Nat} {s : RS} {k : Nat} (hk : k ≤ 100000000000) (hs : SmS s k) (hi : i < b.length) (hn : b.length ≤ 100000000000) : R FF 328 [.l 9 (b.map eS), (AV.i .i64 ((i : Int))), .agg (eS s)] = some (.tup [.own true 9 ((b.set i (cS s)).map eS), (AV.i .i64 0)]) := by
 have g1 := bclean_c hk hs
 have c1 : ¬ (i : Int) < 0 := by omega
 have c2 : ¬ (b.length : Int) ≤ (i : Int) := by omega
 have c3 : (i : Int) < (b.length : Int) := by omega
 have b2 : b.length * 128 ≤ 140737488355328 := by omega
 have pu : putC 9 (List.map eS b) i 0 (eS (cS s)) = (b.set i (cS s)).map eS := putC_map eS 9 b i (cS s) rfl
 have hl : (b.set i (cS s)).length = b.length := zx
 have t1 : List.take b.length (b.set i (cS s)) = b.set i (cS s) := zc (by rw [hl]; exact zo _)
 generalize b.set i (cS s) = L at *
 rw [eS, eS] at g1
 rw [eS] at pu
 rw [eS]
 rw [R_go FF F328 c328.eq_1]
 simp only [RB, RL, un, St.none, Nat.reduceEqDiff, Nat.reduceAdd, Nat.reduceMul, Nat.reduceMod, Nat.reduceLeDiff, Nat.reduceLT, Int.reduceLT, Int.reduceLE, Int.reduceEq, Int.reduceToNat, Int.reduceSub, Int.reduceNeg, Int.reduceAdd, ↓reduceIte, reduceCtorEq, pack, pid, parN, lid, chkK, apartV, Heap.none, c1, c2, c3, eS_rules, eS_row, zb, g1, b2, hi, pu, hl, t1, zi, zz, zh]
theorem partw_c {b : List RS} {n : RNd} {left : Bool} {k : Nat} (hk : k ≤ 100000000000) (h1k : 1 ≤ k) (hB : SmB b k) (hc : SmQ n.cut k) (h0 : 0 ≤ n.ft) (hf : n.ft.toNat < b.length) (hn : b.length ≤ 1000) (he : empV (sdV b n left) = false) :
  R FF 330 [.l 9 (b.map eS), .agg (eNd n), .b left] = some (.tup [.own true 9 ((partB b n left).map eS), .b true]) := by
 have hs := hB _ (getD_mem' dS hf)
 have f1 := above_c (mi := !n.miss) hk h1k hs hc
 have f2 := below_c (mi := n.miss) hk h1k hs hc
 have g1 := abv_sm (mi := !n.miss) hs hc h1k
 have g2 := bel_sm (mi := n.miss) hs hc h1k
 have e0 : sdV b n left = if left then belV (b.getD n.ft.toNat dS) n.cut n.miss else abvV (b.getD n.ft.toNat dS) n.cut (!n.miss) := rfl
 unfold partB
 have ft : ((n.ft.toNat : Nat) : Int) = n.ft := by omega
 have c2 : n.ft < (b.length : Int) := by omega
 obtain ⟨lf, fx, c, a', b', m, v, w⟩ := n
 simp only at f1 f2 g1 g2 e0 ft c2 h0 hf ⊢
 have hlen : ∀ s, (b.set fx.toNat s).length = b.length := fun s => zx
 cases left
 ·rw [if_neg (by decide)] at e0
  rw [e0] at he ⊢
  have f3 := empty_c hk g1
  have f4 := withw_c hk g1 hf (by omega)
  rw [ft] at f4
  rw [he] at f3
  have hL := hlen (cS (abvV (b.getD fx.toNat dS) c (!m)))
  generalize b.set fx.toNat (cS (abvV (b.getD fx.toNat dS) c (!m))) = L at *
  generalize abvV (b.getD fx.toNat dS) c (!m) = s at *
  simp only [eNd, eS, eQ] at f1 f3 f4 ⊢
  rw [R_go FF F330 c330.eq_1]
  simp only [RB, RL, un, St.none, Nat.reduceEqDiff, Nat.reduceAdd, Nat.reduceMul, Nat.reduceMod, Nat.reduceLeDiff, Nat.reduceLT, Int.reduceLT, Int.reduceLE, Int.reduceEq, Int.reduceToNat, Int.reduceSub, Int.reduceNeg, Int.reduceAdd, ↓reduceIte, reduceCtorEq, pack, pid, parN, lid, chkK, apartV, Heap.none, f1, f3, f4, h0, c2, eS_rules, eS_row, n64, zi, zz, zh]
 ·rw [if_pos rfl] at e0
  rw [e0] at he ⊢
  have f3 := empty_c hk g2
  have f4 := withw_c hk g2 hf (by omega)
  rw [ft] at f4
  rw [he] at f3
  have hL := hlen (cS (belV (b.getD fx.toNat dS) c m))
  generalize b.set fx.toNat (cS (belV (b.getD fx.toNat dS) c m)) = L at *
  generalize belV (b.getD fx.toNat dS) c m = s at *
  generalize abvV (b.getD fx.toNat dS) c (!m) = s' at *
  simp only [eNd, eS, eQ] at f1 f2 f3 f4 ⊢
  rw [R_go FF F330 c330.eq_1]
  simp only [RB, RL, un, St.none, Nat.reduceEqDiff, Nat.reduceAdd, Nat.reduceMul, Nat.reduceMod, Nat.reduceLeDiff, Nat.reduceLT, Int.reduceLT, Int.reduceLE, Int.reduceEq, Int.reduceToNat, Int.reduceSub, Int.reduceNeg, Int.reduceAdd, ↓reduceIte, reduceCtorEq, pack, pid, parN, lid, chkK, apartV, Heap.none, f1, f2, f3, f4, h0, c2, eS_rules, eS_row, n64, zi, zz, zh]
def wyT (t : List RNd) (row : List RC) : TT → List Nat
 | .lf _ => []
 | .nd a l r => if goN (t.getD a dNd) row then wyV t row l else wyV t row r
theorem wy_top (t : List RNd) (row : List RC) (T : TT) : wyV t row T = T.top :: wyT t row T := by cases T <;> rfl
theorem rway_l0 {t : List RNd} {row : List RC} {f : Int} {k : Nat} (hk : k ≤ 10000000000) (ht : t.length ≤ 1000) (hs : SmT t k) (hr : SmR row k) (hrg : t.any (bdR t.length f) = false) (hf : (row.length : Int) = f) : ∀ (T : TT) (acc : List Nat), UN t T → acc.length + T.pre.length ≤ 2000 →
  LP FF [(7, 1), (0, 0), (1, 0), (6, 0)] [(7, 0)] b228_0 [.own true 1 (acc.map eX), .l 14 (t.map eNd), .l 4 (row.map eC), (AV.i .i64 ((T.top : Int)))] = some (.exit 0, [.l 1 ((acc ++ wyT t row T).map eX)])
 | .lf a, acc, h, hp => by
  have c1 : (a : Int) < (t.length : Int) := by have := h.1; omega
  have hl := h.2
  show LP FF [(7, 1), (0, 0), (1, 0), (6, 0)] [(7, 0)] b228_0 [.own true 1 (acc.map eX), .l 14 (t.map eNd), .l 4 (row.map eC), (AV.i .i64 ((a : Int)))] = some (.exit 0, [.l 1 ((acc ++ []).map eX)])
  rw [List.append_nil]
  rw [LP_go FF b228_0.eq_1]
  simp only [RB, RL, un, St.none, Nat.reduceEqDiff, Nat.reduceAdd, Nat.reduceMul, Nat.reduceMod, Nat.reduceLeDiff, Nat.reduceLT, Int.reduceLT, Int.reduceLE, Int.reduceEq, Int.reduceToNat, Int.reduceSub, Int.reduceNeg, Int.reduceAdd, ↓reduceIte, reduceCtorEq, pack, pid, parN, lid, chkK, apartV, Heap.none, c1, hl, n64, eNd_rules, eNd_row, eX_rules, eX_row, eC_rules, eC_row, zb, zh, Row.freeze]
 | .nd a l r, acc, h, hp => by
  obtain ⟨h1, h2, h3, h4, h5, h6⟩ := h
  have hlen : (TT.nd a l r).pre.length = r.pre.length + l.pre.length + 1 := by rw [TT.pre, zr, zl]
  have hrn := rng_of hrg (getD_mem' dNd h1) h2
  have f1 := rnext_c (n := t.getD a dNd) (row := row) hk (hs _ (getD_mem' dNd h1)).2.1 hr hrn.1 (by omega)
  have c1 : (a : Int) < (t.length : Int) := by omega
  have hal : (acc.length + 1) * 8 ≤ 140737488355328 := by omega
  show LP FF [(7, 1), (0, 0), (1, 0), (6, 0)] [(7, 0)] b228_0 [.own true 1 (acc.map eX), .l 14 (t.map eNd), .l 4 (row.map eC), (AV.i .i64 ((a : Int)))] = some (.exit 0, [.l 1 ((acc ++ if goN (t.getD a dNd) row then wyV t row l else wyV t row r).map eX)])
  cases hg : goN (t.getD a dNd) row with
  | true =>
   rw [hg, if_pos rfl] at f1
   rw [if_pos rfl]
   have i1 := rway_l0 hk ht hs hr hrg hf l (acc ++ [l.top]) h5 (by rw [zl, List.length_singleton]; omega)
   rw [List.append_assoc, List.singleton_append, ← wy_top] at i1
   rw [show (t.getD a dNd).lft = (l.top : Int) by rw [h3]; omega] at f1
   have m1 := snoc_X acc l.top
   have m2 := take_snocX acc l.top
   generalize acc ++ wyV t row l = Z at *
   rw [LP_go FF b228_0.eq_1]
   simp only [RB, RL, un, St.none, Nat.reduceEqDiff, Nat.reduceAdd, Nat.reduceMul, Nat.reduceMod, Nat.reduceLeDiff, Nat.reduceLT, Int.reduceLT, Int.reduceLE, Int.reduceEq, Int.reduceToNat, Int.reduceSub, Int.reduceNeg, Int.reduceAdd, ↓reduceIte, reduceCtorEq, pack, pid, parN, lid, chkK, apartV, Heap.none, c1, h2, f1, n64, eNd_rules, eNd_row, eX_rules, eX_row, eC_rules, eC_row, zb, hal, m1, m2, zh]
   exact i1
  | false =>
   rw [hg, if_neg (show ¬ false = true by decide)] at f1
   rw [if_neg (show ¬ false = true by decide)]
   have i1 := rway_l0 hk ht hs hr hrg hf r (acc ++ [r.top]) h6 (by rw [zl, List.length_singleton]; omega)
   rw [List.append_assoc, List.singleton_append, ← wy_top] at i1
   rw [show (t.getD a dNd).rgt = (r.top : Int) by rw [h4]; omega] at f1
   have m1 := snoc_X acc r.top
   have m2 := take_snocX acc r.top
   generalize acc ++ wyV t row r = Z at *
   rw [LP_go FF b228_0.eq_1]
   simp only [RB, RL, un, St.none, Nat.reduceEqDiff, Nat.reduceAdd, Nat.reduceMul, Nat.reduceMod, Nat.reduceLeDiff, Nat.reduceLT, Int.reduceLT, Int.reduceLE, Int.reduceEq, Int.reduceToNat, Int.reduceSub, Int.reduceNeg, Int.reduceAdd, ↓reduceIte, reduceCtorEq, pack, pid, parN, lid, chkK, apartV, Heap.none, c1, h2, f1, n64, eNd_rules, eNd_row, eX_rules, eX_row, eC_rules, eC_row, zb, hal, m1, m2, zh]
   exact i1
theorem rway_c {t : List RNd} {row : List RC} {k : Nat} {T : TT} (hk : k ≤ 10000000000) (h1k : 1 ≤ k) (ht : t.length ≤ 1000) (hs : SmT t k) (hr : SmR row k) (hv : VM (((row.length : Nat) : Int), [t])) (hT : GT t ((row.length : Nat) : Int) T) :
  R FF 228 [.l 14 (t.map eNd), .l 4 (row.map eC)] = some (.tup [.l 1 ((wyV t row T).map eX), (AV.i .i64 0)]) := by
 obtain ⟨c, f1, f2⟩ := vtree_c (t := t) (f := ((row.length : Nat) : Int)) (k := k) hk h1k (by omega) hs
 have hc : c = true := f2.2 hv
 subst hc
 have hle := hT.le
 have l0 := rway_l0 hk ht hs hr hT.rg rfl T [0] hT.un (by show 1 + _ ≤ 2000; omega)
 rw [hT.top, zy, show ([0] ++ wyT t row T) = wyV t row T by rw [wy_top, hT.top]; rfl] at l0
 change LP FF [(7, 1), (0, 0), (1, 0), (6, 0)] [(7, 0)] b228_0 [.own true 1 [[(AV.i .i64 0)]], .l 14 (t.map eNd), .l 4 (row.map eC), (AV.i .i64 0)] = _ at l0
 generalize wyV t row T = Z at *
 rw [R_go FF F228 c228.eq_1]
 simp only [RB, RL, un, St.none, Nat.reduceEqDiff, Nat.reduceAdd, Nat.reduceMul, Nat.reduceMod, Nat.reduceLeDiff, Nat.reduceLT, Int.reduceLT, Int.reduceLE, Int.reduceEq, Int.reduceToNat, Int.reduceSub, Int.reduceNeg, Int.reduceAdd, ↓reduceIte, reduceCtorEq, pack, pid, parN, lid, chkK, apartV, Heap.none, f1, l0, n64, eNd_rules, eNd_row, eX_rules, eX_row, eC_rules, eC_row, zh, zz]
noncomputable def wyR (m : RM) (row : List RC) : Int := @ite _ (VM m) (Classical.propDecidable _) (if (row.length : Int) = m.1 then 0 else 14) 1
theorem wyR_zero {m : RM} {row : List RC} (h : wyR m row = 0) : VM m ∧ (row.length : Int) = m.1 := by
 unfold wyR at h
 by_cases hv : VM m
 ·rw [if_pos hv] at h
  split at h
  ·rename_i hl; exact ⟨hv, hl⟩
  ·omega
 ·rw [if_neg hv] at h; omega
theorem rFits_c {m : RM} {row : List RC} {k : Nat} (hk : k ≤ 10000000000) (h1k : 1 ≤ k) (hm : SmM m k) : R FF 227 [.agg (eM m), .l 4 (row.map eC)] = some (AV.i .i64 ((wyR m row))) := by
 obtain ⟨e, f1, a1, a2, a3⟩ := rfits_c (row := row) hk h1k hm
 have he : e = wyR m row := by
  unfold wyR
  by_cases hv : VM m
  ·rw [if_pos hv]
   by_cases hl : (row.length : Int) = m.1
   ·rw [if_pos hl]; exact a1 hv hl
   ·rw [if_neg hl]; exact a3 hv hl
  ·rw [if_neg hv]; exact a2 hv
 rw [← he]
 obtain ⟨mf, ts⟩ := m
 simp only [eM] at f1 ⊢
 rw [R_go FF F227 c227.eq_1]
 simp only [RB, RL, un, St.none, Nat.reduceEqDiff, Nat.reduceAdd, Nat.reduceMul, Nat.reduceMod, Nat.reduceLeDiff, Nat.reduceLT, Int.reduceLT, Int.reduceLE, Int.reduceEq, Int.reduceToNat, Int.reduceSub, Int.reduceNeg, Int.reduceAdd, ↓reduceIte, reduceCtorEq, pack, pid, parN, lid, chkK, apartV, Heap.none, f1, eTr_rules, eTr_row, eC_rules, eC_row, n64]
theorem why10_c {m : RM} {row : List RC} {k : Nat} (hk : k ≤ 10) (h1k : 1 ≤ k) (hm : Fw m k) : R FF 205 [.agg (eM m), .l 4 (row.map eC)] = some (AV.i .i64 ((wyR m row))) := by
 obtain ⟨c, f1, f2⟩ := ok_c (m := m) (k := k) (by omega) h1k (by have := hm.n; omega) (fun t ht => ⟨by have := hm.len t ht; omega, hm.sm t ht⟩)
 unfold wyR
 by_cases hv : VM m
 ·rw [if_pos hv]
  have hc : c = true := f2.2 hv
  subst hc
  obtain ⟨mf, ts⟩ := m
  simp only [eM] at f1 ⊢
  by_cases hl : (row.length : Int) = mf
  ·rw [if_pos hl]
   rw [R_go FF F205 c205.eq_1]
   simp only [RB, RL, un, St.none, Nat.reduceEqDiff, Nat.reduceAdd, Nat.reduceMul, Nat.reduceMod, Nat.reduceLeDiff, Nat.reduceLT, Int.reduceLT, Int.reduceLE, Int.reduceEq, Int.reduceToNat, Int.reduceSub, Int.reduceNeg, Int.reduceAdd, ↓reduceIte, reduceCtorEq, pack, pid, parN, lid, chkK, apartV, Heap.none, f1, hl, eTr_rules, eTr_row, eC_rules, eC_row, n64]
  ·rw [if_neg hl]
   rw [R_go FF F205 c205.eq_1]
   simp only [RB, RL, un, St.none, Nat.reduceEqDiff, Nat.reduceAdd, Nat.reduceMul, Nat.reduceMod, Nat.reduceLeDiff, Nat.reduceLT, Int.reduceLT, Int.reduceLE, Int.reduceEq, Int.reduceToNat, Int.reduceSub, Int.reduceNeg, Int.reduceAdd, ↓reduceIte, reduceCtorEq, pack, pid, parN, lid, chkK, apartV, Heap.none, f1, hl, eTr_rules, eTr_row, eC_rules, eC_row, n64]
 ·rw [if_neg hv]
  have hc : c = false := by
   cases c
   ·rfl
   ·exact (hv (f2.1 rfl)).elim
  subst hc
  obtain ⟨mf, ts⟩ := m
  simp only [eM] at f1 ⊢
  rw [R_go FF F205 c205.eq_1]
  simp only [RB, RL, un, St.none, Nat.reduceEqDiff, Nat.reduceAdd, Nat.reduceMul, Nat.reduceMod, Nat.reduceLeDiff, Nat.reduceLT, Int.reduceLT, Int.reduceLE, Int.reduceEq, Int.reduceToNat, Int.reduceSub, Int.reduceNeg, Int.reduceAdd, ↓reduceIte, reduceCtorEq, pack, pid, parN, lid, chkK, apartV, Heap.none, f1, eTr_rules, eTr_row, eC_rules, eC_row, n64]
theorem vm_ft {m : RM} (h : VM m) : 0 ≤ m.1 ∧ m.1 ≤ 64 := by
 have h2 := h.fit
 unfold fitB at h2
 simp only [Bool.not_eq_true', Bool.or_eq_false_iff, decide_eq_false_iff_not] at h2
 omega
theorem vm_one {m : RM} (h : VM m) {t : List RNd} (ht : t ∈ m.2) : VM (m.1, [t]) := by
 refine ⟨?_, fun s hs => by rw [List.mem_singleton.1 hs]; exact h.all t ht⟩
 have h2 := h.fit
 unfold fitB at h2 ⊢
 simp only [Bool.not_eq_true', Bool.or_eq_false_iff, decide_eq_false_iff_not, List.any_eq_false] at h2
 have h3 := h2.2 t ht
 simp only [Bool.not_eq_true', Bool.or_eq_false_iff, decide_eq_false_iff_not, List.any_cons, List.any_nil, Bool.or_false, List.length_singleton]
 exact ⟨⟨⟨h2.1.1.1, h2.1.1.2⟩, by omega⟩, by simpa using h3⟩
def SpL (t : List RNd) (P : List Nat) : Prop := ∀ a ∈ P, a < t.length ∧ (t.getD a dNd).leaf = false
theorem wy_spl (t : List RNd) (row : List RC) : ∀ (T : TT), UN t T → SpL t ((wyV t row T).take ((wyV t row T).length - 1))
 | .lf a, h => fun x hx => (List.not_mem_nil hx).elim
 | .nd a l r, h => by
  obtain ⟨h1, h2, h3, h4, h5, h6⟩ := h
  have w1 := (wy_len t row l).1
  have w2 := (wy_len t row r).1
  rw [wyV, zr]
  intro x hx
  split at hx
  ·rw [show (wyV t row l).length + 1 - 1 = (wyV t row l).length - 1 + 1 by omega, List.take_succ_cons] at hx
   rcases List.mem_cons.1 hx with rfl | hx
   ·exact ⟨h1, h2⟩
   ·exact wy_spl t row l h5 x hx
  ·rw [show (wyV t row r).length + 1 - 1 = (wyV t row r).length - 1 + 1 by omega, List.take_succ_cons] at hx
   rcases List.mem_cons.1 hx with rfl | hx
   ·exact ⟨h1, h2⟩
   ·exact wy_spl t row r h6 x hx
theorem cl_sm {t : List RNd} {row : List RC} {f : Int} {k : Nat} (h1k : 1 ≤ k) (hs : SmT t k) (hrg : t.any (bdR t.length f) = false) : ∀ (P : List Nat) (b : List RS), SpL t P → (b.length : Int) = f → SmB b k → SmB (clT t row P b) k := by
 intro P
 induction P with
 | nil => intro b _ _ h; exact h
 | cons a P ih =>
  intro b hP hb hB
  have ha := hP a (zp ..)
  refine ih _ (fun x hx => hP x (zn _ hx)) (by rw [prtB_len]; exact hb) (part_sm hB (hs _ (getD_mem' dNd ha.1)).2.1 h1k (un_ft hrg hb ha.1 ha.2).1)
theorem cell_l1 {t : List RNd} {row : List RC} {us : List (List RNd)} {f n i : Int} {k : Nat} {P : List Nat} (hk : k ≤ 1000000) (h1k : 1 ≤ k) (ht : t.length ≤ 1000) (hs : SmT t k) (hr : SmR row k) (hrg : t.any (bdR t.length f) = false) (hf : (row.length : Int) = f) (hrl : row.length ≤ 1000) (hP : SpL t P) (hPl : P.length ≤ 1000) : ∀ (d j : Nat) (b : List RS), j + d = P.length → (b.length : Int) = f → SmB b k → inB b row = true →
  LP FF [(7, 1), (1, 0), (9, 0), (25, 0), (26, 0), (27, 0), (41, 0), (42, 0), (43, 0)] [(7, 1), (1, 0), (25, 0), (26, 0), (27, 0)] b329_1 [.own true 9 (b.map eS), .l 4 (row.map eC), .l 14 (t.map eNd), .l 1 (us.map eTr), (AV.i .i64 n), (AV.i .i64 i), .l 1 (P.map eX), (AV.i .i64 ((P.length : Int))), (AV.i .i64 ((j : Int)))] =
   some (.exit 2, [.own true 9 ((clT t row (P.drop j) b).map eS), .l 4 (row.map eC), .l 1 (us.map eTr), (AV.i .i64 n), (AV.i .i64 i)]) := by
 intro d
 induction d with
 | zero =>
  intro j b hj hb hB hin
  have c1 : ¬ (j : Int) < (P.length : Int) := by omega
  rw [zG (by omega), show clT t row [] b = b from rfl]
  rw [LP_go FF b329_1.eq_1]
  simp only [RB, RL, un, St.none, Nat.reduceEqDiff, Nat.reduceAdd, Nat.reduceMul, Nat.reduceMod, Nat.reduceLeDiff, Nat.reduceLT, Int.reduceLT, Int.reduceLE, Int.reduceEq, Int.reduceToNat, Int.reduceSub, Int.reduceNeg, Int.reduceAdd, ↓reduceIte, reduceCtorEq, pack, pid, parN, lid, chkK, apartV, Heap.none, c1, eTr_rules, eTr_row, eX_rules, eX_row, eC_rules, eC_row, eS_rules, eS_row, eNd_rules, eNd_row, zh, zz, zi]
 | succ d ih =>
  intro j b hj hb hB hin
  have hlt : j < P.length := by omega
  have ha := hP _ (getD_mem' 0 hlt)
  rw [drop_getD 0 hlt]
  generalize hga : P.getD j 0 = a at *
  have hft := un_ft hrg hb ha.1 ha.2
  have hmem := getD_mem' dNd ha.1
  have hc := (hs _ hmem).2.1
  have he : empV (sdV b (t.getD a dNd) (goN (t.getD a dNd) row)) = false := by
   cases he : empV (sdV b (t.getD a dNd) (goN (t.getD a dNd) row)) with
   | false => rfl
   | true => exact (part_emp hft.1 he hin rfl).elim
  have f2 := partw_c (n := t.getD a dNd) (left := goN (t.getD a dNd) row) (by omega) h1k hB hc hft.2 hft.1 (by omega) he
  have hrlt : (t.getD a dNd).ft.toNat < row.length := by omega
  have f1 := rleft_c (n := t.getD a dNd) (x := row.getD (t.getD a dNd).ft.toNat dC) (k := k) (j := k) hc (hr _ (getD_mem' dC hrlt)) (by omega) (by omega)
  rw [ha.2, show (!false && goV (vQ (t.getD a dNd).cut) (t.getD a dNd).miss (row.getD (t.getD a dNd).ft.toNat dC)) = goN (t.getD a dNd) row from rfl] at f1
  have h9 := ih (j + 1) (partB b (t.getD a dNd) (goN (t.getD a dNd) row)) (by omega) (by rw [prtB_len]; exact hb) (part_sm hB hc h1k hft.1) (by rw [part_in hft.1, hin, beq_self_eq_true]; rfl)
  rw [show clT t row (a :: P.drop (j + 1)) b = clT t row (P.drop (j + 1)) (partB b (t.getD a dNd) (goN (t.getD a dNd) row)) from rfl]
  have c1 : (j : Int) < (P.length : Int) := by omega
  have c2 : (a : Int) < (t.length : Int) := by omega
  have e2 : IntKind.i64.wrap ((j : Int) + 1) = ((j + 1 : Nat) : Int) := w64succ (by omega)
  have c3 : (t.getD a dNd).ft < (row.length : Int) := by omega
  have c4 := hft.2
  generalize clT t row (P.drop (j + 1)) (partB b (t.getD a dNd) (goN (t.getD a dNd) row)) = Z at *
  generalize partB b (t.getD a dNd) (goN (t.getD a dNd) row) = b' at *
  generalize goN (t.getD a dNd) row = g at *
  clear he hft hc hmem
  obtain ⟨x, hx⟩ : ∃ x, x = t.getD a dNd := ⟨_, rfl⟩
  rw [← hx] at f1 f2 c3 c4
  have hx' := hx.symm
  obtain ⟨xl, xf, xc, xa, xb, xm, xv, xw⟩ := x
  simp only [eNd, eC] at f1 f2 c3 c4
  rw [LP_go FF b329_1.eq_1]
  simp only [RB, RL, un, St.none, Nat.reduceEqDiff, Nat.reduceAdd, Nat.reduceMul, Nat.reduceMod, Nat.reduceLeDiff, Nat.reduceLT, Int.reduceLT, Int.reduceLE, Int.reduceEq, Int.reduceToNat, Int.reduceSub, Int.reduceNeg, Int.reduceAdd, ↓reduceIte, reduceCtorEq, pack, pid, parN, lid, chkK, apartV, Heap.none, c1, c2, c3, c4, e2, hga, hx', eNd, f1, f2, n64, eTr_rules, eTr_row, eX_rules, eX_row, eC_rules, eC_row, eS_rules, eS_row, eNd_rules, eNd_row, zb, zh, zz, zi]
  exact h9
theorem cell_l0 {m : RM} {row : List RC} {k : Nat} (hk : k ≤ 10) (h1k : 1 ≤ k) (hm : Fw m k) (hv : VM m) (hr : SmR row k) (hf : (row.length : Int) = m.1) (hrl : row.length ≤ 1000) : ∀ (d i : Nat) (b : List RS), i + d = m.2.length → (b.length : Int) = m.1 → SmB b k → inB b row = true →
  ∃ c, LP FF [(7, 1), (1, 0), (25, 0), (26, 0), (27, 0)] [(7, 1)] b329_0 [.own true 9 (b.map eS), .l 4 (row.map eC), .l 1 (m.2.map eTr), (AV.i .i64 ((m.2.length : Int))), (AV.i .i64 ((i : Int)))] = some (.exit 0, [.own true 9 (c.map eS)]) ∧ c.length = b.length ∧ SmB c k ∧ ∀ o, inB c o = true ↔ inB b o = true ∧ ∀ t ∈ m.2.drop i, walk t o t.length 0 = walk t row t.length 0 := by
 intro d
 induction d with
 | zero =>
  intro i b hi hb hB hin
  have c1 : ¬ (i : Int) < (m.2.length : Int) := by omega
  refine ⟨b, ?_, rfl, hB, fun o => ?_⟩
  ·generalize m.2 = ts at *
   rw [LP_go FF b329_0.eq_1]
   simp only [RB, RL, un, St.none, Nat.reduceEqDiff, Nat.reduceAdd, Nat.reduceMul, Nat.reduceMod, Nat.reduceLeDiff, Nat.reduceLT, Int.reduceLT, Int.reduceLE, Int.reduceEq, Int.reduceToNat, Int.reduceSub, Int.reduceNeg, Int.reduceAdd, ↓reduceIte, reduceCtorEq, pack, pid, parN, lid, chkK, apartV, Heap.none, c1, eTr_rules, eTr_row, eC_rules, eC_row, eS_rules, eS_row, zh, zz, zi]
  ·rw [zG (by omega)]
   exact ⟨fun h => ⟨h, fun t ht => (List.not_mem_nil ht).elim⟩, fun h => h.1⟩
 | succ d ih =>
  intro i b hi hb hB hin
  have hlt : i < m.2.length := by omega
  have ht := getD_mem' ([] : List RNd) hlt
  have hn6 := hm.n
  have hvt := hv.all _ ht
  have hsm := hm.sm _ ht
  have htl := hm.len _ ht
  obtain ⟨T, hT⟩ := gt_of hvt (vt_len hv _ ht)
  have hv1 := vm_one hv ht
  rw [← hf] at hv1 hT
  have f1 := rway_c (k := k) (by omega) h1k htl hsm hr hv1 hT
  have hwl := wy_len (m.2.getD i []) row T
  have hple := hT.le
  have hspl := wy_spl (m.2.getD i []) row T hT.un
  have hcl := cl_way (m.2.getD i []) row hT.rg T b hT.un hT.nd (by omega)
  have hsm2 := cl_sm (row := row) h1k hsm hT.rg ((wyV (m.2.getD i []) row T).take ((wyV (m.2.getD i []) row T).length - 1)) b hspl (by omega) hB
  have hlen2 := cl_len (m.2.getD i []) row ((wyV (m.2.getD i []) row T).take ((wyV (m.2.getD i []) row T).length - 1)) b
  have l1 := cell_l1 (us := m.2) (n := (m.2.length : Int)) (i := (i : Int)) (by omega) h1k htl hsm hr hT.rg rfl hrl hspl (by rw [zk]; omega) ((wyV (m.2.getD i []) row T).take ((wyV (m.2.getD i []) row T).length - 1)).length 0 b (by omega) (by omega) hB hin
  rw [zz, zy] at l1
  have hdr : m.2.drop i = m.2.getD i [] :: m.2.drop (i + 1) := drop_getD [] hlt
  have hun := fun o => un_walk' (t := m.2.getD i []) o hT.top hT.un hT.le
  generalize hZ : clT (m.2.getD i []) row ((wyV (m.2.getD i []) row T).take ((wyV (m.2.getD i []) row T).length - 1)) b = Z at *
  obtain ⟨c, r1, r2, r3, r4⟩ := ih (i + 1) Z (by omega) (by omega) hsm2 ((hcl row).2 ⟨hin, rfl⟩)
  refine ⟨c, ?_, by omega, r3, fun o => ?_⟩
  ·have c1 : (i : Int) < (m.2.length : Int) := by omega
   have e2 : IntKind.i64.wrap ((i : Int) + 1) = ((i + 1 : Nat) : Int) := w64succ (by omega)
   generalize wyV (m.2.getD i []) row T = W at *
   have e3 : IntKind.i64.wrap ((W.length : Int) - 1) = ((W.length - 1 : Nat) : Int) := by rw [w64 (by omega) (by omega)]; omega
   have c2 : ((W.length - 1 : Nat) : Int) ≤ (W.length : Int) := by omega
   have hlW : (W.take (W.length - 1)).length = W.length - 1 := by rw [zk]; omega
   rw [hlW] at l1
   generalize W.length - 1 = p at *
   generalize m.2 = ts at *
   rw [LP_go FF b329_0.eq_1]
   simp only [RB, RL, un, St.none, Nat.reduceEqDiff, Nat.reduceAdd, Nat.reduceMul, Nat.reduceMod, Nat.reduceLeDiff, Nat.reduceLT, Int.reduceLT, Int.reduceLE, Int.reduceEq, Int.reduceToNat, Int.reduceSub, Int.reduceNeg, Int.reduceAdd, ↓reduceIte, reduceCtorEq, pack, pid, parN, lid, chkK, apartV, Heap.none, c1, c2, e2, e3, f1, l1, n64, eTr_rules, eTr_row, eX_rules, eX_row, eC_rules, eC_row, eS_rules, eS_row, eNd_rules, eNd_row, zb, zh, zz, zi, ← List.map_take, hlW]
   exact r1
  ·rw [r4, hcl, hdr]
   constructor
   ·rintro ⟨⟨q1, q2⟩, q3⟩
    refine ⟨q1, fun t h => ?_⟩
    rcases List.mem_cons.1 h with rfl | h
    ·rw [hun, hun, q2]
    ·exact q3 t h
   ·rintro ⟨q1, q2⟩
    refine ⟨⟨q1, ?_⟩, fun t h => q2 t (zn _ h)⟩
    have h3 := q2 _ (zp ..)
    rw [hun, hun] at h3
    exact Option.some.inj h3
theorem cell_c {m : RM} {row : List RC} {k : Nat} (hk : k ≤ 10) (h1k : 1 ≤ k) (hm : Fw m k) (hr : SmR row k) (hrl : row.length ≤ 1000) (h0 : wyR m row = 0) :
  ∃ c, R FF 329 [.agg (eM m), .l 4 (row.map eC)] = some (.tup [.own true 9 (c.map eS), (AV.i .i64 0)]) ∧ c.length = row.length ∧ SmB c k ∧ ∀ o, inB c o = true ↔ o.length = row.length ∧ ∀ t ∈ m.2, walk t o t.length 0 = walk t row t.length 0 := by
 obtain ⟨hv, hf⟩ := wyR_zero h0
 have f1 := rFits_c (m := m) (row := row) (k := k) (by omega) h1k hm.smM
 rw [h0] at f1
 obtain ⟨hf0, hf1⟩ := vm_ft hv
 have f2 := ballw_c (n := row.length) (by omega)
 rw [hf] at f2
 have hall : ∀ o : List RC, inB (zj row.length (none9 true)) o = true ↔ o.length = row.length := fun o => by
  constructor
  ·intro h
   have h1 := (inB_iff.1 h).1
   rw [zm] at h1; exact h1.symm
  ·exact rep_in
 obtain ⟨c, r1, r2, r3, r4⟩ := cell_l0 hk h1k hm hv hr hf hrl m.2.length 0 (zj row.length (none9 true)) (by omega) (by rw [zm]; exact hf) (fun x hx => by rw [List.eq_of_mem_replicate hx]; exact none9_sm true) ((hall row).2 rfl)
 rw [zm] at r2
 rw [zy] at r1
 refine ⟨c, ?_, r2, r3, fun o => by rw [r4, hall, zz]⟩
 have hlen : (zj row.length (none9 true)).length = row.length := zm
 generalize zj row.length (none9 true) = L at *
 obtain ⟨mf, ts⟩ := m
 simp only [eM] at f1 f2 r1 ⊢
 rw [R_go FF F329 c329.eq_1]
 simp only [RB, RL, un, St.none, Nat.reduceEqDiff, Nat.reduceAdd, Nat.reduceMul, Nat.reduceMod, Nat.reduceLeDiff, Nat.reduceLT, Int.reduceLT, Int.reduceLE, Int.reduceEq, Int.reduceToNat, Int.reduceSub, Int.reduceNeg, Int.reduceAdd, ↓reduceIte, reduceCtorEq, pack, pid, parN, lid, chkK, apartV, Heap.none, f1, f2, r1, n64, eTr_rules, eTr_row, eC_rules, eC_row, eS_rules, eS_row, zh, zz, zi]
def bitN (s i : Nat) : Bool := decide (s / 2 ^ i % 2 = 1)
def swI (s : Nat) (b : List RS) (i : Nat) : List RS := (List.range i).foldl (fun b j => if bitN s j then b.set j (none9 true) else b) b
theorem swI_succ (s : Nat) (b : List RS) (i : Nat) : swI s b (i + 1) = if bitN s i then (swI s b i).set i (none9 true) else swI s b i := by
 unfold swI
 rw [List.range_succ, List.foldl_append]
 rfl
theorem swI_len (s : Nat) (b : List RS) : ∀ i, (swI s b i).length = b.length := by
 intro i
 induction i with
 | zero => rfl
 | succ i ih =>
  rw [swI_succ]
  split
  ·rw [zx, ih]
  ·exact ih
theorem swI_get {s : Nat} {b : List RS} {j : Nat} (hj : j < b.length) : ∀ i, (swI s b i).getD j dS = if j < i ∧ bitN s j = true then none9 true else b.getD j dS := by
 intro i
 induction i with
 | zero => rw [if_neg (by omega)]; rfl
 | succ i ih =>
  rw [swI_succ]
  cases hb : bitN s i with
  | true =>
   rw [if_pos rfl, getD_set', swI_len, ih]
   by_cases he : i = j
   ·subst he
    rw [if_pos ⟨rfl, hj⟩, if_pos ⟨by omega, hb⟩]
   ·rw [if_neg (fun h => he h.1)]
    by_cases h2 : j < i ∧ bitN s j = true
    ·rw [if_pos h2, if_pos ⟨by omega, h2.2⟩]
    ·rw [if_neg h2, if_neg (fun h => h2 ⟨by omega, h.2⟩)]
  | false =>
   rw [if_neg (by decide), ih]
   by_cases h2 : j < i ∧ bitN s j = true
   ·rw [if_pos h2, if_pos ⟨by omega, h2.2⟩]
   ·have h5 : ¬ (j < i + 1 ∧ bitN s j = true) := by
     rintro ⟨h3, h4⟩
     rcases Nat.lt_or_ge j i with h6 | h6
     ·exact h2 ⟨h6, h4⟩
     ·have h7 : j = i := by omega
      rw [h7, hb] at h4; cases h4
    rw [if_neg h2, if_neg h5]
theorem swI_sm {s : Nat} {b : List RS} {k : Nat} (h : SmB b k) : ∀ i, SmB (swI s b i) k := by
 intro i
 induction i with
 | zero => exact h
 | succ i ih =>
  rw [swI_succ]
  split
  ·exact set_sm ih (none9_sm true)
  ·exact ih
theorem none9_in (c : RC) : inV (none9 true) c = true := by
 obtain ⟨m, w⟩ := c
 unfold inV inS none9
 cases m <;> rfl
def mxI (s : Nat) (row oth : List RC) (i : Nat) : List RC := (List.range i).map fun j => if bitN s j then oth.getD j dC else row.getD j dC
theorem mxI_len (s : Nat) (row oth : List RC) (i : Nat) : (mxI s row oth i).length = i := by simp [mxI]
theorem mxI_succ (s : Nat) (row oth : List RC) (i : Nat) : mxI s row oth (i + 1) = mxI s row oth i ++ [if bitN s i then oth.getD i dC else row.getD i dC] := by simp [mxI, List.range_succ]
theorem mxI_get (s : Nat) (row oth : List RC) {i j : Nat} (h : j < i) : (mxI s row oth i).getD j dC = if bitN s j then oth.getD j dC else row.getD j dC := by simp [mxI, za, h]
theorem mx_in {s : Nat} {b : List RS} {row oth : List RC} (h : inB b row = true) : inB (swI s b b.length) (mxI s row oth row.length) = true := by
 rw [inB_iff] at h ⊢
 rw [swI_len, mxI_len]
 refine ⟨h.1, fun j hj => ?_⟩
 rw [swI_get (by omega), mxI_get _ _ _ hj]
 cases hb : bitN s j with
 | true => rw [if_pos ⟨by omega, rfl⟩]; exact none9_in _
 | false => rw [if_neg (fun h => by cases h.2), if_neg (by decide)]; exact h.2 j hj
theorem sw_in {s : Nat} {b : List RS} {row : List RC} (h : inB b row = true) : inB (swI s b b.length) row = true := by
 rw [inB_iff] at h ⊢
 rw [swI_len]
 refine ⟨h.1, fun j hj => ?_⟩
 rw [swI_get (by omega)]
 split
 ·exact none9_in _
 ·exact h.2 j hj
theorem sw_zero (b : List RS) (i : Nat) : swI 0 b i = b := by
 induction i with
 | zero => rfl
 | succ i ih => rw [swI_succ, ih, show bitN 0 i = false by unfold bitN; rw [Nat.zero_div]; rfl]; rfl
theorem mx_sm {s : Nat} {row oth : List RC} {k : Nat} (hr : SmR row k) (ho : SmR oth k) (hl : oth.length = row.length) : SmR (mxI s row oth row.length) k := by
 intro x hx
 unfold mxI at hx
 obtain ⟨j, hj, rfl⟩ := List.mem_map.1 hx
 have hj := List.mem_range.1 hj
 split
 ·exact ho _ (getD_mem' dC (by omega))
 ·exact hr _ (getD_mem' dC hj)
theorem in_void {b : List RS} {row : List RC} (h : inB b row = true) : vF b 0 b.length = false := by
 unfold inB at h
 rw [zd, decide_eq_true_eq] at h
 have := hF_vF _ _ h.2
 rw [h.1]; exact this
theorem bit_c {s i : Nat} (hs : s < 18446744073709551616) (hi : i ≤ 64) : Go.bits .and .u64 ((s : Int).fdiv (2 ^ i.min IntKind.u64.bits)) 1 = ((s / 2 ^ i % 2 : Nat) : Int) := by
 have h1 : i.min IntKind.u64.bits = i := Nat.min_eq_left (by show i ≤ 64; exact hi)
 have h2 : ((2 : Int) ^ i) = ((2 ^ i : Nat) : Int) := by rw [Int.natCast_pow]; rfl
 have h3 := Nat.div_le_self s (2 ^ i)
 rw [h1, h2, Int.fdiv_eq_ediv_of_nonneg _ (zb _), ← Int.natCast_ediv, and1 (zb _) (by omega)]
 rfl
theorem swing_l0 {m : RM} {s : Nat} {b : List RS} (hs : s < 18446744073709551616) (hb : b.length ≤ 64) : ∀ (d i : Nat), i + d = b.length →
  LP FF [(6, 1), (7, 1), (10, 1), (2, 0), (3, 0), (34, 0), (35, 0)] [(6, 1), (7, 1), (3, 0), (10, 0)] b207_0 [.ownp [.b false, .l 1 [], .l 1 []], .ownp [.b false, .l 1 [], .l 1 []], .own true 9 ((swI s b i).map eS), .i .u64 (s : Int), .tp (eM m) 0, (AV.i .i64 ((b.length : Int))), (AV.i .i64 ((i : Int)))] =
   some (.exit 0, [.ownp [.b false, .l 1 [], .l 1 []], .ownp [.b false, .l 1 [], .l 1 []], .tp (eM m) 0, .l 9 ((swI s b b.length).map eS)]) := by
 obtain ⟨mf, ts⟩ := m
 simp only [eM]
 intro d
 induction d with
 | zero =>
  intro i hi
  obtain rfl : i = b.length := by omega
  have c1 : ¬ (b.length : Int) < (b.length : Int) := by omega
  generalize swI s b b.length = L at *
  rw [LP_go FF b207_0.eq_1]
  simp only [RB, RL, un, St.none, Nat.reduceEqDiff, Nat.reduceAdd, Nat.reduceMul, Nat.reduceMod, Nat.reduceLeDiff, Nat.reduceLT, Int.reduceLT, Int.reduceLE, Int.reduceEq, Int.reduceToNat, Int.reduceSub, Int.reduceNeg, Int.reduceAdd, ↓reduceIte, reduceCtorEq, pack, pid, parN, lid, chkK, apartV, Heap.none, c1, eS_rules, eS_row, eTr_rules, eTr_row, zh, zz, zi, Row.freeze]
 | succ d ih =>
  intro i hi
  have h9 := ih (i + 1) (by omega)
  have c1 : (i : Int) < (b.length : Int) := by omega
  have c0 : ¬ (i : Int) < 0 := by omega
  have e2 : IntKind.i64.wrap ((i : Int) + 1) = ((i + 1 : Nat) : Int) := w64succ (by omega)
  have hl := swI_len s b i
  have hl2 := swI_len s b (i + 1)
  rw [swI_succ] at h9 hl2
  have ev := every_c
  have hbc := bit_c hs (show i ≤ 64 by omega)
  have hbd : bitN s i = decide (s / 2 ^ i % 2 = 1) := rfl
  cases hbit : bitN s i with
  | true =>
   rw [hbit, if_pos rfl] at h9 hl2
   rw [hbit] at hbd
   rw [of_decide_eq_true hbd.symm, Int.ofNat_one] at hbc
   have pu : putC 9 (List.map eS (swI s b i)) i 0 (eS (none9 true)) = ((swI s b i).set i (none9 true)).map eS := putC_map eS 9 (swI s b i) i (none9 true) rfl
   have t1 : List.take b.length ((swI s b i).set i (none9 true)) = (swI s b i).set i (none9 true) := zc (by omega)
   generalize (swI s b i).set i (none9 true) = L2 at *
   generalize swI s b i = L at *
   have c3 : i < b.length := by omega
   rw [eS] at ev pu
   rw [LP_go FF b207_0.eq_1]
   simp only [RB, RL, un, St.none, Nat.reduceEqDiff, Nat.reduceAdd, Nat.reduceMul, Nat.reduceMod, Nat.reduceLeDiff, Nat.reduceLT, Int.reduceLT, Int.reduceLE, Int.reduceEq, Int.reduceToNat, Int.reduceSub, Int.reduceNeg, Int.reduceAdd, ↓reduceIte, reduceCtorEq, pack, pid, parN, lid, chkK, apartV, Heap.none, c0, c1, c3, e2, hbc, ev, pu, hl, hl2, t1, n64, eS_rules, eS_row, eTr_rules, eTr_row, zb, zh, zz, zi]
   exact h9
  | false =>
   rw [hbit, if_neg (show ¬ false = true by decide)] at h9 hl2
   rw [hbit] at hbd
   have h5 := of_decide_eq_false hbd.symm
   rw [show s / 2 ^ i % 2 = 0 by omega, zy] at hbc
   have t2 : List.take b.length (swI s b i) = swI s b i := zc (by omega)
   generalize swI s b i = L at *
   rw [LP_go FF b207_0.eq_1]
   simp only [RB, RL, un, St.none, Nat.reduceEqDiff, Nat.reduceAdd, Nat.reduceMul, Nat.reduceMod, Nat.reduceLeDiff, Nat.reduceLT, Int.reduceLT, Int.reduceLE, Int.reduceEq, Int.reduceToNat, Int.reduceSub, Int.reduceNeg, Int.reduceAdd, ↓reduceIte, reduceCtorEq, pack, pid, parN, lid, chkK, apartV, Heap.none, c0, c1, e2, hbc, t2, hl, n64, eS_rules, eS_row, eTr_rules, eTr_row, zb, zh, zz, zi]
   exact h9
end Go.Pe
