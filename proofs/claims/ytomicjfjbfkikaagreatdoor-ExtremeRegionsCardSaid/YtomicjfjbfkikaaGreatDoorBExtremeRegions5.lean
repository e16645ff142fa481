/- Part 5 of the texts of ExtremeRegions: words, the machine's side of functions (written by a program), plain lemmas. -/
import Derived.Test.YtomicjfjbfkikaaGreatDoorBExtremeRegions4
import Derived.KernelRfl
set_option linter.unusedVariables false
set_option linter.unusedSimpArgs false
open List renaming getD_eq_getElem?_getD → za, take_of_length_le → zb, take_length → zf, getElem?_eq_getElem → zh, length_take → zi, length_append → zj, length_map → zm, replicate → zn, mem_cons_of_mem → zo, mem_cons_self → zr, length_replicate → zt, length_cons → zw, length_set → zx, mem_singleton → zA
open Bool renaming and_eq_true → zc, false_eq_true → zz
open Int renaming natCast_nonneg → zd, mul_le_mul_of_nonneg_right → zl, ofNat_zero → zy
open Option renaming map_eq_some_iff → ze, bind_eq_some_iff → zg, bind_some → zp
open Nat renaming le_refl → zk, mul_le_mul_right → zq, le_trans → zu, zero_add → zB
open Go
namespace Go.Pe
theorem sv_add {q : Bool} {a b : Int} (ha : ng a = q) (hb : ng b = q) : sv q (a.natAbs + b.natAbs) = a + b := by
 cases q
 ·rw [ng_false] at ha hb; unfold sv; simp; omega
 ·rw [ng_true] at ha hb; unfold sv; simp; omega
theorem wadd_c {q r : Bool} {l m : List Int} (hu : U l) (hl : l.length ≤ 17592186044416) (hv : U m) (hm : m.length ≤ 17592186044416) : R FF 76 [(AV.agg [AV.b q, (AV.l 1 (List.map u l))]), (AV.agg [AV.b r, (AV.l 1 (List.map u m))])] = some (AV.agg [AV.b (ng (wv q l + wv r m)), (AV.l 1 (List.map u (D (Int.natAbs (wv q l + wv r m)))))]) := by
 have h1 := wclean_c (q := q) hu (by omega)
 have h2 := wclean_c (q := r) hv (by omega)
 have l1 := wv_L q l
 have l2 := wv_L r m
 generalize wv q l = a at *
 generalize wv r m = b at *
 have s1 := add_D (m := a.natAbs) (n := b.natAbs) (by omega) (by omega)
 have c1 := cmp_c (D_U a.natAbs) (D_U b.natAbs) (show L a.natAbs ≤ _ by omega) (show L b.natAbs ≤ _ by omega)
 rw [W_D, W_D] at c1
 cases ha : ng a <;> cases hb : ng b <;> rw [ha] at h1 <;> rw [hb] at h2
 ·have g1 := sign_c false (a.natAbs + b.natAbs)
  rw [sv_add ha hb] at g1
  rw [R_go FF F76 c76.eq_1]
  simp only [RB, RL, un, St.none, Nat.reduceEqDiff, Nat.reduceAdd, Nat.reduceMul, Nat.reduceMod, Nat.reduceLeDiff, Nat.reduceLT, Int.reduceLT, Int.reduceLE, Int.reduceEq, Int.reduceToNat, Int.reduceSub, Int.reduceNeg, Int.reduceAdd, ↓reduceIte, reduceCtorEq, pack, pid, parN, lid, chkK, apartV, Heap.none, h1, h2, s1, g1]
 ·rw [ng_false] at ha
  rw [ng_true] at hb
  by_cases hlt : a.natAbs < b.natAbs
  ·have hc : cmp ((a.natAbs : Nat) : Int) ((b.natAbs : Nat) : Int) < 0 := cmp_lt_iff.2 (by omega)
   have d1 := sub_ge (D_U b.natAbs) (D_U a.natAbs) (show L b.natAbs ≤ _ by omega) (show L a.natAbs ≤ _ by omega) (by rw [W_D, W_D]; omega)
   rw [W_D, W_D] at d1
   have g1 := sign_c true (b.natAbs - a.natAbs)
   rw [show sv true (b.natAbs - a.natAbs) = a + b by unfold sv; simp; omega] at g1
   rw [R_go FF F76 c76.eq_1]
   simp only [RB, RL, un, St.none, Nat.reduceEqDiff, Nat.reduceAdd, Nat.reduceMul, Nat.reduceMod, Nat.reduceLeDiff, Nat.reduceLT, Int.reduceLT, Int.reduceLE, Int.reduceEq, Int.reduceToNat, Int.reduceSub, Int.reduceNeg, Int.reduceAdd, ↓reduceIte, reduceCtorEq, pack, pid, parN, lid, chkK, apartV, Heap.none, h1, h2, c1, hc, d1, g1]
  ·have hc : ¬ cmp ((a.natAbs : Nat) : Int) ((b.natAbs : Nat) : Int) < 0 := fun h => by have := cmp_lt_iff.1 h; omega
   have d1 := sub_ge (D_U a.natAbs) (D_U b.natAbs) (show L a.natAbs ≤ _ by omega) (show L b.natAbs ≤ _ by omega) (by rw [W_D, W_D]; omega)
   rw [W_D, W_D] at d1
   have g1 := sign_c false (a.natAbs - b.natAbs)
   rw [show sv false (a.natAbs - b.natAbs) = a + b by unfold sv; simp; omega] at g1
   rw [R_go FF F76 c76.eq_1]
   simp only [RB, RL, un, St.none, Nat.reduceEqDiff, Nat.reduceAdd, Nat.reduceMul, Nat.reduceMod, Nat.reduceLeDiff, Nat.reduceLT, Int.reduceLT, Int.reduceLE, Int.reduceEq, Int.reduceToNat, Int.reduceSub, Int.reduceNeg, Int.reduceAdd, ↓reduceIte, reduceCtorEq, pack, pid, parN, lid, chkK, apartV, Heap.none, h1, h2, c1, hc, d1, g1]
 ·rw [ng_true] at ha
  rw [ng_false] at hb
  by_cases hlt : a.natAbs < b.natAbs
  ·have hc : cmp ((a.natAbs : Nat) : Int) ((b.natAbs : Nat) : Int) < 0 := cmp_lt_iff.2 (by omega)
   have d1 := sub_ge (D_U b.natAbs) (D_U a.natAbs) (show L b.natAbs ≤ _ by omega) (show L a.natAbs ≤ _ by omega) (by rw [W_D, W_D]; omega)
   rw [W_D, W_D] at d1
   have g1 := sign_c false (b.natAbs - a.natAbs)
   rw [show sv false (b.natAbs - a.natAbs) = a + b by unfold sv; simp; omega] at g1
   rw [R_go FF F76 c76.eq_1]
   simp only [RB, RL, un, St.none, Nat.reduceEqDiff, Nat.reduceAdd, Nat.reduceMul, Nat.reduceMod, Nat.reduceLeDiff, Nat.reduceLT, Int.reduceLT, Int.reduceLE, Int.reduceEq, Int.reduceToNat, Int.reduceSub, Int.reduceNeg, Int.reduceAdd, ↓reduceIte, reduceCtorEq, pack, pid, parN, lid, chkK, apartV, Heap.none, h1, h2, c1, hc, d1, g1]
  ·have hc : ¬ cmp ((a.natAbs : Nat) : Int) ((b.natAbs : Nat) : Int) < 0 := fun h => by have := cmp_lt_iff.1 h; omega
   have d1 := sub_ge (D_U a.natAbs) (D_U b.natAbs) (show L a.natAbs ≤ _ by omega) (show L b.natAbs ≤ _ by omega) (by rw [W_D, W_D]; omega)
   rw [W_D, W_D] at d1
   have g1 := sign_c true (a.natAbs - b.natAbs)
   rw [show sv true (a.natAbs - b.natAbs) = a + b by unfold sv; simp; omega] at g1
   rw [R_go FF F76 c76.eq_1]
   simp only [RB, RL, un, St.none, Nat.reduceEqDiff, Nat.reduceAdd, Nat.reduceMul, Nat.reduceMod, Nat.reduceLeDiff, Nat.reduceLT, Int.reduceLT, Int.reduceLE, Int.reduceEq, Int.reduceToNat, Int.reduceSub, Int.reduceNeg, Int.reduceAdd, ↓reduceIte, reduceCtorEq, pack, pid, parN, lid, chkK, apartV, Heap.none, h1, h2, c1, hc, d1, g1]
 ·have g1 := sign_c true (a.natAbs + b.natAbs)
  rw [sv_add ha hb] at g1
  rw [R_go FF F76 c76.eq_1]
  simp only [RB, RL, un, St.none, Nat.reduceEqDiff, Nat.reduceAdd, Nat.reduceMul, Nat.reduceMod, Nat.reduceLeDiff, Nat.reduceLT, Int.reduceLT, Int.reduceLE, Int.reduceEq, Int.reduceToNat, Int.reduceSub, Int.reduceNeg, Int.reduceAdd, ↓reduceIte, reduceCtorEq, pack, pid, parN, lid, chkK, apartV, Heap.none, h1, h2, s1, g1]
theorem wadd_D {a b : Int} (ha : L a.natAbs ≤ 17592186044416) (hb : L b.natAbs ≤ 17592186044416) : R FF 76 [(AV.agg [AV.b (ng a), (AV.l 1 (List.map u (D (Int.natAbs a))))]), (AV.agg [AV.b (ng b), (AV.l 1 (List.map u (D (Int.natAbs b))))])] = some (AV.agg [AV.b (ng (a + b)), (AV.l 1 (List.map u (D (Int.natAbs (a + b)))))]) := by
 have := wadd_c (q := ng a) (r := ng b) (D_U a.natAbs) ha (D_U b.natAbs) hb
 rwa [wv_ci, wv_ci] at this
theorem sv_xor_mul (a b : Int) : sv (ng a != ng b) (a.natAbs * b.natAbs) = a * b := by
 rw [← Int.natAbs_mul]
 have h := sv_self (a * b)
 cases ha : ng a <;> cases hb : ng b <;> (first | rw [ng_true] at ha | rw [ng_false] at ha) <;> (first | rw [ng_true] at hb | rw [ng_false] at hb) <;> unfold sv <;> simp
 ·have := Int.mul_nonneg ha hb
  omega
 ·have := Int.mul_nonneg ha (show 0 ≤ -b by omega)
  rw [Int.mul_neg] at this
  omega
 ·have := Int.mul_nonneg (show 0 ≤ -a by omega) hb
  rw [Int.neg_mul] at this
  omega
 ·have := Int.mul_nonneg (show 0 ≤ -a by omega) (show 0 ≤ -b by omega)
  rw [Int.neg_mul_neg] at this
  omega
theorem wmul_c {q r : Bool} {l m : List Int} (hu : U l) (hl : l.length ≤ 17592186044416) (hv : U m) (hm : m.length ≤ 17592186044416) : R FF 65 [(AV.agg [AV.b q, (AV.l 1 (List.map u l))]), (AV.agg [AV.b r, (AV.l 1 (List.map u m))])] = some (AV.agg [AV.b (ng (wv q l * wv r m)), (AV.l 1 (List.map u (D (Int.natAbs (wv q l * wv r m)))))]) := by
 have h1 := wclean_c (q := q) hu (by omega)
 have h2 := wclean_c (q := r) hv (by omega)
 have l1 := wv_L q l
 have l2 := wv_L r m
 generalize wv q l = a at *
 generalize wv r m = b at *
 have s1 := mul_D (m := a.natAbs) (n := b.natAbs) (by omega)
 have g1 := sign_c (ng a != ng b) (a.natAbs * b.natAbs)
 rw [sv_xor_mul] at g1
 cases ha : ng a <;> cases hb : ng b <;> rw [ha] at h1 g1 <;> rw [hb] at h2 g1 <;> simp only [bne, boolq, Bool.not_true, Bool.not_false] at g1
 all_goals
  rw [R_go FF F65 c65.eq_1]
  simp only [RB, RL, un, St.none, Nat.reduceEqDiff, Nat.reduceAdd, Nat.reduceMul, Nat.reduceMod, Nat.reduceLeDiff, Nat.reduceLT, Int.reduceLT, Int.reduceLE, Int.reduceEq, Int.reduceToNat, Int.reduceSub, Int.reduceNeg, Int.reduceAdd, ↓reduceIte, reduceCtorEq, pack, pid, parN, lid, chkK, apartV, Heap.none, h1, h2, s1, g1]
theorem rmake_c (q : Bool) (k : Nat) : R FF 39 [.b q, (AV.l 1 (List.map n64 (E k)))] = some (AV.agg [AV.b (ng (sv q k)), (AV.l 1 (List.map n64 (E (Int.natAbs (sv q k)))))]) := by
 have h1 : (E k).length = LE k := rfl
 have h2 : decide (0 < (LE k : Int)) = decide (0 < k) := by
  refine decide_eq_decide.2 ?_
  have : LE k = 0 ↔ k = 0 := by
   show (E k).length = 0 ↔ _
   rw [List.length_eq_zero_iff, E_nil]
  omega
 rw [sv_abs, sv_ng]
 cases q
 ·rw [R_go FF F39 c39.eq_1]
  simp only [RB, RL, un, St.none, Nat.reduceEqDiff, Nat.reduceAdd, Nat.reduceMul, Nat.reduceMod, Nat.reduceLeDiff, Nat.reduceLT, Int.reduceLT, Int.reduceLE, Int.reduceEq, Int.reduceToNat, Int.reduceSub, Int.reduceNeg, Int.reduceAdd, ↓reduceIte, reduceCtorEq, pack, pid, parN, lid, chkK, apartV, Heap.none]
 ·rw [R_go FF F39 c39.eq_1]
  simp only [RB, RL, un, St.none, Nat.reduceEqDiff, Nat.reduceAdd, Nat.reduceMul, Nat.reduceMod, Nat.reduceLeDiff, Nat.reduceLT, Int.reduceLT, Int.reduceLE, Int.reduceEq, Int.reduceToNat, Int.reduceSub, Int.reduceNeg, Int.reduceAdd, ↓reduceIte, reduceCtorEq, pack, pid, parN, lid, chkK, apartV, Heap.none, h1, h2]
theorem rsmall_c {x : Int} (h0 : -9223372036854775808 ≤ x) (h1 : x ≤ 9223372036854775807) : R FF 258 [(AV.i .i64 x)] = some (AV.agg [AV.b (ng x), (AV.l 1 (List.map n64 (E (Int.natAbs x))))]) := by
 by_cases hx : x < 0
 ·have e1 : IntKind.i64.wrap (x + 1) = x + 1 := w64 (by omega) (by omega)
  have e2 : IntKind.i64.wrap (0 - (x + 1)) = ((x.natAbs - 1 : Nat) : Int) := by rw [w64 (by omega) (by omega)]; omega
  have s1 := small_c (x := ((x.natAbs - 1 : Nat) : Int)) (n := x.natAbs - 1) rfl (by omega)
  have s2 := small_c (x := 1) (n := 1) rfl (by omega)
  have b1 := LE_u64 (n := x.natAbs - 1) (by omega)
  have b2 := LE_u64 (n := 1) (by omega)
  have s3 := plus_c (x := x.natAbs - 1) (y := 1) (by omega) (by omega)
  rw [show x.natAbs - 1 + 1 = x.natAbs by omega] at s3
  have s4 := rmake_c true x.natAbs
  rw [show sv true x.natAbs = x by unfold sv; simp; omega] at s4
  rw [R_go FF F258 c258.eq_1]
  simp only [RB, RL, un, St.none, Nat.reduceEqDiff, Nat.reduceAdd, Nat.reduceMul, Nat.reduceMod, Nat.reduceLeDiff, Nat.reduceLT, Int.reduceLT, Int.reduceLE, Int.reduceEq, Int.reduceToNat, Int.reduceSub, Int.reduceNeg, Int.reduceAdd, ↓reduceIte, reduceCtorEq, pack, pid, parN, lid, chkK, apartV, Heap.none, hx, e1, e2, s1, s2, s3, s4]
 ·have s1 := small_c (x := x) (n := x.natAbs) (by omega) (by omega)
  have s4 := rmake_c false x.natAbs
  rw [show sv false x.natAbs = x by unfold sv; simp; omega] at s4
  rw [R_go FF F258 c258.eq_1]
  simp only [RB, RL, un, St.none, Nat.reduceEqDiff, Nat.reduceAdd, Nat.reduceMul, Nat.reduceMod, Nat.reduceLeDiff, Nat.reduceLT, Int.reduceLT, Int.reduceLE, Int.reduceEq, Int.reduceToNat, Int.reduceSub, Int.reduceNeg, Int.reduceAdd, ↓reduceIte, reduceCtorEq, pack, pid, parN, lid, chkK, apartV, Heap.none, hx, s1, s4]
theorem rfrom_c {q : Bool} {l : List Int} (hu : U l) (hl : l.length ≤ 1000000000000) : R FF 38 [(AV.agg [AV.b q, (AV.l 1 (List.map u l))])] = some (AV.agg [AV.b (ng (wv q l)), (AV.l 1 (List.map n64 (E (Int.natAbs (wv q l)))))]) := by
 have h1 := from_c hu hl
 have h2 := rmake_c q (W l)
 rw [R_go FF F38 c38.eq_1]
 simp only [RB, RL, un, St.none, Nat.reduceEqDiff, Nat.reduceAdd, Nat.reduceMul, Nat.reduceMod, Nat.reduceLeDiff, Nat.reduceLT, Int.reduceLT, Int.reduceLE, Int.reduceEq, Int.reduceToNat, Int.reduceSub, Int.reduceNeg, Int.reduceAdd, ↓reduceIte, reduceCtorEq, pack, pid, parN, lid, chkK, apartV, Heap.none, h1, h2]
 rfl
theorem rord_c {a b : Int} (ha : LE a.natAbs ≤ 35184372088832) (hb : LE b.natAbs ≤ 35184372088832) : R FF 47 [(AV.agg [AV.b (ng a), (AV.l 1 (List.map n64 (E (Int.natAbs a))))]), (AV.agg [AV.b (ng b), (AV.l 1 (List.map n64 (E (Int.natAbs b))))])] = some (AV.i .i64 (cmp a b)) := by
 have c1 := rorder_c ha hb
 have c2 := rorder_c hb ha
 cases ha : ng a <;> cases hb : ng b <;> (first | rw [ng_true] at ha | rw [ng_false] at ha) <;> (first | rw [ng_true] at hb | rw [ng_false] at hb)
 ·rw [show ((a.natAbs : Nat) : Int) = a by omega, show ((b.natAbs : Nat) : Int) = b by omega] at c1
  rw [R_go FF F47 c47.eq_1]
  simp only [RB, RL, un, St.none, Nat.reduceEqDiff, Nat.reduceAdd, Nat.reduceMul, Nat.reduceMod, Nat.reduceLeDiff, Nat.reduceLT, Int.reduceLT, Int.reduceLE, Int.reduceEq, Int.reduceToNat, Int.reduceSub, Int.reduceNeg, Int.reduceAdd, ↓reduceIte, reduceCtorEq, pack, pid, parN, lid, chkK, apartV, Heap.none, c1]
 ·rw [cmp_gt (by omega)]
  rw [R_go FF F47 c47.eq_1]
  simp only [RB, RL, un, St.none, Nat.reduceEqDiff, Nat.reduceAdd, Nat.reduceMul, Nat.reduceMod, Nat.reduceLeDiff, Nat.reduceLT, Int.reduceLT, Int.reduceLE, Int.reduceEq, Int.reduceToNat, Int.reduceSub, Int.reduceNeg, Int.reduceAdd, ↓reduceIte, reduceCtorEq, pack, pid, parN, lid, chkK, apartV, Heap.none]
 ·rw [cmp_lt (by omega)]
  rw [R_go FF F47 c47.eq_1]
  simp only [RB, RL, un, St.none, Nat.reduceEqDiff, Nat.reduceAdd, Nat.reduceMul, Nat.reduceMod, Nat.reduceLeDiff, Nat.reduceLT, Int.reduceLT, Int.reduceLE, Int.reduceEq, Int.reduceToNat, Int.reduceSub, Int.reduceNeg, Int.reduceAdd, ↓reduceIte, reduceCtorEq, pack, pid, parN, lid, chkK, apartV, Heap.none]
 ·have e : cmp ((b.natAbs : Nat) : Int) ((a.natAbs : Nat) : Int) = cmp a b := by unfold cmp; split <;> split <;> (try split) <;> (try split) <;> omega
  rw [e] at c2
  rw [R_go FF F47 c47.eq_1]
  simp only [RB, RL, un, St.none, Nat.reduceEqDiff, Nat.reduceAdd, Nat.reduceMul, Nat.reduceMod, Nat.reduceLeDiff, Nat.reduceLT, Int.reduceLT, Int.reduceLE, Int.reduceEq, Int.reduceToNat, Int.reduceSub, Int.reduceNeg, Int.reduceAdd, ↓reduceIte, reduceCtorEq, pack, pid, parN, lid, chkK, apartV, Heap.none, c2]
theorem rtimes_c {a b : Int} (hl : LE a.natAbs + LE b.natAbs ≤ 35184372088832) : R FF 43 [(AV.agg [AV.b (ng a), (AV.l 1 (List.map n64 (E (Int.natAbs a))))]), (AV.agg [AV.b (ng b), (AV.l 1 (List.map n64 (E (Int.natAbs b))))])] = some (AV.agg [AV.b (ng (a * b)), (AV.l 1 (List.map n64 (E (Int.natAbs (a * b)))))]) := by
 have s1 := times_c hl
 have g1 := rmake_c (ng a != ng b) (a.natAbs * b.natAbs)
 rw [sv_xor_mul] at g1
 cases ha : ng a <;> cases hb : ng b <;> rw [ha, hb] at g1 <;> simp only [bne, boolq, Bool.not_true, Bool.not_false] at g1
 all_goals
  rw [R_go FF F43 c43.eq_1]
  simp only [RB, RL, un, St.none, Nat.reduceEqDiff, Nat.reduceAdd, Nat.reduceMul, Nat.reduceMod, Nat.reduceLeDiff, Nat.reduceLT, Int.reduceLT, Int.reduceLE, Int.reduceEq, Int.reduceToNat, Int.reduceSub, Int.reduceNeg, Int.reduceAdd, ↓reduceIte, reduceCtorEq, pack, pid, parN, lid, chkK, apartV, Heap.none, s1, g1]
theorem over_l1 {y r : Nat} (hy : 0 < y) (hy2 : LE y ≤ 1000000000000) (hr : LE r ≤ 1000000000000) (a out : List Int) (i : Nat) :
  ∀ (d lo hi : Nat), hi ≤ lo + d → lo < hi → hi ≤ 10000 → y * lo ≤ r → r < y * hi → LP FF [(6, 1), (0, 0), (1, 0), (7, 0), (8, 0), (10, 0), (11, 0)] [(6, 1), (0, 0), (1, 0), (7, 0), (8, 0), (10, 0)] b80_1 [.own true 1 (out.map n64), (AV.l 1 (List.map n64 a)), (AV.l 1 (List.map n64 (E y))), (AV.l 1 (List.map n64 (E r))), (AV.i .i64 ((i : Int))), (AV.i .i64 ((lo : Int))), (AV.i .i64 ((hi : Int)))] = some (.exit 2, [.own true 1 (out.map n64), (AV.l 1 (List.map n64 a)), (AV.l 1 (List.map n64 (E y))), (AV.l 1 (List.map n64 (E r))), (AV.i .i64 ((i : Int))), (AV.i .i64 (((r / y : Nat) : Int)))]) := by
 intro d
 induction d with
 | zero => intro lo hi h1 h2; omega
 | succ d ih =>
  intro lo hi h1 h2 h3 h4 h5
  have e0 : IntKind.i64.wrap ((hi : Int) - (lo : Int)) = ((hi - lo : Nat) : Int) := by rw [w64 (by omega) (by omega)]; omega
  by_cases hc : lo + 1 < hi
  ·have c1 : 1 < ((hi - lo : Nat) : Int) := by omega
   have e1 : IntKind.i64.wrap ((lo : Int) + (hi : Int)) = ((lo + hi : Nat) : Int) := w64add (by omega)
   have e2 : IntKind.i64.wrap (Int.tdiv ((lo + hi : Nat) : Int) 2) = (((lo + hi) / 2 : Nat) : Int) := by rw [tdiv_pos (by omega), w64 (by omega) (by omega)]; omega
   have hm : (lo + hi) / 2 < hi := by omega
   have hm2 : lo < (lo + hi) / 2 := by omega
   generalize (lo + hi) / 2 = m at *
   have hl := LE_u64 (n := m) (by omega)
   have hl2 := LE_mul y m
   have s1 := small_c (x := (m : Int)) (n := m) rfl (by omega)
   have s2 := times_c (x := y) (y := m) (by omega)
   have s3 := rorder_c (m := y * m) (n := r) (by omega) (by omega)
   have hcm := cmp_le_iff (a := ((y * m : Nat) : Int)) (b := r)
   by_cases hle : y * m ≤ r
   ·have h9 := ih m hi (by omega) hm h3 hle h5
    have c2 : cmp ((y * m : Nat) : Int) (r : Int) ≤ 0 := hcm.2 (by omega)
    rw [LP_go FF b80_1.eq_1]
    simp only [RB, RL, un, St.none, Nat.reduceEqDiff, Nat.reduceAdd, Nat.reduceMul, Nat.reduceMod, Nat.reduceLeDiff, Nat.reduceLT, Int.reduceLT, Int.reduceLE, Int.reduceEq, Int.reduceToNat, Int.reduceSub, Int.reduceNeg, Int.reduceAdd, ↓reduceIte, reduceCtorEq, pack, pid, parN, lid, chkK, apartV, Heap.none, e0, c1, e1, e2, s1, s2, s3, c2]
    exact h9
   ·have h9 := ih lo m (by omega) hm2 (by omega) h4 (by omega)
    have c2 : ¬ cmp ((y * m : Nat) : Int) (r : Int) ≤ 0 := fun h => hle (by have := hcm.1 h; omega)
    rw [LP_go FF b80_1.eq_1]
    simp only [RB, RL, un, St.none, Nat.reduceEqDiff, Nat.reduceAdd, Nat.reduceMul, Nat.reduceMod, Nat.reduceLeDiff, Nat.reduceLT, Int.reduceLT, Int.reduceLE, Int.reduceEq, Int.reduceToNat, Int.reduceSub, Int.reduceNeg, Int.reduceAdd, ↓reduceIte, reduceCtorEq, pack, pid, parN, lid, chkK, apartV, Heap.none, e0, c1, e1, e2, s1, s2, s3, c2]
    exact h9
  ·have hh : hi = lo + 1 := by omega
   subst hh
   have hq : r / y = lo := Nat.div_eq_of_lt_le (by rw [Nat.mul_comm]; exact h4) (by rw [Nat.mul_comm]; exact h5)
   have c1 : ¬ 1 < ((lo + 1 - lo : Nat) : Int) := by omega
   rw [hq]
   rw [LP_go FF b80_1.eq_1]
   simp only [RB, RL, un, St.none, Nat.reduceEqDiff, Nat.reduceAdd, Nat.reduceMul, Nat.reduceMod, Nat.reduceLeDiff, Nat.reduceLT, Int.reduceLT, Int.reduceLE, Int.reduceEq, Int.reduceToNat, Int.reduceSub, Int.reduceNeg, Int.reduceAdd, ↓reduceIte, reduceCtorEq, pack, pid, parN, lid, chkK, apartV, Heap.none, e0, c1]
theorem vl_drop_E (m w : Nat) : Dg.vl 10000 ((E m).drop w) = ((m / 10000 ^ w : Nat) : Int) := by
 have h := Dg.vl_take_drop 10000 (E m) w
 rw [E_vl] at h
 have h0 := Dg.vl_nonneg ((E_dig m).take w) (by decide)
 have h1 := Dg.vl_lt ((E_dig m).take w) (by decide)
 have h2 := Dg.vl_nonneg ((E_dig m).drop w) (by decide)
 have h3 : 10000 ^ ((E m).take w).length ≤ 10000 ^ w := Nat.pow_le_pow_right (by decide) (by rw [zi]; omega)
 obtain ⟨x, hx⟩ := Int.eq_ofNat_of_zero_le h0
 obtain ⟨y, hy⟩ := Int.eq_ofNat_of_zero_le h2
 rw [hx, hy] at h
 rw [hx] at h1
 have e : ∀ k : Nat, (10000 : Int) ^ k = ((10000 ^ k : Nat) : Int) := fun k => by rw [Int.natCast_pow]; rfl
 rw [e, ← Int.natCast_mul, ← Int.natCast_add] at h
 rw [e] at h1
 have h4 : m = x + 10000 ^ w * y := Int.ofNat_inj.1 h
 have h5 : x < 10000 ^ w := Nat.lt_of_lt_of_le (Int.ofNat_lt.1 h1) h3
 rw [hy, h4, Nat.add_mul_div_left _ _ (Nat.pow_pos (by decide)), Nat.div_eq_of_lt h5, zB]
theorem over_l0 {x y : Nat} (hy : 0 < y) (hx : LE x ≤ 1000000000 ) (hy2 : LE y ≤ 1000000000) :
  ∀ (n : Nat) (out : List Int), n ≤ LE x → out.length = LE x → Dg.Dig 10000 out → Dg.vl 10000 (out.drop n) = ((x / 10000 ^ n / y : Nat) : Int) →
  ∃ o, LP FF [(6, 1), (0, 0), (1, 0), (7, 0), (8, 0)] [(6, 0), (7, 0)] b80_0 [.own true 1 (out.map n64), (AV.l 1 (List.map n64 (E x))), (AV.l 1 (List.map n64 (E y))), (AV.l 1 (List.map n64 (E (x / 10000 ^ n % y)))), (AV.i .i64 ((n : Int) - 1))] = some (.exit 0, [(AV.l 1 (List.map n64 o)), (AV.l 1 (List.map n64 (E (x % y))))]) ∧ o.length = LE x ∧ Dg.Dig 10000 o ∧ Dg.vl 10000 o = ((x / y : Nat) : Int) := by
 intro n
 have hEx : (E x).length = LE x := rfl
 induction n with
 | zero =>
  intro out hn ho hd hv
  rw [Nat.pow_zero, Nat.div_one] at hv ⊢
  refine ⟨out, ?_, ho, hd, by rw [List.drop_zero] at hv; exact hv⟩
  rw [LP_go FF b80_0.eq_1]
  simp only [RB, RL, un, St.none, Nat.reduceEqDiff, Nat.reduceAdd, Nat.reduceMul, Nat.reduceMod, Nat.reduceLeDiff, Nat.reduceLT, Int.reduceLT, Int.reduceLE, Int.reduceEq, Int.reduceToNat, Int.reduceSub, Int.reduceNeg, Int.reduceAdd, ↓reduceIte, reduceCtorEq, pack, pid, parN, lid, chkK, apartV, Heap.none]
 | succ n ih =>
  intro out hn ho hd hv
  have hg := E_get x n
  have hsp := Dg.vl_drop_succ 10000 (E x) n
  rw [vl_drop_E, vl_drop_E] at hsp
  have hpp : x / 10000 ^ (n + 1) = x / 10000 ^ n / 10000 := by rw [Nat.pow_succ, Nat.div_div_eq_div_mul]
  have e0 : ((n + 1 : Nat) : Int) - 1 = (n : Int) := by omega
  rw [hpp] at hv hsp ⊢
  have hdm := Nat.div_add_mod (x / 10000 ^ n / 10000) y
  have hrl := Nat.mod_lt (x / 10000 ^ n / 10000) hy
  have hLr : LE (x / 10000 ^ n / 10000 % y) ≤ LE y := LE_mono (by omega)
  have hELr : (E (x / 10000 ^ n / 10000 % y)).length = LE (x / 10000 ^ n / 10000 % y) := rfl
  have h10 : x / 10000 ^ n % 10000 = ((E x).getD n 0).toNat := by omega
  have hdm2 := Nat.div_add_mod (x / 10000 ^ n) 10000
  generalize hz : x / 10000 ^ n = z at *
  generalize hr : z / 10000 % y = r at *
  generalize hq : z / 10000 / y = q at *
  have hval : Dg.vl 10000 ((E x).getD n 0 :: E r) = ((z % 10000 + 10000 * r : Nat) : Int) := by
   rw [Dg.vl_cons, E_vl]
   omega
  have t1 := rtrim_c (Dg.Dig.cons hg.1 hg.2 (E_dig r)) (by rw [zw]; omega) hval
  -- z = y * (10000 q) + (z % 10000 + 10000 r)
  have hzz : z = z % 10000 + 10000 * r + y * (10000 * q) := by
   have : y * (10000 * q) = 10000 * (y * q) := by rw [Nat.mul_left_comm]
   omega
  have hmod : (z % 10000 + 10000 * r) % y = z % y := by
   conv => rhs; rw [hzz]
   rw [Nat.add_mul_mod_self_left]
  have hdiv : z / y = (z % 10000 + 10000 * r) / y + 10000 * q := by
   conv => lhs; rw [hzz]
   rw [Nat.add_mul_div_left _ _ hy]
  have hlt : z % 10000 + 10000 * r < y * 10000 := by omega
  have hqd : (z % 10000 + 10000 * r) / y < 10000 := (Nat.div_lt_iff_lt_mul hy).2 (by rw [Nat.mul_comm 10000 y]; exact hlt)
  have hLw : LE (z % 10000 + 10000 * r) ≤ LE (y * 10000) := LE_mono (by omega)
  have hLw2 := LE_mul y 10000
  have hLw3 := LE_u64 (n := 10000) (by omega)
  have h1 := over_l1 hy (by omega) (by omega) (r := z % 10000 + 10000 * r) (E x) out n 10000 0 10000 (by omega) (by omega) (by omega) (by omega) hlt
  have h9 := ih (out.set n (((z % 10000 + 10000 * r) / y : Nat) : Int)) (by omega) (by rw [zx]; exact ho) (hd.set _ (zd _) (Int.ofNat_lt.2 hqd)) (by
   rw [Dg.vl_drop_succ, Dg.vl_drop_set _ _ _ _ _ (Nat.lt_succ_self _), hv, Dg.getD_set _ _ _ _ (by omega), if_pos rfl, hdiv]
   omega)
  obtain ⟨o, h10', h11⟩ := h9
  refine ⟨o, ?_, h11⟩
  have hqy := Nat.div_add_mod (z % 10000 + 10000 * r) y
  have hqle : y * ((z % 10000 + 10000 * r) / y) ≤ z % 10000 + 10000 * r := Nat.mul_div_le _ _
  have hsub : z % 10000 + 10000 * r - y * ((z % 10000 + 10000 * r) / y) = z % y := by rw [← hmod]; omega
  have hLv := LE_mono hqle
  have hl := LE_u64 (n := (z % 10000 + 10000 * r) / y) (by omega)
  have hLe : LE (z % 10000 + 10000 * r) ≤ 2000000000 := by omega
  generalize hv' : (z % 10000 + 10000 * r) / y = v at *
  have s1 := small_c (x := (v : Int)) (n := v) rfl (by omega)
  have s2 := times_c (x := y) (y := v) (by omega)
  have s3 := minus_c (x := z % 10000 + 10000 * r) (y := y * v) hqle (by omega)
  rw [hsub] at s3
  have e3 : IntKind.i64.wrap ((n : Int) - 1) = (n : Int) - 1 := w64 (by omega) (by omega)
  have b1 : (1 + LE r) * 8 ≤ 140737488355328 := by omega
  have b2 : n < LE x := by omega
  rw [zy] at h1
  have b0 : ((10000 : Nat) : Int) = 10000 := rfl
  rw [b0] at h1
  clear hsp hval hzz hmod hdiv hlt hqd hLw hLw2 hLw3 hdm hdm2 hrl h10 hLr hpp hv hqy hqle hsub hLv hg
  have m1 : List.take (1 + LE r) ([n64 ((E x).getD n 0)] ++ List.map n64 (E r)) = List.map n64 ((E x).getD n 0 :: E r) := by
   rw [zb (by simp only [zj, zm, List.length_singleton, hELr]; omega)]; rfl
  have b3 : (n : Int) < (LE x : Int) := by omega
  have m2 : List.take (LE x) (out.set n (v : Int)) = out.set n (v : Int) := zb (by rw [zx]; omega)
  have m3 : List.take (LE x) out = out := zb (by omega)
  simp only [List.map_cons] at t1
  rw [LP_go FF b80_0.eq_1]
  simp only [RB, RL, un, St.none, Nat.reduceEqDiff, Nat.reduceAdd, Nat.reduceMul, Nat.reduceMod, Nat.reduceLeDiff, Nat.reduceLT, Int.reduceLT, Int.reduceLE, Int.reduceEq, Int.reduceToNat, Int.reduceSub, Int.reduceNeg, Int.reduceAdd, ↓reduceIte, reduceCtorEq, pack, pid, parN, lid, chkK, apartV, Heap.none, e0, hEx, ho, hELr, b1, m1, t1, h1, s1, s2, s3, e3, b2, b3, zd, zm, m2, m3]
  exact h10'
theorem over_c {x y : Nat} (hy : y ≠ 0) (hx : LE x ≤ 1000000000) (hy2 : LE y ≤ 1000000000) : R FF 80 [(AV.l 1 (List.map n64 (E x))), (AV.l 1 (List.map n64 (E y)))] = some (.tup [(AV.l 1 (List.map n64 (E (x / y)))), (AV.l 1 (List.map n64 (E (x % y))))]) := by
 have hEx : (E x).length = LE x := rfl
 have h0 : x / 10000 ^ LE x = 0 := Nat.div_eq_of_lt (LE_lt x)
 obtain ⟨o, h1, h2, h3, h4⟩ := over_l0 (x := x) (y := y) (by omega) hx hy2 (LE x) (zn (LE x) 0) (zk _) zt (Dg.Dig.replicate (by decide) _) (by
  rw [List.drop_of_length_le (by rw [zt]; exact zk _), h0, Nat.zero_div]; rfl)
 rw [h0, Nat.zero_mod, E_zero] at h1
 have t1 := rtrim_c h3 (by omega) h4
 have e1 : IntKind.i64.wrap ((LE x : Int) - 1) = (LE x : Int) - 1 := w64 (by omega) (by omega)
 have b1 : LE x * 8 ≤ 281474976710656 := by omega
 simp only [List.map_nil] at h1
 have m1 : List.take (LE x) (zn (LE x) (0 : Int)) = zn (LE x) 0 := zb (by rw [zt]; omega)
 rw [R_go FF F80 c80.eq_1]
 simp only [RB, RL, un, St.none, Nat.reduceEqDiff, Nat.reduceAdd, Nat.reduceMul, Nat.reduceMod, Nat.reduceLeDiff, Nat.reduceLT, Int.reduceLT, Int.reduceLE, Int.reduceEq, Int.reduceToNat, Int.reduceSub, Int.reduceNeg, Int.reduceAdd, ↓reduceIte, reduceCtorEq, pack, pid, parN, lid, chkK, apartV, Heap.none, hEx, e1, b1, zd, m1, h1, t1]
theorem take_U {l : List Int} (h : U l) (n : Nat) : U (l.take n) := fun x hx => h x (List.mem_of_mem_take hx)
def rgt (q : Bool) (l : List Int) : Bool := decide (l = D (W l)) && (decide (0 < (l.length : Int)) || !q)
theorem getD_mem' {α : Type} {l : List α} {k : Nat} (d : α) (h : k < l.length) : l.getD k d ∈ l := by
 rw [za, zh h]
 exact List.getElem_mem _
theorem rgcd_l0 : ∀ (N a b : Nat), b ≤ N → LE a ≤ 1000000000 → LE b ≤ 1000000000 → LP FF [(0, 0), (1, 0)] [(0, 0)] b40_0 [(AV.l 1 (List.map n64 (E a))), (AV.l 1 (List.map n64 (E b)))] = some (.exit 0, [(AV.l 1 (List.map n64 (E (Nat.gcd a b))))]) := by
 intro N
 induction N with
 | zero =>
  intro a b hb _ _
  have : b = 0 := by omega
  subst this
  rw [Nat.gcd_zero_right, E_zero]
  rw [LP_go FF b40_0.eq_1]
  simp only [RB, RL, un, St.none, Nat.reduceEqDiff, Nat.reduceAdd, Nat.reduceMul, Nat.reduceMod, Nat.reduceLeDiff, Nat.reduceLT, Int.reduceLT, Int.reduceLE, Int.reduceEq, Int.reduceToNat, Int.reduceSub, Int.reduceNeg, Int.reduceAdd, ↓reduceIte, reduceCtorEq, pack, pid, parN, lid, chkK, apartV, Heap.none]
 | succ N ih =>
  intro a b hb ha hb2
  by_cases h0 : b = 0
  ·subst h0
   rw [Nat.gcd_zero_right, E_zero]
   rw [LP_go FF b40_0.eq_1]
   simp only [RB, RL, un, St.none, Nat.reduceEqDiff, Nat.reduceAdd, Nat.reduceMul, Nat.reduceMod, Nat.reduceLeDiff, Nat.reduceLT, Int.reduceLT, Int.reduceLE, Int.reduceEq, Int.reduceToNat, Int.reduceSub, Int.reduceNeg, Int.reduceAdd, ↓reduceIte, reduceCtorEq, pack, pid, parN, lid, chkK, apartV, Heap.none]
  ·have o1 := over_c (x := a) h0 ha hb2
   have hlt := Nat.mod_lt a (Nat.pos_of_ne_zero h0)
   have h9 := ih b (a % b) (by omega) hb2 (zu (LE_mono (Nat.le_of_lt hlt)) hb2)
   rw [Nat.gcd_comm b, ← Nat.gcd_rec, Nat.gcd_comm b] at h9
   have c1 : 0 < (((E b).length : Nat) : Int) := by
    rcases Nat.eq_zero_or_pos (E b).length with h | h
    ·have h2 := List.eq_nil_of_length_eq_zero h
     have h3 := E_vl b
     rw [h2] at h3
     have : Dg.vl 10000 [] = 0 := rfl
     omega
    ·omega
   rw [LP_go FF b40_0.eq_1]
   simp only [RB, RL, un, St.none, Nat.reduceEqDiff, Nat.reduceAdd, Nat.reduceMul, Nat.reduceMod, Nat.reduceLeDiff, Nat.reduceLT, Int.reduceLT, Int.reduceLE, Int.reduceEq, Int.reduceToNat, Int.reduceSub, Int.reduceNeg, Int.reduceAdd, ↓reduceIte, reduceCtorEq, pack, pid, parN, lid, chkK, apartV, Heap.none, c1, o1]
   exact h9
theorem rgcd_c {a b : Nat} (ha : LE a ≤ 1000000000) (hb : LE b ≤ 1000000000) : R FF 40 [(AV.l 1 (List.map n64 (E a))), (AV.l 1 (List.map n64 (E b)))] = some (AV.l 1 (List.map n64 (E (Nat.gcd a b)))) := by
 have h1 := rgcd_l0 b a b (zk _) ha hb
 rw [R_go FF F40 c40.eq_1]
 simp only [RB, RL, un, St.none, Nat.reduceEqDiff, Nat.reduceAdd, Nat.reduceMul, Nat.reduceMod, Nat.reduceLeDiff, Nat.reduceLT, Int.reduceLT, Int.reduceLE, Int.reduceEq, Int.reduceToNat, Int.reduceSub, Int.reduceNeg, Int.reduceAdd, ↓reduceIte, reduceCtorEq, pack, pid, parN, lid, chkK, apartV, Heap.none, h1]
def qv (q : Bool) (l d : List Int) : Rat := mkRat (wv q l) (W d)
theorem mk_num {n : Int} {d : Nat} (hd : d ≠ 0) : (mkRat n d).num.natAbs = n.natAbs / Nat.gcd n.natAbs d ∧ ng (mkRat n d).num = ng n ∧ (mkRat n d).den = d / Nat.gcd n.natAbs d := by
 rw [Rat.num_mkRat, Rat.den_mkRat, if_neg hd, if_neg hd, Nat.gcd_comm d]
 have hg : 0 < Nat.gcd n.natAbs d := Nat.gcd_pos_of_pos_right _ (Nat.pos_of_ne_zero hd)
 obtain ⟨m, hm⟩ := Int.ofNat_dvd_left.2 (Nat.gcd_dvd_left n.natAbs d)
 generalize Nat.gcd n.natAbs d = g at *
 subst hm
 have g0 : (g : Int) ≠ 0 := by omega
 rw [Int.mul_ediv_cancel_left _ g0, Int.natAbs_mul, Int.natAbs_natCast, Nat.mul_div_cancel_left _ hg]
 refine ⟨rfl, ?_, rfl⟩
 unfold ng
 rw [decide_eq_decide]
 constructor
 ·intro h; exact Int.mul_neg_of_pos_of_neg (by omega) h
 ·intro h
  rcases Int.lt_or_le m 0 with k | k
  ·exact k
  ·have := Int.mul_nonneg (show (0 : Int) ≤ g by omega) k; omega
theorem form_c {n : Int} {d : Nat} (hd : d ≠ 0) (hn : L n.natAbs ≤ 100000000000) (hl : L d ≤ 100000000000) : R FF 75 [(AV.agg [AV.b (ng n), (AV.l 1 (List.map u (D (Int.natAbs n))))]), (AV.l 1 (List.map u (D d)))] = some (AV.agg [AV.b (ng (Rat.num (mkRat n d))), (AV.l 1 (List.map u (D (Int.natAbs (Rat.num (mkRat n d)))))), (AV.l 1 (List.map u (D (Rat.den (mkRat n d)))))]) := by
 obtain ⟨k1, k2, k3⟩ := mk_num (n := n) hd
 rw [k1, k2, k3]
 have o1 := of_c (x := 1) (by omega) (by omega) (n := 1) rfl
 by_cases h0 : n = 0
 ·subst h0
  rw [ng_false.2 (Int.le_refl _), Int.natAbs_zero, Nat.zero_div, Nat.gcd_zero_left, Nat.div_self (Nat.pos_of_ne_zero hd), D_zero]
  rw [R_go FF F75 c75.eq_1]
  simp only [RB, RL, un, St.none, Nat.reduceEqDiff, Nat.reduceAdd, Nat.reduceMul, Nat.reduceMod, Nat.reduceLeDiff, Nat.reduceLT, Int.reduceLT, Int.reduceLE, Int.reduceEq, Int.reduceToNat, Int.reduceSub, Int.reduceNeg, Int.reduceAdd, ↓reduceIte, reduceCtorEq, pack, pid, parN, lid, chkK, apartV, Heap.none, o1]
 ·have g1 := gcd_D (a := n.natAbs) (b := d) (by omega) (by omega)
  have hg : 0 < Nat.gcd n.natAbs d := Nat.gcd_pos_of_pos_right _ (Nat.pos_of_ne_zero hd)
  have c1 : ¬ (((D n.natAbs).length : Nat) : Int) = 0 := by have := (L_pos (k := n.natAbs)).2 (by omega); show ¬ (L n.natAbs : Int) = 0; omega
  have hgl : L (Nat.gcd n.natAbs d) ≤ 100000000000 := zu (L_mono (Nat.gcd_le_right _ (Nat.pos_of_ne_zero hd))) hl
  have d1 := divmod_c (D_U n.natAbs) (D_U (Nat.gcd n.natAbs d)) (show L _ ≤ _ by omega) (show L _ ≤ _ by omega)
  have d2 := divmod_c (D_U d) (D_U (Nat.gcd n.natAbs d)) (show L _ ≤ _ by omega) (show L _ ≤ _ by omega)
  rw [W_D, W_D, if_neg (by omega)] at d1 d2
  generalize Nat.gcd n.natAbs d = g at *
  by_cases h1 : g = 1
  ·subst h1
   have e1 : D 1 = [1] := by decide +kernel
   rw [Nat.div_one, Nat.div_one]
   rw [e1] at g1
   rw [R_go FF F75 c75.eq_1]
   simp only [RB, RL, un, St.none, Nat.reduceEqDiff, Nat.reduceAdd, Nat.reduceMul, Nat.reduceMod, Nat.reduceLeDiff, Nat.reduceLT, Int.reduceLT, Int.reduceLE, Int.reduceEq, Int.reduceToNat, Int.reduceSub, Int.reduceNeg, Int.reduceAdd, ↓reduceIte, reduceCtorEq, pack, pid, parN, lid, chkK, apartV, Heap.none, c1, g1]
  ·by_cases h2 : ((L g : Nat) : Int) = 1
   ·obtain ⟨x, hx⟩ := List.length_eq_one_iff.1 (show (D g).length = 1 from by have : (D g).length = L g := rfl; omega)
    have e1 : x = (g : Int) := by
     have h3 := D_vl g
     rw [hx] at h3
     simpa [Dg.vl] using h3
    have c2 : ¬ x = 1 := by omega
    rw [hx] at g1 d1 d2
    simp only [List.map_cons, List.map_nil] at g1 d1 d2
    rw [R_go FF F75 c75.eq_1]
    simp only [RB, RL, un, St.none, Nat.reduceEqDiff, Nat.reduceAdd, Nat.reduceMul, Nat.reduceMod, Nat.reduceLeDiff, Nat.reduceLT, Int.reduceLT, Int.reduceLE, Int.reduceEq, Int.reduceToNat, Int.reduceSub, Int.reduceNeg, Int.reduceAdd, ↓reduceIte, reduceCtorEq, pack, pid, parN, lid, chkK, apartV, Heap.none, c1, g1, c2, d1, d2]
   ·have c2 : ¬ (((D g).length : Nat) : Int) = 1 := h2
    rw [R_go FF F75 c75.eq_1]
    simp only [RB, RL, un, St.none, Nat.reduceEqDiff, Nat.reduceAdd, Nat.reduceMul, Nat.reduceMod, Nat.reduceLeDiff, Nat.reduceLT, Int.reduceLT, Int.reduceLE, Int.reduceEq, Int.reduceToNat, Int.reduceSub, Int.reduceNeg, Int.reduceAdd, ↓reduceIte, reduceCtorEq, pack, pid, parN, lid, chkK, apartV, Heap.none, c1, g1, c2, d1, d2]
def sq (x : Rat) : Nat := max (L x.num.natAbs) (L x.den)
theorem sq_num (x : Rat) : L x.num.natAbs ≤ sq x := Nat.le_max_left _ _
theorem sq_den (x : Rat) : L x.den ≤ sq x := Nat.le_max_right _ _
theorem sq_mk {n : Int} {d : Nat} (hd : d ≠ 0) : sq (mkRat n d) ≤ max (L n.natAbs) (L d) := by
 obtain ⟨k1, _, k3⟩ := mk_num (n := n) hd
 unfold sq
 rw [k1, k3]
 have h1 := L_mono (Nat.div_le_self n.natAbs (Nat.gcd n.natAbs d))
 have h2 := L_mono (Nat.div_le_self d (Nat.gcd n.natAbs d))
 omega
theorem qv_cq (x : Rat) : qv (ng x.num) (D x.num.natAbs) (D x.den) = x := by unfold qv; rw [wv_ci, W_D, Rat.mkRat_self]
theorem qv_sq {q : Bool} {l d : List Int} {k : Nat} (h1 : l.length ≤ k) (h2 : d.length ≤ k) (hk : 1 ≤ k) : sq (qv q l d) ≤ k := by
 unfold qv
 by_cases h0 : W d = 0
 ·rw [h0, Rat.mkRat_zero]
  have a1 : L (0 : Rat).num.natAbs ≤ 0 := L_le (n := 0) (k := 0) (by decide)
  have a2 : L (0 : Rat).den ≤ 1 := L_le (n := 1) (k := 1) (by decide)
  unfold sq
  omega
 ·have := sq_mk (n := wv q l) h0
  have := wv_L q l
  have := L_W d
  omega
theorem sq_add (x y : Rat) : sq (x + y) ≤ sq x + sq y + 1 := by
 rw [Rat.add_def']
 have h := sq_mk (n := x.num * y.den + y.num * x.den) (d := x.den * y.den) (Nat.mul_ne_zero x.den_nz y.den_nz)
 have a1 := L_mul x.den y.den
 have a2 := L_mono (Int.natAbs_add_le (x.num * y.den) (y.num * x.den))
 have a3 := L_add (x.num * y.den).natAbs (y.num * x.den).natAbs
 rw [Int.natAbs_mul, Int.natAbs_mul, Int.natAbs_natCast, Int.natAbs_natCast] at a2 a3
 have a4 := L_mul x.num.natAbs y.den
 have a5 := L_mul y.num.natAbs x.den
 have := sq_num x
 have := sq_num y
 have := sq_den x
 have := sq_den y
 omega
theorem sq_neg (x : Rat) : sq (-x) = sq x := by unfold sq; rw [Rat.neg_num, Rat.neg_den, Int.natAbs_neg]
theorem qzero_c : R FF 54 [] = some (AV.agg [AV.b (ng (Rat.num ((0 : Rat)))), (AV.l 1 (List.map u (D (Int.natAbs (Rat.num ((0 : Rat))))))), (AV.l 1 (List.map u (D (Rat.den ((0 : Rat))))))]) := by
 have o1 := of_c (x := 1) (by omega) (by omega) (n := 1) rfl
 show R FF 54 [] = some (.agg [.b (ng 0), (AV.l 1 (List.map u (D 0))), (AV.l 1 (List.map u (D 1)))])
 rw [ng_false.2 (Int.le_refl _), D_zero]
 rw [R_go FF F54 c54.eq_1]
 simp only [RB, RL, un, St.none, Nat.reduceEqDiff, Nat.reduceAdd, Nat.reduceMul, Nat.reduceMod, Nat.reduceLeDiff, Nat.reduceLT, Int.reduceLT, Int.reduceLE, Int.reduceEq, Int.reduceToNat, Int.reduceSub, Int.reduceNeg, Int.reduceAdd, ↓reduceIte, reduceCtorEq, pack, pid, parN, lid, chkK, apartV, Heap.none, o1]
theorem qof_c {n : Int} (h0 : -9223372036854775808 ≤ n) (h1 : n ≤ 9223372036854775807) : R FF 68 [(AV.i .i64 n)] = some (AV.agg [AV.b (ng (Rat.num ((n : Rat)))), (AV.l 1 (List.map u (D (Int.natAbs (Rat.num ((n : Rat))))))), (AV.l 1 (List.map u (D (Rat.den ((n : Rat))))))]) := by
 have o1 := of_c (x := 1) (by omega) (by omega) (n := 1) rfl
 have o2 := wof_c h0 h1
 rw [Rat.num_intCast, Rat.den_intCast]
 rw [R_go FF F68 c68.eq_1]
 simp only [RB, RL, un, St.none, Nat.reduceEqDiff, Nat.reduceAdd, Nat.reduceMul, Nat.reduceMod, Nat.reduceLeDiff, Nat.reduceLT, Int.reduceLT, Int.reduceLE, Int.reduceEq, Int.reduceToNat, Int.reduceSub, Int.reduceNeg, Int.reduceAdd, ↓reduceIte, reduceCtorEq, pack, pid, parN, lid, chkK, apartV, Heap.none, o1, o2]
theorem qclean_c {q : Bool} {l d : List Int} (hu : U l) (hl : l.length ≤ 100000000000) (hv : U d) (hd : d.length ≤ 100000000000) : R FF 63 [(AV.agg [AV.b q, (AV.l 1 (List.map u l)), (AV.l 1 (List.map u d))])] = some (AV.agg [AV.b (ng (Rat.num (qv q l d))), (AV.l 1 (List.map u (D (Int.natAbs (Rat.num (qv q l d)))))), (AV.l 1 (List.map u (D (Rat.den (qv q l d)))))]) := by
 have c1 := clean_c hv (by omega)
 have c2 := wclean_c (q := q) hu (by omega)
 unfold qv
 have l1 := wv_L q l
 have l2 := L_W d
 by_cases h0 : W d = 0
 ·have z1 := qzero_c
  rw [h0] at c1
  rw [h0, Rat.mkRat_zero]
  rw [D_zero] at c1
  rw [R_go FF F63 c63.eq_1]
  simp only [RB, RL, un, St.none, Nat.reduceEqDiff, Nat.reduceAdd, Nat.reduceMul, Nat.reduceMod, Nat.reduceLeDiff, Nat.reduceLT, Int.reduceLT, Int.reduceLE, Int.reduceEq, Int.reduceToNat, Int.reduceSub, Int.reduceNeg, Int.reduceAdd, ↓reduceIte, reduceCtorEq, pack, pid, parN, lid, chkK, apartV, Heap.none, c1, z1]
 ·have f1 := form_c (n := wv q l) h0 (by omega) (by omega)
  have c3 : ¬ (((D (W d)).length : Nat) : Int) = 0 := by have := (L_pos (k := W d)).2 (Nat.pos_of_ne_zero h0); show ¬ (L (W d) : Int) = 0; omega
  rw [R_go FF F63 c63.eq_1]
  simp only [RB, RL, un, St.none, Nat.reduceEqDiff, Nat.reduceAdd, Nat.reduceMul, Nat.reduceMod, Nat.reduceLeDiff, Nat.reduceLT, Int.reduceLT, Int.reduceLE, Int.reduceEq, Int.reduceToNat, Int.reduceSub, Int.reduceNeg, Int.reduceAdd, ↓reduceIte, reduceCtorEq, pack, pid, parN, lid, chkK, apartV, Heap.none, c1, c2, c3, f1]
theorem qden_c {q : Bool} {l d : List Int} : R FF 66 [(AV.agg [AV.b q, (AV.l 1 (List.map u l)), (AV.l 1 (List.map u d))])] = some (AV.agg [AV.b false, (AV.l 1 (List.map u d))]) := by
 rw [R_go FF F66 c66.eq_1]
 simp only [RB, RL, un, St.none, Nat.reduceEqDiff, Nat.reduceAdd, Nat.reduceMul, Nat.reduceMod, Nat.reduceLeDiff, Nat.reduceLT, Int.reduceLT, Int.reduceLE, Int.reduceEq, Int.reduceToNat, Int.reduceSub, Int.reduceNeg, Int.reduceAdd, ↓reduceIte, reduceCtorEq, pack, pid, parN, lid, chkK, apartV, Heap.none]
def qcmp (x y : Rat) : Int := cmp (x.num * y.den) (y.num * x.den)
theorem qcmp_lt {x y : Rat} : qcmp x y < 0 ↔ x < y := by unfold qcmp; rw [cmp_lt_iff, Rat.lt_iff]
theorem qcmp_gt {x y : Rat} : 0 < qcmp x y ↔ y < x := by unfold qcmp; rw [cmp_gt_iff, Rat.lt_iff]
theorem qcmp_le {x y : Rat} : qcmp x y ≤ 0 ↔ x ≤ y := by unfold qcmp; rw [cmp_le_iff, Rat.le_iff]
theorem qcmp_ge {x y : Rat} : 0 ≤ qcmp x y ↔ y ≤ x := by have := qcmp_lt (x := x) (y := y); have := Rat.not_lt (a := x) (b := y); grind
theorem qcmp_eq {x y : Rat} : qcmp x y = 0 ↔ x = y := by
 have h1 := qcmp_le (x := x) (y := y)
 have h2 := qcmp_ge (x := x) (y := y)
 constructor
 ·intro h; exact Rat.le_antisymm (h1.1 (by omega)) (h2.1 (by omega))
 ·intro h
  have a1 := h1.2 (by rw [h]; exact Rat.le_refl)
  have a2 := h2.2 (by rw [h]; exact Rat.le_refl)
  omega
theorem den_ci (d : Nat) : wv false (D d) = (d : Int) := by unfold wv sv; rw [W_D]; rfl
theorem qcmp_c {q r : Bool} {l d m e : List Int} (hu : U l) (hl : l.length ≤ 100000000000) (hv : U d) (hd : d.length ≤ 100000000000) (hu2 : U m) (hl2 : m.length ≤ 100000000000) (hv2 : U e) (hd2 : e.length ≤ 100000000000) :
  R FF 14 [(AV.agg [AV.b q, (AV.l 1 (List.map u l)), (AV.l 1 (List.map u d))]), (AV.agg [AV.b r, (AV.l 1 (List.map u m)), (AV.l 1 (List.map u e))])] = some (AV.i .i64 (qcmp (qv q l d) (qv r m e))) := by
 have c1 := qclean_c (q := q) hu hl hv hd
 have c2 := qclean_c (q := r) hu2 hl2 hv2 hd2
 have s1 := qv_sq (q := q) (l := l) (d := d) (k := 100000000000) hl hd (by omega)
 have s2 := qv_sq (q := r) (l := m) (d := e) (k := 100000000000) hl2 hd2 (by omega)
 generalize qv q l d = x at *
 generalize qv r m e = y at *
 have e1 := qden_c (q := ng x.num) (l := D x.num.natAbs) (d := D x.den)
 have e2 := qden_c (q := ng y.num) (l := D y.num.natAbs) (d := D y.den)
 have n1 := sq_num x
 have n2 := sq_num y
 have n3 := sq_den x
 have n4 := sq_den y
 have m1 := wmul_c (q := ng x.num) (r := false) (D_U x.num.natAbs) (show L _ ≤ _ by omega) (D_U y.den) (show L _ ≤ _ by omega)
 have m2 := wmul_c (q := ng y.num) (r := false) (D_U y.num.natAbs) (show L _ ≤ _ by omega) (D_U x.den) (show L _ ≤ _ by omega)
 rw [wv_ci, den_ci] at m1 m2
 have b1 : L (x.num * y.den).natAbs ≤ 200000000000 := by rw [Int.natAbs_mul, Int.natAbs_natCast]; have := L_mul x.num.natAbs y.den; omega
 have b2 : L (y.num * x.den).natAbs ≤ 200000000000 := by rw [Int.natAbs_mul, Int.natAbs_natCast]; have := L_mul y.num.natAbs x.den; omega
 have k1 := wcmp_c (q := ng (x.num * y.den)) (r := ng (y.num * x.den)) (D_U (x.num * y.den).natAbs) (show L _ ≤ _ by omega) (D_U (y.num * x.den).natAbs) (show L _ ≤ _ by omega)
 rw [wv_ci, wv_ci] at k1
 unfold qcmp
 rw [R_go FF F14 c14.eq_1]
 simp only [RB, RL, un, St.none, Nat.reduceEqDiff, Nat.reduceAdd, Nat.reduceMul, Nat.reduceMod, Nat.reduceLeDiff, Nat.reduceLT, Int.reduceLT, Int.reduceLE, Int.reduceEq, Int.reduceToNat, Int.reduceSub, Int.reduceNeg, Int.reduceAdd, ↓reduceIte, reduceCtorEq, pack, pid, parN, lid, chkK, apartV, Heap.none, c1, c2, e1, e2, m1, m2, k1]
def Sm (l d : List Int) (k : Nat) : Prop := (U l ∧ l.length ≤ k) ∧ U d ∧ d.length ≤ k
theorem Sm.take {l d : List Int} {k : Nat} (h : Sm l d k) (n : Nat) : Sm (l.take n) (d.take n) n := ⟨⟨take_U h.1.1 n, List.length_take_le _ _⟩, take_U h.2.1 n, List.length_take_le _ _⟩
theorem Sm.mono {l d : List Int} {k m : Nat} (h : Sm l d k) (hm : k ≤ m) : Sm l d m := ⟨⟨h.1.1, zu h.1.2 hm⟩, h.2.1, zu h.2.2 hm⟩
theorem sm_cq {x : Rat} {k : Nat} (h : sq x ≤ k) : Sm (D x.num.natAbs) (D x.den) k := ⟨⟨D_U _, zu (sq_num x) h⟩, D_U _, zu (sq_den x) h⟩
theorem Sm.sq {q : Bool} {l d : List Int} {k : Nat} (h : Sm l d k) (hk : 1 ≤ k) : sq (qv q l d) ≤ k := qv_sq h.1.2 h.2.2 hk
theorem qclean_s {q : Bool} {l d : List Int} {k : Nat} (h : Sm l d k) (hk : k ≤ 100000000000) : R FF 63 [(AV.agg [AV.b q, (AV.l 1 (List.map u l)), (AV.l 1 (List.map u d))])] = some (AV.agg [AV.b (ng (Rat.num (qv q l d))), (AV.l 1 (List.map u (D (Int.natAbs (Rat.num (qv q l d)))))), (AV.l 1 (List.map u (D (Rat.den (qv q l d)))))]) := qclean_c h.1.1 (zu h.1.2 hk) h.2.1 (zu h.2.2 hk)
theorem qcmp_s {q r : Bool} {l d m e : List Int} {k j : Nat} (h : Sm l d k) (h2 : Sm m e j) (hk : k ≤ 100000000000) (hj : j ≤ 100000000000) : R FF 14 [(AV.agg [AV.b q, (AV.l 1 (List.map u l)), (AV.l 1 (List.map u d))]), (AV.agg [AV.b r, (AV.l 1 (List.map u m)), (AV.l 1 (List.map u e))])] = some (AV.i .i64 (qcmp (qv q l d) (qv r m e))) :=
 qcmp_c h.1.1 (zu h.1.2 hk) h.2.1 (zu h.2.2 hk) h2.1.1 (zu h2.1.2 hj) h2.2.1 (zu h2.2.2 hj)
theorem number09_c {q : Bool} {l d : List Int} (hl : l.length ≤ maxL) (hd : d.length ≤ maxL) : R FF 74 [(AV.agg [AV.b q, (AV.l 1 (List.map u l)), (AV.l 1 (List.map u d))])] = some (AV.agg [AV.b q, (AV.l 1 (List.map u (((l.take 3))))), (AV.l 1 (List.map u (((d.take 3)))))]) := by
 have e3 : (3 : Int).toNat = 3 := rfl
 by_cases c1 : 3 < (l.length : Int)
 ·have c3 : (3 : Int) ≤ (l.length : Int) := by omega
  by_cases c2 : 3 < (d.length : Int)
  ·have c4 : (3 : Int) ≤ (d.length : Int) := by omega
   rw [R_go FF F74 c74.eq_1]
   simp only [RB, RL, un, St.none, Nat.reduceEqDiff, Nat.reduceAdd, Nat.reduceMul, Nat.reduceMod, Nat.reduceLeDiff, Nat.reduceLT, Int.reduceLT, Int.reduceLE, Int.reduceEq, Int.reduceToNat, Int.reduceSub, Int.reduceNeg, Int.reduceAdd, ↓reduceIte, reduceCtorEq, pack, pid, parN, lid, chkK, apartV, Heap.none, c1, c2, c3, c4]
  ·have t2 : d.take 3 = d := zb (by omega)
   rw [t2]
   rw [R_go FF F74 c74.eq_1]
   simp only [RB, RL, un, St.none, Nat.reduceEqDiff, Nat.reduceAdd, Nat.reduceMul, Nat.reduceMod, Nat.reduceLeDiff, Nat.reduceLT, Int.reduceLT, Int.reduceLE, Int.reduceEq, Int.reduceToNat, Int.reduceSub, Int.reduceNeg, Int.reduceAdd, ↓reduceIte, reduceCtorEq, pack, pid, parN, lid, chkK, apartV, Heap.none, c1, c2, c3]
 ·have t1 : l.take 3 = l := zb (by omega)
  rw [t1]
  by_cases c2 : 3 < (d.length : Int)
  ·have c4 : (3 : Int) ≤ (d.length : Int) := by omega
   rw [R_go FF F74 c74.eq_1]
   simp only [RB, RL, un, St.none, Nat.reduceEqDiff, Nat.reduceAdd, Nat.reduceMul, Nat.reduceMod, Nat.reduceLeDiff, Nat.reduceLT, Int.reduceLT, Int.reduceLE, Int.reduceEq, Int.reduceToNat, Int.reduceSub, Int.reduceNeg, Int.reduceAdd, ↓reduceIte, reduceCtorEq, pack, pid, parN, lid, chkK, apartV, Heap.none, c1, c2, c4]
  ·have t2 : d.take 3 = d := zb (by omega)
   rw [t2]
   rw [R_go FF F74 c74.eq_1]
   simp only [RB, RL, un, St.none, Nat.reduceEqDiff, Nat.reduceAdd, Nat.reduceMul, Nat.reduceMod, Nat.reduceLeDiff, Nat.reduceLT, Int.reduceLT, Int.reduceLE, Int.reduceEq, Int.reduceToNat, Int.reduceSub, Int.reduceNeg, Int.reduceAdd, ↓reduceIte, reduceCtorEq, pack, pid, parN, lid, chkK, apartV, Heap.none, c1, c2]
def t3 (c : RC) : RC := (c.1, c.2.1, c.2.2.1.take 3, c.2.2.2.take 3)
theorem few09_l0 {l : List RC} {n : Nat} (hn : n ≤ 100000000000) (hu : ∀ x ∈ l, OkC x) (hl : l.length ≤ maxL) : ∀ (d i : Nat), i + d = min l.length n →
  LP FF [(5, 1), (0, 0), (1, 0), (6, 0)] [(5, 0)] b29_0 [.own true 4 (((l.take i).map t3).map eC), .l 4 (l.map eC), (AV.i .i64 ((n : Int))), (AV.i .i64 ((i : Int)))] = some (.exit 0, [.l 4 (((l.take n).map t3).map eC)]) := by
 intro d
 induction d with
 | zero =>
  intro i hi
  have h2 : l.take i = l.take n := by
   rw [show i = min l.length n by omega]
   rcases Nat.le_total l.length n with h | h
   ·rw [Nat.min_eq_left h, zb (zk _), zb h]
   ·rw [Nat.min_eq_right h]
  rw [h2, show i = min l.length n by omega]
  by_cases c1 : ((min l.length n : Nat) : Int) < (l.length : Int)
  ·have c2 : ¬ ((min l.length n : Nat) : Int) < (n : Int) := by omega
   rw [LP_go FF b29_0.eq_1]
   simp only [RB, RL, un, St.none, Nat.reduceEqDiff, Nat.reduceAdd, Nat.reduceMul, Nat.reduceMod, Nat.reduceLeDiff, Nat.reduceLT, Int.reduceLT, Int.reduceLE, Int.reduceEq, Int.reduceToNat, Int.reduceSub, Int.reduceNeg, Int.reduceAdd, ↓reduceIte, reduceCtorEq, pack, pid, parN, lid, chkK, apartV, Heap.none, c1, c2]
  ·rw [LP_go FF b29_0.eq_1]
   simp only [RB, RL, un, St.none, Nat.reduceEqDiff, Nat.reduceAdd, Nat.reduceMul, Nat.reduceMod, Nat.reduceLeDiff, Nat.reduceLT, Int.reduceLT, Int.reduceLE, Int.reduceEq, Int.reduceToNat, Int.reduceSub, Int.reduceNeg, Int.reduceAdd, ↓reduceIte, reduceCtorEq, pack, pid, parN, lid, chkK, apartV, Heap.none, c1]
 | succ d ih =>
  intro i hi
  have hlt : i < l.length := by omega
  have h9 := ih (i + 1) (by omega)
  have hx := hu _ (getD_mem' (false, false, [], []) hlt)
  have f1 := number09_c (q := (l.getD i (false, false, [], [])).2.1) hx.1.2 hx.2.2
  have ht : (l.take (i + 1)).map t3 = (l.take i).map t3 ++ [t3 (l.getD i (false, false, [], []))] := by
   rw [List.take_add_one, zh hlt, List.map_append, za, zh hlt]
   rfl
  rw [ht] at h9
  have hlen : (List.map t3 (List.take i l)).length = i := by rw [zm, zi]; omega
  have c1 : (i : Int) < (l.length : Int) := by omega
  have c2 : (i : Int) < (n : Int) := by omega
  have e2 : IntKind.i64.wrap ((i : Int) + 1) = ((i + 1 : Nat) : Int) := w64succ (by omega)
  have b2 : (i + 1) * 64 ≤ 140737488355328 := by omega
  have m2 : List.take (i + 1) (List.map t3 (List.take i l) ++ [t3 (l.getD i (false, false, [], []))]) = List.map t3 (List.take i l) ++ [t3 (l.getD i (false, false, [], []))] := zb (by rw [zj, hlen]; simp)
  have m3 : List.take i (List.map t3 (List.take i l)) = List.map t3 (List.take i l) := zb (by omega)
  have m1 : List.map eC (List.map t3 (List.take i l)) ++ [[AV.b (l.getD i (false, false, [], [])).1, AV.b (l.getD i (false, false, [], [])).2.1, AV.l 1 (List.map u ((l.getD i (false, false, [], [])).2.2.1.take 3)), AV.l 1 (List.map u ((l.getD i (false, false, [], [])).2.2.2.take 3))]] = List.map eC (List.map t3 (List.take i l) ++ [t3 (l.getD i (false, false, [], []))]) := by rw [List.map_append]; rfl
  rw [LP_go FF b29_0.eq_1]
  simp only [RB, RL, un, St.none, Nat.reduceEqDiff, Nat.reduceAdd, Nat.reduceMul, Nat.reduceMod, Nat.reduceLeDiff, Nat.reduceLT, Int.reduceLT, Int.reduceLE, Int.reduceEq, Int.reduceToNat, Int.reduceSub, Int.reduceNeg, Int.reduceAdd, ↓reduceIte, reduceCtorEq, pack, pid, parN, lid, chkK, apartV, Heap.none, c1, c2, eC_rules, eC_row, zd, f1, e2, hlen, b2, m3, m1, m2]
  exact h9
theorem few09_c {l : List RC} {n : Nat} (hn : n ≤ 100000000000) (hu : ∀ x ∈ l, OkC x) (hl : l.length ≤ maxL) : R FF 29 [.l 4 (l.map eC), (AV.i .i64 ((n : Int)))] = some (.l 4 (((l.take n).map t3).map eC)) := by
 have h1 := few09_l0 hn hu hl (min l.length n) 0 (by omega)
 rw [List.take_zero, zy] at h1
 simp only [List.map_nil] at h1
 rw [R_go FF F29 c29.eq_1]
 simp only [RB, RL, un, St.none, Nat.reduceEqDiff, Nat.reduceAdd, Nat.reduceMul, Nat.reduceMod, Nat.reduceLeDiff, Nat.reduceLT, Int.reduceLT, Int.reduceLE, Int.reduceEq, Int.reduceToNat, Int.reduceSub, Int.reduceNeg, Int.reduceAdd, ↓reduceIte, reduceCtorEq, pack, pid, parN, lid, chkK, apartV, Heap.none, h1]
theorem cell23_c {a q : Bool} {l d : List Int} (h : Sm l d maxL) : R FF 13 [.agg [.b a, .b q, (AV.l 1 (List.map u l)), (AV.l 1 (List.map u d))]] = some (.agg [.b a, .b q, (AV.l 1 (List.map u ((l.take 3)))), (AV.l 1 (List.map u ((d.take 3))))]) := by
 have h1 := few09_c (l := [(a, q, l, d)]) (n := 1) (by omega) (by intro x hx; rw [List.mem_singleton.1 hx]; exact h) (show 1 ≤ maxL by decide)
 change R FF 29 [.l 4 [[.b a, .b q, (AV.l 1 (List.map u l)), (AV.l 1 (List.map u d))]], (AV.i .i64 1)] = some (.l 4 [[.b a, .b q, (AV.l 1 (List.map u ((l.take 3)))), (AV.l 1 (List.map u ((d.take 3))))]]) at h1
 rw [R_go FF F13 c13.eq_1]
 simp only [RB, RL, un, St.none, Nat.reduceEqDiff, Nat.reduceAdd, Nat.reduceMul, Nat.reduceMod, Nat.reduceLeDiff, Nat.reduceLT, Int.reduceLT, Int.reduceLE, Int.reduceEq, Int.reduceToNat, Int.reduceSub, Int.reduceNeg, Int.reduceAdd, ↓reduceIte, reduceCtorEq, pack, pid, parN, lid, chkK, apartV, Heap.none, h1]
theorem number23_c {q : Bool} {l d : List Int} (h : Sm l d maxL) : R FF 12 [(AV.agg [AV.b q, (AV.l 1 (List.map u l)), (AV.l 1 (List.map u d))])] = some (AV.agg [AV.b q, (AV.l 1 (List.map u (((l.take 3))))), (AV.l 1 (List.map u (((d.take 3)))))]) := by
 have h1 := cell23_c (a := false) (q := q) h
 rw [R_go FF F12 c12.eq_1]
 simp only [RB, RL, un, St.none, Nat.reduceEqDiff, Nat.reduceAdd, Nat.reduceMul, Nat.reduceMod, Nat.reduceLeDiff, Nat.reduceLT, Int.reduceLT, Int.reduceLE, Int.reduceEq, Int.reduceToNat, Int.reduceSub, Int.reduceNeg, Int.reduceAdd, ↓reduceIte, reduceCtorEq, pack, pid, parN, lid, chkK, apartV, Heap.none, h1]
def inS (hl hh : Bool) (lo hi : Rat) (ms m : Bool) (v : Rat) : Bool := if m then ms else (!(hl && decide (v < lo))) && (!hh || decide (v < hi))
theorem Has23_c {hl hh ms m q1 q2 q3 : Bool} {l1 d1 l2 d2 l3 d3 : List Int} {k : Nat} (hk : k ≤ 100000000000) (h1 : Sm l1 d1 k) (h2 : Sm l2 d2 k) (h3 : Sm l3 d3 k) :
  R FF 67 [.agg [.b hl, .b hh, .b q1, (AV.l 1 (List.map u l1)), (AV.l 1 (List.map u d1)), .b q2, (AV.l 1 (List.map u l2)), (AV.l 1 (List.map u d2)), .b ms], .agg [.b m, .b q3, (AV.l 1 (List.map u l3)), (AV.l 1 (List.map u d3))]] = some (.b (inS hl hh (qv q1 l1 d1) (qv q2 l2 d2) ms m (qv q3 l3 d3))) := by
 have c1 := qcmp_s (q := q3) (r := q1) h3 h1 hk hk
 have c2 := qcmp_s (q := q3) (r := q2) h3 h2 hk hk
 have e1 := qcmp_lt (x := qv q3 l3 d3) (y := qv q1 l1 d1)
 have e2 := qcmp_lt (x := qv q3 l3 d3) (y := qv q2 l2 d2)
 generalize qv q1 l1 d1 = lo at *
 generalize qv q2 l2 d2 = hi at *
 generalize qv q3 l3 d3 = v at *
 unfold inS
 cases m
 ·cases hl <;> cases hh <;> by_cases a1 : v < lo <;> by_cases a2 : v < hi <;> simp only [a1, a2, iff_true, iff_false] at e1 e2 <;>
  (rw [R_go FF F67 c67.eq_1]
   simp only [RB, RL, un, St.none, Nat.reduceEqDiff, Nat.reduceAdd, Nat.reduceMul, Nat.reduceMod, Nat.reduceLeDiff, Nat.reduceLT, Int.reduceLT, Int.reduceLE, Int.reduceEq, Int.reduceToNat, Int.reduceSub, Int.reduceNeg, Int.reduceAdd, ↓reduceIte, reduceCtorEq, pack, pid, parN, lid, chkK, apartV, Heap.none, c1, c2, e1, e2, a1, a2])
 ·rw [R_go FF F67 c67.eq_1]
  simp only [RB, RL, un, St.none, Nat.reduceEqDiff, Nat.reduceAdd, Nat.reduceMul, Nat.reduceMod, Nat.reduceLeDiff, Nat.reduceLT, Int.reduceLT, Int.reduceLE, Int.reduceEq, Int.reduceToNat, Int.reduceSub, Int.reduceNeg, Int.reduceAdd, ↓reduceIte, reduceCtorEq, pack, pid, parN, lid, chkK, apartV, Heap.none]
def vQ (x : RQt) : Rat := qv x.1 x.2.1 x.2.2
def SmQ (x : RQt) (k : Nat) : Prop := Sm x.2.1 x.2.2 k
def SmS (s : RS) (k : Nat) : Prop := SmQ s.2.2.1 k ∧ SmQ s.2.2.2.1 k
def inV (s : RS) (c : RC) : Bool := inS s.1 s.2.1 (vQ s.2.2.1) (vQ s.2.2.2.1) s.2.2.2.2 c.1 (vQ c.2)
def tQ (x : RQt) : RQt := (x.1, x.2.1.take 3, x.2.2.take 3)
def t3S (s : RS) : RS := (s.1, s.2.1, tQ s.2.2.1, tQ s.2.2.2.1, s.2.2.2.2)
theorem OkS.sm {s : RS} (h : OkS s) : SmS (t3S s) 3 := ⟨Sm.take (k := maxL) h.1 3, Sm.take (k := maxL) h.2 3⟩
def cQ (h : Bool) (x : Rat) : RQt := if h then (ng x.num, D x.num.natAbs, D x.den) else (false, [], [])
theorem vQ_cQ (x : Rat) : vQ (cQ true x) = x := qv_cq x
theorem SmQ_cQ {h : Bool} {x : Rat} {k : Nat} (hx : sq x ≤ k) : SmQ (cQ h x) k := by
 unfold cQ
 cases h
 ·exact ⟨⟨fun _ h => (List.not_mem_nil h).elim, Nat.zero_le _⟩, fun _ h => (List.not_mem_nil h).elim, Nat.zero_le _⟩
 ·exact sm_cq hx
theorem vQ_sq {x : RQt} {k : Nat} (h : SmQ x k) (hk : 1 ≤ k) : sq (vQ x) ≤ k := Sm.sq h hk
def cS (s : RS) : RS := (s.1, s.2.1, cQ s.1 (vQ s.2.2.1), cQ s.2.1 (vQ s.2.2.2.1), s.2.2.2.2)
theorem cS_sm {s : RS} {k : Nat} (h : SmS s k) (hk : 1 ≤ k) : SmS (cS s) k := ⟨SmQ_cQ (vQ_sq h.1 hk), SmQ_cQ (vQ_sq h.2 hk)⟩
theorem inV_cS (s : RS) (c : RC) : inV (cS s) c = inV s c := by
 obtain ⟨hl, hh, x, y, ms⟩ := s
 unfold inV cS inS
 cases hl <;> cases hh <;> simp [vQ_cQ]
theorem side_c {s : RS} (h : OkS s) : R FF 18 [.agg (eS s)] = some (.agg (eS (t3S s))) := by
 obtain ⟨hl, hh, ⟨q1, l1, d1⟩, ⟨q2, l2, d2⟩, ms⟩ := s
 have f1 := number23_c (q := q1) (l := l1) (d := d1) h.1
 have f2 := number23_c (q := q2) (l := l2) (d := d2) h.2
 simp only [eS, t3S, tQ]
 rw [R_go FF F18 c18.eq_1]
 simp only [RB, RL, un, St.none, Nat.reduceEqDiff, Nat.reduceAdd, Nat.reduceMul, Nat.reduceMod, Nat.reduceLeDiff, Nat.reduceLT, Int.reduceLT, Int.reduceLE, Int.reduceEq, Int.reduceToNat, Int.reduceSub, Int.reduceNeg, Int.reduceAdd, ↓reduceIte, reduceCtorEq, pack, pid, parN, lid, chkK, apartV, Heap.none, f1, f2]
theorem bclean_c {s : RS} {k : Nat} (hk : k ≤ 100000000000) (h : SmS s k) : R FF 21 [.agg (eS s)] = some (.agg (eS (cS s))) := by
 obtain ⟨hl, hh, ⟨q1, l1, d1⟩, ⟨q2, l2, d2⟩, ms⟩ := s
 have f1 := qclean_s (q := q1) (l := l1) (d := d1) h.1 hk
 have f2 := qclean_s (q := q2) (l := l2) (d := d2) h.2 hk
 simp only [eS, cS, vQ, cQ]
 cases hl <;> cases hh <;> simp only [if_true, zz, if_false] <;>
 (rw [R_go FF F21 c21.eq_1]
  simp only [RB, RL, un, St.none, Nat.reduceEqDiff, Nat.reduceAdd, Nat.reduceMul, Nat.reduceMod, Nat.reduceLeDiff, Nat.reduceLT, Int.reduceLT, Int.reduceLE, Int.reduceEq, Int.reduceToNat, Int.reduceSub, Int.reduceNeg, Int.reduceAdd, ↓reduceIte, reduceCtorEq, pack, pid, parN, lid, chkK, apartV, Heap.none, f1, f2])
def belV (s : RS) (x : RQt) (mi : Bool) : RS :=
 if !s.2.1 || decide (vQ x < vQ s.2.2.2.1) then (s.1, true, cQ s.1 (vQ s.2.2.1), cQ true (vQ x), s.2.2.2.2 && mi) else (s.1, s.2.1, cQ s.1 (vQ s.2.2.1), cQ s.2.1 (vQ s.2.2.2.1), s.2.2.2.2 && mi)
def abvV (s : RS) (x : RQt) (mi : Bool) : RS :=
 if !s.1 || decide (vQ s.2.2.1 < vQ x) then (true, s.2.1, cQ true (vQ x), cQ s.2.1 (vQ s.2.2.2.1), s.2.2.2.2 && mi) else (s.1, s.2.1, cQ s.1 (vQ s.2.2.1), cQ s.2.1 (vQ s.2.2.2.1), s.2.2.2.2 && mi)
theorem below_c {s : RS} {x : RQt} {mi : Bool} {k : Nat} (hk : k ≤ 100000000000) (h1k : 1 ≤ k) (h : SmS s k) (hx : SmQ x k) : R FF 19 [.agg (eS s), .agg (eQ x), .b mi] = some (.agg (eS (belV s x mi))) := by
 have f1 := bclean_c hk h
 have g1 := cS_sm h h1k
 obtain ⟨hl, hh, y, z, ms⟩ := s
 obtain ⟨q, l, d⟩ := x
 have f2 := qclean_s (q := q) (l := l) (d := d) hx hk
 have f3 := qcmp_s (q := q) (l := l) (d := d) (r := (cQ hh (vQ z)).1) hx g1.2 hk hk
 change R FF 14 [(AV.agg [AV.b q, (AV.l 1 (List.map u l)), (AV.l 1 (List.map u d))]), (AV.agg [AV.b ((cQ hh (vQ z)).1), (AV.l 1 (List.map u (((cQ hh (vQ z)).2.1)))), (AV.l 1 (List.map u (((cQ hh (vQ z)).2.2))))])] = some (AV.i .i64 (qcmp (vQ (q, l, d)) (vQ (cQ hh (vQ z))))) at f3
 change R FF 63 [(AV.agg [AV.b q, (AV.l 1 (List.map u l)), (AV.l 1 (List.map u d))])] = some (AV.agg [AV.b (ng (Rat.num (vQ (q, l, d)))), (AV.l 1 (List.map u (D (Int.natAbs (Rat.num (vQ (q, l, d))))))), (AV.l 1 (List.map u (D (Rat.den (vQ (q, l, d))))))]) at f2
 simp only [eS, cS] at f1
 simp only [eS, eQ, belV]
 generalize vQ (q, l, d) = v at *
 cases hh
 ·simp only [Bool.not_false, Bool.true_or, if_true]
  rw [show cQ true v = (ng v.num, D v.num.natAbs, D v.den) from rfl]
  cases ms <;>
  (rw [R_go FF F19 c19.eq_1]
   simp only [RB, RL, un, St.none, Nat.reduceEqDiff, Nat.reduceAdd, Nat.reduceMul, Nat.reduceMod, Nat.reduceLeDiff, Nat.reduceLT, Int.reduceLT, Int.reduceLE, Int.reduceEq, Int.reduceToNat, Int.reduceSub, Int.reduceNeg, Int.reduceAdd, ↓reduceIte, reduceCtorEq, pack, pid, parN, lid, chkK, apartV, Heap.none, f1, f2, Bool.true_and, Bool.false_and])
 ·rw [vQ_cQ] at f3
  have e1 := qcmp_lt (x := v) (y := vQ z)
  simp only [Bool.not_true, Bool.false_or]
  rw [show cQ true v = (ng v.num, D v.num.natAbs, D v.den) from rfl]
  by_cases a1 : v < vQ z <;> simp only [a1, iff_true, iff_false] at e1 <;> simp only [a1, decide_true, decide_false, if_true, zz, if_false] <;> cases ms <;>
  (rw [R_go FF F19 c19.eq_1]
   simp only [RB, RL, un, St.none, Nat.reduceEqDiff, Nat.reduceAdd, Nat.reduceMul, Nat.reduceMod, Nat.reduceLeDiff, Nat.reduceLT, Int.reduceLT, Int.reduceLE, Int.reduceEq, Int.reduceToNat, Int.reduceSub, Int.reduceNeg, Int.reduceAdd, ↓reduceIte, reduceCtorEq, pack, pid, parN, lid, chkK, apartV, Heap.none, f1, f2, f3, e1, Bool.true_and, Bool.false_and])
theorem above_c {s : RS} {x : RQt} {mi : Bool} {k : Nat} (hk : k ≤ 100000000000) (h1k : 1 ≤ k) (h : SmS s k) (hx : SmQ x k) : R FF 20 [.agg (eS s), .agg (eQ x), .b mi] = some (.agg (eS (abvV s x mi))) := by
 have f1 := bclean_c hk h
 have g1 := cS_sm h h1k
 obtain ⟨hl, hh, y, z, ms⟩ := s
 obtain ⟨q, l, d⟩ := x
 have f2 := qclean_s (q := q) (l := l) (d := d) hx hk
 have f3 := qcmp_s (q := q) (l := l) (d := d) (r := (cQ hl (vQ y)).1) hx g1.1 hk hk
 change R FF 14 [(AV.agg [AV.b q, (AV.l 1 (List.map u l)), (AV.l 1 (List.map u d))]), (AV.agg [AV.b ((cQ hl (vQ y)).1), (AV.l 1 (List.map u (((cQ hl (vQ y)).2.1)))), (AV.l 1 (List.map u (((cQ hl (vQ y)).2.2))))])] = some (AV.i .i64 (qcmp (vQ (q, l, d)) (vQ (cQ hl (vQ y))))) at f3
 change R FF 63 [(AV.agg [AV.b q, (AV.l 1 (List.map u l)), (AV.l 1 (List.map u d))])] = some (AV.agg [AV.b (ng (Rat.num (vQ (q, l, d)))), (AV.l 1 (List.map u (D (Int.natAbs (Rat.num (vQ (q, l, d))))))), (AV.l 1 (List.map u (D (Rat.den (vQ (q, l, d))))))]) at f2
 simp only [eS, cS] at f1
 simp only [eS, eQ, abvV]
 generalize vQ (q, l, d) = v at *
 cases hl
 ·simp only [Bool.not_false, Bool.true_or, if_true]
  rw [show cQ true v = (ng v.num, D v.num.natAbs, D v.den) from rfl]
  cases ms <;>
  (rw [R_go FF F20 c20.eq_1]
   simp only [RB, RL, un, St.none, Nat.reduceEqDiff, Nat.reduceAdd, Nat.reduceMul, Nat.reduceMod, Nat.reduceLeDiff, Nat.reduceLT, Int.reduceLT, Int.reduceLE, Int.reduceEq, Int.reduceToNat, Int.reduceSub, Int.reduceNeg, Int.reduceAdd, ↓reduceIte, reduceCtorEq, pack, pid, parN, lid, chkK, apartV, Heap.none, f1, f2, Bool.true_and, Bool.false_and])
 ·rw [vQ_cQ] at f3
  have e1 := qcmp_gt (x := v) (y := vQ y)
  simp only [Bool.not_true, Bool.false_or]
  rw [show cQ true v = (ng v.num, D v.num.natAbs, D v.den) from rfl]
  by_cases a1 : vQ y < v <;> simp only [a1, iff_true, iff_false] at e1 <;> simp only [a1, decide_true, decide_false, if_true, zz, if_false] <;> cases ms <;>
  (rw [R_go FF F20 c20.eq_1]
   simp only [RB, RL, un, St.none, Nat.reduceEqDiff, Nat.reduceAdd, Nat.reduceMul, Nat.reduceMod, Nat.reduceLeDiff, Nat.reduceLT, Int.reduceLT, Int.reduceLE, Int.reduceEq, Int.reduceToNat, Int.reduceSub, Int.reduceNeg, Int.reduceAdd, ↓reduceIte, reduceCtorEq, pack, pid, parN, lid, chkK, apartV, Heap.none, f1, f2, f3, e1, Bool.true_and, Bool.false_and])
theorem bel_sm {s : RS} {x : RQt} {mi : Bool} {k : Nat} (h : SmS s k) (hx : SmQ x k) (hk : 1 ≤ k) : SmS (belV s x mi) k := by
 unfold belV
 split
 ·exact ⟨SmQ_cQ (vQ_sq h.1 hk), SmQ_cQ (vQ_sq hx hk)⟩
 ·exact ⟨SmQ_cQ (vQ_sq h.1 hk), SmQ_cQ (vQ_sq h.2 hk)⟩
theorem abv_sm {s : RS} {x : RQt} {mi : Bool} {k : Nat} (h : SmS s k) (hx : SmQ x k) (hk : 1 ≤ k) : SmS (abvV s x mi) k := by
 unfold abvV
 split
 ·exact ⟨SmQ_cQ (vQ_sq hx hk), SmQ_cQ (vQ_sq h.2 hk)⟩
 ·exact ⟨SmQ_cQ (vQ_sq h.1 hk), SmQ_cQ (vQ_sq h.2 hk)⟩
theorem bel_in (s : RS) (x : RQt) (mi : Bool) (c : RC) : inV (belV s x mi) c = (inV s c && ((!c.1 && decide (vQ c.2 < vQ x)) || (c.1 && mi))) := by
 obtain ⟨hl, hh, y, z, ms⟩ := s
 obtain ⟨m, w⟩ := c
 unfold inV belV inS
 simp only
 generalize vQ x = a
 generalize vQ w = v
 cases m <;> cases hl <;> cases hh <;> simp only [Bool.not_false, Bool.not_true, Bool.true_or, Bool.false_or, if_true, vQ_cQ, Bool.true_and, Bool.false_and, Bool.and_true, Bool.and_false, Bool.or_false, Bool.or_true, zz, if_false] <;> split <;> simp_all [vQ_cQ] <;> grind
theorem abv_in (s : RS) (x : RQt) (mi : Bool) (c : RC) : inV (abvV s x mi) c = (inV s c && ((!c.1 && !decide (vQ c.2 < vQ x)) || (c.1 && mi))) := by
 obtain ⟨hl, hh, y, z, ms⟩ := s
 obtain ⟨m, w⟩ := c
 unfold inV abvV inS
 simp only
 generalize vQ x = a
 generalize vQ w = v
 cases m <;> cases hl <;> cases hh <;> simp only [Bool.not_false, Bool.not_true, Bool.true_or, Bool.false_or, if_true, vQ_cQ, Bool.true_and, Bool.false_and, Bool.and_true, Bool.and_false, Bool.or_false, Bool.or_true, zz, if_false] <;> (try split) <;> (try simp_all [vQ_cQ]) <;> (first | rfl | grind | (try rw [Bool.and_comm]; try rfl; try grind))
def fw (w : Nat) (r : List RC) : List RC := (r.take w).map t3
abbrev I64 (n : Int) : Prop := -9223372036854775808 ≤ n ∧ n ≤ 9223372036854775807
structure RNd where
 leaf : Bool
 ft : Int
 cut : RQt
 lft : Int
 rgt : Int
 miss : Bool
 val : RQt
 cov : RQt
 deriving Inhabited
def eNd (x : RNd) : List AV := [.b x.leaf, .i .i64 x.ft, .b x.cut.1, .l 1 (x.cut.2.1.map u), .l 1 (x.cut.2.2.map u), .i .i64 x.lft, .i .i64 x.rgt, .b x.miss, .b x.val.1, .l 1 (x.val.2.1.map u), .l 1 (x.val.2.2.map u), .b x.cov.1, .l 1 (x.cov.2.1.map u), .l 1 (x.cov.2.2.map u)]
def OkNd (x : RNd) : Prop := I64 x.ft ∧ OkQ x.cut ∧ I64 x.lft ∧ I64 x.rgt ∧ OkQ x.val ∧ OkQ x.cov
abbrev dNd : RNd := ⟨false, 0, dQ, 0, 0, false, dQ, dQ⟩
theorem eNd_rules : (∀ x, (eNd x).length = 14) ∧ (∀ h x, (eNd x).map (tellC h) = eNd x) ∧ (∀ h x, (eNd x).map (tell0 h) = eNd x) ∧ (∀ h x, (eNd x).flatMap (refC h) = []) ∧ (∀ x, (eNd x).flatMap ref0 = []) ∧
  (∀ x, ldC true 14 0 (eNd x) = some (.agg (eNd x))) ∧ (∀ x, ldC false 1 0 (eNd x) = some (.b x.leaf)) ∧ (∀ x, ldC false 1 1 (eNd x) = some (.i .i64 x.ft)) ∧ (∀ x, ldC true 3 2 (eNd x) = some (.agg [.b x.cut.1, .l 1 (x.cut.2.1.map u), .l 1 (x.cut.2.2.map u)])) ∧
  (∀ x, ldC false 1 5 (eNd x) = some (.i .i64 x.lft)) ∧ (∀ x, ldC false 1 6 (eNd x) = some (.i .i64 x.rgt)) ∧ (∀ x, ldC false 1 7 (eNd x) = some (.b x.miss)) ∧ (∀ x, ldC true 3 8 (eNd x) = some (.agg [.b x.val.1, .l 1 (x.val.2.1.map u), .l 1 (x.val.2.2.map u)])) ∧ (∀ x, ldC true 3 11 (eNd x) = some (.agg [.b x.cov.1, .l 1 (x.cov.2.1.map u), .l 1 (x.cov.2.2.map u)])) := by
 refine ⟨?_, ?_, ?_, ?_, ?_, ?_, ?_, ?_, ?_, ?_, ?_, ?_, ?_, ?_⟩ <;> intros <;> rfl
theorem eNd_row : type_of% (row_rules eNd dNd 14 (fun _ => rfl) (fun _ _ => rfl)) := row_rules eNd dNd 14 (fun _ => rfl) (fun _ _ => rfl)
def eTr (t : List RNd) : List AV := [.l 14 (t.map eNd)]
theorem eTr_rules : (∀ x, (eTr x).length = 1) ∧ (∀ h x, (eTr x).map (tellC h) = eTr x) ∧ (∀ h x, (eTr x).map (tell0 h) = eTr x) ∧ (∀ h x, (eTr x).flatMap (refC h) = []) ∧ (∀ x, (eTr x).flatMap ref0 = []) ∧
  (∀ x, ldC false 1 0 (eTr x) = some (.l 14 (x.map eNd))) := by
 refine ⟨?_, ?_, ?_, ?_, ?_, ?_⟩ <;> intros <;> rfl
theorem eTr_row : type_of% (row_rules eTr [] 1 (fun _ => rfl) (fun _ _ => rfl)) := row_rules eTr [] 1 (fun _ => rfl) (fun _ _ => rfl)
abbrev RM := Int × List (List RNd)
def eM (x : RM) : List AV := [.i .i64 x.1, .l 1 (x.2.map eTr)]
def OkM (x : RM) : Prop := I64 x.1 ∧ x.2.length ≤ maxL ∧ ∀ t ∈ x.2, t.length ≤ maxL ∧ ∀ a ∈ t, OkNd a
def kNd : List CK := [.bool, .int .i64, .bool, kN, kN, .int .i64, .int .i64, .bool, .bool, kN, kN, .bool, kN, kN]
theorem open_Nd {acs : List AV} (h : Fits kNd acs) : ∃ x, acs = eNd x ∧ OkNd x := by
 obtain ⟨a, r, rfl, h1, h⟩ := h.cons
 obtain ⟨b, r, rfl, h2, h⟩ := h.cons
 obtain ⟨v1, v2, rfl, h3, h⟩ := Fits.split (k1 := kQ) (k2 := [.int .i64, .int .i64, .bool, .bool, kN, kN, .bool, kN, kN]) h
 obtain ⟨c, r, rfl, h4, h⟩ := h.cons
 obtain ⟨d, r, rfl, h5, h⟩ := h.cons
 obtain ⟨e, r, rfl, h6, h⟩ := h.cons
 obtain ⟨v3, v4, rfl, h7, h8⟩ := Fits.split (k1 := kQ) (k2 := kQ) h
 obtain ⟨q, rfl⟩ := h1.inv_bool
 obtain ⟨f, rfl, o1⟩ := open_int h2
 obtain ⟨x, rfl, o2⟩ := open_Q h3
 obtain ⟨m, rfl, o3⟩ := open_int h4
 obtain ⟨n, rfl, o4⟩ := open_int h5
 obtain ⟨p, rfl⟩ := h6.inv_bool
 obtain ⟨y, rfl, o5⟩ := open_Q h7
 obtain ⟨z, rfl, o6⟩ := open_Q h8
 exact ⟨⟨q, f, x, m, n, p, y, z⟩, rfl, o1, o2, o3, o4, o5, o6⟩
theorem open_LNd {x : AV} (h : Fit (.sl kNd) x) : ∃ l : List RNd, x = .l 14 (l.map eNd) ∧ l.length ≤ maxL ∧ ∀ a ∈ l, OkNd a := open_list h eNd OkNd fun acs ha => open_Nd ha
theorem qadd_c {q r : Bool} {l d m e : List Int} (hu : U l) (hl : l.length ≤ 40000000000) (hv : U d) (hd : d.length ≤ 40000000000) (hu2 : U m) (hl2 : m.length ≤ 40000000000) (hv2 : U e) (hd2 : e.length ≤ 40000000000) :
  R FF 31 [(AV.agg [AV.b q, (AV.l 1 (List.map u l)), (AV.l 1 (List.map u d))]), (AV.agg [AV.b r, (AV.l 1 (List.map u m)), (AV.l 1 (List.map u e))])] = some (AV.agg [AV.b (ng (Rat.num (qv q l d + qv r m e))), (AV.l 1 (List.map u (D (Int.natAbs (Rat.num (qv q l d + qv r m e)))))), (AV.l 1 (List.map u (D (Rat.den (qv q l d + qv r m e)))))]) := by
 have k1 := qclean_c (q := q) hu (by omega) hv (by omega)
 have k2 := qclean_c (q := r) hu2 (by omega) hv2 (by omega)
 have s1 := qv_sq (q := q) (l := l) (d := d) (k := 40000000000) hl hd (by omega)
 have s2 := qv_sq (q := r) (l := m) (d := e) (k := 40000000000) hl2 hd2 (by omega)
 generalize qv q l d = x at *
 generalize qv r m e = y at *
 have e1 := qden_c (q := ng x.num) (l := D x.num.natAbs) (d := D x.den)
 have e2 := qden_c (q := ng y.num) (l := D y.num.natAbs) (d := D y.den)
 have n1 := sq_num x
 have n2 := sq_num y
 have n3 := sq_den x
 have n4 := sq_den y
 have m1 := wmul_c (q := ng x.num) (r := false) (D_U x.num.natAbs) (show L _ ≤ _ by omega) (D_U y.den) (show L _ ≤ _ by omega)
 have m2 := wmul_c (q := ng y.num) (r := false) (D_U y.num.natAbs) (show L _ ≤ _ by omega) (D_U x.den) (show L _ ≤ _ by omega)
 rw [wv_ci, den_ci] at m1 m2
 have b1 : L (x.num * y.den).natAbs ≤ 80000000000 := by rw [Int.natAbs_mul, Int.natAbs_natCast]; have := L_mul x.num.natAbs y.den; omega
 have b2 : L (y.num * x.den).natAbs ≤ 80000000000 := by rw [Int.natAbs_mul, Int.natAbs_natCast]; have := L_mul y.num.natAbs x.den; omega
 have a1 := wadd_D (a := x.num * y.den) (b := y.num * x.den) (by omega) (by omega)
 have b3 : L (x.num * y.den + y.num * x.den).natAbs ≤ 80000000001 := by
  have h1 := L_mono (Int.natAbs_add_le (x.num * y.den) (y.num * x.den))
  have h2 := L_add (x.num * y.den).natAbs (y.num * x.den).natAbs
  omega
 have m3 := mul_D (m := x.den) (n := y.den) (by omega)
 have b4 := L_mul x.den y.den
 have f1 := form_c (n := x.num * y.den + y.num * x.den) (d := x.den * y.den) (Nat.mul_ne_zero x.den_nz y.den_nz) (by omega) (by omega)
 rw [← Rat.add_def'] at f1
 rw [R_go FF F31 c31.eq_1]
 simp only [RB, RL, un, St.none, Nat.reduceEqDiff, Nat.reduceAdd, Nat.reduceMul, Nat.reduceMod, Nat.reduceLeDiff, Nat.reduceLT, Int.reduceLT, Int.reduceLE, Int.reduceEq, Int.reduceToNat, Int.reduceSub, Int.reduceNeg, Int.reduceAdd, ↓reduceIte, reduceCtorEq, pack, pid, parN, lid, chkK, apartV, Heap.none, k1, k2, e1, e2, m1, m2, a1, m3, f1]
theorem qneg_c {q : Bool} {l d : List Int} (hu : U l) (hl : l.length ≤ 100000000000) (hv : U d) (hd : d.length ≤ 100000000000) : R FF 96 [(AV.agg [AV.b q, (AV.l 1 (List.map u l)), (AV.l 1 (List.map u d))])] = some (AV.agg [AV.b (ng (Rat.num (-qv q l d))), (AV.l 1 (List.map u (D (Int.natAbs (Rat.num (-qv q l d)))))), (AV.l 1 (List.map u (D (Rat.den (-qv q l d)))))]) := by
 have k1 := qclean_c (q := q) hu hl hv hd
 have s1 := qv_sq (q := q) (l := l) (d := d) (k := 100000000000) hl hd (by omega)
 generalize qv q l d = x at *
 have n1 := sq_num x
 have m1 := wneg_c (q := ng x.num) (D_U x.num.natAbs) (show L _ ≤ _ by omega)
 rw [wv_ci] at m1
 rw [Rat.neg_num, Rat.neg_den]
 rw [R_go FF F96 c96.eq_1]
 simp only [RB, RL, un, St.none, Nat.reduceEqDiff, Nat.reduceAdd, Nat.reduceMul, Nat.reduceMod, Nat.reduceLeDiff, Nat.reduceLT, Int.reduceLT, Int.reduceLE, Int.reduceEq, Int.reduceToNat, Int.reduceSub, Int.reduceNeg, Int.reduceAdd, ↓reduceIte, reduceCtorEq, pack, pid, parN, lid, chkK, apartV, Heap.none, k1, m1]
theorem qsub_c {q r : Bool} {l d m e : List Int} (hu : U l) (hl : l.length ≤ 40000000000) (hv : U d) (hd : d.length ≤ 40000000000) (hu2 : U m) (hl2 : m.length ≤ 40000000000) (hv2 : U e) (hd2 : e.length ≤ 40000000000) :
  R FF 55 [(AV.agg [AV.b q, (AV.l 1 (List.map u l)), (AV.l 1 (List.map u d))]), (AV.agg [AV.b r, (AV.l 1 (List.map u m)), (AV.l 1 (List.map u e))])] = some (AV.agg [AV.b (ng (Rat.num (qv q l d - qv r m e))), (AV.l 1 (List.map u (D (Int.natAbs (Rat.num (qv q l d - qv r m e)))))), (AV.l 1 (List.map u (D (Rat.den (qv q l d - qv r m e)))))]) := by
 have k1 := qneg_c (q := r) hu2 (by omega) hv2 (by omega)
 have s2 := qv_sq (q := r) (l := m) (d := e) (k := 40000000000) hl2 hd2 (by omega)
 rw [← sq_neg] at s2
 rw [Rat.sub_eq_add_neg]
 generalize -qv r m e = y at *
 have n2 := sq_num y
 have n4 := sq_den y
 have k2 := qadd_c (q := q) (r := ng y.num) hu hl hv hd (D_U y.num.natAbs) (show L _ ≤ _ by omega) (D_U y.den) (show L _ ≤ _ by omega)
 rw [qv_cq] at k2
 rw [R_go FF F55 c55.eq_1]
 simp only [RB, RL, un, St.none, Nat.reduceEqDiff, Nat.reduceAdd, Nat.reduceMul, Nat.reduceMod, Nat.reduceLeDiff, Nat.reduceLT, Int.reduceLT, Int.reduceLE, Int.reduceEq, Int.reduceToNat, Int.reduceSub, Int.reduceNeg, Int.reduceAdd, ↓reduceIte, reduceCtorEq, pack, pid, parN, lid, chkK, apartV, Heap.none, k1, k2]
theorem qone_c : R FF 56 [] = some (AV.agg [AV.b (ng (Rat.num ((1 : Rat)))), (AV.l 1 (List.map u (D (Int.natAbs (Rat.num ((1 : Rat))))))), (AV.l 1 (List.map u (D (Rat.den ((1 : Rat))))))]) := by
 have o1 := qof_c (n := 1) (by omega) (by omega)
 rw [show ((1 : Int) : Rat) = 1 from rfl] at o1
 rw [R_go FF F56 c56.eq_1]
 simp only [RB, RL, un, St.none, Nat.reduceEqDiff, Nat.reduceAdd, Nat.reduceMul, Nat.reduceMod, Nat.reduceLeDiff, Nat.reduceLT, Int.reduceLT, Int.reduceLE, Int.reduceEq, Int.reduceToNat, Int.reduceSub, Int.reduceNeg, Int.reduceAdd, ↓reduceIte, reduceCtorEq, pack, pid, parN, lid, chkK, apartV, Heap.none, o1]
theorem qsame_c {q r : Bool} {l d m e : List Int} (hu : U l) (hl : l.length ≤ 100000000000) (hv : U d) (hd : d.length ≤ 100000000000) (hu2 : U m) (hl2 : m.length ≤ 100000000000) (hv2 : U e) (hd2 : e.length ≤ 100000000000) :
  R FF 57 [(AV.agg [AV.b q, (AV.l 1 (List.map u l)), (AV.l 1 (List.map u d))]), (AV.agg [AV.b r, (AV.l 1 (List.map u m)), (AV.l 1 (List.map u e))])] = some (.b (decide (qv q l d = qv r m e))) := by
 have k1 := qcmp_c (q := q) (r := r) hu hl hv hd hu2 hl2 hv2 hd2
 have e1 := qcmp_eq (x := qv q l d) (y := qv r m e)
 rw [show decide (qv q l d = qv r m e) = decide (qcmp (qv q l d) (qv r m e) = 0) from decide_eq_decide.2 e1.symm]
 rw [R_go FF F57 c57.eq_1]
 simp only [RB, RL, un, St.none, Nat.reduceEqDiff, Nat.reduceAdd, Nat.reduceMul, Nat.reduceMod, Nat.reduceLeDiff, Nat.reduceLT, Int.reduceLT, Int.reduceLE, Int.reduceEq, Int.reduceToNat, Int.reduceSub, Int.reduceNeg, Int.reduceAdd, ↓reduceIte, reduceCtorEq, pack, pid, parN, lid, chkK, apartV, Heap.none, k1]
def numV (s : RS) : Bool := !s.1 || !s.2.1 || decide (vQ s.2.2.1 < vQ s.2.2.2.1)
theorem numbers_c {s : RS} {k : Nat} (hk : k ≤ 100000000000) (h1 : SmS s k) : R FF 69 [.agg (eS s)] = some (.b (numV s)) := by
 obtain ⟨hl, hh, ⟨q1, l1, d1⟩, ⟨q2, l2, d2⟩, ms⟩ := s
 have k1 : R FF 14 [(AV.agg [AV.b q1, (AV.l 1 (List.map u l1)), (AV.l 1 (List.map u d1))]), (AV.agg [AV.b q2, (AV.l 1 (List.map u l2)), (AV.l 1 (List.map u d2))])] = some (AV.i .i64 (qcmp (vQ (q1, l1, d1)) (vQ (q2, l2, d2)))) := qcmp_s (q := q1) (r := q2) h1.1 h1.2 hk hk
 simp only [eS, numV]
 have e1 := qcmp_lt (x := vQ (q1, l1, d1)) (y := vQ (q2, l2, d2))
 generalize vQ (q1, l1, d1) = lo at *
 generalize vQ (q2, l2, d2) = hi at *
 cases hl <;> cases hh <;> by_cases a1 : lo < hi <;> simp only [a1, iff_true, iff_false] at e1 <;>
 (rw [R_go FF F69 c69.eq_1]
  simp only [RB, RL, un, St.none, Nat.reduceEqDiff, Nat.reduceAdd, Nat.reduceMul, Nat.reduceMod, Nat.reduceLeDiff, Nat.reduceLT, Int.reduceLT, Int.reduceLE, Int.reduceEq, Int.reduceToNat, Int.reduceSub, Int.reduceNeg, Int.reduceAdd, ↓reduceIte, reduceCtorEq, pack, pid, parN, lid, chkK, apartV, Heap.none, k1, e1, a1])
def empV (s : RS) : Bool := !s.2.2.2.2 && !numV s
theorem empty_c {s : RS} {k : Nat} (hk : k ≤ 100000000000) (h1 : SmS s k) : R FF 23 [.agg (eS s)] = some (.b (empV s)) := by
 have n1 := numbers_c hk h1
 unfold empV
 obtain ⟨hl, hh, ⟨q1, l1, d1⟩, ⟨q2, l2, d2⟩, ms⟩ := s
 simp only [eS] at n1 ⊢
 cases ms <;> cases hn : numV (hl, hh, (q1, l1, d1), (q2, l2, d2), _) <;> rw [hn] at n1 <;>
 (rw [R_go FF F23 c23.eq_1]
  simp only [RB, RL, un, St.none, Nat.reduceEqDiff, Nat.reduceAdd, Nat.reduceMul, Nat.reduceMod, Nat.reduceLeDiff, Nat.reduceLT, Int.reduceLT, Int.reduceLE, Int.reduceEq, Int.reduceToNat, Int.reduceSub, Int.reduceNeg, Int.reduceAdd, ↓reduceIte, reduceCtorEq, pack, pid, parN, lid, chkK, apartV, Heap.none, n1])
theorem in_num {s : RS} {c : RC} (h : inV s c = true) : empV s = false := by
 obtain ⟨hl, hh, x, y, ms⟩ := s
 obtain ⟨m, w⟩ := c
 unfold inV inS at h
 unfold empV numV
 simp only at h ⊢
 generalize vQ x = lo at *
 generalize vQ y = hi at *
 generalize vQ w = v at *
 cases m <;> cases hl <;> cases hh <;> cases ms <;> simp_all <;> grind
theorem qsub_s {q r : Bool} {l d m e : List Int} {k j : Nat} (h : Sm l d k) (h2 : Sm m e j) (hk : k ≤ 40000000000) (hj : j ≤ 40000000000) : R FF 55 [(AV.agg [AV.b q, (AV.l 1 (List.map u l)), (AV.l 1 (List.map u d))]), (AV.agg [AV.b r, (AV.l 1 (List.map u m)), (AV.l 1 (List.map u e))])] = some (AV.agg [AV.b (ng (Rat.num (qv q l d - qv r m e))), (AV.l 1 (List.map u (D (Int.natAbs (Rat.num (qv q l d - qv r m e)))))), (AV.l 1 (List.map u (D (Rat.den (qv q l d - qv r m e)))))]) :=
 qsub_c h.1.1 (zu h.1.2 hk) h.2.1 (zu h.2.2 hk) h2.1.1 (zu h2.1.2 hj) h2.2.1 (zu h2.2.2 hj)
theorem qadd_s {q r : Bool} {l d m e : List Int} {k j : Nat} (h : Sm l d k) (h2 : Sm m e j) (hk : k ≤ 40000000000) (hj : j ≤ 40000000000) : R FF 31 [(AV.agg [AV.b q, (AV.l 1 (List.map u l)), (AV.l 1 (List.map u d))]), (AV.agg [AV.b r, (AV.l 1 (List.map u m)), (AV.l 1 (List.map u e))])] = some (AV.agg [AV.b (ng (Rat.num (qv q l d + qv r m e))), (AV.l 1 (List.map u (D (Int.natAbs (Rat.num (qv q l d + qv r m e)))))), (AV.l 1 (List.map u (D (Rat.den (qv q l d + qv r m e)))))]) :=
 qadd_c h.1.1 (zu h.1.2 hk) h.2.1 (zu h.2.2 hk) h2.1.1 (zu h2.1.2 hj) h2.2.1 (zu h2.2.2 hj)
theorem qsame_s {q r : Bool} {l d m e : List Int} {k j : Nat} (h : Sm l d k) (h2 : Sm m e j) (hk : k ≤ 100000000000) (hj : j ≤ 100000000000) : R FF 57 [(AV.agg [AV.b q, (AV.l 1 (List.map u l)), (AV.l 1 (List.map u d))]), (AV.agg [AV.b r, (AV.l 1 (List.map u m)), (AV.l 1 (List.map u e))])] = some (.b (decide (qv q l d = qv r m e))) :=
 qsame_c h.1.1 (zu h.1.2 hk) h.2.1 (zu h.2.2 hk) h2.1.1 (zu h2.1.2 hj) h2.2.1 (zu h2.2.2 hj)
theorem sq_one : sq 1 ≤ 1 := by
 have h1 : L (1 : Rat).num.natAbs ≤ 1 := L_le (n := 1) (k := 1) (by decide)
 have h2 : L (1 : Rat).den ≤ 1 := L_le (n := 1) (k := 1) (by decide)
 unfold sq
 omega
theorem sq_zero : sq 0 ≤ 1 := by
 have h1 : L (0 : Rat).num.natAbs ≤ 0 := L_le (n := 0) (k := 0) (by decide)
 have h2 : L (0 : Rat).den ≤ 1 := L_le (n := 1) (k := 1) (by decide)
 unfold sq
 omega
theorem sq_sub (x y : Rat) : sq (x - y) ≤ sq x + sq y + 1 := by rw [Rat.sub_eq_add_neg, ← sq_neg y]; exact sq_add x (-y)
def someN (s : RS) : Rat := if s.1 then vQ s.2.2.1 else if s.2.1 then vQ s.2.2.2.1 - 1 else 0
def someV (s : RS) : RC := if numV s then (false, cQ true (someN s)) else (true, false, [], [])
theorem someN_sq {s : RS} {k : Nat} (h : SmS s k) (hk : 1 ≤ k) : sq (someN s) ≤ k + 2 := by
 unfold someN
 have h1 := vQ_sq h.1 hk
 have h2 := vQ_sq h.2 hk
 have h3 := sq_sub (vQ s.2.2.2.1) 1
 have h4 := sq_one
 have h5 := sq_zero
 split
 ·omega
 ·split <;> omega
theorem some_c {s : RS} {k : Nat} (hk : k ≤ 40000000000) (h1k : 1 ≤ k) (h : SmS s k) (he : empV s = false) : R FF 53 [.agg (eS s)] = some (.tup [.agg (eC (someV s)), .b true]) := by
 have em := empty_c (k := k) (by omega) h
 have nm := numbers_c (k := k) (by omega) h
 rw [he] at em
 have c1 : R FF 63 [(AV.agg [AV.b s.2.2.1.1, (AV.l 1 (List.map u s.2.2.1.2.1)), (AV.l 1 (List.map u s.2.2.1.2.2))])] = some (AV.agg [AV.b (ng (Rat.num (vQ s.2.2.1))), (AV.l 1 (List.map u (D (Int.natAbs (Rat.num (vQ s.2.2.1)))))), (AV.l 1 (List.map u (D (Rat.den (vQ s.2.2.1)))))]) := qclean_s h.1 (by omega)
 have o1 := qone_c
 have z1 := qzero_c
 have b1 : R FF 55 [(AV.agg [AV.b s.2.2.2.1.1, (AV.l 1 (List.map u s.2.2.2.1.2.1)), (AV.l 1 (List.map u s.2.2.2.1.2.2))]), (AV.agg [AV.b (ng (Rat.num ((1 : Rat)))), (AV.l 1 (List.map u (D (Int.natAbs (Rat.num ((1 : Rat))))))), (AV.l 1 (List.map u (D (Rat.den ((1 : Rat))))))])] = some (AV.agg [AV.b (ng (Rat.num (vQ s.2.2.2.1 - qv (ng (1 : Rat).num) (D (1 : Rat).num.natAbs) (D (1 : Rat).den)))), (AV.l 1 (List.map u (D (Int.natAbs (Rat.num (vQ s.2.2.2.1 - qv (ng (1 : Rat).num) (D (1 : Rat).num.natAbs) (D (1 : Rat).den))))))), (AV.l 1 (List.map u (D (Rat.den (vQ s.2.2.2.1 - qv (ng (1 : Rat).num) (D (1 : Rat).num.natAbs) (D (1 : Rat).den))))))]) := qsub_s h.2 (sm_cq (k := 1) sq_one) hk (by omega)
 rw [qv_cq] at b1
 have hc : ∀ v : Rat, cQ true v = (ng v.num, D v.num.natAbs, D v.den) := fun _ => rfl
 unfold someV someN
 generalize numV s = n at *
 obtain ⟨hl, hh, x, y, ms⟩ := s
 simp only [eS] at em nm c1 b1 ⊢
 cases n
 ·simp only [zz, if_false, eC, List.map_nil]
  rw [R_go FF F53 c53.eq_1]
  simp only [RB, RL, un, St.none, Nat.reduceEqDiff, Nat.reduceAdd, Nat.reduceMul, Nat.reduceMod, Nat.reduceLeDiff, Nat.reduceLT, Int.reduceLT, Int.reduceLE, Int.reduceEq, Int.reduceToNat, Int.reduceSub, Int.reduceNeg, Int.reduceAdd, ↓reduceIte, reduceCtorEq, pack, pid, parN, lid, chkK, apartV, Heap.none, em, nm]
 ·simp only [if_true, eC]
  cases hl
  ·cases hh
   ·simp only [zz, if_false, hc]
    rw [R_go FF F53 c53.eq_1]
    simp only [RB, RL, un, St.none, Nat.reduceEqDiff, Nat.reduceAdd, Nat.reduceMul, Nat.reduceMod, Nat.reduceLeDiff, Nat.reduceLT, Int.reduceLT, Int.reduceLE, Int.reduceEq, Int.reduceToNat, Int.reduceSub, Int.reduceNeg, Int.reduceAdd, ↓reduceIte, reduceCtorEq, pack, pid, parN, lid, chkK, apartV, Heap.none, em, nm, z1]
   ·simp only [zz, if_false, if_true, hc]
    rw [R_go FF F53 c53.eq_1]
    simp only [RB, RL, un, St.none, Nat.reduceEqDiff, Nat.reduceAdd, Nat.reduceMul, Nat.reduceMod, Nat.reduceLeDiff, Nat.reduceLT, Int.reduceLT, Int.reduceLE, Int.reduceEq, Int.reduceToNat, Int.reduceSub, Int.reduceNeg, Int.reduceAdd, ↓reduceIte, reduceCtorEq, pack, pid, parN, lid, chkK, apartV, Heap.none, em, nm, b1, o1]
  ·simp only [if_true, hc]
   rw [R_go FF F53 c53.eq_1]
   simp only [RB, RL, un, St.none, Nat.reduceEqDiff, Nat.reduceAdd, Nat.reduceMul, Nat.reduceMod, Nat.reduceLeDiff, Nat.reduceLT, Int.reduceLT, Int.reduceLE, Int.reduceEq, Int.reduceToNat, Int.reduceSub, Int.reduceNeg, Int.reduceAdd, ↓reduceIte, reduceCtorEq, pack, pid, parN, lid, chkK, apartV, Heap.none, em, nm, c1]
theorem some_none {s : RS} {k : Nat} (hk : k ≤ 40000000000) (h : SmS s k) (he : empV s = true) : R FF 53 [.agg (eS s)] = some (.tup [.agg [.b false, .b false, .l 1 [], .l 1 []], .b false]) := by
 have em := empty_c (k := k) (by omega) h
 rw [he] at em
 simp only [eS] at em ⊢
 rw [R_go FF F53 c53.eq_1]
 simp only [RB, RL, un, St.none, Nat.reduceEqDiff, Nat.reduceAdd, Nat.reduceMul, Nat.reduceMod, Nat.reduceLeDiff, Nat.reduceLT, Int.reduceLT, Int.reduceLE, Int.reduceEq, Int.reduceToNat, Int.reduceSub, Int.reduceNeg, Int.reduceAdd, ↓reduceIte, reduceCtorEq, pack, pid, parN, lid, chkK, apartV, Heap.none, em]
theorem in_some {s : RS} (he : empV s = false) : inV s (someV s) = true := by
 obtain ⟨hl, hh, x, y, ms⟩ := s
 unfold someV
 unfold empV at he
 cases hn : numV (hl, hh, x, y, ms)
 ·rw [hn] at he
  simp only [Bool.not_false, Bool.and_true] at he
  simp only [zz, if_false]
  unfold inV inS
  simp only [if_true]
  cases ms
  ·cases he
  ·rfl
 ·simp only [if_true]
  unfold inV inS someN
  unfold numV at hn
  simp only [vQ_cQ, zz, if_false] at hn ⊢
  generalize vQ x = lo at *
  generalize vQ y = hi at *
  cases hl <;> cases hh <;> simp_all <;> grind
theorem someV_sm {s : RS} {k : Nat} (h : SmS s k) (hk : 1 ≤ k) : SmQ (someV s).2 (k + 2) := by
 unfold someV
 split
 ·exact SmQ_cQ (someN_sq h hk)
 ·exact ⟨⟨fun _ h => (List.not_mem_nil h).elim, Nat.zero_le _⟩, fun _ h => (List.not_mem_nil h).elim, Nat.zero_le _⟩
theorem qsign_c {q : Bool} {l d : List Int} {k : Nat} (hk : k ≤ 100000000000) (h : Sm l d k) : R FF 162 [(AV.agg [AV.b q, (AV.l 1 (List.map u l)), (AV.l 1 (List.map u d))])] = some (AV.i .i64 (cmp (qv q l d).num 0)) := by
 have k1 := qclean_s (q := q) h hk
 have s1 := qv_sq (q := q) (l := l) (d := d) (k := 100000000000) (zu h.1.2 hk) (zu h.2.2 hk) (by omega)
 generalize qv q l d = x at *
 have n1 := sq_num x
 have m1 := wsign_c (q := ng x.num) (D_U x.num.natAbs) (show L _ ≤ _ by omega)
 rw [wv_ci] at m1
 rw [R_go FF F162 c162.eq_1]
 simp only [RB, RL, un, St.none, Nat.reduceEqDiff, Nat.reduceAdd, Nat.reduceMul, Nat.reduceMod, Nat.reduceLeDiff, Nat.reduceLT, Int.reduceLT, Int.reduceLE, Int.reduceEq, Int.reduceToNat, Int.reduceSub, Int.reduceNeg, Int.reduceAdd, ↓reduceIte, reduceCtorEq, pack, pid, parN, lid, chkK, apartV, Heap.none, k1, m1]
def rQ (x : Rat) : RQt := (ng x.num, D x.num.natAbs, D x.den)
theorem vQ_rQ (x : Rat) : vQ (rQ x) = x := qv_cq x
abbrev Fn := Nat → Rat
def sh (f : Fn) : Fn := fun i => f (i + 1)
def cv (f g : Fn) : Nat → Nat → Rat
 | 0, _ => 0
 | n + 1, j => cv f g n j + (if n ≤ j then f n * g (j - n) else 0)
def Dg (f : Fn) (n : Nat) : Prop := ∀ i, n ≤ i → f i = 0
def co (l : List Rat) (i : Nat) : Rat := l.getD i 0
def Ca (l : List Rat) : Prop := l.length = 0 ∨ co l (l.length - 1) ≠ 0
def SzF (f : Fn) (k : Nat) : Prop := ∃ e : Int, e ≠ 0 ∧ L e.natAbs ≤ k ∧ ∀ i, ∃ n : Int, L n.natAbs ≤ k ∧ f i * (e : Rat) = (n : Rat)
structure ChZ (p q : List Rat) (n K : Nat) : Prop where
 cp : Ca p
 cq : Ca q
 lt : q.length < p.length
 ln : q.length ≤ n
 lp : p.length ≤ n + 1
 z : ∃ k, SzF (co p) k ∧ SzF (co q) k ∧ (k + 1) * 2 ^ (p.length + q.length) ≤ K
theorem nJ (ls : List Nat) (y : AV) (g : Heap) (xs : List AV) : nestJ ls (some (y, g)) xs = (nestL ls g xs).map fun q => (y :: q.1, q.2) := rfl
theorem nK (h : Heap) (q z o n : Nat) (ap : Bool) (z' : Nat) (es : List (List AV)) : nestK h q z o n (some (.sl ap z' es)) = some (.own (ap && decide (o = 0)) z ((es.drop o).take n), h.put q .dead) := rfl
theorem any_drop {α : Type} {p : α → Bool} {l : List α} {i : Nat} (d : α) (h : i < l.length) : (l.drop i).any p = (p (l.getD i d) || (l.drop (i + 1)).any p) := by
 rw [List.drop_eq_getElem_cons h, List.any_cons, za, zh h]; rfl
theorem LE_zero {k : Nat} : LE k = 0 ↔ k = 0 := by
 show (E k).length = 0 ↔ _
 rw [List.length_eq_zero_iff, E_nil]
theorem r3from_c {q : Bool} {l d : List Int} {k : Nat} (hk : k ≤ 100000000) (h : Sm l d k) : ∃ (n : Int) (m : Nat), R FF 216 [(AV.agg [AV.b q, (AV.l 1 (List.map u l)), (AV.l 1 (List.map u d))])] = some (AV.agg [AV.b (ng n), (AV.l 1 (List.map n64 (E (Int.natAbs n)))), (AV.l 1 (List.map n64 (E m)))]) ∧ m ≠ 0 ∧ mkRat n m = qv q l d ∧ L n.natAbs ≤ max k 1 ∧ L m ≤ max k 1 := by
 have f1 := from_c h.2.1 (show d.length ≤ 1000000000000 by have := h.2.2; omega)
 have f2 := rfrom_c (q := q) h.1.1 (show l.length ≤ 1000000000000 by have := h.1.2; omega)
 have h5 : (E (W d)).length = LE (W d) := rfl
 by_cases h0 : W d = 0
 ·have g0 : (LE (W d) : Int) = 0 := by have := LE_zero.2 h0; omega
  have s1 := rsmall_c (x := 0) (by omega) (by omega)
  have s2 := small_c (x := 1) (n := 1) rfl (by omega)
  have s3 : R FF 242 [(AV.i .i64 0), (AV.i .i64 1)] = some (AV.agg [AV.b (ng 0), (AV.l 1 (List.map n64 (E (Int.natAbs 0)))), (AV.l 1 (List.map n64 (E 1)))]) := by
   rw [R_go FF F242 c242.eq_1]
   simp only [RB, RL, un, St.none, Nat.reduceEqDiff, Nat.reduceAdd, Nat.reduceMul, Nat.reduceMod, Nat.reduceLeDiff, Nat.reduceLT, Int.reduceLT, Int.reduceLE, Int.reduceEq, Int.reduceToNat, Int.reduceSub, Int.reduceNeg, Int.reduceAdd, ↓reduceIte, reduceCtorEq, pack, pid, parN, lid, chkK, apartV, Heap.none, s1, s2]
  refine ⟨0, 1, ?_, by decide, ?_, ?_, ?_⟩
  ·rw [R_go FF F216 c216.eq_1]
   simp only [RB, RL, un, St.none, Nat.reduceEqDiff, Nat.reduceAdd, Nat.reduceMul, Nat.reduceMod, Nat.reduceLeDiff, Nat.reduceLT, Int.reduceLT, Int.reduceLE, Int.reduceEq, Int.reduceToNat, Int.reduceSub, Int.reduceNeg, Int.reduceAdd, ↓reduceIte, reduceCtorEq, pack, pid, parN, lid, chkK, apartV, Heap.none, f1, f2, s3, h5, g0]
  ·unfold qv; rw [h0, Rat.mkRat_zero]; rfl
  ·exact zu (L_le (k := 0) (by decide)) (by omega)
  ·exact zu (L_le (k := 1) (by decide)) (by omega)
 ·have g0 : ¬ (LE (W d) : Int) = 0 := by have := LE_zero (k := W d); omega
  refine ⟨wv q l, W d, ?_, h0, rfl, ?_, ?_⟩
  ·rw [R_go FF F216 c216.eq_1]
   simp only [RB, RL, un, St.none, Nat.reduceEqDiff, Nat.reduceAdd, Nat.reduceMul, Nat.reduceMod, Nat.reduceLeDiff, Nat.reduceLT, Int.reduceLT, Int.reduceLE, Int.reduceEq, Int.reduceToNat, Int.reduceSub, Int.reduceNeg, Int.reduceAdd, ↓reduceIte, reduceCtorEq, pack, pid, parN, lid, chkK, apartV, Heap.none, f1, f2, h5, g0]
  ·exact zu (wv_L q l) (by have := h.1.2; omega)
  ·exact zu (L_W d) (by have := h.2.2; omega)
theorem r3den_c {n : Int} {m : Nat} : R FF 257 [(AV.agg [AV.b (ng n), (AV.l 1 (List.map n64 (E (Int.natAbs n)))), (AV.l 1 (List.map n64 (E m)))])] = some (AV.agg [AV.b (ng ((m : Int))), (AV.l 1 (List.map n64 (E (Int.natAbs ((m : Int))))))]) := by
 have f1 := rmake_c false m
 rw [show sv false m = (m : Int) from rfl] at f1
 rw [R_go FF F257 c257.eq_1]
 simp only [RB, RL, un, St.none, Nat.reduceEqDiff, Nat.reduceAdd, Nat.reduceMul, Nat.reduceMod, Nat.reduceLeDiff, Nat.reduceLT, Int.reduceLT, Int.reduceLE, Int.reduceEq, Int.reduceToNat, Int.reduceSub, Int.reduceNeg, Int.reduceAdd, ↓reduceIte, reduceCtorEq, pack, pid, parN, lid, chkK, apartV, Heap.none, f1]
theorem r3order_c {n n' : Int} {m m' k : Nat} (hk : k ≤ 100000000) (h1 : L n.natAbs ≤ k) (h2 : L m ≤ k) (h3 : L n'.natAbs ≤ k) (h4 : L m' ≤ k) : R FF 241 [(AV.agg [AV.b (ng n), (AV.l 1 (List.map n64 (E (Int.natAbs n)))), (AV.l 1 (List.map n64 (E m)))]), (AV.agg [AV.b (ng (n')), (AV.l 1 (List.map n64 (E (Int.natAbs (n'))))), (AV.l 1 (List.map n64 (E (m'))))])] = some (AV.i .i64 (cmp (n * (m' : Int)) (n' * (m : Int)))) := by
 have d1 := r3den_c (n := n) (m := m)
 have d2 := r3den_c (n := n') (m := m')
 have e1 := LE_L n.natAbs
 have e2 := LE_L n'.natAbs
 have e3 := LE_L m
 have e4 := LE_L m'
 have t1 := rtimes_c (a := n) (b := (m' : Int)) (by rw [Int.natAbs_natCast]; omega)
 have t2 := rtimes_c (a := n') (b := (m : Int)) (by rw [Int.natAbs_natCast]; omega)
 have e5 := LE_mul n.natAbs m'
 have e6 := LE_mul n'.natAbs m
 have o1 := rord_c (a := n * (m' : Int)) (b := n' * (m : Int)) (by rw [Int.natAbs_mul, Int.natAbs_natCast]; omega) (by rw [Int.natAbs_mul, Int.natAbs_natCast]; omega)
 rw [R_go FF F241 c241.eq_1]
 simp only [RB, RL, un, St.none, Nat.reduceEqDiff, Nat.reduceAdd, Nat.reduceMul, Nat.reduceMod, Nat.reduceLeDiff, Nat.reduceLT, Int.reduceLT, Int.reduceLE, Int.reduceEq, Int.reduceToNat, Int.reduceSub, Int.reduceNeg, Int.reduceAdd, ↓reduceIte, reduceCtorEq, pack, pid, parN, lid, chkK, apartV, Heap.none, d1, d2, t1, t2, o1]
theorem r3right_c {x : Rat} (hx : sq x ≤ 100000000) : R FF 240 [(AV.agg [AV.b (ng (Rat.num x)), (AV.l 1 (List.map u (D (Int.natAbs (Rat.num x))))), (AV.l 1 (List.map u (D (Rat.den x))))])] = some (.b true) := by
 have n1 := sq_num x
 have n2 := sq_den x
 have r1 := rright_c (D_U x.num.natAbs) (show L _ ≤ _ by omega)
 have r2 := rright_c (D_U x.den) (show L _ ≤ _ by omega)
 rw [W_D, decide_eq_true rfl] at r1 r2
 have f1 := from_D (n := x.num.natAbs) (by omega)
 have f2 := from_D (n := x.den) (by omega)
 have e1 := LE_L x.num.natAbs
 have e2 := LE_L x.den
 have g1 := rgcd_c (a := x.num.natAbs) (b := x.den) (by omega) (by omega)
 rw [x.reduced] at g1
 have s1 := small_c (x := 1) (n := 1) rfl (by omega)
 have o1 := rorder_c (m := 1) (n := 1) (zu (LE_u64 (n := 1) (by omega)) (by omega)) (zu (LE_u64 (n := 1) (by omega)) (by omega))
 rw [show cmp ((1 : Nat) : Int) ((1 : Nat) : Int) = 0 from rfl] at o1
 have h5 : (D x.den).length = L x.den := rfl
 have h6 : (D x.num.natAbs).length = L x.num.natAbs := rfl
 have h7 : ¬ (L x.den : Int) = 0 := by have := (L_pos (k := x.den)).2 (Nat.pos_of_ne_zero x.den_nz); omega
 by_cases h0 : x.num = 0
 ·have h8 : (L x.num.natAbs : Int) = 0 := by have := L_pos (k := x.num.natAbs); omega
  have h9 : ng x.num = false := ng_false.2 (by omega)
  rw [R_go FF F240 c240.eq_1]
  simp only [RB, RL, un, St.none, Nat.reduceEqDiff, Nat.reduceAdd, Nat.reduceMul, Nat.reduceMod, Nat.reduceLeDiff, Nat.reduceLT, Int.reduceLT, Int.reduceLE, Int.reduceEq, Int.reduceToNat, Int.reduceSub, Int.reduceNeg, Int.reduceAdd, ↓reduceIte, reduceCtorEq, pack, pid, parN, lid, chkK, apartV, Heap.none, r1, r2, f1, f2, g1, s1, o1, h5, h6, h7, h8, h9]
 ·have h8 : ¬ (L x.num.natAbs : Int) = 0 := by have := (L_pos (k := x.num.natAbs)).2 (by omega); omega
  rw [R_go FF F240 c240.eq_1]
  simp only [RB, RL, un, St.none, Nat.reduceEqDiff, Nat.reduceAdd, Nat.reduceMul, Nat.reduceMod, Nat.reduceLeDiff, Nat.reduceLT, Int.reduceLT, Int.reduceLE, Int.reduceEq, Int.reduceToNat, Int.reduceSub, Int.reduceNeg, Int.reduceAdd, ↓reduceIte, reduceCtorEq, pack, pid, parN, lid, chkK, apartV, Heap.none, r1, r2, f1, f2, g1, s1, o1, h5, h6, h7, h8]
theorem is3_c {x : Rat} {n : Int} {m k : Nat} (hk : k ≤ 100000000) (hx : sq x ≤ k) (h1 : L n.natAbs ≤ k) (h2 : L m ≤ k) (h0 : m ≠ 0) : R FF 215 [(AV.agg [AV.b (ng (Rat.num x)), (AV.l 1 (List.map u (D (Int.natAbs (Rat.num x))))), (AV.l 1 (List.map u (D (Rat.den x))))]), (AV.agg [AV.b (ng n), (AV.l 1 (List.map n64 (E (Int.natAbs n)))), (AV.l 1 (List.map n64 (E m)))])] = some (.b (decide (x = mkRat n m))) := by
 have r1 := r3right_c (x := x) (by omega)
 have n1 := sq_num x
 have n2 := sq_den x
 have f1 := rfrom_c (q := ng x.num) (D_U x.num.natAbs) (show L _ ≤ _ by omega)
 rw [wv_ci] at f1
 have f2 := from_D (n := x.den) (by omega)
 have h5 : (E x.den).length = LE x.den := rfl
 have g0 : ¬ (LE x.den : Int) = 0 := by have := LE_zero (k := x.den); have := x.den_nz; omega
 have f3 : R FF 216 [(AV.agg [AV.b (ng (Rat.num x)), (AV.l 1 (List.map u (D (Int.natAbs (Rat.num x))))), (AV.l 1 (List.map u (D (Rat.den x))))])] = some (AV.agg [AV.b (ng x.num), (AV.l 1 (List.map n64 (E (Int.natAbs x.num)))), (AV.l 1 (List.map n64 (E x.den)))]) := by
  rw [R_go FF F216 c216.eq_1]
  simp only [RB, RL, un, St.none, Nat.reduceEqDiff, Nat.reduceAdd, Nat.reduceMul, Nat.reduceMod, Nat.reduceLeDiff, Nat.reduceLT, Int.reduceLT, Int.reduceLE, Int.reduceEq, Int.reduceToNat, Int.reduceSub, Int.reduceNeg, Int.reduceAdd, ↓reduceIte, reduceCtorEq, pack, pid, parN, lid, chkK, apartV, Heap.none, f1, f2, h5, g0]
 have o1 := r3order_c (n := x.num) (m := x.den) (n' := n) (m' := m) hk (by omega) (by omega) h1 h2
 have e : decide (cmp (x.num * (m : Int)) (n * (x.den : Int)) = 0) = decide (x = mkRat n m) := decide_eq_decide.2 (by
  rw [cmp_eq_iff]
  conv => rhs; lhs; rw [← Rat.mkRat_self x]
  rw [Rat.mkRat_eq_iff x.den_nz h0])
 rw [R_go FF F215 c215.eq_1]
 simp only [RB, RL, un, St.none, Nat.reduceEqDiff, Nat.reduceAdd, Nat.reduceMul, Nat.reduceMod, Nat.reduceLeDiff, Nat.reduceLT, Int.reduceLT, Int.reduceLE, Int.reduceEq, Int.reduceToNat, Int.reduceSub, Int.reduceNeg, Int.reduceAdd, ↓reduceIte, reduceCtorEq, pack, pid, parN, lid, chkK, apartV, Heap.none, r1, f3, o1, e]
theorem is10_c {x : Rat} {q : Bool} {l d : List Int} {k : Nat} (hk : k ≤ 100000000) (h1k : 1 ≤ k) (hx : sq x ≤ k) (h : Sm l d k) : R FF 171 [(AV.agg [AV.b (ng (Rat.num x)), (AV.l 1 (List.map u (D (Int.natAbs (Rat.num x))))), (AV.l 1 (List.map u (D (Rat.den x))))]), (AV.agg [AV.b q, (AV.l 1 (List.map u l)), (AV.l 1 (List.map u d))])] = some (.b (decide (x = qv q l d))) := by
 obtain ⟨n, m, f1, h0, f2, h1, h2⟩ := r3from_c (q := q) hk h
 rw [Nat.max_eq_left h1k] at h1 h2
 have g1 := is3_c hk hx h1 h2 h0
 rw [f2] at g1
 rw [R_go FF F171 c171.eq_1]
 simp only [RB, RL, un, St.none, Nat.reduceEqDiff, Nat.reduceAdd, Nat.reduceMul, Nat.reduceMod, Nat.reduceLeDiff, Nat.reduceLT, Int.reduceLT, Int.reduceLE, Int.reduceEq, Int.reduceToNat, Int.reduceSub, Int.reduceNeg, Int.reduceAdd, ↓reduceIte, reduceCtorEq, pack, pid, parN, lid, chkK, apartV, Heap.none, f1, g1]
def eX (i : Nat) : List AV := [.i .i64 (i : Int)]
theorem eX_rules : (∀ x, (eX x).length = 1) ∧ (∀ h x, (eX x).map (tellC h) = eX x) ∧ (∀ h x, (eX x).map (tell0 h) = eX x) ∧ (∀ h x, (eX x).flatMap (refC h) = []) ∧ (∀ x, (eX x).flatMap ref0 = []) ∧
  (∀ x, ldC false 1 0 (eX x) = some (.i .i64 (x : Int))) := by
 refine ⟨?_, ?_, ?_, ?_, ?_, ?_⟩ <;> intros <;> rfl
theorem eX_row : type_of% (row_rules eX 0 1 (fun _ => rfl) (fun _ _ => rfl)) := row_rules eX 0 1 (fun _ => rfl) (fun _ _ => rfl)
def bdR (len : Nat) (f : Int) (n : RNd) : Bool := !n.leaf && (decide (n.ft < 0) || decide (f ≤ n.ft) || decide (n.lft < 1) || decide ((len : Int) ≤ n.lft) || decide (n.rgt < 1) || decide ((len : Int) ≤ n.rgt))
def fstI (p : RNd → Bool) (t : List RNd) (i : Nat) : Nat := i + (t.drop i).findIdx p
theorem fstI_step {p : RNd → Bool} {t : List RNd} {i : Nat} (h : i < t.length) : fstI p t i = if p (t.getD i dNd) then i else fstI p t (i + 1) := by
 unfold fstI
 rw [List.drop_eq_getElem_cons h, List.findIdx_cons, za, zh h, Option.getD_some]
 cases p t[i]
 ·show i + (_ + 1) = _; rw [if_neg (by decide)]; omega
 ·rfl
theorem ranges_l0 {t : List RNd} {f : Int} (ht : t.length ≤ 100000) : ∀ (d i : Nat), i + d = t.length →
  LP FF [(0, 0), (1, 0), (8, 0), (9, 0), (10, 0)] [(4, 0), (5, 0)] b249_0 [.l 14 (t.map eNd), (AV.i .i64 f), .l 14 (t.map eNd), (AV.i .i64 ((t.length : Int))), (AV.i .i64 ((i : Int)))] = if (t.drop i).any (bdR t.length f) then some (.ret, [(AV.i .i64 ((fstI (bdR t.length f) t i : Int))), (AV.i .i64 8)]) else some (.exit 0, [.junk, .junk]) := by
 intro d
 induction d with
 | zero =>
  intro i hi
  have c1 : ¬ (i : Int) < (t.length : Int) := by omega
  rw [List.drop_of_length_le (by omega), List.any_nil, if_neg (by decide)]
  rw [LP_go FF b249_0.eq_1]
  simp only [RB, RL, un, St.none, Nat.reduceEqDiff, Nat.reduceAdd, Nat.reduceMul, Nat.reduceMod, Nat.reduceLeDiff, Nat.reduceLT, Int.reduceLT, Int.reduceLE, Int.reduceEq, Int.reduceToNat, Int.reduceSub, Int.reduceNeg, Int.reduceAdd, ↓reduceIte, reduceCtorEq, pack, pid, parN, lid, chkK, apartV, Heap.none, c1]
 | succ d ih =>
  intro i hi
  have hlt : i < t.length := by omega
  have h9 := ih (i + 1) (by omega)
  have c1 : (i : Int) < (t.length : Int) := by omega
  have e2 : IntKind.i64.wrap ((i : Int) + 1) = ((i + 1 : Nat) : Int) := w64succ (by omega)
  rw [any_drop dNd hlt, fstI_step hlt]
  obtain ⟨x, hx⟩ : ∃ x, x = t.getD i dNd := ⟨_, rfl⟩
  rw [← hx]
  have hx' := hx.symm
  have hb : bdR t.length f x = (!x.leaf && (decide (x.ft < 0) || decide (f ≤ x.ft) || decide (x.lft < 1) || decide ((t.length : Int) ≤ x.lft) || decide (x.rgt < 1) || decide ((t.length : Int) ≤ x.rgt))) := rfl
  obtain ⟨xl, xf, xc, xa, xb, xm, xv, xw⟩ := x
  simp only at hb
  cases xl with
  | true =>
   rw [show bdR t.length f ⟨true, xf, xc, xa, xb, xm, xv, xw⟩ = false from rfl, Bool.false_or, if_neg (show ¬ false = true by decide)]
   rw [LP_go FF b249_0.eq_1]
   simp only [RB, RL, un, St.none, Nat.reduceEqDiff, Nat.reduceAdd, Nat.reduceMul, Nat.reduceMod, Nat.reduceLeDiff, Nat.reduceLT, Int.reduceLT, Int.reduceLE, Int.reduceEq, Int.reduceToNat, Int.reduceSub, Int.reduceNeg, Int.reduceAdd, ↓reduceIte, reduceCtorEq, pack, pid, parN, lid, chkK, apartV, Heap.none, c1, hx', eNd_rules, eNd_row, eNd, zd, e2, n64]
   exact h9
  | false =>
   by_cases b1 : xf < 0
   ·rw [show bdR t.length f ⟨false, xf, xc, xa, xb, xm, xv, xw⟩ = true by rw [hb]; simp [b1], Bool.true_or, if_pos rfl, if_pos rfl]
    rw [LP_go FF b249_0.eq_1]
    simp only [RB, RL, un, St.none, Nat.reduceEqDiff, Nat.reduceAdd, Nat.reduceMul, Nat.reduceMod, Nat.reduceLeDiff, Nat.reduceLT, Int.reduceLT, Int.reduceLE, Int.reduceEq, Int.reduceToNat, Int.reduceSub, Int.reduceNeg, Int.reduceAdd, ↓reduceIte, reduceCtorEq, pack, pid, parN, lid, chkK, apartV, Heap.none, c1, hx', eNd_rules, eNd_row, eNd, zd, e2, n64, b1]
   by_cases b2 : f ≤ xf
   ·rw [show bdR t.length f ⟨false, xf, xc, xa, xb, xm, xv, xw⟩ = true by rw [hb]; simp [b1, b2], Bool.true_or, if_pos rfl, if_pos rfl]
    rw [LP_go FF b249_0.eq_1]
    simp only [RB, RL, un, St.none, Nat.reduceEqDiff, Nat.reduceAdd, Nat.reduceMul, Nat.reduceMod, Nat.reduceLeDiff, Nat.reduceLT, Int.reduceLT, Int.reduceLE, Int.reduceEq, Int.reduceToNat, Int.reduceSub, Int.reduceNeg, Int.reduceAdd, ↓reduceIte, reduceCtorEq, pack, pid, parN, lid, chkK, apartV, Heap.none, c1, hx', eNd_rules, eNd_row, eNd, zd, e2, n64, b1, b2]
   by_cases b3 : xa < 1
   ·rw [show bdR t.length f ⟨false, xf, xc, xa, xb, xm, xv, xw⟩ = true by rw [hb]; simp [b1, b2, b3], Bool.true_or, if_pos rfl, if_pos rfl]
    rw [LP_go FF b249_0.eq_1]
    simp only [RB, RL, un, St.none, Nat.reduceEqDiff, Nat.reduceAdd, Nat.reduceMul, Nat.reduceMod, Nat.reduceLeDiff, Nat.reduceLT, Int.reduceLT, Int.reduceLE, Int.reduceEq, Int.reduceToNat, Int.reduceSub, Int.reduceNeg, Int.reduceAdd, ↓reduceIte, reduceCtorEq, pack, pid, parN, lid, chkK, apartV, Heap.none, c1, hx', eNd_rules, eNd_row, eNd, zd, e2, n64, b1, b2, b3]
   by_cases b4 : (t.length : Int) ≤ xa
   ·rw [show bdR t.length f ⟨false, xf, xc, xa, xb, xm, xv, xw⟩ = true by rw [hb]; simp [b1, b2, b3, b4], Bool.true_or, if_pos rfl, if_pos rfl]
    rw [LP_go FF b249_0.eq_1]
    simp only [RB, RL, un, St.none, Nat.reduceEqDiff, Nat.reduceAdd, Nat.reduceMul, Nat.reduceMod, Nat.reduceLeDiff, Nat.reduceLT, Int.reduceLT, Int.reduceLE, Int.reduceEq, Int.reduceToNat, Int.reduceSub, Int.reduceNeg, Int.reduceAdd, ↓reduceIte, reduceCtorEq, pack, pid, parN, lid, chkK, apartV, Heap.none, c1, hx', eNd_rules, eNd_row, eNd, zd, e2, n64, b1, b2, b3, b4]
   by_cases b5 : xb < 1
   ·rw [show bdR t.length f ⟨false, xf, xc, xa, xb, xm, xv, xw⟩ = true by rw [hb]; simp [b1, b2, b3, b4, b5], Bool.true_or, if_pos rfl, if_pos rfl]
    rw [LP_go FF b249_0.eq_1]
    simp only [RB, RL, un, St.none, Nat.reduceEqDiff, Nat.reduceAdd, Nat.reduceMul, Nat.reduceMod, Nat.reduceLeDiff, Nat.reduceLT, Int.reduceLT, Int.reduceLE, Int.reduceEq, Int.reduceToNat, Int.reduceSub, Int.reduceNeg, Int.reduceAdd, ↓reduceIte, reduceCtorEq, pack, pid, parN, lid, chkK, apartV, Heap.none, c1, hx', eNd_rules, eNd_row, eNd, zd, e2, n64, b1, b2, b3, b4, b5]
   by_cases b6 : (t.length : Int) ≤ xb
   ·rw [show bdR t.length f ⟨false, xf, xc, xa, xb, xm, xv, xw⟩ = true by rw [hb]; simp [b1, b2, b3, b4, b5, b6], Bool.true_or, if_pos rfl, if_pos rfl]
    rw [LP_go FF b249_0.eq_1]
    simp only [RB, RL, un, St.none, Nat.reduceEqDiff, Nat.reduceAdd, Nat.reduceMul, Nat.reduceMod, Nat.reduceLeDiff, Nat.reduceLT, Int.reduceLT, Int.reduceLE, Int.reduceEq, Int.reduceToNat, Int.reduceSub, Int.reduceNeg, Int.reduceAdd, ↓reduceIte, reduceCtorEq, pack, pid, parN, lid, chkK, apartV, Heap.none, c1, hx', eNd_rules, eNd_row, eNd, zd, e2, n64, b1, b2, b3, b4, b5, b6]
   ·rw [show bdR t.length f ⟨false, xf, xc, xa, xb, xm, xv, xw⟩ = false by rw [hb]; simp [b1, b2, b3, b4, b5, b6], Bool.false_or, if_neg (show ¬ false = true by decide)]
    rw [LP_go FF b249_0.eq_1]
    simp only [RB, RL, un, St.none, Nat.reduceEqDiff, Nat.reduceAdd, Nat.reduceMul, Nat.reduceMod, Nat.reduceLeDiff, Nat.reduceLT, Int.reduceLT, Int.reduceLE, Int.reduceEq, Int.reduceToNat, Int.reduceSub, Int.reduceNeg, Int.reduceAdd, ↓reduceIte, reduceCtorEq, pack, pid, parN, lid, chkK, apartV, Heap.none, c1, hx', eNd_rules, eNd_row, eNd, zd, e2, n64, b1, b2, b3, b4, b5, b6]
    exact h9
theorem ranges_c {t : List RNd} {f : Int} (ht : t.length ≤ 100000) : ∃ i : Int, R FF 249 [.l 14 (t.map eNd), (AV.i .i64 f)] = some (.tup [(AV.i .i64 ((if t.any (bdR t.length f) then i else 0))), (AV.i .i64 ((if t.any (bdR t.length f) then 8 else 0)))]) := by
 refine ⟨(fstI (bdR t.length f) t 0 : Int), ?_⟩
 have l0 := ranges_l0 (f := f) ht t.length 0 (by omega)
 rw [zy, List.drop_zero] at l0
 by_cases h : t.any (bdR t.length f) = true
 ·rw [if_pos h] at l0
  rw [if_pos h, if_pos h]
  rw [R_go FF F249 c249.eq_1]
  simp only [RB, RL, un, St.none, Nat.reduceEqDiff, Nat.reduceAdd, Nat.reduceMul, Nat.reduceMod, Nat.reduceLeDiff, Nat.reduceLT, Int.reduceLT, Int.reduceLE, Int.reduceEq, Int.reduceToNat, Int.reduceSub, Int.reduceNeg, Int.reduceAdd, ↓reduceIte, reduceCtorEq, pack, pid, parN, lid, chkK, apartV, Heap.none, l0]
 ·rw [if_neg h] at l0
  rw [if_neg h, if_neg h]
  rw [R_go FF F249 c249.eq_1]
  simp only [RB, RL, un, St.none, Nat.reduceEqDiff, Nat.reduceAdd, Nat.reduceMul, Nat.reduceMod, Nat.reduceLeDiff, Nat.reduceLT, Int.reduceLT, Int.reduceLE, Int.reduceEq, Int.reduceToNat, Int.reduceSub, Int.reduceNeg, Int.reduceAdd, ↓reduceIte, reduceCtorEq, pack, pid, parN, lid, chkK, apartV, Heap.none, l0]
def runV (ov : Nat → List AV → Option AV) (F : Nat → Option PF) : Nat → Nat → List AV → Option AV
 | 0, _, _ => none
 | k + 1, f, xs => match ov f xs with
  | some v => some v
  | none => (F f).bind fun p => (p.body.ev (runV ov F k) (loopF (runV ov F k) k) (un (parN p.lent 0 xs) xs)).bind (finE p)
theorem loopF_R (F : Nat → Option PF) : ∀ k, LeL (loopF (R F) k) (LP F) := by
 intro k
 induction k with
 | zero => intro l o x vs y e; cases e
 | succ k ih =>
  intro l o x vs
  rw [LP_eq]
  exact Le.bind (PC.mono (fun _ _ => Le.refl _) ih x _) fun p => round_mono (ih l o x) p
theorem runV_ok {ov : Nat → List AV → Option AV} {F : Nat → Option PF} (h : LeC ov (R F)) : ∀ k, LeC (runV ov F k) (R F) := by
 intro k
 induction k with
 | zero => intro f xs y e; cases e
 | succ k ih =>
  intro f xs y e
  rw [runV] at e
  cases h9 : ov f xs with
  | some v => rw [h9] at e; exact h f xs y (h9.trans e)
  | none =>
   rw [h9] at e
   rw [R_eq]
   refine Le.bind (Le.refl _) (fun p => Le.bind ?_ fun q => Le.refl _) y e
   exact PC.mono ih (fun l o x vs => Le.trans (loopF_call ih k l o x vs) (loopF_R F k l o x vs)) _ _
def dgf : Nat → Nat → List Int
 | 0, _ => []
 | k + 1, n => if n = 0 then [] else ((n % 4294967296 : Nat) : Int) :: dgf k (n / 4294967296)
theorem dgf_D : ∀ k n, n < 4294967296 ^ k → dgf k n = D n := by
 intro k
 induction k with
 | zero =>
  intro n h
  have : n = 0 := by rw [Nat.pow_zero] at h; omega
  subst this
  exact (Dg.dg_zero _).symm
 | succ k ih =>
  intro n h
  unfold dgf
  by_cases h0 : n = 0
  ·rw [if_pos h0, h0]; exact (Dg.dg_zero _).symm
  ·rw [if_neg h0]
   show _ = Dg.dg 4294967296 n
   rw [Dg.dg_succ (by decide) h0, ih (n / 4294967296) (by rw [Nat.div_lt_iff_lt_mul (by decide), ← Nat.pow_succ]; exact h)]
   rfl
def encQ (x : Rat) : Option AV :=
 if x.num.natAbs < 4294967296 ^ 20 ∧ x.den < 4294967296 ^ 20 then some (.agg [.b (decide (x.num < 0)), .l 1 ((dgf 20 x.num.natAbs).map u), .l 1 ((dgf 20 x.den).map u)]) else none
theorem encQ_ok {x : Rat} {v : AV} (h : encQ x = some v) : v = (AV.agg [AV.b (ng (Rat.num x)), (AV.l 1 (List.map u (D (Int.natAbs (Rat.num x))))), (AV.l 1 (List.map u (D (Rat.den x))))]) := by
 unfold encQ at h
 split at h
 ·rename_i h1
  rw [dgf_D _ _ h1.1, dgf_D _ _ h1.2] at h
  exact (Option.some.inj h).symm
 ·cases h
def decW : List (List AV) → Option (List Int)
 | [] => some []
 | [.i .u64 n] :: l => if 0 ≤ n ∧ n ≤ 18446744073709551615 then (decW l).map (n :: ·) else none
 | _ => none
theorem decW_ok : ∀ {es : List (List AV)} {l : List Int}, decW es = some l → es = l.map u ∧ U l := by
 intro es
 induction es with
 | nil => intro l h; cases h; exact ⟨rfl, fun _ h => (List.not_mem_nil h).elim⟩
 | cons e es ih =>
  intro l h
  unfold decW at h
  split at h
  ·rename_i h'; cases h'
  ·rename_i n l' heq
   cases heq
   split at h
   ·rename_i hn
    obtain ⟨l2, h2, rfl⟩ := Option.map_eq_some_iff.1 h
    obtain ⟨g1, g2⟩ := ih h2
    exact ⟨by rw [g1]; rfl, fun x hx => (List.mem_cons.1 hx).elim (fun e => by rw [e]; exact hn) (g2 x)⟩
   ·cases h
  ·cases h
def decQ : AV → Option (Bool × List Int × List Int)
 | .agg [.b q, .l 1 a, .l 1 b] => (decW a).bind fun l => (decW b).bind fun d => if l.length ≤ 100 ∧ d.length ≤ 100 then some (q, l, d) else none
 | _ => none
theorem decQ_ok {v : AV} {x : Bool × List Int × List Int} (h : decQ v = some x) : v = (AV.agg [AV.b x.1, (AV.l 1 (List.map u x.2.1)), (AV.l 1 (List.map u x.2.2))]) ∧ Sm x.2.1 x.2.2 100 := by
 unfold decQ at h
 split at h
 ·rename_i q a b
  obtain ⟨l, h1, h⟩ := Option.bind_eq_some_iff.1 h
  obtain ⟨d, h2, h⟩ := Option.bind_eq_some_iff.1 h
  split at h
  ·rename_i hl
   cases h
   obtain ⟨rfl, u1⟩ := decW_ok h1
   obtain ⟨rfl, u2⟩ := decW_ok h2
   exact ⟨rfl, ⟨u1, hl.1⟩, u2, hl.2⟩
  ·cases h
 ·cases h
def two (g : Rat → Rat → Option AV) : List AV → Option AV
 | [a, b] => (decQ a).bind fun x => (decQ b).bind fun y => g (qv x.1 x.2.1 x.2.2) (qv y.1 y.2.1 y.2.2)
 | _ => none
def one (g : Rat → Option AV) : List AV → Option AV
 | [a] => (decQ a).bind fun x => g (qv x.1 x.2.1 x.2.2)
 | _ => none
theorem two_ok {f : Nat} {g : Rat → Rat → Option AV} (h : ∀ q l d r m e v, Sm l d 100 → Sm m e 100 → g (qv q l d) (qv r m e) = some v → R FF f [(AV.agg [AV.b q, (AV.l 1 (List.map u l)), (AV.l 1 (List.map u d))]), (AV.agg [AV.b r, (AV.l 1 (List.map u m)), (AV.l 1 (List.map u e))])] = some v) : ∀ xs, Le (two g xs) (R FF f xs) := by
 intro xs v hv
 unfold two at hv
 split at hv
 ·obtain ⟨x, h1, k1⟩ := Option.bind_eq_some_iff.1 hv
  obtain ⟨y, h2, k2⟩ := Option.bind_eq_some_iff.1 k1
  obtain ⟨e1, s1⟩ := decQ_ok h1
  obtain ⟨e2, s2⟩ := decQ_ok h2
  rw [e1, e2]
  exact h _ _ _ _ _ _ _ s1 s2 k2
 ·cases hv
theorem one_ok {f : Nat} {g : Rat → Option AV} (h : ∀ q l d v, Sm l d 100 → g (qv q l d) = some v → R FF f [(AV.agg [AV.b q, (AV.l 1 (List.map u l)), (AV.l 1 (List.map u d))])] = some v) : ∀ xs, Le (one g xs) (R FF f xs) := by
 intro xs v hv
 unfold one at hv
 split at hv
 ·obtain ⟨x, h1, k1⟩ := Option.bind_eq_some_iff.1 hv
  obtain ⟨e1, s1⟩ := decQ_ok h1
  rw [e1]
  exact h _ _ _ _ s1 k1
 ·cases hv
def ovF (f : Nat) (g : List AV → Option AV) (rest : Nat → List AV → Option AV) (n : Nat) (xs : List AV) : Option AV := if n = f then g xs else rest n xs
theorem ovF_ok {f : Nat} {g : List AV → Option AV} {rest : Nat → List AV → Option AV} (h1 : ∀ xs, Le (g xs) (R FF f xs)) (h2 : LeC rest (R FF)) : LeC (ovF f g rest) (R FF) := by
 intro n xs v h
 unfold ovF at h
 split at h
 ·rename_i e; subst e; exact h1 xs v h
 ·exact h2 n xs v h
def nothing (n : Nat) (xs : List AV) : Option AV := none
theorem nothing_ok : LeC nothing (R FF) := fun _ _ _ h => by cases h
theorem ov_add (xs : List AV) : Le (two (fun x y => encQ (x + y)) xs) (R FF 31 xs) := two_ok (fun q l d r m e v h1 h2 h => by rw [encQ_ok h]; exact qadd_s h1 h2 (by omega) (by omega)) xs
theorem ov_sub (xs : List AV) : Le (two (fun x y => encQ (x - y)) xs) (R FF 55 xs) := two_ok (fun q l d r m e v h1 h2 h => by rw [encQ_ok h]; exact qsub_s h1 h2 (by omega) (by omega)) xs
theorem ov_cmp (xs : List AV) : Le (two (fun x y => some (AV.i .i64 (qcmp x y))) xs) (R FF 14 xs) := two_ok (fun q l d r m e v h1 h2 h => by rw [← Option.some.inj h]; exact qcmp_s h1 h2 (by omega) (by omega)) xs
theorem ov_same (xs : List AV) : Le (two (fun x y => some (.b (decide (x = y)))) xs) (R FF 57 xs) := two_ok (fun q l d r m e v h1 h2 h => by rw [← Option.some.inj h]; exact qsame_s h1 h2 (by omega) (by omega)) xs
theorem ov_sign (xs : List AV) : Le (one (fun x => some (AV.i .i64 (cmp x.num 0))) xs) (R FF 162 xs) := one_ok (fun q l d v h1 h => by rw [← Option.some.inj h]; exact qsign_c (by omega) h1) xs
theorem ov_clean (xs : List AV) : Le (one encQ xs) (R FF 63 xs) := one_ok (fun q l d v h1 h => by rw [encQ_ok h]; exact qclean_s h1 (by omega)) xs
def ofG : List AV → Option AV
 | [.i .i64 n] => if -1000000 < n ∧ n < 1000000 then encQ n else none
 | _ => none
theorem ov_of (xs : List AV) : Le (ofG xs) (R FF 68 xs) := by
 intro v h
 unfold ofG at h
 split at h
 ·split at h
  ·rw [encQ_ok h]; exact qof_c (by omega) (by omega)
  ·cases h
 ·cases h
def nilG (x : Rat) : List AV → Option AV
 | [] => encQ x
 | _ => none
theorem ov_zero (xs : List AV) : Le (nilG 0 xs) (R FF 54 xs) := by
 intro v h
 unfold nilG at h
 split at h
 ·rw [encQ_ok h]; exact qzero_c
 ·cases h
theorem ov_one (xs : List AV) : Le (nilG 1 xs) (R FF 56 xs) := by
 intro v h
 unfold nilG at h
 split at h
 ·rw [encQ_ok h]; exact qone_c
 ·cases h
abbrev dC : RC := (false, false, [], [])
def goV (c : Rat) (m : Bool) (x : RC) : Bool := if x.1 then m else decide (vQ x.2 < c)
theorem vcmp_c {x y : RQt} {k j : Nat} (hx : SmQ x k) (hy : SmQ y j) (hk : k ≤ 100000000000) (hj : j ≤ 100000000000) : R FF 14 [(AV.agg [AV.b x.1, (AV.l 1 (List.map u x.2.1)), (AV.l 1 (List.map u x.2.2))]), (AV.agg [AV.b y.1, (AV.l 1 (List.map u y.2.1)), (AV.l 1 (List.map u y.2.2))])] = some (AV.i .i64 (qcmp (vQ x) (vQ y))) := qcmp_s hx hy hk hj
theorem vsame_c {x y : RQt} {k j : Nat} (hx : SmQ x k) (hy : SmQ y j) (hk : k ≤ 100000000000) (hj : j ≤ 100000000000) : R FF 57 [(AV.agg [AV.b x.1, (AV.l 1 (List.map u x.2.1)), (AV.l 1 (List.map u x.2.2))]), (AV.agg [AV.b y.1, (AV.l 1 (List.map u y.2.1)), (AV.l 1 (List.map u y.2.2))])] = some (.b (decide (vQ x = vQ y))) := qsame_s hx hy hk hj
def SmT (t : List RNd) (k : Nat) : Prop := ∀ n ∈ t, SmQ n.cov k ∧ SmQ n.cut k ∧ SmQ n.val k
def bdC (n : RNd) : Bool := decide (cmp (vQ n.cov).num 0 ≤ 0)
theorem vsign_c {x : RQt} {k : Nat} (hk : k ≤ 100000000000) (h : SmQ x k) : R FF 162 [(AV.agg [AV.b x.1, (AV.l 1 (List.map u x.2.1)), (AV.l 1 (List.map u x.2.2))])] = some (AV.i .i64 (cmp (vQ x).num 0)) := qsign_c hk h
theorem covers_l0 {t : List RNd} {k : Nat} (hk : k ≤ 10000000000) (ht : t.length ≤ 100000) (hs : SmT t k) : ∀ (d i : Nat), i + d = t.length →
  LP FF [(6, 0), (7, 0), (8, 0)] [(2, 0), (3, 0)] b251_0 [.l 14 (t.map eNd), (AV.i .i64 ((t.length : Int))), (AV.i .i64 ((i : Int)))] = if (t.drop i).any bdC then some (.ret, [(AV.i .i64 ((fstI bdC t i : Int))), (AV.i .i64 12)]) else some (.exit 0, [.junk, .junk]) := by
 intro d
 induction d with
 | zero =>
  intro i hi
  have c1 : ¬ (i : Int) < (t.length : Int) := by omega
  rw [List.drop_of_length_le (by omega), List.any_nil, if_neg (by decide)]
  rw [LP_go FF b251_0.eq_1]
  simp only [RB, RL, un, St.none, Nat.reduceEqDiff, Nat.reduceAdd, Nat.reduceMul, Nat.reduceMod, Nat.reduceLeDiff, Nat.reduceLT, Int.reduceLT, Int.reduceLE, Int.reduceEq, Int.reduceToNat, Int.reduceSub, Int.reduceNeg, Int.reduceAdd, ↓reduceIte, reduceCtorEq, pack, pid, parN, lid, chkK, apartV, Heap.none, c1]
 | succ d ih =>
  intro i hi
  have hlt : i < t.length := by omega
  have h9 := ih (i + 1) (by omega)
  have c1 : (i : Int) < (t.length : Int) := by omega
  have e2 : IntKind.i64.wrap ((i : Int) + 1) = ((i + 1 : Nat) : Int) := w64succ (by omega)
  rw [any_drop dNd hlt, fstI_step hlt]
  have hm := hs _ (getD_mem' dNd hlt)
  obtain ⟨x, hx⟩ : ∃ x, x = t.getD i dNd := ⟨_, rfl⟩
  rw [← hx] at hm ⊢
  have hx' := hx.symm
  have f1 := vsign_c (by omega) hm.1
  have hb : bdC x = decide (cmp (vQ x.cov).num 0 ≤ 0) := rfl
  generalize cmp (vQ x.cov).num 0 = z at *
  obtain ⟨xl, xf, xc, xa, xb, xm, xv, xw⟩ := x
  simp only at f1
  by_cases b1 : z ≤ 0
  ·rw [hb, decide_eq_true b1, Bool.true_or, if_pos rfl, if_pos rfl]
   rw [LP_go FF b251_0.eq_1]
   simp only [RB, RL, un, St.none, Nat.reduceEqDiff, Nat.reduceAdd, Nat.reduceMul, Nat.reduceMod, Nat.reduceLeDiff, Nat.reduceLT, Int.reduceLT, Int.reduceLE, Int.reduceEq, Int.reduceToNat, Int.reduceSub, Int.reduceNeg, Int.reduceAdd, ↓reduceIte, reduceCtorEq, pack, pid, parN, lid, chkK, apartV, Heap.none, c1, hx', eNd_rules, eNd_row, eNd, zd, e2, n64, f1, b1]
  ·rw [hb, decide_eq_false b1, Bool.false_or, if_neg (show ¬ false = true by decide)]
   rw [LP_go FF b251_0.eq_1]
   simp only [RB, RL, un, St.none, Nat.reduceEqDiff, Nat.reduceAdd, Nat.reduceMul, Nat.reduceMod, Nat.reduceLeDiff, Nat.reduceLT, Int.reduceLT, Int.reduceLE, Int.reduceEq, Int.reduceToNat, Int.reduceSub, Int.reduceNeg, Int.reduceAdd, ↓reduceIte, reduceCtorEq, pack, pid, parN, lid, chkK, apartV, Heap.none, c1, hx', eNd_rules, eNd_row, eNd, zd, e2, n64, f1, b1]
   exact h9
theorem covers_c {t : List RNd} {k : Nat} (hk : k ≤ 10000000000) (ht : t.length ≤ 100000) (hs : SmT t k) : ∃ i : Int, R FF 251 [.l 14 (t.map eNd)] = some (.tup [(AV.i .i64 ((if t.any bdC then i else 0))), (AV.i .i64 ((if t.any bdC then 12 else 0)))]) := by
 refine ⟨(fstI bdC t 0 : Int), ?_⟩
 have l0 := covers_l0 hk ht hs t.length 0 (by omega)
 rw [zy, List.drop_zero] at l0
 by_cases h : t.any bdC = true
 ·rw [if_pos h] at l0
  rw [if_pos h, if_pos h]
  rw [R_go FF F251 c251.eq_1]
  simp only [RB, RL, un, St.none, Nat.reduceEqDiff, Nat.reduceAdd, Nat.reduceMul, Nat.reduceMod, Nat.reduceLeDiff, Nat.reduceLT, Int.reduceLT, Int.reduceLE, Int.reduceEq, Int.reduceToNat, Int.reduceSub, Int.reduceNeg, Int.reduceAdd, ↓reduceIte, reduceCtorEq, pack, pid, parN, lid, chkK, apartV, Heap.none, l0]
 ·rw [if_neg h] at l0
  rw [if_neg h, if_neg h]
  rw [R_go FF F251 c251.eq_1]
  simp only [RB, RL, un, St.none, Nat.reduceEqDiff, Nat.reduceAdd, Nat.reduceMul, Nat.reduceMod, Nat.reduceLeDiff, Nat.reduceLT, Int.reduceLT, Int.reduceLE, Int.reduceEq, Int.reduceToNat, Int.reduceSub, Int.reduceNeg, Int.reduceAdd, ↓reduceIte, reduceCtorEq, pack, pid, parN, lid, chkK, apartV, Heap.none, l0]
def bdS (t : List RNd) (n : RNd) : Bool := !n.leaf && !decide (vQ n.cov = vQ (t.getD n.lft.toNat dNd).cov + vQ (t.getD n.rgt.toNat dNd).cov)
theorem vadd_c {x y : RQt} {k j : Nat} (hx : SmQ x k) (hy : SmQ y j) (hk : k ≤ 40000000000) (hj : j ≤ 40000000000) : R FF 31 [(AV.agg [AV.b x.1, (AV.l 1 (List.map u x.2.1)), (AV.l 1 (List.map u x.2.2))]), (AV.agg [AV.b y.1, (AV.l 1 (List.map u y.2.1)), (AV.l 1 (List.map u y.2.2))])] = some (AV.agg [AV.b (ng (Rat.num ((vQ x + vQ y)))), (AV.l 1 (List.map u (D (Int.natAbs (Rat.num ((vQ x + vQ y))))))), (AV.l 1 (List.map u (D (Rat.den ((vQ x + vQ y))))))]) := qadd_s hx hy hk hj
theorem vsums_l0 {t : List RNd} {f : Int} {k : Nat} (hk : k ≤ 10000000000) (h1k : 1 ≤ k) (ht : t.length ≤ 100000) (hs : SmT t k) (hr : t.any (bdR t.length f) = false) : ∀ (d i : Nat), i + d = t.length →
  LP FF [(0, 0), (6, 0), (7, 0), (8, 0)] [(2, 0), (3, 0)] b252_0 [.l 14 (t.map eNd), .l 14 (t.map eNd), (AV.i .i64 ((t.length : Int))), (AV.i .i64 ((i : Int)))] = if (t.drop i).any (bdS t) then some (.ret, [(AV.i .i64 ((fstI (bdS t) t i : Int))), (AV.i .i64 13)]) else some (.exit 0, [.junk, .junk]) := by
 intro d
 induction d with
 | zero =>
  intro i hi
  have c1 : ¬ (i : Int) < (t.length : Int) := by omega
  rw [List.drop_of_length_le (by omega), List.any_nil, if_neg (by decide)]
  rw [LP_go FF b252_0.eq_1]
  simp only [RB, RL, un, St.none, Nat.reduceEqDiff, Nat.reduceAdd, Nat.reduceMul, Nat.reduceMod, Nat.reduceLeDiff, Nat.reduceLT, Int.reduceLT, Int.reduceLE, Int.reduceEq, Int.reduceToNat, Int.reduceSub, Int.reduceNeg, Int.reduceAdd, ↓reduceIte, reduceCtorEq, pack, pid, parN, lid, chkK, apartV, Heap.none, c1]
 | succ d ih =>
  intro i hi
  have hlt : i < t.length := by omega
  have h9 := ih (i + 1) (by omega)
  have c1 : (i : Int) < (t.length : Int) := by omega
  have e2 : IntKind.i64.wrap ((i : Int) + 1) = ((i + 1 : Nat) : Int) := w64succ (by omega)
  rw [any_drop dNd hlt, fstI_step hlt]
  have hmem := getD_mem' dNd hlt
  have hm := hs _ hmem
  have hr2 : bdR t.length f (t.getD i dNd) = false := by
   rw [List.any_eq_false] at hr
   simpa using hr _ hmem
  obtain ⟨x, hx⟩ : ∃ x, x = t.getD i dNd := ⟨_, rfl⟩
  rw [← hx] at hm hr2 ⊢
  have hx' := hx.symm
  have hb : bdS t x = (!x.leaf && !decide (vQ x.cov = vQ (t.getD x.lft.toNat dNd).cov + vQ (t.getD x.rgt.toNat dNd).cov)) := rfl
  obtain ⟨xl, xf, xc, xa, xb, xm, xv, xw⟩ := x
  simp only at hb hm
  cases xl with
  | true =>
   rw [show bdS t ⟨true, xf, xc, xa, xb, xm, xv, xw⟩ = false from rfl, Bool.false_or, if_neg (show ¬ false = true by decide)]
   rw [LP_go FF b252_0.eq_1]
   simp only [RB, RL, un, St.none, Nat.reduceEqDiff, Nat.reduceAdd, Nat.reduceMul, Nat.reduceMod, Nat.reduceLeDiff, Nat.reduceLT, Int.reduceLT, Int.reduceLE, Int.reduceEq, Int.reduceToNat, Int.reduceSub, Int.reduceNeg, Int.reduceAdd, ↓reduceIte, reduceCtorEq, pack, pid, parN, lid, chkK, apartV, Heap.none, c1, hx', eNd_rules, eNd_row, eNd, zd, e2, n64]
   exact h9
  | false =>
   have hr3 : (decide (xf < 0) || decide (f ≤ xf) || decide (xa < 1) || decide ((t.length : Int) ≤ xa) || decide (xb < 1) || decide ((t.length : Int) ≤ xb)) = false := hr2
   simp only [Bool.or_eq_false_iff, decide_eq_false_iff_not] at hr3
   have ha : xa.toNat < t.length := by omega
   have hb2 : xb.toNat < t.length := by omega
   have a1 : 0 ≤ xa := by omega
   have a2 : xa < (t.length : Int) := by omega
   have b1 : 0 ≤ xb := by omega
   have b2 : xb < (t.length : Int) := by omega
   have sa := (hs _ (getD_mem' dNd ha)).1
   have sb := (hs _ (getD_mem' dNd hb2)).1
   have f1 := vadd_c (k := k) (j := k) sa sb (by omega) (by omega)
   have z1 : sq (vQ (t.getD xa.toNat dNd).cov + vQ (t.getD xb.toNat dNd).cov) ≤ 2 * k + 1 := by
    have q1 := sq_add (vQ (t.getD xa.toNat dNd).cov) (vQ (t.getD xb.toNat dNd).cov)
    have q2 := vQ_sq sa h1k
    have q3 := vQ_sq sb h1k
    omega
   have f2 := vsame_c (x := xw) (y := rQ (vQ (t.getD xa.toNat dNd).cov + vQ (t.getD xb.toNat dNd).cov)) (k := k) (j := 2 * k + 1) hm.1 (sm_cq z1) (by omega) (by omega)
   rw [vQ_rQ] at f2
   generalize vQ (t.getD xa.toNat dNd).cov + vQ (t.getD xb.toNat dNd).cov = s at *
   simp only [rQ] at f2
   by_cases h0 : vQ xw = s
   ·rw [hb, decide_eq_true h0, show (!false && !true) = false from rfl, Bool.false_or, if_neg (show ¬ false = true by decide)]
    rw [decide_eq_true h0] at f2
    rw [LP_go FF b252_0.eq_1]
    simp only [RB, RL, un, St.none, Nat.reduceEqDiff, Nat.reduceAdd, Nat.reduceMul, Nat.reduceMod, Nat.reduceLeDiff, Nat.reduceLT, Int.reduceLT, Int.reduceLE, Int.reduceEq, Int.reduceToNat, Int.reduceSub, Int.reduceNeg, Int.reduceAdd, ↓reduceIte, reduceCtorEq, pack, pid, parN, lid, chkK, apartV, Heap.none, c1, hx', eNd_rules, eNd_row, eNd, zd, e2, n64, a1, a2, b1, b2, f1, f2]
    exact h9
   ·rw [hb, decide_eq_false h0, show (!false && !false) = true from rfl, Bool.true_or, if_pos rfl, if_pos rfl]
    rw [decide_eq_false h0] at f2
    rw [LP_go FF b252_0.eq_1]
    simp only [RB, RL, un, St.none, Nat.reduceEqDiff, Nat.reduceAdd, Nat.reduceMul, Nat.reduceMod, Nat.reduceLeDiff, Nat.reduceLT, Int.reduceLT, Int.reduceLE, Int.reduceEq, Int.reduceToNat, Int.reduceSub, Int.reduceNeg, Int.reduceAdd, ↓reduceIte, reduceCtorEq, pack, pid, parN, lid, chkK, apartV, Heap.none, c1, hx', eNd_rules, eNd_row, eNd, zd, e2, n64, a1, a2, b1, b2, f1, f2]
theorem vsums_c {t : List RNd} {f : Int} {k : Nat} (hk : k ≤ 10000000000) (h1k : 1 ≤ k) (ht : t.length ≤ 100000) (hs : SmT t k) (hr : t.any (bdR t.length f) = false) : ∃ i : Int, R FF 252 [.l 14 (t.map eNd)] = some (.tup [(AV.i .i64 ((if t.any (bdS t) then i else 0))), (AV.i .i64 ((if t.any (bdS t) then 13 else 0)))]) := by
 refine ⟨(fstI (bdS t) t 0 : Int), ?_⟩
 have l0 := vsums_l0 hk h1k ht hs hr t.length 0 (by omega)
 rw [zy, List.drop_zero] at l0
 by_cases h : t.any (bdS t) = true
 ·rw [if_pos h] at l0
  rw [if_pos h, if_pos h]
  rw [R_go FF F252 c252.eq_1]
  simp only [RB, RL, un, St.none, Nat.reduceEqDiff, Nat.reduceAdd, Nat.reduceMul, Nat.reduceMod, Nat.reduceLeDiff, Nat.reduceLT, Int.reduceLT, Int.reduceLE, Int.reduceEq, Int.reduceToNat, Int.reduceSub, Int.reduceNeg, Int.reduceAdd, ↓reduceIte, reduceCtorEq, pack, pid, parN, lid, chkK, apartV, Heap.none, l0]
 ·rw [if_neg h] at l0
  rw [if_neg h, if_neg h]
  rw [R_go FF F252 c252.eq_1]
  simp only [RB, RL, un, St.none, Nat.reduceEqDiff, Nat.reduceAdd, Nat.reduceMul, Nat.reduceMod, Nat.reduceLeDiff, Nat.reduceLT, Int.reduceLT, Int.reduceLE, Int.reduceEq, Int.reduceToNat, Int.reduceSub, Int.reduceNeg, Int.reduceAdd, ↓reduceIte, reduceCtorEq, pack, pid, parN, lid, chkK, apartV, Heap.none, l0]
def bdF (n : RNd) : Bool := decide (n.ft < 0) || decide (64 < n.ft) || decide (n.lft < 0) || decide (255 < n.lft) || decide (n.rgt < 0) || decide (255 < n.rgt)
def bdT (t : List RNd) : Bool := decide ((t.length : Int) < 1) || decide (255 < (t.length : Int)) || t.any bdF
theorem fits_l1 {t : List RNd} {ts : List (List RNd)} {m j : Int} (ht : t.length ≤ 100000) : ∀ (d i : Nat), i + d = t.length →
  LP FF [(22, 0), (23, 0), (24, 0), (36, 0), (37, 0), (38, 0)] [(2, 0), (22, 0), (23, 0), (24, 0)] b248_1 [.l 1 (ts.map eTr), (AV.i .i64 m), (AV.i .i64 j), .l 14 (t.map eNd), (AV.i .i64 ((t.length : Int))), (AV.i .i64 ((i : Int)))] = if (t.drop i).any bdF then some (.ret, [.b false, .l 1 (ts.map eTr), (AV.i .i64 m), (AV.i .i64 j)]) else some (.exit 2, [.junk, .l 1 (ts.map eTr), (AV.i .i64 m), (AV.i .i64 j)]) := by
 intro d
 induction d with
 | zero =>
  intro i hi
  have c1 : ¬ (i : Int) < (t.length : Int) := by omega
  rw [List.drop_of_length_le (by omega), List.any_nil, if_neg (by decide)]
  rw [LP_go FF b248_1.eq_1]
  simp only [RB, RL, un, St.none, Nat.reduceEqDiff, Nat.reduceAdd, Nat.reduceMul, Nat.reduceMod, Nat.reduceLeDiff, Nat.reduceLT, Int.reduceLT, Int.reduceLE, Int.reduceEq, Int.reduceToNat, Int.reduceSub, Int.reduceNeg, Int.reduceAdd, ↓reduceIte, reduceCtorEq, pack, pid, parN, lid, chkK, apartV, Heap.none, c1, eTr_rules, eTr_row]
 | succ d ih =>
  intro i hi
  have hlt : i < t.length := by omega
  have h9 := ih (i + 1) (by omega)
  have c1 : (i : Int) < (t.length : Int) := by omega
  have e2 : IntKind.i64.wrap ((i : Int) + 1) = ((i + 1 : Nat) : Int) := w64succ (by omega)
  rw [any_drop dNd hlt]
  obtain ⟨x, hx⟩ : ∃ x, x = t.getD i dNd := ⟨_, rfl⟩
  rw [← hx]
  have hx' := hx.symm
  have hb : bdF x = (decide (x.ft < 0) || decide (64 < x.ft) || decide (x.lft < 0) || decide (255 < x.lft) || decide (x.rgt < 0) || decide (255 < x.rgt)) := rfl
  rw [hb]
  obtain ⟨xl, xf, xc, xa, xb, xm, xv, xw⟩ := x
  simp only
  by_cases b1 : xf < 0
  ·rw [if_pos (by simp [b1])]
   rw [LP_go FF b248_1.eq_1]
   simp only [RB, RL, un, St.none, Nat.reduceEqDiff, Nat.reduceAdd, Nat.reduceMul, Nat.reduceMod, Nat.reduceLeDiff, Nat.reduceLT, Int.reduceLT, Int.reduceLE, Int.reduceEq, Int.reduceToNat, Int.reduceSub, Int.reduceNeg, Int.reduceAdd, ↓reduceIte, reduceCtorEq, pack, pid, parN, lid, chkK, apartV, Heap.none, c1, hx', eNd_rules, eNd_row, eNd, eTr_rules, eTr_row, zd, e2, n64, b1]
  by_cases b2 : 64 < xf
  ·rw [if_pos (by simp [b1, b2])]
   rw [LP_go FF b248_1.eq_1]
   simp only [RB, RL, un, St.none, Nat.reduceEqDiff, Nat.reduceAdd, Nat.reduceMul, Nat.reduceMod, Nat.reduceLeDiff, Nat.reduceLT, Int.reduceLT, Int.reduceLE, Int.reduceEq, Int.reduceToNat, Int.reduceSub, Int.reduceNeg, Int.reduceAdd, ↓reduceIte, reduceCtorEq, pack, pid, parN, lid, chkK, apartV, Heap.none, c1, hx', eNd_rules, eNd_row, eNd, eTr_rules, eTr_row, zd, e2, n64, b1, b2]
  by_cases b3 : xa < 0
  ·rw [if_pos (by simp [b1, b2, b3])]
   rw [LP_go FF b248_1.eq_1]
   simp only [RB, RL, un, St.none, Nat.reduceEqDiff, Nat.reduceAdd, Nat.reduceMul, Nat.reduceMod, Nat.reduceLeDiff, Nat.reduceLT, Int.reduceLT, Int.reduceLE, Int.reduceEq, Int.reduceToNat, Int.reduceSub, Int.reduceNeg, Int.reduceAdd, ↓reduceIte, reduceCtorEq, pack, pid, parN, lid, chkK, apartV, Heap.none, c1, hx', eNd_rules, eNd_row, eNd, eTr_rules, eTr_row, zd, e2, n64, b1, b2, b3]
  by_cases b4 : 255 < xa
  ·rw [if_pos (by simp [b1, b2, b3, b4])]
   rw [LP_go FF b248_1.eq_1]
   simp only [RB, RL, un, St.none, Nat.reduceEqDiff, Nat.reduceAdd, Nat.reduceMul, Nat.reduceMod, Nat.reduceLeDiff, Nat.reduceLT, Int.reduceLT, Int.reduceLE, Int.reduceEq, Int.reduceToNat, Int.reduceSub, Int.reduceNeg, Int.reduceAdd, ↓reduceIte, reduceCtorEq, pack, pid, parN, lid, chkK, apartV, Heap.none, c1, hx', eNd_rules, eNd_row, eNd, eTr_rules, eTr_row, zd, e2, n64, b1, b2, b3, b4]
  by_cases b5 : xb < 0
  ·rw [if_pos (by simp [b1, b2, b3, b4, b5])]
   rw [LP_go FF b248_1.eq_1]
   simp only [RB, RL, un, St.none, Nat.reduceEqDiff, Nat.reduceAdd, Nat.reduceMul, Nat.reduceMod, Nat.reduceLeDiff, Nat.reduceLT, Int.reduceLT, Int.reduceLE, Int.reduceEq, Int.reduceToNat, Int.reduceSub, Int.reduceNeg, Int.reduceAdd, ↓reduceIte, reduceCtorEq, pack, pid, parN, lid, chkK, apartV, Heap.none, c1, hx', eNd_rules, eNd_row, eNd, eTr_rules, eTr_row, zd, e2, n64, b1, b2, b3, b4, b5]
  by_cases b6 : 255 < xb
  ·rw [if_pos (by simp [b1, b2, b3, b4, b5, b6])]
   rw [LP_go FF b248_1.eq_1]
   simp only [RB, RL, un, St.none, Nat.reduceEqDiff, Nat.reduceAdd, Nat.reduceMul, Nat.reduceMod, Nat.reduceLeDiff, Nat.reduceLT, Int.reduceLT, Int.reduceLE, Int.reduceEq, Int.reduceToNat, Int.reduceSub, Int.reduceNeg, Int.reduceAdd, ↓reduceIte, reduceCtorEq, pack, pid, parN, lid, chkK, apartV, Heap.none, c1, hx', eNd_rules, eNd_row, eNd, eTr_rules, eTr_row, zd, e2, n64, b1, b2, b3, b4, b5, b6]
  rw [show (decide (xf < 0) || decide (64 < xf) || decide (xa < 0) || decide (255 < xa) || decide (xb < 0) || decide (255 < xb)) = false by simp [b1, b2, b3, b4, b5, b6], Bool.false_or]
  rw [LP_go FF b248_1.eq_1]
  simp only [RB, RL, un, St.none, Nat.reduceEqDiff, Nat.reduceAdd, Nat.reduceMul, Nat.reduceMod, Nat.reduceLeDiff, Nat.reduceLT, Int.reduceLT, Int.reduceLE, Int.reduceEq, Int.reduceToNat, Int.reduceSub, Int.reduceNeg, Int.reduceAdd, ↓reduceIte, reduceCtorEq, pack, pid, parN, lid, chkK, apartV, Heap.none, c1, hx', eNd_rules, eNd_row, eNd, eTr_rules, eTr_row, zd, e2, n64, b1, b2, b3, b4, b5, b6]
  exact h9
theorem any_dropT {p : List RNd → Bool} {l : List (List RNd)} {i : Nat} (h : i < l.length) : (l.drop i).any p = (p (l.getD i []) || (l.drop (i + 1)).any p) := any_drop [] h
theorem fits_l0 {ts : List (List RNd)} (hts : ts.length ≤ 100000) (ht : ∀ t ∈ ts, t.length ≤ 100000) : ∀ (d i : Nat), i + d = ts.length →
  LP FF [(22, 0), (23, 0), (24, 0)] [(2, 0)] b248_0 [.l 1 (ts.map eTr), (AV.i .i64 ((ts.length : Int))), (AV.i .i64 ((i : Int)))] = if (ts.drop i).any bdT then some (.ret, [.b false]) else some (.exit 0, [.junk]) := by
 intro d
 induction d with
 | zero =>
  intro i hi
  have c1 : ¬ (i : Int) < (ts.length : Int) := by omega
  rw [List.drop_of_length_le (by omega), List.any_nil, if_neg (by decide)]
  rw [LP_go FF b248_0.eq_1]
  simp only [RB, RL, un, St.none, Nat.reduceEqDiff, Nat.reduceAdd, Nat.reduceMul, Nat.reduceMod, Nat.reduceLeDiff, Nat.reduceLT, Int.reduceLT, Int.reduceLE, Int.reduceEq, Int.reduceToNat, Int.reduceSub, Int.reduceNeg, Int.reduceAdd, ↓reduceIte, reduceCtorEq, pack, pid, parN, lid, chkK, apartV, Heap.none, c1, eTr_rules, eTr_row]
 | succ d ih =>
  intro i hi
  have hlt : i < ts.length := by omega
  have h9 := ih (i + 1) (by omega)
  have c1 : (i : Int) < (ts.length : Int) := by omega
  have e2 : IntKind.i64.wrap ((i : Int) + 1) = ((i + 1 : Nat) : Int) := w64succ (by omega)
  rw [any_dropT hlt]
  have l1 := fits_l1 (t := ts.getD i []) (ts := ts) (m := (ts.length : Int)) (j := (i : Int)) (ht _ (getD_mem' [] hlt)) (ts.getD i []).length 0 (by omega)
  rw [zy, List.drop_zero] at l1
  obtain ⟨x, hx⟩ : ∃ x, x = ts.getD i [] := ⟨_, rfl⟩
  rw [← hx] at l1 ⊢
  have hx' := hx.symm
  have hb : bdT x = (decide ((x.length : Int) < 1) || decide (255 < (x.length : Int)) || x.any bdF) := rfl
  rw [hb]
  by_cases b1 : (x.length : Int) < 1
  ·rw [if_pos (by simp [b1])]
   rw [LP_go FF b248_0.eq_1]
   simp only [RB, RL, un, St.none, Nat.reduceEqDiff, Nat.reduceAdd, Nat.reduceMul, Nat.reduceMod, Nat.reduceLeDiff, Nat.reduceLT, Int.reduceLT, Int.reduceLE, Int.reduceEq, Int.reduceToNat, Int.reduceSub, Int.reduceNeg, Int.reduceAdd, ↓reduceIte, reduceCtorEq, pack, pid, parN, lid, chkK, apartV, Heap.none, c1, hx', eNd_rules, eNd_row, eTr_rules, eTr_row, zd, e2, n64, b1]
  by_cases b2 : 255 < (x.length : Int)
  ·rw [if_pos (by simp [b2])]
   rw [LP_go FF b248_0.eq_1]
   simp only [RB, RL, un, St.none, Nat.reduceEqDiff, Nat.reduceAdd, Nat.reduceMul, Nat.reduceMod, Nat.reduceLeDiff, Nat.reduceLT, Int.reduceLT, Int.reduceLE, Int.reduceEq, Int.reduceToNat, Int.reduceSub, Int.reduceNeg, Int.reduceAdd, ↓reduceIte, reduceCtorEq, pack, pid, parN, lid, chkK, apartV, Heap.none, c1, hx', eNd_rules, eNd_row, eTr_rules, eTr_row, zd, e2, n64, b1, b2]
  rw [decide_eq_false b1, decide_eq_false b2, Bool.false_or, Bool.false_or]
  cases hf : x.any bdF
  ·rw [hf, if_neg (by decide)] at l1
   rw [Bool.false_or]
   rw [LP_go FF b248_0.eq_1]
   simp only [RB, RL, un, St.none, Nat.reduceEqDiff, Nat.reduceAdd, Nat.reduceMul, Nat.reduceMod, Nat.reduceLeDiff, Nat.reduceLT, Int.reduceLT, Int.reduceLE, Int.reduceEq, Int.reduceToNat, Int.reduceSub, Int.reduceNeg, Int.reduceAdd, ↓reduceIte, reduceCtorEq, pack, pid, parN, lid, chkK, apartV, Heap.none, c1, hx', eNd_rules, eNd_row, eTr_rules, eTr_row, zd, e2, n64, b1, b2, l1]
   exact h9
  ·rw [hf, if_pos rfl] at l1
   rw [Bool.true_or, if_pos rfl]
   rw [LP_go FF b248_0.eq_1]
   simp only [RB, RL, un, St.none, Nat.reduceEqDiff, Nat.reduceAdd, Nat.reduceMul, Nat.reduceMod, Nat.reduceLeDiff, Nat.reduceLT, Int.reduceLT, Int.reduceLE, Int.reduceEq, Int.reduceToNat, Int.reduceSub, Int.reduceNeg, Int.reduceAdd, ↓reduceIte, reduceCtorEq, pack, pid, parN, lid, chkK, apartV, Heap.none, c1, hx', eNd_rules, eNd_row, eTr_rules, eTr_row, zd, e2, n64, b1, b2, l1]
def fitB (m : RM) : Bool := !(decide (m.1 < 0) || decide (64 < m.1) || decide (64 < (m.2.length : Int)) || m.2.any bdT)
theorem fits_c {m : RM} (hts : m.2.length ≤ 100000) (ht : ∀ t ∈ m.2, t.length ≤ 100000) : R FF 248 [.agg (eM m)] = some (.b (fitB m)) := by
 obtain ⟨f, ts⟩ := m
 have hts : ts.length ≤ 100000 := hts
 have ht : ∀ t ∈ ts, t.length ≤ 100000 := ht
 have l0 := fits_l0 hts ht ts.length 0 (by omega)
 rw [zy, List.drop_zero] at l0
 have hb : fitB (f, ts) = !(decide (f < 0) || decide (64 < f) || decide (64 < (ts.length : Int)) || ts.any bdT) := rfl
 rw [hb]
 simp only [eM] at l0 ⊢
 by_cases b1 : f < 0
 ·rw [decide_eq_true b1]
  rw [R_go FF F248 c248.eq_1]
  simp only [RB, RL, un, St.none, Nat.reduceEqDiff, Nat.reduceAdd, Nat.reduceMul, Nat.reduceMod, Nat.reduceLeDiff, Nat.reduceLT, Int.reduceLT, Int.reduceLE, Int.reduceEq, Int.reduceToNat, Int.reduceSub, Int.reduceNeg, Int.reduceAdd, ↓reduceIte, reduceCtorEq, pack, pid, parN, lid, chkK, apartV, Heap.none, b1, eTr_rules, eTr_row, n64]
 by_cases b2 : 64 < f
 ·rw [decide_eq_true b2]
  rw [R_go FF F248 c248.eq_1]
  simp only [RB, RL, un, St.none, Nat.reduceEqDiff, Nat.reduceAdd, Nat.reduceMul, Nat.reduceMod, Nat.reduceLeDiff, Nat.reduceLT, Int.reduceLT, Int.reduceLE, Int.reduceEq, Int.reduceToNat, Int.reduceSub, Int.reduceNeg, Int.reduceAdd, ↓reduceIte, reduceCtorEq, pack, pid, parN, lid, chkK, apartV, Heap.none, b1, b2, eTr_rules, eTr_row, n64]
 by_cases b3 : 64 < (ts.length : Int)
 ·rw [decide_eq_true b3]
  rw [R_go FF F248 c248.eq_1]
  simp only [RB, RL, un, St.none, Nat.reduceEqDiff, Nat.reduceAdd, Nat.reduceMul, Nat.reduceMod, Nat.reduceLeDiff, Nat.reduceLT, Int.reduceLT, Int.reduceLE, Int.reduceEq, Int.reduceToNat, Int.reduceSub, Int.reduceNeg, Int.reduceAdd, ↓reduceIte, reduceCtorEq, pack, pid, parN, lid, chkK, apartV, Heap.none, b1, b2, b3, eTr_rules, eTr_row, n64]
 rw [decide_eq_false b1, decide_eq_false b2, decide_eq_false b3, Bool.false_or, Bool.false_or, Bool.false_or]
 cases hf : ts.any bdT
 ·rw [hf, if_neg (by decide)] at l0
  rw [R_go FF F248 c248.eq_1]
  simp only [RB, RL, un, St.none, Nat.reduceEqDiff, Nat.reduceAdd, Nat.reduceMul, Nat.reduceMod, Nat.reduceLeDiff, Nat.reduceLT, Int.reduceLT, Int.reduceLE, Int.reduceEq, Int.reduceToNat, Int.reduceSub, Int.reduceNeg, Int.reduceAdd, ↓reduceIte, reduceCtorEq, pack, pid, parN, lid, chkK, apartV, Heap.none, b1, b2, b3, eTr_rules, eTr_row, n64, l0]
 ·rw [hf, if_pos rfl] at l0
  rw [R_go FF F248 c248.eq_1]
  simp only [RB, RL, un, St.none, Nat.reduceEqDiff, Nat.reduceAdd, Nat.reduceMul, Nat.reduceMod, Nat.reduceLeDiff, Nat.reduceLT, Int.reduceLT, Int.reduceLE, Int.reduceEq, Int.reduceToNat, Int.reduceSub, Int.reduceNeg, Int.reduceAdd, ↓reduceIte, reduceCtorEq, pack, pid, parN, lid, chkK, apartV, Heap.none, b1, b2, b3, eTr_rules, eTr_row, n64, l0]
def bump (P : List Int) (n : RNd) : List Int := if n.leaf then P else
 (P.set n.lft.toNat (P.getD n.lft.toNat 0 + 1)).set n.rgt.toNat ((P.set n.lft.toNat (P.getD n.lft.toNat 0 + 1)).getD n.rgt.toNat 0 + 1)
def parL (t : List RNd) : List Int := t.foldl bump (zn t.length 0)
theorem bump_len (P : List Int) (n : RNd) : (bump P n).length = P.length := by
 unfold bump; split
 ·rfl
 ·rw [zx, zx]
theorem getD_set (P : List Int) (a b : Nat) (x : Int) : (P.set a x).getD b 0 = if a = b ∧ a < P.length then x else P.getD b 0 := by
 rw [za, za, List.getElem?_set]
 by_cases h : a = b
 ·subst h
  by_cases h2 : a < P.length
  ·rw [if_pos rfl, if_pos h2, if_pos ⟨rfl, h2⟩]; rfl
  ·rw [if_pos rfl, if_neg h2, if_neg (fun h => h2 h.2), List.getElem?_eq_none (by omega)]
 ·rw [if_neg h, if_neg (fun k => h k.1)]
def Bnd (P : List Int) (k : Int) : Prop := ∀ j, 0 ≤ P.getD j 0 ∧ P.getD j 0 ≤ k
theorem bump_bnd {P : List Int} {k : Int} (h : Bnd P k) (n : RNd) : Bnd (bump P n) (k + 2) := by
 intro j
 unfold bump
 split
 ·have := h j; omega
 ·have h1 : ∀ i, 0 ≤ (P.set n.lft.toNat (P.getD n.lft.toNat 0 + 1)).getD i 0 ∧ (P.set n.lft.toNat (P.getD n.lft.toNat 0 + 1)).getD i 0 ≤ k + 1 := by
   intro i
   rw [getD_set]
   have a := h i
   have b := h n.lft.toNat
   split <;> omega
  rw [getD_set]
  have a := h1 j
  have b := h1 n.rgt.toNat
  split <;> omega
theorem drop_foldT {β : Type} {g : β → RNd → β} {l : List RNd} {i : Nat} (o : β) (h : i < l.length) : (l.drop i).foldl g o = (l.drop (i + 1)).foldl g (g o (l.getD i dNd)) := by
 rw [List.drop_eq_getElem_cons h, List.foldl_cons, za, zh h]; rfl
theorem shape_l3 {t : List RNd} {f : Int} (ht : t.length ≤ 100000) (hr : t.any (bdR t.length f) = false) : ∀ (d i : Nat) (P : List Int), i + d = t.length → P.length = t.length → Bnd P (2 * (i : Int)) →
  LP FF [(4, 1), (0, 0), (18, 0), (19, 0), (20, 0)] [(0, 0), (4, 0)] b250_3 [.own true 1 (P.map n64), .l 14 (t.map eNd), .l 14 (t.map eNd), (AV.i .i64 ((t.length : Int))), (AV.i .i64 ((i : Int)))] = some (.exit 0, [.l 14 (t.map eNd), .l 1 (((t.drop i).foldl bump P).map n64)]) := by
 intro d
 induction d with
 | zero =>
  intro i P hi hP hB
  have c1 : ¬ (i : Int) < (t.length : Int) := by omega
  rw [List.drop_of_length_le (by omega), List.foldl_nil]
  rw [LP_go FF b250_3.eq_1]
  simp only [RB, RL, un, St.none, Nat.reduceEqDiff, Nat.reduceAdd, Nat.reduceMul, Nat.reduceMod, Nat.reduceLeDiff, Nat.reduceLT, Int.reduceLT, Int.reduceLE, Int.reduceEq, Int.reduceToNat, Int.reduceSub, Int.reduceNeg, Int.reduceAdd, ↓reduceIte, reduceCtorEq, pack, pid, parN, lid, chkK, apartV, Heap.none, c1, eNd_rules, eNd_row, zf]
 | succ d ih =>
  intro i P hi hP hB
  have hlt : i < t.length := by omega
  have c1 : (i : Int) < (t.length : Int) := by omega
  have e2 : IntKind.i64.wrap ((i : Int) + 1) = ((i + 1 : Nat) : Int) := w64succ (by omega)
  have hmem := getD_mem' dNd hlt
  have hr2 : bdR t.length f (t.getD i dNd) = false := by
   rw [List.any_eq_false] at hr
   simpa using hr _ hmem
  have h9 := ih (i + 1) (bump P (t.getD i dNd)) (by omega) (by rw [bump_len, hP]) (by
   have := bump_bnd hB (t.getD i dNd)
   rwa [show 2 * (i : Int) + 2 = 2 * ((i + 1 : Nat) : Int) by omega] at this)
  rw [drop_foldT P hlt]
  obtain ⟨x, hx⟩ : ∃ x, x = t.getD i dNd := ⟨_, rfl⟩
  rw [← hx] at hr2 h9 ⊢
  have hx' := hx.symm
  obtain ⟨xl, xf, xc, xa, xb, xm, xv, xw⟩ := x
  cases xl with
  | true =>
   rw [show bump P ⟨true, xf, xc, xa, xb, xm, xv, xw⟩ = P from rfl] at h9 ⊢
   rw [LP_go FF b250_3.eq_1]
   simp only [RB, RL, un, St.none, Nat.reduceEqDiff, Nat.reduceAdd, Nat.reduceMul, Nat.reduceMod, Nat.reduceLeDiff, Nat.reduceLT, Int.reduceLT, Int.reduceLE, Int.reduceEq, Int.reduceToNat, Int.reduceSub, Int.reduceNeg, Int.reduceAdd, ↓reduceIte, reduceCtorEq, pack, pid, parN, lid, chkK, apartV, Heap.none, c1, hx', eNd_rules, eNd_row, eNd, zd, e2, zf]
   exact h9
  | false =>
   have hr3 : (decide (xf < 0) || decide (f ≤ xf) || decide (xa < 1) || decide ((t.length : Int) ≤ xa) || decide (xb < 1) || decide ((t.length : Int) ≤ xb)) = false := hr2
   simp only [Bool.or_eq_false_iff, decide_eq_false_iff_not] at hr3
   have a1 : 0 ≤ xa := by omega
   have a2 : xa < (t.length : Int) := by omega
   have b1 : 0 ≤ xb := by omega
   have b2 : xb < (t.length : Int) := by omega
   have a3 : xa.toNat < t.length := by omega
   have b3 : xb.toNat < t.length := by omega
   have q1 := hB xa.toNat
   have w1 : IntKind.i64.wrap (P.getD xa.toNat 0 + 1) = P.getD xa.toNat 0 + 1 := w64 (by omega) (by omega)
   have eb : bump P ⟨false, xf, xc, xa, xb, xm, xv, xw⟩ = (P.set xa.toNat (P.getD xa.toNat 0 + 1)).set xb.toNat ((P.set xa.toNat (P.getD xa.toNat 0 + 1)).getD xb.toNat 0 + 1) := rfl
   have q2 : 0 ≤ (P.set xa.toNat (P.getD xa.toNat 0 + 1)).getD xb.toNat 0 ∧ (P.set xa.toNat (P.getD xa.toNat 0 + 1)).getD xb.toNat 0 ≤ 2 * (i : Int) + 1 := by
    rw [getD_set]
    have a := hB xb.toNat
    split <;> omega
   have w2 : IntKind.i64.wrap ((P.set xa.toNat (P.getD xa.toNat 0 + 1)).getD xb.toNat 0 + 1) = (P.set xa.toNat (P.getD xa.toNat 0 + 1)).getD xb.toNat 0 + 1 := w64 (by omega) (by omega)
   rw [eb] at h9 ⊢
   have hl1 : (P.set xa.toNat (P.getD xa.toNat 0 + 1)).length = t.length := by rw [zx, hP]
   generalize hP1 : P.set xa.toNat (P.getD xa.toNat 0 + 1) = P1 at *
   have hl2 : (P1.set xb.toNat (P1.getD xb.toNat 0 + 1)).length = t.length := by rw [zx, hl1]
   generalize hP2 : P1.set xb.toNat (P1.getD xb.toNat 0 + 1) = P2 at *
   have t2 : List.take t.length P2 = P2 := zb (by omega)
   rw [LP_go FF b250_3.eq_1]
   simp only [RB, RL, un, St.none, Nat.reduceEqDiff, Nat.reduceAdd, Nat.reduceMul, Nat.reduceMod, Nat.reduceLeDiff, Nat.reduceLT, Int.reduceLT, Int.reduceLE, Int.reduceEq, Int.reduceToNat, Int.reduceSub, Int.reduceNeg, Int.reduceAdd, ↓reduceIte, reduceCtorEq, pack, pid, parN, lid, chkK, apartV, Heap.none, c1, hx', eNd_rules, eNd_row, eNd, zd, e2, a1, a2, b1, b2, a3, b3, hP, hl1, hl2, w1, w2, hP1, hP2, t2]
   exact h9
theorem shape_l2 {t : List RNd} {P : List Int} (ht : t.length ≤ 100000) (hP : P.length = t.length) : ∀ (d i : Nat), i + d = t.length →
  (∃ j, 0 < j ∧ j < t.length ∧ P.getD j 0 ≠ 1 ∧ LP FF [(0, 0), (42, 0), (43, 0), (44, 0)] [(0, 0), (2, 0), (3, 0)] b250_2 [.l 14 (t.map eNd), .l 1 (P.map n64), (AV.i .i64 ((t.length : Int))), (AV.i .i64 ((i : Int)))] = some (.ret, [.l 14 (t.map eNd), (AV.i .i64 ((j : Int))), (AV.i .i64 11)])) ∨
  ((∀ j, i ≤ j → j < t.length → 0 < j → P.getD j 0 = 1) ∧ LP FF [(0, 0), (42, 0), (43, 0), (44, 0)] [(0, 0), (2, 0), (3, 0)] b250_2 [.l 14 (t.map eNd), .l 1 (P.map n64), (AV.i .i64 ((t.length : Int))), (AV.i .i64 ((i : Int)))] = some (.exit 2, [.l 14 (t.map eNd), .junk, .junk])) := by
 intro d
 induction d with
 | zero =>
  intro i hi
  refine .inr ⟨fun j h1 h2 => by omega, ?_⟩
  have c1 : ¬ (i : Int) < (t.length : Int) := by omega
  rw [LP_go FF b250_2.eq_1]
  simp only [RB, RL, un, St.none, Nat.reduceEqDiff, Nat.reduceAdd, Nat.reduceMul, Nat.reduceMod, Nat.reduceLeDiff, Nat.reduceLT, Int.reduceLT, Int.reduceLE, Int.reduceEq, Int.reduceToNat, Int.reduceSub, Int.reduceNeg, Int.reduceAdd, ↓reduceIte, reduceCtorEq, pack, pid, parN, lid, chkK, apartV, Heap.none, c1, eNd_rules, eNd_row]
 | succ d ih =>
  intro i hi
  have hlt : i < t.length := by omega
  have c1 : (i : Int) < (t.length : Int) := by omega
  have c2 : i < t.length := hlt
  have e2 : IntKind.i64.wrap ((i : Int) + 1) = ((i + 1 : Nat) : Int) := w64succ (by omega)
  by_cases h0 : 0 < (i : Int)
  ·by_cases h1 : P.getD i 0 = 1
   ·have step : LP FF [(0, 0), (42, 0), (43, 0), (44, 0)] [(0, 0), (2, 0), (3, 0)] b250_2 [.l 14 (t.map eNd), .l 1 (P.map n64), (AV.i .i64 ((t.length : Int))), (AV.i .i64 ((i : Int)))] = LP FF [(0, 0), (42, 0), (43, 0), (44, 0)] [(0, 0), (2, 0), (3, 0)] b250_2 [.l 14 (t.map eNd), .l 1 (P.map n64), (AV.i .i64 ((t.length : Int))), (AV.i .i64 (((i + 1 : Nat) : Int)))] := by
     rw [LP_go FF b250_2.eq_1]
     simp only [RB, RL, un, St.none, Nat.reduceEqDiff, Nat.reduceAdd, Nat.reduceMul, Nat.reduceMod, Nat.reduceLeDiff, Nat.reduceLT, Int.reduceLT, Int.reduceLE, Int.reduceEq, Int.reduceToNat, Int.reduceSub, Int.reduceNeg, Int.reduceAdd, ↓reduceIte, reduceCtorEq, pack, pid, parN, lid, chkK, apartV, Heap.none, c1, c2, h0, h1, hP, eNd_rules, eNd_row, zd, e2]
    rw [step]
    rcases ih (i + 1) (by omega) with h9 | ⟨h8, h9⟩
    ·exact .inl h9
    ·exact .inr ⟨fun j a b c => by
      rcases Nat.eq_or_lt_of_le a with rfl | a
      ·exact h1
      ·exact h8 j a b c, h9⟩
   ·refine .inl ⟨i, by omega, hlt, h1, ?_⟩
    rw [LP_go FF b250_2.eq_1]
    simp only [RB, RL, un, St.none, Nat.reduceEqDiff, Nat.reduceAdd, Nat.reduceMul, Nat.reduceMod, Nat.reduceLeDiff, Nat.reduceLT, Int.reduceLT, Int.reduceLE, Int.reduceEq, Int.reduceToNat, Int.reduceSub, Int.reduceNeg, Int.reduceAdd, ↓reduceIte, reduceCtorEq, pack, pid, parN, lid, chkK, apartV, Heap.none, c1, c2, h0, h1, hP, eNd_rules, eNd_row, zd, e2]
  ·have step : LP FF [(0, 0), (42, 0), (43, 0), (44, 0)] [(0, 0), (2, 0), (3, 0)] b250_2 [.l 14 (t.map eNd), .l 1 (P.map n64), (AV.i .i64 ((t.length : Int))), (AV.i .i64 ((i : Int)))] = LP FF [(0, 0), (42, 0), (43, 0), (44, 0)] [(0, 0), (2, 0), (3, 0)] b250_2 [.l 14 (t.map eNd), .l 1 (P.map n64), (AV.i .i64 ((t.length : Int))), (AV.i .i64 (((i + 1 : Nat) : Int)))] := by
    rw [LP_go FF b250_2.eq_1]
    simp only [RB, RL, un, St.none, Nat.reduceEqDiff, Nat.reduceAdd, Nat.reduceMul, Nat.reduceMod, Nat.reduceLeDiff, Nat.reduceLT, Int.reduceLT, Int.reduceLE, Int.reduceEq, Int.reduceToNat, Int.reduceSub, Int.reduceNeg, Int.reduceAdd, ↓reduceIte, reduceCtorEq, pack, pid, parN, lid, chkK, apartV, Heap.none, c1, c2, h0, hP, eNd_rules, eNd_row, zd, e2]
   rw [step]
   rcases ih (i + 1) (by omega) with h9 | ⟨h8, h9⟩
   ·exact .inl h9
   ·exact .inr ⟨fun j a b c => h8 j (by omega) b c, h9⟩
def kids (n : RNd) : List Nat := if n.leaf then [] else [n.rgt.toNat, n.lft.toNat]
def cntN (j : Nat) (n : RNd) : Nat := if n.leaf then 0 else (if n.lft.toNat = j then 1 else 0) + (if n.rgt.toNat = j then 1 else 0)
def cnt (j : Nat) : List RNd → Nat
 | [] => 0
 | n :: l => cntN j n + cnt j l
theorem bump_cnt {P : List Int} {n : RNd} (hn : n.leaf = false → n.lft.toNat < P.length ∧ n.rgt.toNat < P.length) (j : Nat) : (bump P n).getD j 0 = P.getD j 0 + (cntN j n : Nat) := by
 unfold bump cntN
 cases hl : n.leaf with
 | true => simp
 | false =>
  obtain ⟨h1, h2⟩ := hn hl
  simp only [zz, if_false]
  rw [getD_set, getD_set, getD_set, zx]
  by_cases e1 : n.lft.toNat = j <;> by_cases e2 : n.rgt.toNat = j
  ·have e3 : n.lft.toNat = n.rgt.toNat := by omega
   rw [if_pos ⟨e2, h2⟩, if_pos ⟨e3, h1⟩, if_pos e1, if_pos e2, e1]; omega
  ·rw [if_neg (fun h => e2 h.1), if_pos ⟨e1, h1⟩, if_pos e1, if_neg e2, e1]; omega
  ·have e3 : ¬ n.lft.toNat = n.rgt.toNat := by omega
   rw [if_pos ⟨e2, h2⟩, if_neg (fun h => e3 h.1), if_neg e1, if_pos e2, e2]; omega
  ·rw [if_neg (fun h => e2 h.1), if_neg (fun h => e1 h.1), if_neg e1, if_neg e2]; omega
theorem foldl_cnt : ∀ (l : List RNd) (P : List Int), (∀ n ∈ l, n.leaf = false → n.lft.toNat < P.length ∧ n.rgt.toNat < P.length) → ∀ j, (l.foldl bump P).getD j 0 = P.getD j 0 + (cnt j l : Nat) := by
 intro l
 induction l with
 | nil => intro P _ j; show P.getD j 0 = P.getD j 0 + ((0 : Nat) : Int); omega
 | cons n l ih =>
  intro P h j
  have h1 := bump_cnt (h n (zr ..)) j
  have h2 := ih (bump P n) (fun m hm => by rw [bump_len]; exact h m (zo _ hm)) j
  rw [List.foldl_cons, h2, h1]
  show _ = _ + ((cntN j n + cnt j l : Nat) : Int)
  omega
theorem parL_cnt {t : List RNd} (h : ∀ n ∈ t, n.leaf = false → n.lft.toNat < t.length ∧ n.rgt.toNat < t.length) (j : Nat) : (parL t).getD j 0 = (cnt j t : Nat) := by
 unfold parL
 rw [foldl_cnt t _ (fun n hn hl => by rw [zt]; exact h n hn hl)]
 have e : (zn t.length (0 : Int)).getD j 0 = 0 := by
  rw [za, List.getElem?_replicate]
  split <;> rfl
 rw [e]; omega
theorem cntN_kids {j : Nat} {n : RNd} (h : j ∈ kids n) : 1 ≤ cntN j n := by
 unfold kids at h
 unfold cntN
 split at h
 ·exact (List.not_mem_nil h).elim
 ·rename_i hl
  rw [if_neg hl]
  simp only [List.mem_cons, List.not_mem_nil, or_false] at h
  rcases h with rfl | rfl <;> simp
theorem cnt_one : ∀ (l : List RNd) (i j : Nat), i < l.length → j ∈ kids (l.getD i dNd) → 1 ≤ cnt j l := by
 intro l
 induction l with
 | nil => intro i j h; exact absurd h (Nat.not_lt_zero _)
 | cons n l ih =>
  intro i j hi hk
  show 1 ≤ cntN j n + cnt j l
  cases i with
  | zero => have := cntN_kids (show j ∈ kids n from hk); omega
  | succ i => have := ih i j (by rw [zw] at hi; omega) hk; omega
theorem cnt_two : ∀ (l : List RNd) (i i' j : Nat), i < i' → i' < l.length → j ∈ kids (l.getD i dNd) → j ∈ kids (l.getD i' dNd) → 2 ≤ cnt j l := by
 intro l
 induction l with
 | nil => intro i i' j _ h; exact absurd h (Nat.not_lt_zero _)
 | cons n l ih =>
  intro i i' j hlt hi hk hk'
  show 2 ≤ cntN j n + cnt j l
  cases i' with
  | zero => omega
  | succ i' =>
   rw [zw] at hi
   cases i with
   | zero =>
    have h1 := cntN_kids (show j ∈ kids n from hk)
    have h2 := cnt_one l i' j (by omega) hk'
    omega
   | succ i => have := ih i i' j (by omega) (by omega) hk hk'; omega
theorem cnt_dup : ∀ (l : List RNd) (i : Nat), i < l.length → (l.getD i dNd).leaf = false → (l.getD i dNd).lft.toNat = (l.getD i dNd).rgt.toNat → 2 ≤ cnt (l.getD i dNd).lft.toNat l := by
 intro l
 induction l with
 | nil => intro i h; exact absurd h (Nat.not_lt_zero _)
 | cons n l ih =>
  intro i hi hl he
  cases i with
  | zero =>
   have hl : n.leaf = false := hl
   have he : n.lft.toNat = n.rgt.toNat := he
   show 2 ≤ cntN n.lft.toNat n + cnt n.lft.toNat l
   unfold cntN
   rw [hl, if_neg (by decide), if_pos rfl, if_pos he.symm]; omega
  | succ i =>
   have := ih i (by rw [zw] at hi; omega) hl he
   show 2 ≤ cntN (l.getD i dNd).lft.toNat n + cnt (l.getD i dNd).lft.toNat l
   omega
structure Par (t : List RNd) : Prop where
 rng : ∀ i, i < t.length → ∀ c ∈ kids (t.getD i dNd), 1 ≤ c ∧ c < t.length
 one : ∀ j, 0 < j → j < t.length → cnt j t = 1
theorem Par.uniq {t : List RNd} (h : Par t) {i i' c : Nat} (hi : i < t.length) (hi' : i' < t.length) (hc : c ∈ kids (t.getD i dNd)) (hc' : c ∈ kids (t.getD i' dNd)) : i = i' := by
 obtain ⟨r1, r2⟩ := h.rng i hi c hc
 have h1 := h.one c (by omega) r2
 rcases Nat.lt_trichotomy i i' with hl | hl | hl
 ·have := cnt_two t i i' c hl hi' hc hc'; omega
 ·exact hl
 ·have := cnt_two t i' i c hl hi hc' hc; omega
theorem Par.nd {t : List RNd} (h : Par t) {i : Nat} (hi : i < t.length) : (kids (t.getD i dNd)).Nodup := by
 have hr := h.rng i hi
 have hd := cnt_dup t i hi
 unfold kids at *
 cases hl : (t.getD i dNd).leaf with
 | true => simp
 | false =>
  rw [hl] at hr hd
  simp only [zz, if_false] at hr ⊢
  have hne : (t.getD i dNd).rgt.toNat ≠ (t.getD i dNd).lft.toNat := fun e => by
   have h2 := hd rfl e.symm
   have r := hr (t.getD i dNd).lft.toNat (by simp)
   have := h.one _ (by omega) r.2
   omega
  exact List.nodup_cons.2 ⟨fun hm => hne (List.mem_singleton.1 hm), List.nodup_cons.2 ⟨List.not_mem_nil, List.nodup_nil⟩⟩
def dfs (t : List RNd) : Nat → List Nat → Option (List Nat)
 | _, [] => some []
 | 0, _ :: _ => none
 | k + 1, a :: S => (dfs t k (kids (t.getD a dNd) ++ S)).map (a :: ·)
theorem nodup_len : ∀ (n : Nat) {l : List Nat}, l.Nodup → (∀ x ∈ l, x < n) → l.length ≤ n := by
 intro n
 induction n with
 | zero =>
  intro l _ hl
  cases l with
  | nil => exact zk _
  | cons a l => exact absurd (hl a (zr ..)) (Nat.not_lt_zero _)
 | succ n ih =>
  intro l h hl
  by_cases hm : n ∈ l
  ·have h1 := ih (h.erase n) (fun x hx => by
    have h2 := (h.mem_erase_iff).1 hx
    have h3 := hl x h2.2
    omega)
   rw [List.length_erase_of_mem hm] at h1
   omega
  ·have h1 := ih h (fun x hx => by
    have h3 := hl x hx
    have h4 : x ≠ n := fun e => hm (e ▸ hx)
    omega)
   omega
theorem dfs_some {t : List RNd} (h : Par t) : ∀ (k : Nat) (V S : List Nat), (V ++ S).Nodup → (∀ c ∈ V ++ S, c < t.length) → (∀ c ∈ V ++ S, c = 0 ∨ ∃ p ∈ V, c ∈ kids (t.getD p dNd)) → t.length ≤ V.length + k →
  ∃ vis, dfs t k S = some vis ∧ (V ++ vis).Nodup ∧ (∀ c ∈ vis, c < t.length) ∧ ∀ c ∈ S, c ∈ vis := by
 intro k
 induction k with
 | zero =>
  intro V S hnd hlt hp hk
  cases S with
  | nil => exact ⟨[], rfl, hnd, fun _ h => (List.not_mem_nil h).elim, fun _ h => (List.not_mem_nil h).elim⟩
  | cons a S =>
   have := nodup_len t.length hnd hlt
   rw [zj, zw] at this
   omega
 | succ k ih =>
  intro V S hnd hlt hp hk
  cases S with
  | nil => exact ⟨[], rfl, hnd, fun _ h => (List.not_mem_nil h).elim, fun _ h => (List.not_mem_nil h).elim⟩
  | cons a S =>
   have ha : a < t.length := hlt a (by simp)
   have hk1 : ∀ c ∈ kids (t.getD a dNd), c ∉ V ++ a :: S := by
    intro c hc hm
    have hr := h.rng a ha c hc
    rcases hp c hm with h0 | ⟨p, hpV, hpc⟩
    ·omega
    ·have hpl : p < t.length := hlt p (by simp [hpV])
     have e := h.uniq hpl ha hpc hc
     subst e
     have := (List.nodup_append.1 hnd).2.2 p hpV p (zr ..)
     exact this rfl
   have hnd2 : (V ++ [a] ++ (kids (t.getD a dNd) ++ S)).Nodup := by
    rw [List.nodup_append] at hnd ⊢
    obtain ⟨n1, n2, n3⟩ := hnd
    obtain ⟨n4, n5⟩ := List.nodup_cons.1 n2
    refine ⟨?_, ?_, ?_⟩
    ·rw [List.nodup_append]
     exact ⟨n1, by simp, fun x hx y hy => by rw [List.mem_singleton.1 hy]; exact n3 x hx a (zr ..)⟩
    ·rw [List.nodup_append]
     exact ⟨h.nd ha, n5, fun x hx y hy e => hk1 x hx (by rw [e]; simp [hy])⟩
    ·intro x hx y hy e
     subst e
     rcases List.mem_append.1 hy with hy | hy
     ·rcases List.mem_append.1 hx with hx | hx
      ·exact hk1 x hy (by simp [hx])
      ·rw [List.mem_singleton.1 hx] at hy; exact hk1 a hy (by simp)
     ·rcases List.mem_append.1 hx with hx | hx
      ·exact n3 x hx x (zo _ hy) rfl
      ·rw [List.mem_singleton.1 hx] at hy; exact n4 hy
   obtain ⟨vis, v1, v2, v3, v4⟩ := ih (V ++ [a]) (kids (t.getD a dNd) ++ S) hnd2 (fun c hc => by
    simp only [List.mem_append, zA] at hc
    rcases hc with (hc | hc) | (hc | hc)
    ·exact hlt c (by simp [hc])
    ·rw [hc]; exact ha
    ·exact (h.rng a ha c hc).2
    ·exact hlt c (by simp [hc])) (fun c hc => by
    simp only [List.mem_append, zA] at hc
    rcases hc with (hc | hc) | (hc | hc)
    ·rcases hp c (by simp [hc]) with h0 | ⟨p, hpV, hpc⟩
     ·exact .inl h0
     ·exact .inr ⟨p, by simp [hpV], hpc⟩
    ·rcases hp c (by simp [hc]) with h0 | ⟨p, hpV, hpc⟩
     ·exact .inl h0
     ·exact .inr ⟨p, by simp [hpV], hpc⟩
    ·exact .inr ⟨a, by simp, hc⟩
    ·rcases hp c (by simp [hc]) with h0 | ⟨p, hpV, hpc⟩
     ·exact .inl h0
     ·exact .inr ⟨p, by simp [hpV], hpc⟩) (by rw [zj, List.length_singleton]; omega)
   refine ⟨a :: vis, by rw [dfs, v1]; rfl, by rwa [List.append_assoc] at v2, fun c hc => ?_, fun c hc => ?_⟩
   ·rcases List.mem_cons.1 hc with rfl | hc
    ·exact ha
    ·exact v3 c hc
   ·rcases List.mem_cons.1 hc with rfl | hc
    ·exact zr ..
    ·exact zo _ (v4 c (List.mem_append_right _ hc))
def eB (b : Bool) : List AV := [.b b]
theorem eB_rules : (∀ x, (eB x).length = 1) ∧ (∀ h x, (eB x).map (tellC h) = eB x) ∧ (∀ h x, (eB x).map (tell0 h) = eB x) ∧ (∀ h x, (eB x).flatMap (refC h) = []) ∧ (∀ x, (eB x).flatMap ref0 = []) ∧
  (∀ x, ldC false 1 0 (eB x) = some (.b x)) := by
 refine ⟨?_, ?_, ?_, ?_, ?_, ?_⟩ <;> intros <;> rfl
theorem eB_row : type_of% (row_rules eB false 1 (fun _ => rfl) (fun _ _ => rfl)) := row_rules eB false 1 (fun _ => rfl) (fun _ _ => rfl)
theorem shape_l1 {t : List RNd} (ht : t.length ≤ 100000) (hp : Par t) : ∀ (k : Nat) (S : List Nat) (seen : List Bool) (vis : List Nat), dfs t k S = some vis → (∀ c ∈ S, c < t.length) → seen.length = t.length →
  (∀ c ∈ vis, c < t.length) → S.length + k ≤ 1000000 →
  LP FF [(9, 1), (10, 1), (0, 0)] [(9, 0)] b250_1 [.own true 1 (seen.map eB), .own true 1 (S.reverse.map eX), .l 14 (t.map eNd)] = some (.exit 4, [.l 1 ((vis.foldl (fun s a => s.set a true) seen).map eB)]) := by
 intro k
 induction k with
 | zero =>
  intro S seen vis hd hS hs hv hk
  cases S with
  | nil =>
   cases hd
   rw [List.foldl_nil]
   rw [LP_go FF b250_1.eq_1]
   simp only [RB, RL, un, St.none, Nat.reduceEqDiff, Nat.reduceAdd, Nat.reduceMul, Nat.reduceMod, Nat.reduceLeDiff, Nat.reduceLT, Int.reduceLT, Int.reduceLE, Int.reduceEq, Int.reduceToNat, Int.reduceSub, Int.reduceNeg, Int.reduceAdd, ↓reduceIte, reduceCtorEq, pack, pid, parN, lid, chkK, apartV, Heap.none, eB_rules, eB_row, eX_rules, eX_row, zf, List.reverse_nil]
  | cons a S => cases hd
 | succ k ih =>
  intro S seen vis hd hS hs hv hk
  cases S with
  | nil =>
   cases hd
   rw [List.foldl_nil]
   rw [LP_go FF b250_1.eq_1]
   simp only [RB, RL, un, St.none, Nat.reduceEqDiff, Nat.reduceAdd, Nat.reduceMul, Nat.reduceMod, Nat.reduceLeDiff, Nat.reduceLT, Int.reduceLT, Int.reduceLE, Int.reduceEq, Int.reduceToNat, Int.reduceSub, Int.reduceNeg, Int.reduceAdd, ↓reduceIte, reduceCtorEq, pack, pid, parN, lid, chkK, apartV, Heap.none, eB_rules, eB_row, eX_rules, eX_row, zf, List.reverse_nil]
  | cons a S =>
   have ha : a < t.length := hS a (zr ..)
   rw [dfs] at hd
   obtain ⟨vis', hd', rfl⟩ := Option.map_eq_some_iff.1 hd
   have hkl : (kids (t.getD a dNd)).length ≤ 2 := by unfold kids; split <;> simp
   have hv' : ∀ c ∈ vis', c < t.length := fun c hc => hv c (zo _ hc)
   have h9 := ih (kids (t.getD a dNd) ++ S) (seen.set a true) vis' hd' (fun c hc => by
    rcases List.mem_append.1 hc with hc | hc
    ·exact (hp.rng a ha c hc).2
    ·exact hS c (zo _ hc)) (by rw [zx, hs]) hv' (by
     rw [zj]; rw [zw] at hk; omega)
   rw [List.foldl_cons, List.reverse_cons]
   rw [List.reverse_append] at h9
   have hrl : S.reverse.length = S.length := List.length_reverse ..
   rw [zw] at hk
   generalize S.reverse = Q at *
   have hQ : Q.length = S.length := hrl
   have hl1 : (Q ++ [a]).length = Q.length + 1 := by rw [zj, List.length_singleton]
   have hg : (Q ++ [a]).getD Q.length 0 = a := by rw [za, List.getElem?_append_right (zk _), Nat.sub_self]; rfl
   have mt : List.take Q.length (Q ++ [a]) = Q := List.take_left
   have c0 : 0 < ((Q.length + 1 : Nat) : Int) := by omega
   have e1 : IntKind.i64.wrap (((Q.length + 1 : Nat) : Int) - 1) = (Q.length : Int) := by rw [w64 (by omega) (by omega)]; omega
   have c1 : (Q.length : Int) < ((Q.length + 1 : Nat) : Int) := by omega
   have c2 : Q.length < Q.length + 1 := by omega
   have c3 : (Q.length : Int) ≤ ((Q.length + 1 : Nat) : Int) := by omega
   have c4 : Q.length ≤ Q.length + 1 := by omega
   have d1 : (a : Int) < (t.length : Int) := by omega
   have hss : (seen.set a true).length = t.length := by rw [zx, hs]
   have hpc : putC 1 (List.map eB seen) a 0 [AV.b true] = List.map eB (seen.set a true) := eB_row.2.2.2.1 seen a true
   have hst : List.take t.length (seen.set a true) = seen.set a true := zb (by omega)
   generalize hsn : seen.set a true = seen' at *
   have hrn := hp.rng a ha
   obtain ⟨x, hx⟩ : ∃ x, x = t.getD a dNd := ⟨_, rfl⟩
   rw [← hx] at h9 hkl hrn
   have hx' := hx.symm
   obtain ⟨xl, xf, xc, xa, xb, xm, xv, xw⟩ := x
   cases xl with
   | true =>
    rw [show kids ⟨true, xf, xc, xa, xb, xm, xv, xw⟩ = [] from rfl, List.reverse_nil, List.append_nil] at h9
    rw [LP_go FF b250_1.eq_1]
    simp only [RB, RL, un, St.none, Nat.reduceEqDiff, Nat.reduceAdd, Nat.reduceMul, Nat.reduceMod, Nat.reduceLeDiff, Nat.reduceLT, Int.reduceLT, Int.reduceLE, Int.reduceEq, Int.reduceToNat, Int.reduceSub, Int.reduceNeg, Int.reduceAdd, ↓reduceIte, reduceCtorEq, pack, pid, parN, lid, chkK, apartV, Heap.none, eB_rules, eB_row, eX_rules, eX_row, eNd_rules, eNd_row, eNd, hx', zf, hl1, hg, mt, c0, e1, c1, c2, c3, c4, d1, ha, hs, hpc, hst, hss, zd, Int.le_refl]
    exact h9
   | false =>
    have r1 : 1 ≤ xb.toNat ∧ xb.toNat < t.length := hrn xb.toNat (by show _ ∈ [xb.toNat, xa.toNat]; simp)
    have r2 : 1 ≤ xa.toNat ∧ xa.toNat < t.length := hrn xa.toNat (by show _ ∈ [xb.toNat, xa.toNat]; simp)
    obtain ⟨p, rfl⟩ : ∃ p : Nat, xa = p := ⟨xa.toNat, by omega⟩
    obtain ⟨q, rfl⟩ : ∃ q : Nat, xb = q := ⟨xb.toNat, by omega⟩
    rw [show (kids ⟨false, xf, xc, (p : Int), (q : Int), xm, xv, xw⟩).reverse = [p, q] from rfl] at h9
    have m1 : List.map eX Q ++ [[AV.i .i64 (p : Int)], [AV.i .i64 (q : Int)]] = List.map eX (Q ++ [p, q]) := by rw [List.map_append]; rfl
    have m2 : List.take (Q.length + 2) (Q ++ [p, q]) = Q ++ [p, q] := zb (by rw [zj]; exact zk _)
    have b2 : (Q.length + 2) * 8 ≤ 140737488355328 := by omega
    rw [LP_go FF b250_1.eq_1]
    simp only [RB, RL, un, St.none, Nat.reduceEqDiff, Nat.reduceAdd, Nat.reduceMul, Nat.reduceMod, Nat.reduceLeDiff, Nat.reduceLT, Int.reduceLT, Int.reduceLE, Int.reduceEq, Int.reduceToNat, Int.reduceSub, Int.reduceNeg, Int.reduceAdd, ↓reduceIte, reduceCtorEq, pack, pid, parN, lid, chkK, apartV, Heap.none, eB_rules, eB_row, eX_rules, eX_row, eNd_rules, eNd_row, eNd, hx', zf, hl1, hg, mt, c0, e1, c1, c2, c3, c4, d1, ha, hs, hpc, hst, hss, zd, Int.le_refl, n64, m1, m2, b2]
    exact h9
theorem marks (vis : List Nat) : ∀ (s : List Bool) (j : Nat), (vis.foldl (fun s a => s.set a true) s).length = s.length ∧ ((vis.foldl (fun s a => s.set a true) s).getD j false = true ↔ s.getD j false = true ∨ (j ∈ vis ∧ j < s.length)) := by
 induction vis with
 | nil => intro s j; exact ⟨rfl, ⟨.inl, fun h => h.elim id fun h => (List.not_mem_nil h.1).elim⟩⟩
 | cons a vis ih =>
  intro s j
  obtain ⟨h1, h2⟩ := ih (s.set a true) j
  rw [zx] at h1 h2
  refine ⟨h1, ?_⟩
  rw [List.foldl_cons, h2]
  have e : (s.set a true).getD j false = true ↔ s.getD j false = true ∨ (j = a ∧ j < s.length) := by
   rw [za, za, List.getElem?_set]
   by_cases h : a = j
   ·subst h
    by_cases h3 : a < s.length
    ·rw [if_pos rfl, if_pos h3]; simp [h3]
    ·rw [if_pos rfl, if_neg h3, List.getElem?_eq_none (by omega)]; simp [h3]
   ·rw [if_neg h]
    constructor
    ·exact .inl
    ·rintro (k | k)
     ·exact k
     ·exact (h k.1.symm).elim
  rw [e, List.mem_cons]
  constructor
  ·rintro ((k | k) | k)
   ·exact .inl k
   ·exact .inr ⟨.inl k.1, k.2⟩
   ·exact .inr ⟨.inr k.1, k.2⟩
  ·rintro (k | ⟨k | k, k2⟩)
   ·exact .inl (.inl k)
   ·exact .inl (.inr ⟨k, k2⟩)
   ·exact .inr ⟨k, k2⟩
theorem shape_l0 {s : List Bool} (hs : s.length ≤ 100000) : ∀ (d i : Nat), i + d = s.length →
  (∃ j, j < s.length ∧ s.getD j false = false ∧ LP FF [(92, 0), (93, 0), (94, 0)] [(2, 0), (3, 0)] b250_0 [.l 1 (s.map eB), (AV.i .i64 ((s.length : Int))), (AV.i .i64 ((i : Int)))] = some (.ret, [(AV.i .i64 ((j : Int))), (AV.i .i64 11)])) ∨
  ((∀ j, i ≤ j → j < s.length → s.getD j false = true) ∧ LP FF [(92, 0), (93, 0), (94, 0)] [(2, 0), (3, 0)] b250_0 [.l 1 (s.map eB), (AV.i .i64 ((s.length : Int))), (AV.i .i64 ((i : Int)))] = some (.exit 6, [.junk, .junk])) := by
 intro d
 induction d with
 | zero =>
  intro i hi
  refine .inr ⟨fun j h1 h2 => by omega, ?_⟩
  have c1 : ¬ (i : Int) < (s.length : Int) := by omega
  rw [LP_go FF b250_0.eq_1]
  simp only [RB, RL, un, St.none, Nat.reduceEqDiff, Nat.reduceAdd, Nat.reduceMul, Nat.reduceMod, Nat.reduceLeDiff, Nat.reduceLT, Int.reduceLT, Int.reduceLE, Int.reduceEq, Int.reduceToNat, Int.reduceSub, Int.reduceNeg, Int.reduceAdd, ↓reduceIte, reduceCtorEq, pack, pid, parN, lid, chkK, apartV, Heap.none, c1]
 | succ d ih =>
  intro i hi
  have hlt : i < s.length := by omega
  have c1 : (i : Int) < (s.length : Int) := by omega
  have e2 : IntKind.i64.wrap ((i : Int) + 1) = ((i + 1 : Nat) : Int) := w64succ (by omega)
  cases h1 : s.getD i false with
  | true =>
   have step : LP FF [(92, 0), (93, 0), (94, 0)] [(2, 0), (3, 0)] b250_0 [.l 1 (s.map eB), (AV.i .i64 ((s.length : Int))), (AV.i .i64 ((i : Int)))] = LP FF [(92, 0), (93, 0), (94, 0)] [(2, 0), (3, 0)] b250_0 [.l 1 (s.map eB), (AV.i .i64 ((s.length : Int))), (AV.i .i64 (((i + 1 : Nat) : Int)))] := by
    rw [LP_go FF b250_0.eq_1]
    simp only [RB, RL, un, St.none, Nat.reduceEqDiff, Nat.reduceAdd, Nat.reduceMul, Nat.reduceMod, Nat.reduceLeDiff, Nat.reduceLT, Int.reduceLT, Int.reduceLE, Int.reduceEq, Int.reduceToNat, Int.reduceSub, Int.reduceNeg, Int.reduceAdd, ↓reduceIte, reduceCtorEq, pack, pid, parN, lid, chkK, apartV, Heap.none, c1, h1, eB_rules, eB_row, zd, e2]
   rw [step]
   rcases ih (i + 1) (by omega) with h9 | ⟨h8, h9⟩
   ·exact .inl h9
   ·exact .inr ⟨fun j a b => by
     rcases Nat.eq_or_lt_of_le a with rfl | a
     ·exact h1
     ·exact h8 j a b, h9⟩
  | false =>
   refine .inl ⟨i, hlt, h1, ?_⟩
   rw [LP_go FF b250_0.eq_1]
   simp only [RB, RL, un, St.none, Nat.reduceEqDiff, Nat.reduceAdd, Nat.reduceMul, Nat.reduceMod, Nat.reduceLeDiff, Nat.reduceLT, Int.reduceLT, Int.reduceLE, Int.reduceEq, Int.reduceToNat, Int.reduceSub, Int.reduceNeg, Int.reduceAdd, ↓reduceIte, reduceCtorEq, pack, pid, parN, lid, chkK, apartV, Heap.none, c1, h1, eB_rules, eB_row, zd, e2]
structure Shp (t : List RNd) : Prop where
 par : Par t
 all : ∃ vis, dfs t t.length [0] = some vis ∧ ∀ j, j < t.length → j ∈ vis
theorem rng_of {t : List RNd} {f : Int} (hr : t.any (bdR t.length f) = false) {n : RNd} (hn : n ∈ t) (hl : n.leaf = false) : 0 ≤ n.ft ∧ n.ft < f ∧ 1 ≤ n.lft ∧ n.lft < (t.length : Int) ∧ 1 ≤ n.rgt ∧ n.rgt < (t.length : Int) := by
 rw [List.any_eq_false] at hr
 have h := hr n hn
 unfold bdR at h
 rw [hl] at h
 simp only [Bool.not_false, Bool.true_and, Bool.or_eq_true, decide_eq_true_eq, not_or] at h
 omega
theorem kids_rng {t : List RNd} {f : Int} (hr : t.any (bdR t.length f) = false) : ∀ i, i < t.length → ∀ c ∈ kids (t.getD i dNd), 1 ≤ c ∧ c < t.length := by
 intro i hi c hc
 unfold kids at hc
 split at hc
 ·exact (List.not_mem_nil hc).elim
 ·rename_i hl
  have hl' : (t.getD i dNd).leaf = false := by simpa using hl
  have h := rng_of hr (getD_mem' dNd hi) hl'
  simp only [List.mem_cons, List.not_mem_nil, or_false] at hc
  rcases hc with rfl | rfl <;> omega
theorem shape_c {t : List RNd} {f : Int} (h1t : 1 ≤ t.length) (ht : t.length ≤ 100000) (hr : t.any (bdR t.length f) = false) : ∃ i e : Int, R FF 250 [.l 14 (t.map eNd)] = some (.tup [(AV.i .i64 i), (AV.i .i64 e)]) ∧ ((Shp t ∧ i = 0 ∧ e = 0) ∨ (¬ Shp t ∧ e = 11)) := by
 have l3 := shape_l3 ht hr t.length 0 (zn t.length 0) (by omega) (zt ..) (fun j => by
  rw [za, List.getElem?_replicate]
  split <;> simp)
 rw [zy, List.drop_zero] at l3
 change LP FF [(4, 1), (0, 0), (18, 0), (19, 0), (20, 0)] [(0, 0), (4, 0)] b250_3 _ = some (Ex.exit 0, [AV.l 14 (t.map eNd), AV.l 1 ((parL t).map n64)]) at l3
 have hpl : (parL t).length = t.length := by
  have : ∀ (l : List RNd) (P : List Int), (l.foldl bump P).length = P.length := by
   intro l
   induction l with
   | nil => intro P; rfl
   | cons n l ih => intro P; rw [List.foldl_cons, ih, bump_len]
  unfold parL; rw [this, zt]
 have hpc := parL_cnt (t := t) (fun n hn hl => by have := rng_of hr hn hl; omega)
 have l2 := shape_l2 ht hpl t.length 0 (by omega)
 rw [zy] at l2
 have c0 : (0 : Int) ≤ (t.length : Int) := by omega
 have b1 : t.length * 8 ≤ 281474976710656 := by omega
 have b2 : t.length * 1 ≤ 281474976710656 := by omega
 have b3 : t.length ≤ 281474976710656 := by omega
 have tr1 : List.take t.length (zn t.length (0 : Int)) = zn t.length 0 := zb (by rw [zt]; exact zk _)
 have tr2 : List.take t.length (zn t.length false) = zn t.length false := zb (by rw [zt]; exact zk _)
 have rB : ∀ n, zn n [AV.b false] = (zn n false).map eB := fun n => by rw [List.map_replicate]; rfl
 rcases l2 with ⟨j, j0, j1, j2, l2⟩ | ⟨h2, l2⟩
 ·refine ⟨j, 11, ?_, .inr ⟨fun h => ?_, rfl⟩⟩
  ·generalize parL t = P at *
   rw [R_go FF F250 c250.eq_1]
   simp only [RB, RL, un, St.none, Nat.reduceEqDiff, Nat.reduceAdd, Nat.reduceMul, Nat.reduceMod, Nat.reduceLeDiff, Nat.reduceLT, Int.reduceLT, Int.reduceLE, Int.reduceEq, Int.reduceToNat, Int.reduceSub, Int.reduceNeg, Int.reduceAdd, ↓reduceIte, reduceCtorEq, pack, pid, parN, lid, chkK, apartV, Heap.none, tr1, tr2, l3, l2, c0, b1, b2, b3, hpl, eNd_rules, eNd_row, n64, Int.toNat_natCast]
  ·rw [hpc, h.par.one j j0 j1] at j2
   exact j2 rfl
 ·have hpar : Par t := ⟨kids_rng hr, fun j j0 j1 => by
   have := h2 j (Nat.zero_le _) j1 j0
   rw [hpc] at this
   omega⟩
  obtain ⟨vis, v1, v2, v3, v4⟩ := dfs_some hpar t.length [] [0] (by simp) (fun c hc => by
   rw [List.nil_append, zA] at hc; omega) (fun c hc => by
   rw [List.nil_append, zA] at hc; exact .inl hc) (by simp)
  have l1 := shape_l1 ht hpar t.length [0] (zn t.length false) vis v1 (fun c hc => by
   rw [zA] at hc; omega) (zt ..) v3 (by rw [List.length_singleton]; omega)
  have hm := marks vis (zn t.length false)
  have hrf : ∀ j, (zn t.length false).getD j false = false := fun j => by
   rw [za, List.getElem?_replicate]; split <;> rfl
  have hml : (vis.foldl (fun s a => s.set a true) (zn t.length false)).length = t.length := by rw [(hm 0).1, zt]
  have l0 := shape_l0 (s := vis.foldl (fun s a => s.set a true) (zn t.length false)) (by omega) _ 0 (zB _)
  rw [hml, zy] at l0
  have e10 : List.map eX [0].reverse = [[AV.i .i64 0]] := rfl
  rw [e10] at l1
  have hz : vis.foldl (fun s a => s.set a true) (zn t.length false) = vis.foldl (fun s a => s.set a true) (zn t.length false) := rfl
  rcases l0 with ⟨j, j1, j2, l0⟩ | ⟨h0, l0⟩
  ·refine ⟨j, 11, ?_, .inr ⟨fun h => ?_, rfl⟩⟩
   ·generalize vis.foldl (fun s a => s.set a true) (zn t.length false) = M at *
    generalize parL t = P at *
    rw [R_go FF F250 c250.eq_1]
    simp only [RB, RL, un, St.none, Nat.reduceEqDiff, Nat.reduceAdd, Nat.reduceMul, Nat.reduceMod, Nat.reduceLeDiff, Nat.reduceLT, Int.reduceLT, Int.reduceLE, Int.reduceEq, Int.reduceToNat, Int.reduceSub, Int.reduceNeg, Int.reduceAdd, ↓reduceIte, reduceCtorEq, pack, pid, parN, lid, chkK, apartV, Heap.none, tr1, tr2, l3, l2, l1, l0, c0, b1, b2, b3, hpl, hml, rB, eNd_rules, eNd_row, eB_rules, eB_row, eX_rules, eX_row, n64, Int.toNat_natCast]
   ·obtain ⟨vis', w1, w2⟩ := h.all
    rw [v1] at w1
    cases w1
    have h5 := (hm j).2.2 (.inr ⟨w2 j j1, by rw [zt]; exact j1⟩)
    rw [j2] at h5
    cases h5
  ·refine ⟨0, 0, ?_, .inl ⟨⟨hpar, vis, v1, fun j hj => ?_⟩, rfl, rfl⟩⟩
   ·generalize vis.foldl (fun s a => s.set a true) (zn t.length false) = M at *
    generalize parL t = P at *
    rw [R_go FF F250 c250.eq_1]
    simp only [RB, RL, un, St.none, Nat.reduceEqDiff, Nat.reduceAdd, Nat.reduceMul, Nat.reduceMod, Nat.reduceLeDiff, Nat.reduceLT, Int.reduceLT, Int.reduceLE, Int.reduceEq, Int.reduceToNat, Int.reduceSub, Int.reduceNeg, Int.reduceAdd, ↓reduceIte, reduceCtorEq, pack, pid, parN, lid, chkK, apartV, Heap.none, tr1, tr2, l3, l2, l1, l0, c0, b1, b2, b3, hpl, hml, rB, eNd_rules, eNd_row, eB_rules, eB_row, eX_rules, eX_row, n64, Int.toNat_natCast]
   ·have h5 := (hm j).2.1 (h0 j (Nat.zero_le _) hj)
    rcases h5 with h5 | h5
    ·rw [hrf] at h5; cases h5
    ·exact h5.1
def okR (f : Int) (r : Nat) (t : List RNd) : Prop := match r with
 | 0 => t.any (bdR t.length f) = false
 | 1 => Shp t
 | 2 => t.any bdC = false
 | _ => t.any (bdS t) = false
structure VT (t : List RNd) (f : Int) : Prop where
 rg : t.any (bdR t.length f) = false
 sh : Shp t
 cv : t.any bdC = false
 sm : t.any (bdS t) = false
theorem check_l1 {f : Int} {ts : List (List RNd)} {k r : Nat} (hk : k ≤ 10000000000) (h1k : 1 ≤ k) (hts : ts.length ≤ 100000) (ht : ∀ t ∈ ts, 1 ≤ t.length ∧ t.length ≤ 100000 ∧ SmT t k) (hr4 : r < 4) (hr : r = 0 ∨ ∀ t ∈ ts, t.any (bdR t.length f) = false) : ∀ (d i : Nat), i + d = ts.length →
  (∃ e a b c : Int, e ≠ 0 ∧ (∃ t ∈ ts, ¬ okR f r t) ∧ LP FF [(2, 1), (1, 0), (3, 0), (12, 0), (16, 0), (17, 0), (18, 0)] [(2, 1), (1, 0), (12, 0)] b237_1 [.ownp [(AV.i .i64 0), (AV.i .i64 0), (AV.i .i64 0), (AV.i .i64 0)], .tp (eM (f, ts)) 0, (AV.i .i64 ((r : Int))), (AV.i .i64 ((r : Int))), .l 1 (ts.map eTr), (AV.i .i64 ((ts.length : Int))), (AV.i .i64 ((i : Int)))] = some (.ret, [.ownp [(AV.i .i64 e), (AV.i .i64 a), (AV.i .i64 b), (AV.i .i64 c)], .tp (eM (f, ts)) 0, (AV.i .i64 ((r : Int)))])) ∨
  ((∀ j, i ≤ j → j < ts.length → okR f r (ts.getD j [])) ∧ LP FF [(2, 1), (1, 0), (3, 0), (12, 0), (16, 0), (17, 0), (18, 0)] [(2, 1), (1, 0), (12, 0)] b237_1 [.ownp [(AV.i .i64 0), (AV.i .i64 0), (AV.i .i64 0), (AV.i .i64 0)], .tp (eM (f, ts)) 0, (AV.i .i64 ((r : Int))), (AV.i .i64 ((r : Int))), .l 1 (ts.map eTr), (AV.i .i64 ((ts.length : Int))), (AV.i .i64 ((i : Int)))] = some (.exit 2, [.ownp [(AV.i .i64 0), (AV.i .i64 0), (AV.i .i64 0), (AV.i .i64 0)], .tp (eM (f, ts)) 0, (AV.i .i64 ((r : Int)))])) := by
 intro d
 induction d with
 | zero =>
  intro i hi
  refine .inr ⟨fun j h1 h2 => by omega, ?_⟩
  have c1 : ¬ (i : Int) < (ts.length : Int) := by omega
  simp only [eM]
  rw [LP_go FF b237_1.eq_1]
  simp only [RB, RL, un, St.none, Nat.reduceEqDiff, Nat.reduceAdd, Nat.reduceMul, Nat.reduceMod, Nat.reduceLeDiff, Nat.reduceLT, Int.reduceLT, Int.reduceLE, Int.reduceEq, Int.reduceToNat, Int.reduceSub, Int.reduceNeg, Int.reduceAdd, ↓reduceIte, reduceCtorEq, pack, pid, parN, lid, chkK, apartV, Heap.none, c1, eTr_rules, eTr_row]
 | succ d ih =>
  intro i hi
  have hlt : i < ts.length := by omega
  have hmem := getD_mem' ([] : List RNd) hlt
  obtain ⟨t1, t2, t3⟩ := ht _ hmem
  have c1 : (i : Int) < (ts.length : Int) := by omega
  have e2 : IntKind.i64.wrap ((i : Int) + 1) = ((i + 1 : Nat) : Int) := w64succ (by omega)
  have hcon : ∃ a e : Int, ((okR f r (ts.getD i []) ∧ e = 0) ∨ (¬ okR f r (ts.getD i []) ∧ e ≠ 0)) ∧
    (r = 0 → R FF 249 [.l 14 ((ts.getD i []).map eNd), (AV.i .i64 f)] = some (.tup [(AV.i .i64 a), (AV.i .i64 e)])) ∧ (r = 1 → R FF 250 [.l 14 ((ts.getD i []).map eNd)] = some (.tup [(AV.i .i64 a), (AV.i .i64 e)])) ∧
    (r = 2 → R FF 251 [.l 14 ((ts.getD i []).map eNd)] = some (.tup [(AV.i .i64 a), (AV.i .i64 e)])) ∧ (r = 3 → R FF 252 [.l 14 ((ts.getD i []).map eNd)] = some (.tup [(AV.i .i64 a), (AV.i .i64 e)])) := by
   rcases (show r = 0 ∨ r = 1 ∨ r = 2 ∨ r = 3 by omega) with rfl | rfl | rfl | rfl
   ·obtain ⟨a, h⟩ := ranges_c (f := f) t2
    refine ⟨_, _, ?_, fun _ => h, fun h => (by omega), fun h => (by omega), fun h => (by omega)⟩
    show (((ts.getD i []).any (bdR (ts.getD i []).length f) = false) ∧ _) ∨ (¬ ((ts.getD i []).any (bdR (ts.getD i []).length f) = false) ∧ _)
    cases (ts.getD i []).any (bdR (ts.getD i []).length f)
    ·exact .inl ⟨rfl, rfl⟩
    ·exact .inr ⟨by decide, by decide⟩
   ·obtain ⟨a, e, h, h2⟩ := shape_c t1 t2 (hr.resolve_left (by omega) _ hmem)
    refine ⟨a, e, ?_, fun h => (by omega), fun _ => h, fun h => (by omega), fun h => (by omega)⟩
    rcases h2 with ⟨h3, _, h4⟩ | ⟨h3, h4⟩
    ·exact .inl ⟨h3, h4⟩
    ·exact .inr ⟨h3, by omega⟩
   ·obtain ⟨a, h⟩ := covers_c hk t2 t3
    refine ⟨_, _, ?_, fun h => (by omega), fun h => (by omega), fun _ => h, fun h => (by omega)⟩
    show (((ts.getD i []).any bdC = false) ∧ _) ∨ (¬ ((ts.getD i []).any bdC = false) ∧ _)
    cases (ts.getD i []).any bdC
    ·exact .inl ⟨rfl, rfl⟩
    ·exact .inr ⟨by decide, by decide⟩
   ·obtain ⟨a, h⟩ := vsums_c hk h1k t2 t3 (hr.resolve_left (by omega) _ hmem)
    refine ⟨_, _, ?_, fun h => (by omega), fun h => (by omega), fun h => (by omega), fun _ => h⟩
    show (((ts.getD i []).any (bdS (ts.getD i [])) = false) ∧ _) ∨ (¬ ((ts.getD i []).any (bdS (ts.getD i [])) = false) ∧ _)
    cases (ts.getD i []).any (bdS (ts.getD i []))
    ·exact .inl ⟨rfl, rfl⟩
    ·exact .inr ⟨by decide, by decide⟩
  obtain ⟨a, e, he, k0, k1, k2, k3⟩ := hcon
  rcases he with ⟨h1, rfl⟩ | ⟨h1, h2⟩
  ·have step : LP FF [(2, 1), (1, 0), (3, 0), (12, 0), (16, 0), (17, 0), (18, 0)] [(2, 1), (1, 0), (12, 0)] b237_1 [.ownp [(AV.i .i64 0), (AV.i .i64 0), (AV.i .i64 0), (AV.i .i64 0)], .tp (eM (f, ts)) 0, (AV.i .i64 ((r : Int))), (AV.i .i64 ((r : Int))), .l 1 (ts.map eTr), (AV.i .i64 ((ts.length : Int))), (AV.i .i64 ((i : Int)))] = LP FF [(2, 1), (1, 0), (3, 0), (12, 0), (16, 0), (17, 0), (18, 0)] [(2, 1), (1, 0), (12, 0)] b237_1 [.ownp [(AV.i .i64 0), (AV.i .i64 0), (AV.i .i64 0), (AV.i .i64 0)], .tp (eM (f, ts)) 0, (AV.i .i64 ((r : Int))), (AV.i .i64 ((r : Int))), .l 1 (ts.map eTr), (AV.i .i64 ((ts.length : Int))), (AV.i .i64 (((i + 1 : Nat) : Int)))] := by
    simp only [eM]
    rcases (show r = 0 ∨ r = 1 ∨ r = 2 ∨ r = 3 by omega) with rfl | rfl | rfl | rfl
    ·have k0 := k0 rfl
     rw [zy]
     rw [LP_go FF b237_1.eq_1]
     simp only [RB, RL, un, St.none, Nat.reduceEqDiff, Nat.reduceAdd, Nat.reduceMul, Nat.reduceMod, Nat.reduceLeDiff, Nat.reduceLT, Int.reduceLT, Int.reduceLE, Int.reduceEq, Int.reduceToNat, Int.reduceSub, Int.reduceNeg, Int.reduceAdd, ↓reduceIte, reduceCtorEq, pack, pid, parN, lid, chkK, apartV, Heap.none, c1, e2, eTr_rules, eTr_row, zd, k0]
    ·have k1 := k1 rfl
     rw [show ((1 : Nat) : Int) = 1 from rfl]
     rw [LP_go FF b237_1.eq_1]
     simp only [RB, RL, un, St.none, Nat.reduceEqDiff, Nat.reduceAdd, Nat.reduceMul, Nat.reduceMod, Nat.reduceLeDiff, Nat.reduceLT, Int.reduceLT, Int.reduceLE, Int.reduceEq, Int.reduceToNat, Int.reduceSub, Int.reduceNeg, Int.reduceAdd, ↓reduceIte, reduceCtorEq, pack, pid, parN, lid, chkK, apartV, Heap.none, c1, e2, eTr_rules, eTr_row, zd, k1]
    ·have k2 := k2 rfl
     rw [show ((2 : Nat) : Int) = 2 from rfl]
     rw [LP_go FF b237_1.eq_1]
     simp only [RB, RL, un, St.none, Nat.reduceEqDiff, Nat.reduceAdd, Nat.reduceMul, Nat.reduceMod, Nat.reduceLeDiff, Nat.reduceLT, Int.reduceLT, Int.reduceLE, Int.reduceEq, Int.reduceToNat, Int.reduceSub, Int.reduceNeg, Int.reduceAdd, ↓reduceIte, reduceCtorEq, pack, pid, parN, lid, chkK, apartV, Heap.none, c1, e2, eTr_rules, eTr_row, zd, k2]
    ·have k3 := k3 rfl
     rw [show ((3 : Nat) : Int) = 3 from rfl]
     rw [LP_go FF b237_1.eq_1]
     simp only [RB, RL, un, St.none, Nat.reduceEqDiff, Nat.reduceAdd, Nat.reduceMul, Nat.reduceMod, Nat.reduceLeDiff, Nat.reduceLT, Int.reduceLT, Int.reduceLE, Int.reduceEq, Int.reduceToNat, Int.reduceSub, Int.reduceNeg, Int.reduceAdd, ↓reduceIte, reduceCtorEq, pack, pid, parN, lid, chkK, apartV, Heap.none, c1, e2, eTr_rules, eTr_row, zd, k3]
   rw [step]
   rcases ih (i + 1) (by omega) with h9 | ⟨h8, h9⟩
   ·exact .inl h9
   ·exact .inr ⟨fun j a b => by
     rcases Nat.eq_or_lt_of_le a with rfl | a
     ·exact h1
     ·exact h8 j a b, h9⟩
  ·have fl : R FF 253 [(AV.i .i64 e), (AV.i .i64 ((i : Int))), (AV.i .i64 a)] = some (.agg [(AV.i .i64 e), (AV.i .i64 0), (AV.i .i64 ((i : Int))), (AV.i .i64 a)]) := by
    rw [R_go FF F253 c253.eq_1]
    simp only [RB, RL, un, St.none, Nat.reduceEqDiff, Nat.reduceAdd, Nat.reduceMul, Nat.reduceMod, Nat.reduceLeDiff, Nat.reduceLT, Int.reduceLT, Int.reduceLE, Int.reduceEq, Int.reduceToNat, Int.reduceSub, Int.reduceNeg, Int.reduceAdd, ↓reduceIte, reduceCtorEq, pack, pid, parN, lid, chkK, apartV, Heap.none, n64]
   refine .inl ⟨e, 0, i, a, h2, ⟨_, hmem, h1⟩, ?_⟩
   simp only [eM]
   rcases (show r = 0 ∨ r = 1 ∨ r = 2 ∨ r = 3 by omega) with rfl | rfl | rfl | rfl
   ·have k0 := k0 rfl
    rw [zy]
    rw [LP_go FF b237_1.eq_1]
    simp only [RB, RL, un, St.none, Nat.reduceEqDiff, Nat.reduceAdd, Nat.reduceMul, Nat.reduceMod, Nat.reduceLeDiff, Nat.reduceLT, Int.reduceLT, Int.reduceLE, Int.reduceEq, Int.reduceToNat, Int.reduceSub, Int.reduceNeg, Int.reduceAdd, ↓reduceIte, reduceCtorEq, pack, pid, parN, lid, chkK, apartV, Heap.none, c1, e2, eTr_rules, eTr_row, zd, k0, h2, fl]
   ·have k1 := k1 rfl
    rw [show ((1 : Nat) : Int) = 1 from rfl]
    rw [LP_go FF b237_1.eq_1]
    simp only [RB, RL, un, St.none, Nat.reduceEqDiff, Nat.reduceAdd, Nat.reduceMul, Nat.reduceMod, Nat.reduceLeDiff, Nat.reduceLT, Int.reduceLT, Int.reduceLE, Int.reduceEq, Int.reduceToNat, Int.reduceSub, Int.reduceNeg, Int.reduceAdd, ↓reduceIte, reduceCtorEq, pack, pid, parN, lid, chkK, apartV, Heap.none, c1, e2, eTr_rules, eTr_row, zd, k1, h2, fl]
   ·have k2 := k2 rfl
    rw [show ((2 : Nat) : Int) = 2 from rfl]
    rw [LP_go FF b237_1.eq_1]
    simp only [RB, RL, un, St.none, Nat.reduceEqDiff, Nat.reduceAdd, Nat.reduceMul, Nat.reduceMod, Nat.reduceLeDiff, Nat.reduceLT, Int.reduceLT, Int.reduceLE, Int.reduceEq, Int.reduceToNat, Int.reduceSub, Int.reduceNeg, Int.reduceAdd, ↓reduceIte, reduceCtorEq, pack, pid, parN, lid, chkK, apartV, Heap.none, c1, e2, eTr_rules, eTr_row, zd, k2, h2, fl]
   ·have k3 := k3 rfl
    rw [show ((3 : Nat) : Int) = 3 from rfl]
    rw [LP_go FF b237_1.eq_1]
    simp only [RB, RL, un, St.none, Nat.reduceEqDiff, Nat.reduceAdd, Nat.reduceMul, Nat.reduceMod, Nat.reduceLeDiff, Nat.reduceLT, Int.reduceLT, Int.reduceLE, Int.reduceEq, Int.reduceToNat, Int.reduceSub, Int.reduceNeg, Int.reduceAdd, ↓reduceIte, reduceCtorEq, pack, pid, parN, lid, chkK, apartV, Heap.none, c1, e2, eTr_rules, eTr_row, zd, k3, h2, fl]
theorem check_l0 {f : Int} {ts : List (List RNd)} {k : Nat} (hk : k ≤ 10000000000) (h1k : 1 ≤ k) (hts : ts.length ≤ 100000) (ht : ∀ t ∈ ts, 1 ≤ t.length ∧ t.length ≤ 100000 ∧ SmT t k) : ∀ (d r : Nat), r + d = 4 → (∀ s, s < r → ∀ t ∈ ts, okR f s t) →
  (∃ e a b c : Int, e ≠ 0 ∧ (∃ t ∈ ts, ¬ VT t f) ∧ LP FF [(2, 1), (1, 0), (12, 0)] [(2, 1)] b237_0 [.ownp [(AV.i .i64 0), (AV.i .i64 0), (AV.i .i64 0), (AV.i .i64 0)], .tp (eM (f, ts)) 0, (AV.i .i64 ((r : Int)))] = some (.ret, [.ownp [(AV.i .i64 e), (AV.i .i64 a), (AV.i .i64 b), (AV.i .i64 c)]])) ∨
  ((∀ t ∈ ts, VT t f) ∧ LP FF [(2, 1), (1, 0), (12, 0)] [(2, 1)] b237_0 [.ownp [(AV.i .i64 0), (AV.i .i64 0), (AV.i .i64 0), (AV.i .i64 0)], .tp (eM (f, ts)) 0, (AV.i .i64 ((r : Int)))] = some (.exit 0, [.ownp [(AV.i .i64 0), (AV.i .i64 0), (AV.i .i64 0), (AV.i .i64 0)]])) := by
 intro d
 induction d with
 | zero =>
  intro r hr hs
  have hr : r = 4 := by omega
  subst hr
  refine .inr ⟨fun t h => ⟨hs 0 (by omega) t h, hs 1 (by omega) t h, hs 2 (by omega) t h, hs 3 (by omega) t h⟩, ?_⟩
  simp only [eM]
  rw [show ((4 : Nat) : Int) = 4 from rfl]
  rw [LP_go FF b237_0.eq_1]
  simp only [RB, RL, un, St.none, Nat.reduceEqDiff, Nat.reduceAdd, Nat.reduceMul, Nat.reduceMod, Nat.reduceLeDiff, Nat.reduceLT, Int.reduceLT, Int.reduceLE, Int.reduceEq, Int.reduceToNat, Int.reduceSub, Int.reduceNeg, Int.reduceAdd, ↓reduceIte, reduceCtorEq, pack, pid, parN, lid, chkK, apartV, Heap.none, eTr_rules, eTr_row]
 | succ d ih =>
  intro r hr hs
  have c1 : (r : Int) < 4 := by omega
  have e2 : IntKind.i64.wrap ((r : Int) + 1) = ((r + 1 : Nat) : Int) := w64succ (by omega)
  have l1 := check_l1 (f := f) (r := r) hk h1k hts ht (by omega) (by
   rcases Nat.eq_zero_or_pos r with h | h
   ·exact .inl h
   ·exact .inr (hs 0 h)) ts.length 0 (by omega)
  rw [zy] at l1
  rcases l1 with ⟨e, a, b, c, h1, ⟨t, h2, h3⟩, l1⟩ | ⟨h1, l1⟩
  ·refine .inl ⟨e, a, b, c, h1, ⟨t, h2, fun v => h3 ?_⟩, ?_⟩
   ·rcases (show r = 0 ∨ r = 1 ∨ r = 2 ∨ r = 3 by omega) with rfl | rfl | rfl | rfl
    ·exact v.rg
    ·exact v.sh
    ·exact v.cv
    ·exact v.sm
   ·simp only [eM] at l1 ⊢
    rw [LP_go FF b237_0.eq_1]
    simp only [RB, RL, un, St.none, Nat.reduceEqDiff, Nat.reduceAdd, Nat.reduceMul, Nat.reduceMod, Nat.reduceLeDiff, Nat.reduceLT, Int.reduceLT, Int.reduceLE, Int.reduceEq, Int.reduceToNat, Int.reduceSub, Int.reduceNeg, Int.reduceAdd, ↓reduceIte, reduceCtorEq, pack, pid, parN, lid, chkK, apartV, Heap.none, eTr_rules, eTr_row, c1, l1]
  ·have h9 := ih (r + 1) (by omega) (fun s hs' t h => by
    rcases Nat.lt_or_eq_of_le (show s ≤ r by omega) with h' | rfl
    ·exact hs s h' t h
    ·obtain ⟨i, hi, rfl⟩ := List.getElem_of_mem h
     have := h1 i (Nat.zero_le _) hi
     rwa [za, zh hi, Option.getD_some] at this)
   have step : LP FF [(2, 1), (1, 0), (12, 0)] [(2, 1)] b237_0 [.ownp [(AV.i .i64 0), (AV.i .i64 0), (AV.i .i64 0), (AV.i .i64 0)], .tp (eM (f, ts)) 0, (AV.i .i64 ((r : Int)))] = LP FF [(2, 1), (1, 0), (12, 0)] [(2, 1)] b237_0 [.ownp [(AV.i .i64 0), (AV.i .i64 0), (AV.i .i64 0), (AV.i .i64 0)], .tp (eM (f, ts)) 0, (AV.i .i64 (((r + 1 : Nat) : Int)))] := by
    simp only [eM] at l1 ⊢
    rw [LP_go FF b237_0.eq_1]
    simp only [RB, RL, un, St.none, Nat.reduceEqDiff, Nat.reduceAdd, Nat.reduceMul, Nat.reduceMod, Nat.reduceLeDiff, Nat.reduceLT, Int.reduceLT, Int.reduceLE, Int.reduceEq, Int.reduceToNat, Int.reduceSub, Int.reduceNeg, Int.reduceAdd, ↓reduceIte, reduceCtorEq, pack, pid, parN, lid, chkK, apartV, Heap.none, eTr_rules, eTr_row, c1, l1, e2]
   rw [step]
   exact h9
structure VM (m : RM) : Prop where
 fit : fitB m = true
 all : ∀ t ∈ m.2, VT t m.1
theorem ok_c {m : RM} {k : Nat} (hk : k ≤ 10000000000) (h1k : 1 ≤ k) (hts : m.2.length ≤ 100000) (ht : ∀ t ∈ m.2, t.length ≤ 100000 ∧ SmT t k) : ∃ b : Bool, R FF 211 [.agg (eM m)] = some (.b b) ∧ (b = true ↔ VM m) := by
 have f1 := fits_c hts (fun t h => (ht t h).1)
 obtain ⟨f, ts⟩ := m
 cases hf : fitB (f, ts) with
 | false =>
  refine ⟨false, ?_, ⟨fun h => (by cases h), fun h => by have := h.fit; rw [hf] at this; cases this⟩⟩
  rw [hf] at f1
  have ck : R FF 237 [.agg (eM (f, ts))] = some (.agg [(AV.i .i64 1), (AV.i .i64 0), (AV.i .i64 0), (AV.i .i64 0)]) := by
   simp only [eM] at f1 ⊢
   rw [R_go FF F237 c237.eq_1]
   simp only [RB, RL, un, St.none, Nat.reduceEqDiff, Nat.reduceAdd, Nat.reduceMul, Nat.reduceMod, Nat.reduceLeDiff, Nat.reduceLT, Int.reduceLT, Int.reduceLE, Int.reduceEq, Int.reduceToNat, Int.reduceSub, Int.reduceNeg, Int.reduceAdd, ↓reduceIte, reduceCtorEq, pack, pid, parN, lid, chkK, apartV, Heap.none, f1, n64, eTr_rules, eTr_row]
  simp only [eM] at ck ⊢
  rw [R_go FF F211 c211.eq_1]
  simp only [RB, RL, un, St.none, Nat.reduceEqDiff, Nat.reduceAdd, Nat.reduceMul, Nat.reduceMod, Nat.reduceLeDiff, Nat.reduceLT, Int.reduceLT, Int.reduceLE, Int.reduceEq, Int.reduceToNat, Int.reduceSub, Int.reduceNeg, Int.reduceAdd, ↓reduceIte, reduceCtorEq, pack, pid, parN, lid, chkK, apartV, Heap.none, ck, n64, eTr_rules, eTr_row]
 | true =>
  rw [hf] at f1
  have hb : fitB (f, ts) = !(decide (f < 0) || decide (64 < f) || decide (64 < (ts.length : Int)) || ts.any bdT) := rfl
  rw [hf] at hb
  have hT : ts.any bdT = false := by
   cases h : ts.any bdT with
   | false => rfl
   | true => rw [h, Bool.or_true] at hb; cases hb
  have ht2 : ∀ t ∈ ts, 1 ≤ t.length ∧ t.length ≤ 100000 ∧ SmT t k := fun t h => by
   have h2 := ht t h
   rw [List.any_eq_false] at hT
   have h3 := hT t h
   unfold bdT at h3
   simp only [Bool.or_eq_true, decide_eq_true_eq, not_or] at h3
   exact ⟨by omega, h2.1, h2.2⟩
  have l0 := check_l0 (f := f) hk h1k hts ht2 4 0 (by omega) (fun s h => absurd h (Nat.not_lt_zero _))
  rw [zy] at l0
  rcases l0 with ⟨e, a, b, c, h1, ⟨t, h2, h3⟩, l0⟩ | ⟨h1, l0⟩
  ·refine ⟨false, ?_, ⟨fun h => (by cases h), fun h => (h3 (h.all t h2)).elim⟩⟩
   have ck : R FF 237 [.agg (eM (f, ts))] = some (.agg [(AV.i .i64 e), (AV.i .i64 a), (AV.i .i64 b), (AV.i .i64 c)]) := by
    simp only [eM] at f1 l0 ⊢
    rw [R_go FF F237 c237.eq_1]
    simp only [RB, RL, un, St.none, Nat.reduceEqDiff, Nat.reduceAdd, Nat.reduceMul, Nat.reduceMod, Nat.reduceLeDiff, Nat.reduceLT, Int.reduceLT, Int.reduceLE, Int.reduceEq, Int.reduceToNat, Int.reduceSub, Int.reduceNeg, Int.reduceAdd, ↓reduceIte, reduceCtorEq, pack, pid, parN, lid, chkK, apartV, Heap.none, f1, l0, n64, eTr_rules, eTr_row]
   simp only [eM] at ck ⊢
   rw [R_go FF F211 c211.eq_1]
   simp only [RB, RL, un, St.none, Nat.reduceEqDiff, Nat.reduceAdd, Nat.reduceMul, Nat.reduceMod, Nat.reduceLeDiff, Nat.reduceLT, Int.reduceLT, Int.reduceLE, Int.reduceEq, Int.reduceToNat, Int.reduceSub, Int.reduceNeg, Int.reduceAdd, ↓reduceIte, reduceCtorEq, pack, pid, parN, lid, chkK, apartV, Heap.none, ck, n64, eTr_rules, eTr_row, h1]
  ·refine ⟨true, ?_, ⟨fun _ => ⟨hf, h1⟩, fun _ => rfl⟩⟩
   have ck : R FF 237 [.agg (eM (f, ts))] = some (.agg [(AV.i .i64 0), (AV.i .i64 0), (AV.i .i64 0), (AV.i .i64 0)]) := by
    simp only [eM] at f1 l0 ⊢
    rw [R_go FF F237 c237.eq_1]
    simp only [RB, RL, un, St.none, Nat.reduceEqDiff, Nat.reduceAdd, Nat.reduceMul, Nat.reduceMod, Nat.reduceLeDiff, Nat.reduceLT, Int.reduceLT, Int.reduceLE, Int.reduceEq, Int.reduceToNat, Int.reduceSub, Int.reduceNeg, Int.reduceAdd, ↓reduceIte, reduceCtorEq, pack, pid, parN, lid, chkK, apartV, Heap.none, f1, l0, n64, eTr_rules, eTr_row]
   simp only [eM] at ck ⊢
   rw [R_go FF F211 c211.eq_1]
   simp only [RB, RL, un, St.none, Nat.reduceEqDiff, Nat.reduceAdd, Nat.reduceMul, Nat.reduceMod, Nat.reduceLeDiff, Nat.reduceLT, Int.reduceLT, Int.reduceLE, Int.reduceEq, Int.reduceToNat, Int.reduceSub, Int.reduceNeg, Int.reduceAdd, ↓reduceIte, reduceCtorEq, pack, pid, parN, lid, chkK, apartV, Heap.none, ck, n64, eTr_rules, eTr_row]
theorem vtree_c {t : List RNd} {f : Int} {k : Nat} (hk : k ≤ 10000000000) (h1k : 1 ≤ k) (ht : t.length ≤ 100000) (hs : SmT t k) : ∃ b : Bool, R FF 244 [.l 14 (t.map eNd), (AV.i .i64 f)] = some (.b b) ∧ (b = true ↔ VM (f, [t])) := by
 obtain ⟨b, h1, h2⟩ := ok_c (m := (f, [t])) hk h1k (by show 1 ≤ _; omega) (fun x hx => by rw [List.mem_singleton.1 hx]; exact ⟨ht, hs⟩)
 refine ⟨b, ?_, h2⟩
 change R FF 211 [AV.agg [AV.i .i64 f, AV.l 1 [[AV.l 14 (t.map eNd)]]]] = _ at h1
 rw [R_go FF F244 c244.eq_1]
 simp only [RB, RL, un, St.none, Nat.reduceEqDiff, Nat.reduceAdd, Nat.reduceMul, Nat.reduceMod, Nat.reduceLeDiff, Nat.reduceLT, Int.reduceLT, Int.reduceLE, Int.reduceEq, Int.reduceToNat, Int.reduceSub, Int.reduceNeg, Int.reduceAdd, ↓reduceIte, reduceCtorEq, pack, pid, parN, lid, chkK, apartV, Heap.none, h1, n64]
inductive All2 (R : RNd → RNd → Prop) : List RNd → List RNd → Prop where
 | nil : All2 R [] []
 | cons {a b : RNd} {l m : List RNd} (h : R a b) (hs : All2 R l m) : All2 R (a :: l) (b :: m)
inductive Sub (T : List RNd) (f : Int) : Nat → Nat → Rat → Prop where
 | leaf {p : Nat} (hp : p < T.length) (hl : (T.getD p dNd).leaf = true) (hc : 0 < vQ (T.getD p dNd).cov) : Sub T f p (p + 1) (vQ (T.getD p dNd).cov)
 | node {p q r : Nat} {a b : Rat} (hl : (T.getD p dNd).leaf = false) (hf : 0 ≤ (T.getD p dNd).ft ∧ (T.getD p dNd).ft < f) (h1 : (T.getD p dNd).lft = ((p + 1 : Nat) : Int)) (h2 : (T.getD p dNd).rgt = (q : Int))
  (hc : vQ (T.getD p dNd).cov = a + b) (ha : Sub T f (p + 1) q a) (hb : Sub T f q r b) : Sub T f p r (a + b)
def goN (n : RNd) (row : List RC) : Bool := goV (vQ n.cut) n.miss (row.getD n.ft.toNat dC)
def nextN (n : RNd) (row : List RC) : Nat := if goN n row then n.lft.toNat else n.rgt.toNat
def walk (t : List RNd) (row : List RC) : Nat → Nat → Option Nat
 | 0, a => if (t.getD a dNd).leaf then some a else none
 | k + 1, a => if (t.getD a dNd).leaf then some a else walk t row k (nextN (t.getD a dNd) row)
def SmW (row : List RC) (k : Nat) : Prop := ∀ c ∈ row, SmQ c.2 k
theorem vt_len {m : RM} (h : VM m) : ∀ t ∈ m.2, 1 ≤ t.length := by
 intro t ht
 have hf := h.fit
 unfold fitB at hf
 rw [Bool.not_eq_true'] at hf
 rw [Bool.or_eq_false_iff, List.any_eq_false] at hf
 have h2 := hf.2 t ht
 unfold bdT at h2
 simp only [Bool.or_eq_true, decide_eq_true_eq, not_or] at h2
 omega
theorem left10_c {n : RNd} {x : RC} {k j : Nat} (hc : SmQ n.cut k) (hx : SmQ x.2 j) (hk : k ≤ 100000000000) (hj : j ≤ 100000000000) : R FF 231 [.agg (eNd n), .agg (eC x)] = some (.b (!n.leaf && goV (vQ n.cut) n.miss x)) := by
 have f1 := vcmp_c hx hc hj hk
 have e : decide (vQ x.2 < vQ n.cut) = decide (qcmp (vQ x.2) (vQ n.cut) < 0) := decide_eq_decide.2 qcmp_lt.symm
 unfold goV
 rw [e]
 generalize qcmp (vQ x.2) (vQ n.cut) = z at *
 obtain ⟨lf, ft, c, a, b, m, v, w⟩ := n
 obtain ⟨a', q, l, d⟩ := x
 simp only [eNd, eC]
 cases lf
 ·cases a'
  ·rw [R_go FF F231 c231.eq_1]
   simp only [RB, RL, un, St.none, Nat.reduceEqDiff, Nat.reduceAdd, Nat.reduceMul, Nat.reduceMod, Nat.reduceLeDiff, Nat.reduceLT, Int.reduceLT, Int.reduceLE, Int.reduceEq, Int.reduceToNat, Int.reduceSub, Int.reduceNeg, Int.reduceAdd, ↓reduceIte, reduceCtorEq, pack, pid, parN, lid, chkK, apartV, Heap.none, f1, n64]
   try rfl
  ·cases m
   ·rw [R_go FF F231 c231.eq_1]
    simp only [RB, RL, un, St.none, Nat.reduceEqDiff, Nat.reduceAdd, Nat.reduceMul, Nat.reduceMod, Nat.reduceLeDiff, Nat.reduceLT, Int.reduceLT, Int.reduceLE, Int.reduceEq, Int.reduceToNat, Int.reduceSub, Int.reduceNeg, Int.reduceAdd, ↓reduceIte, reduceCtorEq, pack, pid, parN, lid, chkK, apartV, Heap.none, f1, n64]
    try rfl
   ·rw [R_go FF F231 c231.eq_1]
    simp only [RB, RL, un, St.none, Nat.reduceEqDiff, Nat.reduceAdd, Nat.reduceMul, Nat.reduceMod, Nat.reduceLeDiff, Nat.reduceLT, Int.reduceLT, Int.reduceLE, Int.reduceEq, Int.reduceToNat, Int.reduceSub, Int.reduceNeg, Int.reduceAdd, ↓reduceIte, reduceCtorEq, pack, pid, parN, lid, chkK, apartV, Heap.none, f1, n64]
    try rfl
 ·rw [R_go FF F231 c231.eq_1]
  simp only [RB, RL, un, St.none, Nat.reduceEqDiff, Nat.reduceAdd, Nat.reduceMul, Nat.reduceMod, Nat.reduceLeDiff, Nat.reduceLT, Int.reduceLT, Int.reduceLE, Int.reduceEq, Int.reduceToNat, Int.reduceSub, Int.reduceNeg, Int.reduceAdd, ↓reduceIte, reduceCtorEq, pack, pid, parN, lid, chkK, apartV, Heap.none, f1, n64]
  try rfl
theorem way10_c {t : List RNd} {row : List RC} {f : Int} {k : Nat} (hk : k ≤ 10000000000) (ht : t.length ≤ 100000) (hs : SmT t k) (hr : SmW row k) (hrg : t.any (bdR t.length f) = false) (hf : (row.length : Int) = f) : ∀ (d a b : Nat), d ≤ 100000 → a < t.length → walk t row d a = some b →
  ∃ P : List Nat, 1 ≤ P.length ∧ P.length ≤ d + 1 ∧ P.getD (P.length - 1) 0 = b ∧ R FF 206 [.l 14 (t.map eNd), (AV.i .i64 ((a : Int))), .l 4 (row.map eC)] = some (.l 1 (P.map eX)) := by
 intro d
 induction d with
 | zero =>
  intro a b hd ha h
  rw [walk] at h
  split at h
  ·rename_i hl
   cases h
   refine ⟨[a], zk _, zk _, rfl, ?_⟩
   have c1 : (a : Int) < (t.length : Int) := by omega
   have e : [[AV.i .i64 (a : Int)]] = [a].map eX := rfl
   rw [← e]
   rw [R_go FF F206 c206.eq_1]
   simp only [RB, RL, un, St.none, Nat.reduceEqDiff, Nat.reduceAdd, Nat.reduceMul, Nat.reduceMod, Nat.reduceLeDiff, Nat.reduceLT, Int.reduceLT, Int.reduceLE, Int.reduceEq, Int.reduceToNat, Int.reduceSub, Int.reduceNeg, Int.reduceAdd, ↓reduceIte, reduceCtorEq, pack, pid, parN, lid, chkK, apartV, Heap.none, c1, hl, n64, eNd_rules, eNd_row, eC_rules, eC_row, zd]
  ·cases h
 | succ d ih =>
  intro a b hd ha h
  have c1 : (a : Int) < (t.length : Int) := by omega
  have hmem := getD_mem' dNd ha
  cases hl : (t.getD a dNd).leaf with
  | true =>
   rw [walk, if_pos hl] at h
   cases h
   refine ⟨[a], zk _, by show 1 ≤ _; omega, rfl, ?_⟩
   have e : [[AV.i .i64 (a : Int)]] = [a].map eX := rfl
   rw [← e]
   rw [R_go FF F206 c206.eq_1]
   simp only [RB, RL, un, St.none, Nat.reduceEqDiff, Nat.reduceAdd, Nat.reduceMul, Nat.reduceMod, Nat.reduceLeDiff, Nat.reduceLT, Int.reduceLT, Int.reduceLE, Int.reduceEq, Int.reduceToNat, Int.reduceSub, Int.reduceNeg, Int.reduceAdd, ↓reduceIte, reduceCtorEq, pack, pid, parN, lid, chkK, apartV, Heap.none, c1, hl, n64, eNd_rules, eNd_row, eC_rules, eC_row, zd]
  | false =>
   rw [walk, if_neg (by rw [hl]; decide)] at h
   have hg := rng_of hrg hmem hl
   have hn : nextN (t.getD a dNd) row < t.length := by unfold nextN; split <;> omega
   obtain ⟨P, q1, q2, q3, q4⟩ := ih _ b (by omega) hn h
   have hft : (t.getD a dNd).ft.toNat < row.length := by omega
   have f1 := left10_c (n := t.getD a dNd) (x := row.getD (t.getD a dNd).ft.toNat dC) (k := k) (j := k) (hs _ hmem).2.1 (hr _ (getD_mem' dC hft)) (by omega) (by omega)
   rw [hl, show (!false && goV (vQ (t.getD a dNd).cut) (t.getD a dNd).miss (row.getD (t.getD a dNd).ft.toNat dC)) = goN (t.getD a dNd) row from rfl] at f1
   refine ⟨a :: P, by rw [zw]; omega, by rw [zw]; omega, ?_, ?_⟩
   ·rw [zw, show P.length + 1 - 1 = (P.length - 1) + 1 by omega]; exact q3
   ·have b2 : (1 + P.length) * 8 ≤ 140737488355328 := by omega
    have t1 : List.take (1 + P.length) ([[AV.i .i64 (a : Int)]] ++ List.map eX P) = (a :: P).map eX := by
     rw [zb (by rw [zj, zm]; exact zk _)]; rfl
    have hnx : nextN (t.getD a dNd) row = if goN (t.getD a dNd) row then (t.getD a dNd).lft.toNat else (t.getD a dNd).rgt.toNat := rfl
    obtain ⟨x, hx⟩ : ∃ x, x = t.getD a dNd := ⟨_, rfl⟩
    rw [← hx] at hl hg f1 hnx hft q4
    have hx' := hx.symm
    generalize goN x row = g at *
    obtain ⟨xl, xf, xc, xa, xb, xm, xv, xw⟩ := x
    simp only at hl hg hft
    subst hl
    have g1 : 0 ≤ xf := by omega
    have g2 : xf < (row.length : Int) := by omega
    simp only [eNd, eC] at f1
    cases g
    ·have q5 : ((nextN ⟨false, xf, xc, xa, xb, xm, xv, xw⟩ row : Nat) : Int) = xb := by rw [hnx, if_neg (by decide)]; show ((xb.toNat : Nat) : Int) = xb; omega
     rw [q5] at q4
     rw [R_go FF F206 c206.eq_1]
     simp only [RB, RL, un, St.none, Nat.reduceEqDiff, Nat.reduceAdd, Nat.reduceMul, Nat.reduceMod, Nat.reduceLeDiff, Nat.reduceLT, Int.reduceLT, Int.reduceLE, Int.reduceEq, Int.reduceToNat, Int.reduceSub, Int.reduceNeg, Int.reduceAdd, ↓reduceIte, reduceCtorEq, pack, pid, parN, lid, chkK, apartV, Heap.none, c1, hx', eNd, f1, g1, g2, n64, eNd_rules, eNd_row, eC_rules, eC_row, eX_rules, eX_row, zd, q4, b2, t1]
    ·have q5 : ((nextN ⟨false, xf, xc, xa, xb, xm, xv, xw⟩ row : Nat) : Int) = xa := by rw [hnx, if_pos rfl]; show ((xa.toNat : Nat) : Int) = xa; omega
     rw [q5] at q4
     rw [R_go FF F206 c206.eq_1]
     simp only [RB, RL, un, St.none, Nat.reduceEqDiff, Nat.reduceAdd, Nat.reduceMul, Nat.reduceMod, Nat.reduceLeDiff, Nat.reduceLT, Int.reduceLT, Int.reduceLE, Int.reduceEq, Int.reduceToNat, Int.reduceSub, Int.reduceNeg, Int.reduceAdd, ↓reduceIte, reduceCtorEq, pack, pid, parN, lid, chkK, apartV, Heap.none, c1, hx', eNd, f1, g1, g2, n64, eNd_rules, eNd_row, eC_rules, eC_row, eX_rules, eX_row, zd, q4, b2, t1]
theorem walk_mono {t : List RNd} {row : List RC} : ∀ (k a b : Nat), walk t row k a = some b → walk t row (k + 1) a = some b := by
 intro k
 induction k with
 | zero =>
  intro a b h
  rw [walk] at h
  rw [walk]
  split at h
  ·rename_i hl; rw [if_pos hl]; exact h
  ·cases h
 | succ k ih =>
  intro a b h
  rw [walk] at h
  rw [walk]
  split at h
  ·rename_i hl; rw [if_pos hl]; exact h
  ·rename_i hl; rw [if_neg hl]; exact ih _ b h
theorem walk_le {t : List RNd} {row : List RC} {k m a b : Nat} (hm : k ≤ m) (h : walk t row k a = some b) : walk t row m a = some b := by
 induction hm with
 | refl => exact h
 | step _ ih => exact walk_mono _ _ _ ih
inductive TT where
 | lf (a : Nat) : TT
 | nd (a : Nat) (l r : TT) : TT
def TT.top : TT → Nat
 | .lf a => a
 | .nd a _ _ => a
def TT.pre : TT → List Nat
 | .lf a => [a]
 | .nd a l r => a :: (r.pre ++ l.pre)
def TT.lvs : TT → List Nat
 | .lf a => [a]
 | .nd _ l r => l.lvs ++ r.lvs
def UN (t : List RNd) : TT → Prop
 | .lf a => a < t.length ∧ (t.getD a dNd).leaf = true
 | .nd a l r => a < t.length ∧ (t.getD a dNd).leaf = false ∧ l.top = (t.getD a dNd).lft.toNat ∧ r.top = (t.getD a dNd).rgt.toNat ∧ UN t l ∧ UN t r
def gl (t : List RNd) (row : List RC) : TT → Nat
 | .lf a => a
 | .nd a l r => if goN (t.getD a dNd) row then gl t row l else gl t row r
theorem gl_lvs (t : List RNd) (row : List RC) : ∀ T : TT, gl t row T ∈ T.lvs
 | .lf a => List.mem_singleton.2 rfl
 | .nd a l r => by
  rw [gl, TT.lvs]
  split
  ·exact List.mem_append.2 (.inl (gl_lvs t row l))
  ·exact List.mem_append.2 (.inr (gl_lvs t row r))
theorem lvs_pre : ∀ (T : TT) {a : Nat}, a ∈ T.lvs → a ∈ T.pre
 | .lf _, _, h => h
 | .nd b l r, a, h => by
  rw [TT.lvs] at h
  rw [TT.pre]
  rcases List.mem_append.1 h with h | h
  ·exact zo _ (List.mem_append.2 (.inr (lvs_pre l h)))
  ·exact zo _ (List.mem_append.2 (.inl (lvs_pre r h)))
theorem pre_sub {a : Nat} {l r : TT} (h : (TT.nd a l r).pre.Nodup) : l.pre.Nodup ∧ r.pre.Nodup ∧ ∀ x, x ∈ l.pre → x ∉ r.pre := by
 rw [TT.pre] at h
 have h2 := List.nodup_append.1 (List.nodup_cons.1 h).2
 exact ⟨h2.2.1, h2.1, fun x h3 h4 => h2.2.2 x h4 x h3 rfl⟩
theorem par_next {t : List RNd} (h : Par t) {V : List Nat} {a c : Nat} (hnd : (a :: V).Nodup) (hlt : ∀ c ∈ a :: V, c < t.length) (hp : ∀ c ∈ a :: V, c = 0 ∨ ∃ p ∈ V, c ∈ kids (t.getD p dNd)) (hc : c ∈ kids (t.getD a dNd)) :
  (c :: a :: V).Nodup ∧ (∀ x ∈ c :: a :: V, x < t.length) ∧ ∀ x ∈ c :: a :: V, x = 0 ∨ ∃ p ∈ a :: V, x ∈ kids (t.getD p dNd) := by
 have ha : a < t.length := hlt a (zr ..)
 have hr := h.rng a ha _ hc
 refine ⟨List.nodup_cons.2 ⟨fun hm => ?_, hnd⟩, fun x hx => ?_, fun x hx => ?_⟩
 ·rcases hp _ hm with h0 | ⟨p, hpV, hpc⟩
  ·omega
  ·have hpl : p < t.length := hlt p (zo _ hpV)
   have e := h.uniq hpl ha hpc hc
   subst e
   exact (List.nodup_cons.1 hnd).1 hpV
 ·rcases List.mem_cons.1 hx with rfl | hx
  ·exact hr.2
  ·exact hlt x hx
 ·rcases List.mem_cons.1 hx with rfl | hx
  ·exact .inr ⟨a, zr .., hc⟩
  ·rcases hp x hx with h0 | ⟨p, hpV, hpc⟩
   ·exact .inl h0
   ·exact .inr ⟨p, zo _ hpV, hpc⟩
theorem un_some {t : List RNd} (h : Par t) : ∀ (k : Nat) (V : List Nat) (a : Nat), (a :: V).Nodup → (∀ c ∈ a :: V, c < t.length) → (∀ c ∈ a :: V, c = 0 ∨ ∃ p ∈ V, c ∈ kids (t.getD p dNd)) → t.length ≤ V.length + k →
  ∃ T : TT, T.top = a ∧ UN t T := by
 intro k
 induction k with
 | zero =>
  intro V a hnd hlt hp hk
  have := nodup_len t.length hnd hlt
  rw [zw] at this
  omega
 | succ k ih =>
  intro V a hnd hlt hp hk
  have ha : a < t.length := hlt a (zr ..)
  cases hl : (t.getD a dNd).leaf with
  | true => exact ⟨.lf a, rfl, ha, hl⟩
  | false =>
   have k1 : (t.getD a dNd).lft.toNat ∈ kids (t.getD a dNd) := by unfold kids; rw [hl]; simp
   have k2 : (t.getD a dNd).rgt.toNat ∈ kids (t.getD a dNd) := by unfold kids; rw [hl]; simp
   obtain ⟨a1, a2, a3⟩ := par_next h hnd hlt hp k1
   obtain ⟨b1, b2, b3⟩ := par_next h hnd hlt hp k2
   obtain ⟨L, l1, l2⟩ := ih (a :: V) _ a1 a2 a3 (by rw [zw]; omega)
   obtain ⟨Rt, r1, r2⟩ := ih (a :: V) _ b1 b2 b3 (by rw [zw]; omega)
   exact ⟨.nd a L Rt, rfl, ha, hl, l1, r1, l2, r2⟩
theorem dfs_mono {t : List RNd} : ∀ (k : Nat) (S v : List Nat), dfs t k S = some v → dfs t (k + 1) S = some v := by
 intro k
 induction k with
 | zero =>
  intro S v h
  cases S with
  | nil => exact h
  | cons a S => cases h
 | succ k ih =>
  intro S v h
  cases S with
  | nil => exact h
  | cons a S =>
   rw [dfs] at h
   cases h2 : dfs t k (kids (t.getD a dNd) ++ S) with
   | none => rw [h2] at h; cases h
   | some w =>
    rw [h2] at h
    rw [dfs, ih _ _ h2]
    exact h
theorem dfs_le {t : List RNd} {k m : Nat} {S v : List Nat} (hm : k ≤ m) (h : dfs t k S = some v) : dfs t m S = some v := by
 induction hm with
 | refl => exact h
 | step _ ih => exact dfs_mono _ _ _ ih
theorem un_dfs {t : List RNd} : ∀ (T : TT), UN t T → ∀ k S, dfs t (k + T.pre.length) (T.top :: S) = (dfs t k S).map (T.pre ++ ·)
 | .lf a, h, k, S => by
  show dfs t (k + 1) (a :: S) = _
  rw [dfs, show kids (t.getD a dNd) = [] by unfold kids; rw [h.2]; rfl]
  rfl
 | .nd a l r, h, k, S => by
  obtain ⟨h1, h2, h3, h4, h5, h6⟩ := h
  show dfs t (k + (r.pre ++ l.pre).length + 1) (a :: S) = _
  rw [dfs, show kids (t.getD a dNd) = [r.top, l.top] by unfold kids; rw [h2, h3, h4]; rfl, zj, show k + (r.pre.length + l.pre.length) = k + l.pre.length + r.pre.length by omega]
  show (dfs t (k + l.pre.length + r.pre.length) (r.top :: l.top :: S)).map _ = _
  rw [un_dfs r h6, un_dfs l h5, Option.map_map, Option.map_map]
  congr 1
  funext x
  simp [TT.pre]
theorem unf {t : List RNd} (hs : Shp t) (h1 : 1 ≤ t.length) : ∃ T : TT, T.top = 0 ∧ UN t T ∧ T.pre.Nodup ∧ T.pre.length ≤ t.length ∧ ∀ x ∈ T.pre, x < t.length := by
 obtain ⟨T, e, hT⟩ := un_some hs.par t.length [] 0 (by simp) (fun c hc => by rw [zA] at hc; omega) (fun c hc => by rw [zA] at hc; exact .inl hc) (by simp)
 obtain ⟨vis, v1, v2, v3, v4⟩ := dfs_some hs.par t.length [] [0] (by simp) (fun c hc => by rw [List.nil_append, zA] at hc; omega) (fun c hc => by rw [List.nil_append, zA] at hc; exact .inl hc) (by simp)
 have q := un_dfs T hT t.length []
 rw [e, dfs_le (Nat.le_add_right _ _) v1, dfs] at q
 have q2 : vis = T.pre := by
  have := Option.some.inj q
  rw [this]
  exact List.append_nil _
 rw [List.nil_append, q2] at v2
 rw [q2] at v3
 exact ⟨T, e, hT, v2, nodup_len _ v2 v3, v3⟩
theorem un_walk {t : List RNd} (row : List RC) : ∀ (T : TT), UN t T → walk t row T.pre.length T.top = some (gl t row T)
 | .lf a, h => by
  show walk t row 1 a = some a
  rw [walk, if_pos h.2]
 | .nd a l r, h => by
  obtain ⟨h1, h2, h3, h4, h5, h6⟩ := h
  show walk t row ((r.pre ++ l.pre).length + 1) a = some (gl t row (.nd a l r))
  rw [walk, if_neg (by rw [h2]; decide), gl, nextN, zj]
  cases goN (t.getD a dNd) row
  ·rw [if_neg (by decide), if_neg (by decide), ← h4]
   exact walk_le (by omega) (un_walk row r h6)
  ·rw [if_pos rfl, if_pos rfl, ← h3]
   exact walk_le (by omega) (un_walk row l h5)
theorem un_walk' {t : List RNd} {T : TT} (row : List RC) (e : T.top = 0) (h : UN t T) (hl : T.pre.length ≤ t.length) : walk t row t.length 0 = some (gl t row T) := by
 rw [← e]; exact walk_le hl (un_walk row T h)
theorem un_lvs {t : List RNd} : ∀ (T : TT), UN t T → ∀ a ∈ T.lvs, a < t.length ∧ (t.getD a dNd).leaf = true
 | .lf a, h, b, hb => by rw [List.mem_singleton.1 hb]; exact h
 | .nd a l r, h, b, hb => by
  obtain ⟨h1, h2, h3, h4, h5, h6⟩ := h
  rcases List.mem_append.1 hb with hb | hb
  ·exact un_lvs l h5 b hb
  ·exact un_lvs r h6 b hb
abbrev dS : RS := (false, false, (false, [], []), (false, [], []), false)
theorem eS_rules : (∀ x, (eS x).length = 9) ∧ (∀ h x, (eS x).map (tellC h) = eS x) ∧ (∀ h x, (eS x).map (tell0 h) = eS x) ∧ (∀ h x, (eS x).flatMap (refC h) = []) ∧ (∀ x, (eS x).flatMap ref0 = []) ∧
  (∀ x, ldC true 9 0 (eS x) = some (.agg [.b x.1, .b x.2.1, .b x.2.2.1.1, .l 1 (x.2.2.1.2.1.map u), .l 1 (x.2.2.1.2.2.map u), .b x.2.2.2.1.1, .l 1 (x.2.2.2.1.2.1.map u), .l 1 (x.2.2.2.1.2.2.map u), .b x.2.2.2.2])) := by
 refine ⟨?_, ?_, ?_, ?_, ?_, ?_⟩ <;> intros <;> rfl
theorem eS_row : type_of% (row_rules eS dS 9 (fun _ => rfl) (fun _ _ => rfl)) := row_rules eS dS 9 (fun _ => rfl) (fun _ _ => rfl)
theorem bfew_l0 {l : List RS} (hu : ∀ x ∈ l, OkS x) (hl : l.length ≤ maxL) : ∀ (d i : Nat), i + d = min l.length 5 →
  LP FF [(3, 1), (0, 0), (4, 0)] [(3, 0)] b34_0 [.own true 9 (((l.take i).map t3S).map eS), .l 9 (l.map eS), (AV.i .i64 ((i : Int)))] = some (.exit 0, [.l 9 (((l.take 5).map t3S).map eS)]) := by
 intro d
 induction d with
 | zero =>
  intro i hi
  have h2 : l.take i = l.take 5 := by
   rw [show i = min l.length 5 by omega]
   rcases Nat.le_total l.length 5 with h | h
   ·rw [Nat.min_eq_left h, zb (zk _), zb h]
   ·rw [Nat.min_eq_right h]
  rw [h2, show i = min l.length 5 by omega]
  by_cases c1 : ((min l.length 5 : Nat) : Int) < (l.length : Int)
  ·have c2 : ¬ ((min l.length 5 : Nat) : Int) < 5 := by omega
   rw [LP_go FF b34_0.eq_1]
   simp only [RB, RL, un, St.none, Nat.reduceEqDiff, Nat.reduceAdd, Nat.reduceMul, Nat.reduceMod, Nat.reduceLeDiff, Nat.reduceLT, Int.reduceLT, Int.reduceLE, Int.reduceEq, Int.reduceToNat, Int.reduceSub, Int.reduceNeg, Int.reduceAdd, ↓reduceIte, reduceCtorEq, pack, pid, parN, lid, chkK, apartV, Heap.none, c1, c2]
  ·rw [LP_go FF b34_0.eq_1]
   simp only [RB, RL, un, St.none, Nat.reduceEqDiff, Nat.reduceAdd, Nat.reduceMul, Nat.reduceMod, Nat.reduceLeDiff, Nat.reduceLT, Int.reduceLT, Int.reduceLE, Int.reduceEq, Int.reduceToNat, Int.reduceSub, Int.reduceNeg, Int.reduceAdd, ↓reduceIte, reduceCtorEq, pack, pid, parN, lid, chkK, apartV, Heap.none, c1]
 | succ d ih =>
  intro i hi
  have hlt : i < l.length := by omega
  have h9 := ih (i + 1) (by omega)
  have hx := hu _ (getD_mem' dS hlt)
  have f1 := side_c hx
  have ht : (l.take (i + 1)).map t3S = (l.take i).map t3S ++ [t3S (l.getD i dS)] := by
   rw [List.take_add_one, zh hlt, List.map_append, za, zh hlt]
   rfl
  rw [ht] at h9
  have hlen : (List.map t3S (List.take i l)).length = i := by rw [zm, zi]; omega
  have c1 : (i : Int) < (l.length : Int) := by omega
  have c2 : (i : Int) < 5 := by omega
  have e2 : IntKind.i64.wrap ((i : Int) + 1) = ((i + 1 : Nat) : Int) := w64succ (by omega)
  have b2 : (i + 1) * 128 ≤ 140737488355328 := by omega
  have m2 : List.take (i + 1) (List.map t3S (List.take i l) ++ [t3S (l.getD i dS)]) = List.map t3S (List.take i l) ++ [t3S (l.getD i dS)] := zb (by rw [zj, hlen]; simp)
  have m3 : List.take i (List.map t3S (List.take i l)) = List.map t3S (List.take i l) := zb (by omega)
  have m1 : ∀ y : RS, List.map eS (List.map t3S (List.take i l)) ++ [[.b y.1, .b y.2.1, .b y.2.2.1.1, .l 1 (y.2.2.1.2.1.map u), .l 1 (y.2.2.1.2.2.map u), .b y.2.2.2.1.1, .l 1 (y.2.2.2.1.2.1.map u), .l 1 (y.2.2.2.1.2.2.map u), .b y.2.2.2.2]] = List.map eS (List.map t3S (List.take i l) ++ [y]) := fun y => by rw [List.map_append]; rfl
  have m1' := m1 (t3S (l.getD i dS))
  rw [eS, eS] at f1
  generalize t3S (l.getD i dS) = y at *
  rw [LP_go FF b34_0.eq_1]
  simp only [RB, RL, un, St.none, Nat.reduceEqDiff, Nat.reduceAdd, Nat.reduceMul, Nat.reduceMod, Nat.reduceLeDiff, Nat.reduceLT, Int.reduceLT, Int.reduceLE, Int.reduceEq, Int.reduceToNat, Int.reduceSub, Int.reduceNeg, Int.reduceAdd, ↓reduceIte, reduceCtorEq, pack, pid, parN, lid, chkK, apartV, Heap.none, c1, c2, eS_rules, eS_row, zd, f1, e2, hlen, b2, m3, m1', m2]
  exact h9
theorem bfew_c {l : List RS} (hu : ∀ x ∈ l, OkS x) (hl : l.length ≤ maxL) : R FF 34 [.l 9 (l.map eS)] = some (.l 9 (((l.take 5).map t3S).map eS)) := by
 have h1 := bfew_l0 hu hl (min l.length 5) 0 (by omega)
 rw [List.take_zero, zy] at h1
 simp only [List.map_nil] at h1
 rw [R_go FF F34 c34.eq_1]
 simp only [RB, RL, un, St.none, Nat.reduceEqDiff, Nat.reduceAdd, Nat.reduceMul, Nat.reduceMod, Nat.reduceLeDiff, Nat.reduceLT, Int.reduceLT, Int.reduceLE, Int.reduceEq, Int.reduceToNat, Int.reduceSub, Int.reduceNeg, Int.reduceAdd, ↓reduceIte, reduceCtorEq, pack, pid, parN, lid, chkK, apartV, Heap.none, h1]
def hF (b : List RS) (r : List RC) : Nat → Nat → Bool
 | _, 0 => true
 | i, d + 1 => inV (b.getD i dS) (r.getD i dC) && hF b r (i + 1) d
def SmB (b : List RS) (k : Nat) : Prop := ∀ x ∈ b, SmS x k
def SmR (r : List RC) (k : Nat) : Prop := ∀ x ∈ r, SmQ x.2 k
theorem Holds23_l0 {b : List RS} {r : List RC} {n k : Nat} (hk : k ≤ 100000000000) (hb : b.length = n) (hr : r.length = n) (hn : n ≤ 100000000000) (h1 : SmB b k) (h2 : SmR r k) : ∀ (d i : Nat), i + d = n →
  LP FF [(1, 0), (2, 0), (5, 0)] [(4, 0)] b78_0 [.l 4 (r.map eC), .tp [.l 9 (b.map eS)] 0, (AV.i .i64 ((i : Int)))] = some (if hF b r i d then (.exit 0, [.junk]) else (.ret, [.b false])) := by
 intro d
 induction d with
 | zero =>
  intro i hi
  have c1 : ¬ (i : Int) < (r.length : Int) := by omega
  simp only [hF, if_true]
  rw [LP_go FF b78_0.eq_1]
  simp only [RB, RL, un, St.none, Nat.reduceEqDiff, Nat.reduceAdd, Nat.reduceMul, Nat.reduceMod, Nat.reduceLeDiff, Nat.reduceLT, Int.reduceLT, Int.reduceLE, Int.reduceEq, Int.reduceToNat, Int.reduceSub, Int.reduceNeg, Int.reduceAdd, ↓reduceIte, reduceCtorEq, pack, pid, parN, lid, chkK, apartV, Heap.none, c1]
 | succ d ih =>
  intro i hi
  have h9 := ih (i + 1) (by omega)
  have c1 : (i : Int) < (r.length : Int) := by omega
  have c2 : (i : Int) < (b.length : Int) := by omega
  have e1 : IntKind.i64.wrap ((i : Int) + 1) = ((i + 1 : Nat) : Int) := w64succ (by omega)
  have hb1 := h1 (b.getD i dS) (getD_mem' dS (by omega))
  have hr1 := h2 (r.getD i dC) (getD_mem' dC (by omega))
  have g1 : R FF 67 [.agg (eS (b.getD i dS)), .agg (eC (r.getD i dC))] = some (.b (inV (b.getD i dS) (r.getD i dC))) := Has23_c hk hb1.1 hb1.2 hr1
  rw [eS, eC] at g1
  unfold hF
  cases hv : inV (b.getD i dS) (r.getD i dC) <;> rw [hv] at g1
  ·simp only [Bool.false_and, zz, if_false]
   rw [LP_go FF b78_0.eq_1]
   simp only [RB, RL, un, St.none, Nat.reduceEqDiff, Nat.reduceAdd, Nat.reduceMul, Nat.reduceMod, Nat.reduceLeDiff, Nat.reduceLT, Int.reduceLT, Int.reduceLE, Int.reduceEq, Int.reduceToNat, Int.reduceSub, Int.reduceNeg, Int.reduceAdd, ↓reduceIte, reduceCtorEq, pack, pid, parN, lid, chkK, apartV, Heap.none, c1, c2, e1, eS_rules, eS_row, eC_rules, eC_row, zd, g1]
  ·simp only [Bool.true_and]
   rw [LP_go FF b78_0.eq_1]
   simp only [RB, RL, un, St.none, Nat.reduceEqDiff, Nat.reduceAdd, Nat.reduceMul, Nat.reduceMod, Nat.reduceLeDiff, Nat.reduceLT, Int.reduceLT, Int.reduceLE, Int.reduceEq, Int.reduceToNat, Int.reduceSub, Int.reduceNeg, Int.reduceAdd, ↓reduceIte, reduceCtorEq, pack, pid, parN, lid, chkK, apartV, Heap.none, c1, c2, e1, eS_rules, eS_row, eC_rules, eC_row, zd, g1]
   exact h9
def inB (b : List RS) (r : List RC) : Bool := decide (b.length = r.length) && hF b r 0 r.length
theorem Holds23_c {b : List RS} {r : List RC} {k : Nat} (hk : k ≤ 100000000000) (hr : r.length ≤ 100000000000) (h1 : SmB b k) (h2 : SmR r k) : R FF 78 [.agg [.l 9 (b.map eS)], .l 4 (r.map eC)] = some (.b (inB b r)) := by
 unfold inB
 by_cases hl : b.length = r.length
 ·have l0 := Holds23_l0 hk hl rfl hr h1 h2 r.length 0 (by omega)
  have c1 : (b.length : Int) = (r.length : Int) := by omega
  rw [decide_eq_true hl, Bool.true_and]
  rw [zy] at l0
  cases hv : hF b r 0 r.length <;> rw [hv] at l0 <;> simp only [if_true, zz, if_false] at l0 <;>
  (rw [R_go FF F78 c78.eq_1]
   simp only [RB, RL, un, St.none, Nat.reduceEqDiff, Nat.reduceAdd, Nat.reduceMul, Nat.reduceMod, Nat.reduceLeDiff, Nat.reduceLT, Int.reduceLT, Int.reduceLE, Int.reduceEq, Int.reduceToNat, Int.reduceSub, Int.reduceNeg, Int.reduceAdd, ↓reduceIte, reduceCtorEq, pack, pid, parN, lid, chkK, apartV, Heap.none, c1, l0])
 ·have c1 : ¬ (b.length : Int) = (r.length : Int) := by omega
  rw [decide_eq_false hl, Bool.false_and]
  rw [R_go FF F78 c78.eq_1]
  simp only [RB, RL, un, St.none, Nat.reduceEqDiff, Nat.reduceAdd, Nat.reduceMul, Nat.reduceMod, Nat.reduceLeDiff, Nat.reduceLT, Int.reduceLT, Int.reduceLE, Int.reduceEq, Int.reduceToNat, Int.reduceSub, Int.reduceNeg, Int.reduceAdd, ↓reduceIte, reduceCtorEq, pack, pid, parN, lid, chkK, apartV, Heap.none, c1]
theorem with_c {b : List RS} {i : Nat} {s : RS} {k : Nat} (hk : k ≤ 100000000000) (hs : SmS s k) (hi : i < b.length) (hn : b.length ≤ 100000000000) : R FF 36 [.l 9 (b.map eS), (AV.i .i64 ((i : Int))), .agg (eS s)] = some (.tup [.l 9 ((b.set i (cS s)).map eS), (AV.i .i64 0)]) := by
 have g1 := bclean_c hk hs
 have c1 : ¬ (i : Int) < 0 := by omega
 have c2 : ¬ (b.length : Int) ≤ (i : Int) := by omega
 have c3 : (i : Int) < (b.length : Int) := by omega
 have b2 : b.length * 128 ≤ 140737488355328 := by omega
 rw [eS, eS] at g1
 rw [eS]
 rw [R_go FF F36 c36.eq_1]
 simp only [RB, RL, un, St.none, Nat.reduceEqDiff, Nat.reduceAdd, Nat.reduceMul, Nat.reduceMod, Nat.reduceLeDiff, Nat.reduceLT, Int.reduceLT, Int.reduceLE, Int.reduceEq, Int.reduceToNat, Int.reduceSub, Int.reduceNeg, Int.reduceAdd, ↓reduceIte, reduceCtorEq, pack, pid, parN, lid, chkK, apartV, Heap.none, c1, c2, c3, eS_rules, eS_row, zd, g1, b2]
 rw [if_pos hi]
 show some (AV.tup [.l 9 (List.take b.length (putC 9 (List.map eS b) i 0 (eS (cS s)))), (AV.i .i64 0)]) = _
 rw [eS_row.2.2.2.1, zb (by rw [zm, zx]; exact zk _)]
theorem hF_congr {b b' : List RS} {r : List RC} : ∀ (d i : Nat), (∀ j, i ≤ j → j < i + d → inV (b.getD j dS) (r.getD j dC) = inV (b'.getD j dS) (r.getD j dC)) → hF b r i d = hF b' r i d := by
 intro d
 induction d with
 | zero => intro i _; rfl
 | succ d ih =>
  intro i h
  unfold hF
  rw [h i (by omega) (by omega), ih (i + 1) fun j h1 h2 => h j (by omega) (by omega)]
theorem getD_set' {α : Type} (l : List α) (i j : Nat) (x d : α) : (l.set i x).getD j d = if i = j ∧ j < l.length then x else l.getD j d := by
 rw [za, List.getElem?_set]
 by_cases h : i = j
 ·subst h
  by_cases h2 : i < l.length
  ·simp [h2]
  ·simp [h2, za]
 ·simp [h, za]
theorem inB_set {b : List RS} {i : Nat} {s : RS} {r : List RC} : inB (b.set i (cS s)) r = inB (b.set i s) r := by
 unfold inB
 rw [zx, zx]
 congr 1
 refine hF_congr _ _ fun j _ _ => ?_
 rw [getD_set', getD_set']
 split
 ·exact inV_cS s _
 ·rfl
theorem set_sm {b : List RS} {i k : Nat} {s : RS} (h1 : SmB b k) (hs : SmS s k) : SmB (b.set i s) k := fun x hx => by
 rcases List.mem_or_eq_of_mem_set hx with h | h
 ·exact h1 x h
 ·rw [h]; exact hs
theorem few_smB {l : List RS} (hu : ∀ x ∈ l, OkS x) (n : Nat) : SmB ((l.take n).map t3S) 3 := fun x hx => by
 obtain ⟨y, hy, rfl⟩ := List.mem_map.1 hx
 exact (hu y (List.mem_of_mem_take hy)).sm
theorem few_smR {l : List RC} (hu : ∀ x ∈ l, OkC x) (n : Nat) : SmR ((l.take n).map t3) 3 := fun x hx => by
 obtain ⟨y, hy, rfl⟩ := List.mem_map.1 hx
 exact Sm.take (k := maxL) (hu y (List.mem_of_mem_take hy)) 3
def vF (b : List RS) : Nat → Nat → Bool
 | _, 0 => false
 | i, d + 1 => empV (b.getD i dS) || vF b (i + 1) d
theorem void_l0 {b : List RS} {n k : Nat} (hk : k ≤ 100000000000) (hb : b.length = n) (hn : n ≤ 100000000000) (h1 : SmB b k) : ∀ (d i : Nat), i + d = n →
  LP FF [(5, 0), (6, 0), (7, 0)] [(2, 0)] b51_0 [.l 9 (b.map eS), (AV.i .i64 ((n : Int))), (AV.i .i64 ((i : Int)))] = some (if vF b i d then (.ret, [.b true]) else (.exit 0, [.junk])) := by
 intro d
 induction d with
 | zero =>
  intro i hi
  obtain rfl : i = n := by omega
  have c1 : ¬ (i : Int) < (i : Int) := by omega
  simp only [vF, zz, if_false]
  rw [LP_go FF b51_0.eq_1]
  simp only [RB, RL, un, St.none, Nat.reduceEqDiff, Nat.reduceAdd, Nat.reduceMul, Nat.reduceMod, Nat.reduceLeDiff, Nat.reduceLT, Int.reduceLT, Int.reduceLE, Int.reduceEq, Int.reduceToNat, Int.reduceSub, Int.reduceNeg, Int.reduceAdd, ↓reduceIte, reduceCtorEq, pack, pid, parN, lid, chkK, apartV, Heap.none, c1]
 | succ d ih =>
  intro i hi
  have h9 := ih (i + 1) (by omega)
  have c0 : (i : Int) < (n : Int) := by omega
  have c2 : (i : Int) < (b.length : Int) := by omega
  have e1 : IntKind.i64.wrap ((i : Int) + 1) = ((i + 1 : Nat) : Int) := w64succ (by omega)
  have hb1 := h1 (b.getD i dS) (getD_mem' dS (by omega))
  have g1 := empty_c hk hb1
  rw [eS] at g1
  unfold vF
  cases hv : empV (b.getD i dS) <;> rw [hv] at g1
  ·simp only [Bool.false_or]
   rw [LP_go FF b51_0.eq_1]
   simp only [RB, RL, un, St.none, Nat.reduceEqDiff, Nat.reduceAdd, Nat.reduceMul, Nat.reduceMod, Nat.reduceLeDiff, Nat.reduceLT, Int.reduceLT, Int.reduceLE, Int.reduceEq, Int.reduceToNat, Int.reduceSub, Int.reduceNeg, Int.reduceAdd, ↓reduceIte, reduceCtorEq, pack, pid, parN, lid, chkK, apartV, Heap.none, c0, c2, e1, eS_rules, eS_row, zd, g1]
   exact h9
  ·simp only [Bool.true_or, if_true]
   rw [LP_go FF b51_0.eq_1]
   simp only [RB, RL, un, St.none, Nat.reduceEqDiff, Nat.reduceAdd, Nat.reduceMul, Nat.reduceMod, Nat.reduceLeDiff, Nat.reduceLT, Int.reduceLT, Int.reduceLE, Int.reduceEq, Int.reduceToNat, Int.reduceSub, Int.reduceNeg, Int.reduceAdd, ↓reduceIte, reduceCtorEq, pack, pid, parN, lid, chkK, apartV, Heap.none, c0, c2, e1, eS_rules, eS_row, zd, g1]
theorem void_c {b : List RS} {k : Nat} (hk : k ≤ 100000000000) (hn : b.length ≤ 100000000000) (h1 : SmB b k) : R FF 51 [.l 9 (b.map eS)] = some (.b (vF b 0 b.length)) := by
 have l0 := void_l0 hk rfl hn h1 b.length 0 (by omega)
 rw [zy] at l0
 cases hv : vF b 0 b.length <;> rw [hv] at l0 <;> simp only [if_true, zz, if_false] at l0 <;>
 (rw [R_go FF F51 c51.eq_1]
  simp only [RB, RL, un, St.none, Nat.reduceEqDiff, Nat.reduceAdd, Nat.reduceMul, Nat.reduceMod, Nat.reduceLeDiff, Nat.reduceLT, Int.reduceLT, Int.reduceLE, Int.reduceEq, Int.reduceToNat, Int.reduceSub, Int.reduceNeg, Int.reduceAdd, ↓reduceIte, reduceCtorEq, pack, pid, parN, lid, chkK, apartV, Heap.none, l0])
def rB (b : List RS) (i : Nat) : List RC := (List.range i).map fun j => someV (b.getD j dS)
theorem rB_len (b : List RS) (i : Nat) : (rB b i).length = i := by simp [rB]
theorem rB_succ (b : List RS) (i : Nat) : rB b (i + 1) = rB b i ++ [someV (b.getD i dS)] := by simp [rB, List.range_succ]
theorem rB_get (b : List RS) {i j : Nat} (h : j < i) : (rB b i).getD j dC = someV (b.getD j dS) := by simp [rB, za, h]
theorem row_l0 {b : List RS} {n k : Nat} (hk : k ≤ 40000000000) (h1k : 1 ≤ k) (hb : b.length = n) (hn : n ≤ 100000000000) (h1 : SmB b k) : ∀ (d i : Nat), i + d = n →
  ∃ a, LP FF [(4, 1), (9, 0), (10, 0), (11, 0)] [(2, 0), (3, 0), (4, 0)] b52_0 [.own true 4 ((rB b i).map eC), .l 9 (b.map eS), (AV.i .i64 ((n : Int))), (AV.i .i64 ((i : Int)))] = some (if vF b i d then (.ret, [.l 4 [], .b false, a]) else (.exit 0, [.junk, .junk, .l 4 ((rB b n).map eC)])) := by
 intro d
 induction d with
 | zero =>
  intro i hi
  obtain rfl : i = n := by omega
  have c1 : ¬ (i : Int) < (i : Int) := by omega
  simp only [vF, zz, if_false]
  refine ⟨.junk, ?_⟩
  rw [LP_go FF b52_0.eq_1]
  simp only [RB, RL, un, St.none, Nat.reduceEqDiff, Nat.reduceAdd, Nat.reduceMul, Nat.reduceMod, Nat.reduceLeDiff, Nat.reduceLT, Int.reduceLT, Int.reduceLE, Int.reduceEq, Int.reduceToNat, Int.reduceSub, Int.reduceNeg, Int.reduceAdd, ↓reduceIte, reduceCtorEq, pack, pid, parN, lid, chkK, apartV, Heap.none, c1]
 | succ d ih =>
  intro i hi
  obtain ⟨a, h9⟩ := ih (i + 1) (by omega)
  have c0 : (i : Int) < (n : Int) := by omega
  have c2 : (i : Int) < (b.length : Int) := by omega
  have e1 : IntKind.i64.wrap ((i : Int) + 1) = ((i + 1 : Nat) : Int) := w64succ (by omega)
  have hb1 := h1 (b.getD i dS) (getD_mem' dS (by omega))
  unfold vF
  cases hv : empV (b.getD i dS)
  ·have g1 := some_c hk h1k hb1 hv
   rw [eS, eC] at g1
   rw [rB_succ] at h9
   have hlen := rB_len b i
   have b2 : (i + 1) * 64 ≤ 140737488355328 := by omega
   have m2 : ∀ y : RC, List.take (i + 1) (rB b i ++ [y]) = rB b i ++ [y] := fun y => zb (by rw [zj, hlen]; simp)
   have m3 : List.take i (rB b i) = rB b i := zb (by omega)
   have m1 : ∀ y : RC, List.map eC (rB b i) ++ [[.b y.1, .b y.2.1, .l 1 (y.2.2.1.map u), .l 1 (y.2.2.2.map u)]] = List.map eC (rB b i ++ [y]) := fun y => by rw [List.map_append]; rfl
   have m1' := m1 (someV (b.getD i dS))
   generalize someV (b.getD i dS) = y at *
   simp only [Bool.false_or]
   refine ⟨a, ?_⟩
   rw [LP_go FF b52_0.eq_1]
   simp only [RB, RL, un, St.none, Nat.reduceEqDiff, Nat.reduceAdd, Nat.reduceMul, Nat.reduceMod, Nat.reduceLeDiff, Nat.reduceLT, Int.reduceLT, Int.reduceLE, Int.reduceEq, Int.reduceToNat, Int.reduceSub, Int.reduceNeg, Int.reduceAdd, ↓reduceIte, reduceCtorEq, pack, pid, parN, lid, chkK, apartV, Heap.none, c0, c2, e1, eS_rules, eS_row, eC_rules, eC_row, zd, g1, hlen, b2, m3, m1', m2]
   exact h9
  ·have g1 := some_none hk hb1 hv
   rw [eS] at g1
   simp only [Bool.true_or, if_true]
   refine ⟨.l 4 (List.map eC (rB b i)), ?_⟩
   rw [LP_go FF b52_0.eq_1]
   simp only [RB, RL, un, St.none, Nat.reduceEqDiff, Nat.reduceAdd, Nat.reduceMul, Nat.reduceMod, Nat.reduceLeDiff, Nat.reduceLT, Int.reduceLT, Int.reduceLE, Int.reduceEq, Int.reduceToNat, Int.reduceSub, Int.reduceNeg, Int.reduceAdd, ↓reduceIte, reduceCtorEq, pack, pid, parN, lid, chkK, apartV, Heap.none, c0, c2, e1, eS_rules, eS_row, zd, g1]
theorem row_c {b : List RS} {k : Nat} (hk : k ≤ 40000000000) (h1k : 1 ≤ k) (hn : b.length ≤ 100000000000) (h1 : SmB b k) (hv : vF b 0 b.length = false) : R FF 52 [.l 9 (b.map eS)] = some (.tup [.l 4 ((rB b b.length).map eC), .b true]) := by
 obtain ⟨a, l0⟩ := row_l0 hk h1k rfl hn h1 b.length 0 (by omega)
 rw [zy, show rB b 0 = [] from rfl, hv] at l0
 simp only [List.map_nil, zz, if_false] at l0
 rw [R_go FF F52 c52.eq_1]
 simp only [RB, RL, un, St.none, Nat.reduceEqDiff, Nat.reduceAdd, Nat.reduceMul, Nat.reduceMod, Nat.reduceLeDiff, Nat.reduceLT, Int.reduceLT, Int.reduceLE, Int.reduceEq, Int.reduceToNat, Int.reduceSub, Int.reduceNeg, Int.reduceAdd, ↓reduceIte, reduceCtorEq, pack, pid, parN, lid, chkK, apartV, Heap.none, l0]
theorem hF_vF {b : List RS} {r : List RC} : ∀ (d i : Nat), hF b r i d = true → vF b i d = false := by
 intro d
 induction d with
 | zero => intro i _; rfl
 | succ d ih =>
  intro i h
  unfold hF at h
  unfold vF
  simp only [zc] at h
  rw [in_num h.1, ih _ h.2]; rfl
theorem rB_hF {b : List RS} {n : Nat} : ∀ (d i : Nat), i + d = n → vF b i d = false → hF b (rB b n) i d = true := by
 intro d
 induction d with
 | zero => intro i _ _; rfl
 | succ d ih =>
  intro i hi h
  unfold vF at h
  unfold hF
  simp only [Bool.or_eq_false_iff] at h
  rw [rB_get b (by omega), in_some h.1, ih (i + 1) (by omega) h.2]; rfl
theorem rB_sm {b : List RS} {k : Nat} (hk : 1 ≤ k) (h : SmB b k) : SmR (rB b b.length) (k + 2) := by
 intro x hx
 unfold rB at hx
 obtain ⟨j, hj, rfl⟩ := List.mem_map.1 hx
 exact someV_sm (h _ (getD_mem' dS (List.mem_range.1 hj))) hk
theorem hF_iff {b : List RS} {r : List RC} : ∀ (d i : Nat), hF b r i d = true ↔ ∀ j, i ≤ j → j < i + d → inV (b.getD j dS) (r.getD j dC) = true := by
 intro d
 induction d with
 | zero => intro i; exact ⟨fun _ j h1 h2 => by omega, fun _ => rfl⟩
 | succ d ih =>
  intro i
  rw [hF, zc, ih]
  constructor
  ·intro h j h1 h2
   rcases Nat.eq_or_lt_of_le h1 with rfl | h3
   ·exact h.1
   ·exact h.2 j h3 (by omega)
  ·intro h
   exact ⟨h i (zk _) (by omega), fun j h1 h2 => h j (by omega) (by omega)⟩
theorem inB_iff {b : List RS} {r : List RC} : inB b r = true ↔ b.length = r.length ∧ ∀ j, j < r.length → inV (b.getD j dS) (r.getD j dC) = true := by
 unfold inB
 rw [zc, decide_eq_true_eq, hF_iff]
 exact ⟨fun h => ⟨h.1, fun j hj => h.2 j (Nat.zero_le _) (by omega)⟩, fun h => ⟨h.1, fun j _ hj => h.2 j (by omega)⟩⟩
theorem vF_iff {b : List RS} : ∀ (d i : Nat), vF b i d = false ↔ ∀ j, i ≤ j → j < i + d → empV (b.getD j dS) = false := by
 intro d
 induction d with
 | zero => intro i; exact ⟨fun _ j h1 h2 => by omega, fun _ => rfl⟩
 | succ d ih =>
  intro i
  rw [vF, Bool.or_eq_false_iff, ih]
  constructor
  ·intro h j h1 h2
   rcases Nat.eq_or_lt_of_le h1 with rfl | h3
   ·exact h.1
   ·exact h.2 j h3 (by omega)
  ·intro h
   exact ⟨h i (zk _) (by omega), fun j h1 h2 => h j (by omega) (by omega)⟩
def sdV (b : List RS) (n : RNd) (left : Bool) : RS := if left then belV (b.getD n.ft.toNat dS) n.cut n.miss else abvV (b.getD n.ft.toNat dS) n.cut (!n.miss)
def partB (b : List RS) (n : RNd) (left : Bool) : List RS := b.set n.ft.toNat (cS (sdV b n left))
theorem prtB_len (b : List RS) (n : RNd) (left : Bool) : (partB b n left).length = b.length := zx
theorem sd_in (b : List RS) (n : RNd) (left : Bool) (row : List RC) : inV (sdV b n left) (row.getD n.ft.toNat dC) = (inV (b.getD n.ft.toNat dS) (row.getD n.ft.toNat dC) && (goN n row == left)) := by
 unfold sdV goN goV
 generalize row.getD n.ft.toNat dC = c
 cases left
 ·rw [if_neg (by decide), abv_in]
  obtain ⟨m, w⟩ := c
  cases m <;> simp
 ·rw [if_pos rfl, bel_in]
  obtain ⟨m, w⟩ := c
  cases m <;> simp
theorem part_in {b : List RS} {n : RNd} {left : Bool} {row : List RC} (hf : n.ft.toNat < b.length) : inB (partB b n left) row = (inB b row && (goN n row == left)) := by
 unfold partB
 rw [inB_set, Bool.eq_iff_iff, zc, inB_iff, inB_iff, zx]
 constructor
 ·intro h
  have h2 := h.2 n.ft.toNat (by omega)
  rw [getD_set', if_pos ⟨rfl, hf⟩, sd_in, zc] at h2
  refine ⟨⟨h.1, fun j hj => ?_⟩, h2.2⟩
  have h3 := h.2 j hj
  rw [getD_set'] at h3
  split at h3
  ·rename_i e
   rw [← e.1]; exact h2.1
  ·exact h3
 ·intro h
  refine ⟨h.1.1, fun j hj => ?_⟩
  rw [getD_set']
  split
  ·rename_i e
   rw [← e.1, sd_in, h.1.2 _ (by omega), h.2]; rfl
  ·exact h.1.2 j hj
theorem part_emp {b : List RS} {n : RNd} {left : Bool} {row : List RC} (hf : n.ft.toNat < b.length) (he : empV (sdV b n left) = true) (hb : inB b row = true) : ¬ goN n row = left := by
 intro hg
 have h1 := part_in (b := b) (n := n) (left := left) (row := row) hf
 rw [hb, hg, beq_self_eq_true, Bool.and_true] at h1
 unfold partB at h1
 rw [inB_set, inB_iff] at h1
 have hl := h1.1
 rw [zx] at hl
 have h2 := h1.2 n.ft.toNat (by omega)
 rw [getD_set', if_pos ⟨rfl, hf⟩] at h2
 rw [in_num h2] at he
 cases he
theorem emp_cS (s : RS) : empV (cS s) = empV s := by
 obtain ⟨hl, hh, x, y, ms⟩ := s
 unfold empV numV cS
 cases hl <;> cases hh <;> simp [vQ_cQ]
theorem part_void {b : List RS} {n : RNd} {left : Bool} (hf : n.ft.toNat < b.length) (he : empV (sdV b n left) = false) (hv : vF b 0 b.length = false) : vF (partB b n left) 0 (partB b n left).length = false := by
 rw [vF_iff] at hv ⊢
 intro j h1 h2
 unfold partB
 rw [getD_set']
 split
 ·rw [emp_cS]; exact he
 ·rw [prtB_len] at h2; exact hv j h1 h2
theorem sd_sm {b : List RS} {n : RNd} {left : Bool} {k : Nat} (h : SmB b k) (hc : SmQ n.cut k) (hk : 1 ≤ k) (hf : n.ft.toNat < b.length) : SmS (sdV b n left) k := by
 have h1 := h _ (getD_mem' dS hf)
 unfold sdV
 cases left
 ·exact abv_sm h1 hc hk
 ·exact bel_sm h1 hc hk
theorem part_sm {b : List RS} {n : RNd} {left : Bool} {k : Nat} (h : SmB b k) (hc : SmQ n.cut k) (hk : 1 ≤ k) (hf : n.ft.toNat < b.length) : SmB (partB b n left) k :=
 set_sm h (cS_sm (sd_sm h hc hk hf) hk)
def regV (t : List RNd) : TT → List RS → List (Nat × List RS)
 | .lf a, b => [(a, b)]
 | .nd a l r, b => (if empV (sdV b (t.getD a dNd) true) then [] else regV t l (partB b (t.getD a dNd) true)) ++ (if empV (sdV b (t.getD a dNd) false) then [] else regV t r (partB b (t.getD a dNd) false))
theorem un_ft {t : List RNd} {f : Int} {n : Nat} (hrg : t.any (bdR t.length f) = false) (hn : (n : Int) = f) {a : Nat} (ha : a < t.length) (hl : (t.getD a dNd).leaf = false) : (t.getD a dNd).ft.toNat < n ∧ 0 ≤ (t.getD a dNd).ft := by
 have := rng_of hrg (getD_mem' dNd ha) hl
 omega
theorem reg_mem {t : List RNd} : ∀ (T : TT) (b : List RS) {x : Nat × List RS}, x ∈ regV t T b → x.1 ∈ T.lvs
 | .lf a, b, x, h => by rw [List.mem_singleton.1 h]; exact List.mem_singleton.2 rfl
 | .nd a l r, b, x, h => by
  rw [regV] at h
  rw [TT.lvs]
  rcases List.mem_append.1 h with h | h
  ·split at h
   ·cases h
   ·exact List.mem_append.2 (.inl (reg_mem l _ h))
  ·split at h
   ·cases h
   ·exact List.mem_append.2 (.inr (reg_mem r _ h))
theorem reg_len {t : List RNd} : ∀ (T : TT) (b : List RS) {x : Nat × List RS}, x ∈ regV t T b → x.2.length = b.length
 | .lf a, b, x, h => by rw [List.mem_singleton.1 h]
 | .nd a l r, b, x, h => by
  rw [regV] at h
  rcases List.mem_append.1 h with h | h
  ·split at h
   ·cases h
   ·rw [reg_len l _ h, prtB_len]
  ·split at h
   ·cases h
   ·rw [reg_len r _ h, prtB_len]
theorem reg_in {t : List RNd} {f : Int} (hrg : t.any (bdR t.length f) = false) (row : List RC) : ∀ (T : TT) (b : List RS), (b.length : Int) = f → UN t T → T.pre.Nodup → ∀ {x : Nat × List RS}, x ∈ regV t T b → (inB x.2 row = true ↔ inB b row = true ∧ gl t row T = x.1)
 | .lf a, b, hb, hT, hn, x, h => by rw [List.mem_singleton.1 h]; simp [gl]
 | .nd a l r, b, hb, hT, hn, x, h => by
  obtain ⟨h1, h2, h3, h4, h5, h6⟩ := hT
  obtain ⟨n1, n2, n3⟩ := pre_sub hn
  have hf := (un_ft hrg hb h1 h2).1
  rw [regV] at h
  rw [gl]
  rcases List.mem_append.1 h with h | h
  ·split at h
   ·cases h
   ·rename_i he
    have q := reg_in hrg row l _ (by rw [prtB_len]; exact hb) h5 n1 h
    rw [q, part_in hf, zc, beq_iff_eq]
    have m := reg_mem l _ h
    constructor
    ·rintro ⟨⟨q1, q2⟩, q3⟩
     rw [q2, if_pos rfl]; exact ⟨q1, q3⟩
    ·rintro ⟨q1, q3⟩
     cases hg : goN (t.getD a dNd) row with
     | true => rw [hg, if_pos rfl] at q3; exact ⟨⟨q1, rfl⟩, q3⟩
     | false =>
      rw [hg, if_neg (by decide)] at q3
      exact (n3 _ (lvs_pre l m) (q3 ▸ lvs_pre r (gl_lvs t row r))).elim
  ·split at h
   ·cases h
   ·rename_i he
    have q := reg_in hrg row r _ (by rw [prtB_len]; exact hb) h6 n2 h
    rw [q, part_in hf, zc, beq_iff_eq]
    have m := reg_mem r _ h
    constructor
    ·rintro ⟨⟨q1, q2⟩, q3⟩
     rw [q2, if_neg (by decide)]; exact ⟨q1, q3⟩
    ·rintro ⟨q1, q3⟩
     cases hg : goN (t.getD a dNd) row with
     | false => rw [hg, if_neg (by decide)] at q3; exact ⟨⟨q1, rfl⟩, q3⟩
     | true =>
      rw [hg, if_pos rfl] at q3
      exact (n3 _ (q3 ▸ lvs_pre l (gl_lvs t row l)) (lvs_pre r m)).elim
theorem reg_has {t : List RNd} {f : Int} (hrg : t.any (bdR t.length f) = false) (row : List RC) : ∀ (T : TT) (b : List RS), (b.length : Int) = f → UN t T → inB b row = true → ∃ B, (gl t row T, B) ∈ regV t T b
 | .lf a, b, hb, hT, hi => ⟨b, List.mem_singleton.2 rfl⟩
 | .nd a l r, b, hb, hT, hi => by
  obtain ⟨h1, h2, h3, h4, h5, h6⟩ := hT
  have hf := (un_ft hrg hb h1 h2).1
  rw [gl, regV]
  cases hg : goN (t.getD a dNd) row with
  | true =>
   rw [if_pos rfl]
   have he : empV (sdV b (t.getD a dNd) true) = false := by
    cases he : empV (sdV b (t.getD a dNd) true) with
    | false => rfl
    | true => exact (part_emp hf he hi hg).elim
   obtain ⟨B, hB⟩ := reg_has hrg row l (partB b (t.getD a dNd) true) (by rw [prtB_len]; exact hb) h5 (by rw [part_in hf, hi, hg]; rfl)
   exact ⟨B, List.mem_append.2 (.inl (by rw [he, if_neg (by decide)]; exact hB))⟩
  | false =>
   rw [if_neg (show ¬ false = true by decide)]
   have he : empV (sdV b (t.getD a dNd) false) = false := by
    cases he : empV (sdV b (t.getD a dNd) false) with
    | false => rfl
    | true => exact (part_emp hf he hi hg).elim
   obtain ⟨B, hB⟩ := reg_has hrg row r (partB b (t.getD a dNd) false) (by rw [prtB_len]; exact hb) h6 (by rw [part_in hf, hi, hg]; rfl)
   exact ⟨B, List.mem_append.2 (.inr (by rw [he, if_neg (by decide)]; exact hB))⟩
theorem reg_sm {t : List RNd} {f : Int} {k : Nat} (hk : 1 ≤ k) (hrg : t.any (bdR t.length f) = false) (hs : SmT t k) : ∀ (T : TT) (b : List RS), (b.length : Int) = f → UN t T → SmB b k → vF b 0 b.length = false → ∀ {x : Nat × List RS}, x ∈ regV t T b → SmB x.2 k ∧ vF x.2 0 x.2.length = false
 | .lf a, b, hb, hT, hB, hv, x, h => by rw [List.mem_singleton.1 h]; exact ⟨hB, hv⟩
 | .nd a l r, b, hb, hT, hB, hv, x, h => by
  obtain ⟨h1, h2, h3, h4, h5, h6⟩ := hT
  have hf := (un_ft hrg hb h1 h2).1
  have hc := (hs _ (getD_mem' dNd h1)).2.1
  rw [regV] at h
  rcases List.mem_append.1 h with h | h
  ·split at h
   ·cases h
   ·rename_i he
    exact reg_sm hk hrg hs l _ (by rw [prtB_len]; exact hb) h5 (part_sm hB hc hk hf) (part_void hf (by simpa using he) hv) h
  ·split at h
   ·cases h
   ·rename_i he
    exact reg_sm hk hrg hs r _ (by rw [prtB_len]; exact hb) h6 (part_sm hB hc hk hf) (part_void hf (by simpa using he) hv) h
theorem reg_lvs {t : List RNd} : ∀ (T : TT) (b : List RS), ((regV t T b).map (·.1)).Sublist T.lvs
 | .lf a, b => List.Sublist.refl _
 | .nd a l r, b => by
  rw [regV, TT.lvs, List.map_append]
  refine List.Sublist.append ?_ ?_
  ·split
   ·exact List.nil_sublist _
   ·exact reg_lvs l _
  ·split
   ·exact List.nil_sublist _
   ·exact reg_lvs r _
theorem reg_count {t : List RNd} (T : TT) (b : List RS) : (regV t T b).length ≤ T.lvs.length := by
 have := (reg_lvs (t := t) T b).length_le
 rw [zm] at this; exact this
theorem lvs_count : ∀ T : TT, T.lvs.length ≤ T.pre.length
 | .lf a => zk _
 | .nd a l r => by
  have h1 := lvs_count l
  have h2 := lvs_count r
  rw [TT.lvs, TT.pre, zw, zj, zj]; omega
structure GT (t : List RNd) (f : Int) (T : TT) : Prop where
 rg : t.any (bdR t.length f) = false
 top : T.top = 0
 un : UN t T
 nd : T.pre.Nodup
 le : T.pre.length ≤ t.length
theorem gt_of {t : List RNd} {f : Int} (h : VT t f) (h1 : 1 ≤ t.length) : ∃ T : TT, GT t f T := by
 obtain ⟨T, a, b, c, d, e⟩ := unf h.sh h1
 exact ⟨T, h.rg, a, b, c, d⟩
theorem rB_in {b : List RS} (hv : vF b 0 b.length = false) : inB b (rB b b.length) = true := by
 unfold inB
 rw [rB_len, decide_eq_true rfl, Bool.true_and]
 exact rB_hF b.length 0 (by omega) hv
def t4 (x : RQt) : RQt := (x.1, x.2.1.take 4, x.2.2.take 4)
def fN (n : RNd) : RNd := { n with cut := t4 n.cut, val := t4 n.val, cov := t4 n.cov }
def fT7 (t : List RNd) : List RNd := (t.take 15).map fN
def fM7 (m : RM) : RM := (m.1, (m.2.take 6).map fT7)
theorem fT7_sm {t : List RNd} (h : ∀ a ∈ t, OkNd a) : SmT (fT7 t) 4 := by
 intro n hn
 obtain ⟨m, hm, rfl⟩ := List.mem_map.1 hn
 have h2 := h m (List.mem_of_mem_take hm)
 exact ⟨Sm.take (k := maxL) h2.2.2.2.2.2 4, Sm.take (k := maxL) h2.2.1 4, Sm.take (k := maxL) h2.2.2.2.2.1 4⟩
theorem fT7_len (t : List RNd) : (fT7 t).length ≤ 15 := by unfold fT7; rw [zm]; exact List.length_take_le _ _
theorem number07_c {q : Bool} {l d : List Int} (hl : l.length ≤ maxL) (hd : d.length ≤ maxL) : R FF 234 [(AV.agg [AV.b q, (AV.l 1 (List.map u l)), (AV.l 1 (List.map u d))])] = some (AV.agg [AV.b q, (AV.l 1 (List.map u (((l.take 4))))), (AV.l 1 (List.map u (((d.take 4)))))]) := by
 have e3 : (4 : Int).toNat = 4 := rfl
 by_cases c1 : 4 < (l.length : Int)
 ·have c3 : (4 : Int) ≤ (l.length : Int) := by omega
  by_cases c2 : 4 < (d.length : Int)
  ·have c4 : (4 : Int) ≤ (d.length : Int) := by omega
   rw [R_go FF F234 c234.eq_1]
   simp only [RB, RL, un, St.none, Nat.reduceEqDiff, Nat.reduceAdd, Nat.reduceMul, Nat.reduceMod, Nat.reduceLeDiff, Nat.reduceLT, Int.reduceLT, Int.reduceLE, Int.reduceEq, Int.reduceToNat, Int.reduceSub, Int.reduceNeg, Int.reduceAdd, ↓reduceIte, reduceCtorEq, pack, pid, parN, lid, chkK, apartV, Heap.none, c1, c2, c3, c4]
  ·have t2 : d.take 4 = d := zb (by omega)
   rw [t2]
   rw [R_go FF F234 c234.eq_1]
   simp only [RB, RL, un, St.none, Nat.reduceEqDiff, Nat.reduceAdd, Nat.reduceMul, Nat.reduceMod, Nat.reduceLeDiff, Nat.reduceLT, Int.reduceLT, Int.reduceLE, Int.reduceEq, Int.reduceToNat, Int.reduceSub, Int.reduceNeg, Int.reduceAdd, ↓reduceIte, reduceCtorEq, pack, pid, parN, lid, chkK, apartV, Heap.none, c1, c2, c3]
 ·have t1 : l.take 4 = l := zb (by omega)
  rw [t1]
  by_cases c2 : 4 < (d.length : Int)
  ·have c4 : (4 : Int) ≤ (d.length : Int) := by omega
   rw [R_go FF F234 c234.eq_1]
   simp only [RB, RL, un, St.none, Nat.reduceEqDiff, Nat.reduceAdd, Nat.reduceMul, Nat.reduceMod, Nat.reduceLeDiff, Nat.reduceLT, Int.reduceLT, Int.reduceLE, Int.reduceEq, Int.reduceToNat, Int.reduceSub, Int.reduceNeg, Int.reduceAdd, ↓reduceIte, reduceCtorEq, pack, pid, parN, lid, chkK, apartV, Heap.none, c1, c2, c4]
  ·have t2 : d.take 4 = d := zb (by omega)
   rw [t2]
   rw [R_go FF F234 c234.eq_1]
   simp only [RB, RL, un, St.none, Nat.reduceEqDiff, Nat.reduceAdd, Nat.reduceMul, Nat.reduceMod, Nat.reduceLeDiff, Nat.reduceLT, Int.reduceLT, Int.reduceLE, Int.reduceEq, Int.reduceToNat, Int.reduceSub, Int.reduceNeg, Int.reduceAdd, ↓reduceIte, reduceCtorEq, pack, pid, parN, lid, chkK, apartV, Heap.none, c1, c2]
theorem take_min {α : Type} {l : List α} {i n : Nat} (h : i = min l.length n) : l.take i = l.take n := by
 rw [h]
 rcases Nat.le_total l.length n with h | h
 ·rw [Nat.min_eq_left h, zb (zk _), zb h]
 ·rw [Nat.min_eq_right h]
theorem few07_l1 {f : Int} {ts : List (List RNd)} {i : Nat} {acc : List (List RNd)} (hi : i < ts.length) (hu : ∀ a ∈ ts.getD i [], OkNd a) (hl : (ts.getD i []).length ≤ maxL) : ∀ (d j : Nat), j + d = min (ts.getD i []).length 15 →
  LP FF [(2, 1), (3, 4), (5, 1), (1, 0), (4, 0), (6, 0)] [(2, 1), (3, 4), (1, 0), (4, 0), (5, 0)] b209_1 [.ownp [(AV.i .i64 0), .l 1 []], .ownp [(AV.i .i64 f), .own true 1 (acc.map eTr)], .own true 14 ((((ts.getD i []).take j).map fN).map eNd), .tp (eM (f, ts)) 0, (AV.i .i64 ((i : Int))), (AV.i .i64 ((j : Int)))] =
   some (.exit 2, [.ownp [(AV.i .i64 0), .l 1 []], .ownp [(AV.i .i64 f), .own true 1 (acc.map eTr)], .tp (eM (f, ts)) 0, (AV.i .i64 ((i : Int))), .l 14 ((fT7 (ts.getD i [])).map eNd)]) := by
 have c0 : (i : Int) < (ts.length : Int) := by omega
 intro d
 induction d with
 | zero =>
  intro j hj
  rw [take_min (show j = min (ts.getD i []).length 15 by omega), show ((ts.getD i []).take 15).map fN = fT7 (ts.getD i []) from rfl]
  generalize fT7 (ts.getD i []) = F at *
  simp only [eM]
  by_cases c1 : (j : Int) < ((ts.getD i []).length : Int)
  ·have c2 : ¬ (j : Int) < 15 := by omega
   rw [LP_go FF b209_1.eq_1]
   simp only [RB, RL, un, St.none, Nat.reduceEqDiff, Nat.reduceAdd, Nat.reduceMul, Nat.reduceMod, Nat.reduceLeDiff, Nat.reduceLT, Int.reduceLT, Int.reduceLE, Int.reduceEq, Int.reduceToNat, Int.reduceSub, Int.reduceNeg, Int.reduceAdd, ↓reduceIte, reduceCtorEq, pack, pid, parN, lid, chkK, apartV, Heap.none, c0, c1, c2, eTr_rules, eTr_row, zd, nJ, nK, Row.freeze, zf]
  ·rw [LP_go FF b209_1.eq_1]
   simp only [RB, RL, un, St.none, Nat.reduceEqDiff, Nat.reduceAdd, Nat.reduceMul, Nat.reduceMod, Nat.reduceLeDiff, Nat.reduceLT, Int.reduceLT, Int.reduceLE, Int.reduceEq, Int.reduceToNat, Int.reduceSub, Int.reduceNeg, Int.reduceAdd, ↓reduceIte, reduceCtorEq, pack, pid, parN, lid, chkK, apartV, Heap.none, c0, c1, eTr_rules, eTr_row, zd, nJ, nK, Row.freeze, zf]
 | succ d ih =>
  intro j hj
  have hlt : j < (ts.getD i []).length := by omega
  have h9 := ih (j + 1) (by omega)
  have hx := hu _ (getD_mem' dNd hlt)
  have ht : ((ts.getD i []).take (j + 1)).map fN = ((ts.getD i []).take j).map fN ++ [fN ((ts.getD i []).getD j dNd)] := by
   rw [List.take_add_one, zh hlt, List.map_append, za (i := j), zh hlt]
   rfl
  rw [ht] at h9
  have hlen : (((ts.getD i []).take j).map fN).length = j := by rw [zm, zi]; omega
  have c1 : (j : Int) < ((ts.getD i []).length : Int) := by omega
  have c2 : (j : Int) < 15 := by omega
  have e2 : IntKind.i64.wrap ((j : Int) + 1) = ((j + 1 : Nat) : Int) := w64succ (by omega)
  have b2 : (j + 1) * 208 ≤ 140737488355328 := by omega
  generalize ((ts.getD i []).take j).map fN = A at *
  obtain ⟨x, hx'⟩ : ∃ x, (ts.getD i []).getD j dNd = x := ⟨_, rfl⟩
  rw [hx'] at h9 hx
  obtain ⟨xl, xf, ⟨cq, cl, cd⟩, xa, xb, xm, ⟨vq, vl, vd⟩, ⟨wq, wl, wd⟩⟩ := x
  obtain ⟨k1, k2, k3, k4, k5, k6⟩ := hx
  have f1 := number07_c (q := cq) (l := cl) (d := cd) k2.1.2 k2.2.2
  have f2 := number07_c (q := vq) (l := vl) (d := vd) k5.1.2 k5.2.2
  have f3 := number07_c (q := wq) (l := wl) (d := wd) k6.1.2 k6.2.2
  have m2 : List.take (j + 1) (A ++ [fN ⟨xl, xf, (cq, cl, cd), xa, xb, xm, (vq, vl, vd), (wq, wl, wd)⟩]) = A ++ [fN ⟨xl, xf, (cq, cl, cd), xa, xb, xm, (vq, vl, vd), (wq, wl, wd)⟩] := zb (by rw [zj, hlen]; exact zk _)
  have m3 : List.take j A = A := zb (by omega)
  have m1 : List.map eNd A ++ [[.b xl, .i .i64 xf, .b cq, .l 1 ((cl.take 4).map u), .l 1 ((cd.take 4).map u), .i .i64 xa, .i .i64 xb, .b xm, .b vq, .l 1 ((vl.take 4).map u), .l 1 ((vd.take 4).map u), .b wq, .l 1 ((wl.take 4).map u), .l 1 ((wd.take 4).map u)]] = List.map eNd (A ++ [fN ⟨xl, xf, (cq, cl, cd), xa, xb, xm, (vq, vl, vd), (wq, wl, wd)⟩]) := by rw [List.map_append]; rfl
  simp only [eM] at h9 ⊢
  rw [LP_go FF b209_1.eq_1]
  simp only [RB, RL, un, St.none, Nat.reduceEqDiff, Nat.reduceAdd, Nat.reduceMul, Nat.reduceMod, Nat.reduceLeDiff, Nat.reduceLT, Int.reduceLT, Int.reduceLE, Int.reduceEq, Int.reduceToNat, Int.reduceSub, Int.reduceNeg, Int.reduceAdd, ↓reduceIte, reduceCtorEq, pack, pid, parN, lid, chkK, apartV, Heap.none, c0, c1, c2, hx', eNd, eTr_rules, eTr_row, eNd_rules, eNd_row, zd, nJ, nK, Row.freeze, f1, f2, f3, e2, hlen, b2, m3, m1, m2]
  exact h9
theorem few07_l0 {f : Int} {ts : List (List RNd)} (hu : ∀ t ∈ ts, t.length ≤ maxL ∧ ∀ a ∈ t, OkNd a) (hl : ts.length ≤ maxL) : ∀ (d i : Nat), i + d = min ts.length 6 →
  LP FF [(2, 1), (3, 4), (1, 0), (4, 0)] [(2, 1), (3, 0)] b209_0 [.ownp [(AV.i .i64 0), .l 1 []], .ownp [(AV.i .i64 f), .own true 1 (((ts.take i).map fT7).map eTr)], .tp (eM (f, ts)) 0, (AV.i .i64 ((i : Int)))] =
   some (.exit 0, [.ownp [(AV.i .i64 0), .l 1 []], .tp (eM (fM7 (f, ts))) 0]) := by
 intro d
 induction d with
 | zero =>
  intro i hi
  rw [take_min (show i = min ts.length 6 by omega), show eM (fM7 (f, ts)) = [(AV.i .i64 f), .l 1 (((ts.take 6).map fT7).map eTr)] from rfl]
  simp only [eM]
  generalize (ts.take 6).map fT7 = F at *
  by_cases c1 : (i : Int) < (ts.length : Int)
  ·have c2 : ¬ (i : Int) < 6 := by omega
   rw [LP_go FF b209_0.eq_1]
   simp only [RB, RL, un, St.none, Nat.reduceEqDiff, Nat.reduceAdd, Nat.reduceMul, Nat.reduceMod, Nat.reduceLeDiff, Nat.reduceLT, Int.reduceLT, Int.reduceLE, Int.reduceEq, Int.reduceToNat, Int.reduceSub, Int.reduceNeg, Int.reduceAdd, ↓reduceIte, reduceCtorEq, pack, pid, parN, lid, chkK, apartV, Heap.none, c1, c2, eTr_rules, eTr_row, nJ, nK, Row.freeze, zf]
  ·rw [LP_go FF b209_0.eq_1]
   simp only [RB, RL, un, St.none, Nat.reduceEqDiff, Nat.reduceAdd, Nat.reduceMul, Nat.reduceMod, Nat.reduceLeDiff, Nat.reduceLT, Int.reduceLT, Int.reduceLE, Int.reduceEq, Int.reduceToNat, Int.reduceSub, Int.reduceNeg, Int.reduceAdd, ↓reduceIte, reduceCtorEq, pack, pid, parN, lid, chkK, apartV, Heap.none, c1, eTr_rules, eTr_row, nJ, nK, Row.freeze, zf]
 | succ d ih =>
  intro i hi
  have hlt : i < ts.length := by omega
  have h9 := ih (i + 1) (by omega)
  have hx := hu _ (getD_mem' ([] : List RNd) hlt)
  have l1 := few07_l1 (f := f) (ts := ts) (i := i) (acc := (ts.take i).map fT7) hlt hx.2 hx.1 (min (ts.getD i []).length 15) 0 (by omega)
  rw [List.take_zero, zy] at l1
  simp only [List.map_nil] at l1
  have ht : (ts.take (i + 1)).map fT7 = (ts.take i).map fT7 ++ [fT7 (ts.getD i [])] := by
   rw [List.take_add_one, zh hlt, List.map_append, za, zh hlt]
   rfl
  rw [ht] at h9
  have hlen : ((ts.take i).map fT7).length = i := by rw [zm, zi]; omega
  have c1 : (i : Int) < (ts.length : Int) := by omega
  have c2 : (i : Int) < 6 := by omega
  have e2 : IntKind.i64.wrap ((i : Int) + 1) = ((i + 1 : Nat) : Int) := w64succ (by omega)
  have b2 : (i + 1) * 24 ≤ 140737488355328 := by omega
  generalize (ts.take i).map fT7 = A at *
  generalize fT7 (ts.getD i []) = x at *
  have m2 : List.take (i + 1) (A ++ [x]) = A ++ [x] := zb (by rw [zj, hlen]; exact zk _)
  have m3 : List.take i A = A := zb (by omega)
  have m1 : List.map eTr A ++ [[AV.l 14 (x.map eNd)]] = List.map eTr (A ++ [x]) := by rw [List.map_append (f := eTr)]; rfl
  simp only [eM] at l1 h9 ⊢
  rw [LP_go FF b209_0.eq_1]
  simp only [RB, RL, un, St.none, Nat.reduceEqDiff, Nat.reduceAdd, Nat.reduceMul, Nat.reduceMod, Nat.reduceLeDiff, Nat.reduceLT, Int.reduceLT, Int.reduceLE, Int.reduceEq, Int.reduceToNat, Int.reduceSub, Int.reduceNeg, Int.reduceAdd, ↓reduceIte, reduceCtorEq, pack, pid, parN, lid, chkK, apartV, Heap.none, c1, c2, eTr_rules, eTr_row, zd, nJ, nK, Row.freeze, l1, e2, hlen, b2, m3, m1, m2]
  exact h9
theorem few07_c {m : RM} (h : OkM m) : R FF 209 [.agg (eM m)] = some (.agg (eM (fM7 m))) := by
 obtain ⟨f, ts⟩ := m
 have l0 := few07_l0 (f := f) (ts := ts) h.2.2 h.2.1 (min ts.length 6) 0 (by omega)
 rw [List.take_zero, zy] at l0
 simp only [List.map_nil] at l0
 generalize fM7 (f, ts) = F at *
 obtain ⟨g, us⟩ := F
 simp only [eM] at l0 ⊢
 rw [R_go FF F209 c209.eq_1]
 simp only [RB, RL, un, St.none, Nat.reduceEqDiff, Nat.reduceAdd, Nat.reduceMul, Nat.reduceMod, Nat.reduceLeDiff, Nat.reduceLT, Int.reduceLT, Int.reduceLE, Int.reduceEq, Int.reduceToNat, Int.reduceSub, Int.reduceNeg, Int.reduceAdd, ↓reduceIte, reduceCtorEq, pack, pid, parN, lid, chkK, apartV, Heap.none, l0, nJ, nK, n64, eTr_rules, eTr_row]
abbrev RG := Nat × Rat × List RS
def eG (x : RG) : List AV := [.i .i64 (x.1 : Int), .b (ng x.2.1.num), .l 1 ((D x.2.1.num.natAbs).map u), .l 1 ((D x.2.1.den).map u), .l 9 (x.2.2.map eS)]
abbrev dG : RG := (0, 0, [])
theorem eG_rules : (∀ x, (eG x).length = 5) ∧ (∀ h x, (eG x).map (tellC h) = eG x) ∧ (∀ h x, (eG x).map (tell0 h) = eG x) ∧ (∀ h x, (eG x).flatMap (refC h) = []) ∧ (∀ x, (eG x).flatMap ref0 = []) ∧
  (∀ x, ldC true 5 0 (eG x) = some (.agg (eG x))) ∧ (∀ x, ldC false 1 0 (eG x) = some (.i .i64 (x.1 : Int))) ∧ (∀ x, ldC true 3 1 (eG x) = some (.agg [.b (ng x.2.1.num), .l 1 ((D x.2.1.num.natAbs).map u), .l 1 ((D x.2.1.den).map u)])) ∧ (∀ x, ldC false 1 4 (eG x) = some (.l 9 (x.2.2.map eS))) := by
 refine ⟨?_, ?_, ?_, ?_, ?_, ?_, ?_, ?_, ?_⟩ <;> intros <;> rfl
theorem eG_row : type_of% (row_rules eG dG 5 (fun _ => rfl) (fun _ _ => rfl)) := row_rules eG dG 5 (fun _ => rfl) (fun _ _ => rfl)
def mkG (t : List RNd) (x : Nat × List RS) : RG := (x.1, vQ (t.getD x.1 dNd).val, x.2)
def regG (t : List RNd) (T : TT) (b : List RS) : List RG := (regV t T b).map (mkG t)
theorem part_c {b : List RS} {n : RNd} {left : Bool} {k : Nat} (hk : k ≤ 100000000000) (h1k : 1 ≤ k) (hB : SmB b k) (hc : SmQ n.cut k) (h0 : 0 ≤ n.ft) (hf : n.ft.toNat < b.length) (hn : b.length ≤ 1000) :
  R FF 229 [.l 9 (b.map eS), .agg (eNd n), .b left] = some (if empV (sdV b n left) then .tup [.l 9 [], .b false] else .tup [.l 9 ((partB b n left).map eS), .b true]) := by
 have hs := hB _ (getD_mem' dS hf)
 have f1 := above_c (mi := !n.miss) hk h1k hs hc
 have f2 := below_c (mi := n.miss) hk h1k hs hc
 have g1 := abv_sm (mi := !n.miss) hs hc h1k
 have g2 := bel_sm (mi := n.miss) hs hc h1k
 have e0 : sdV b n left = if left then belV (b.getD n.ft.toNat dS) n.cut n.miss else abvV (b.getD n.ft.toNat dS) n.cut (!n.miss) := rfl
 unfold partB
 have ft : ((n.ft.toNat : Nat) : Int) = n.ft := by omega
 have c2 : n.ft < (b.length : Int) := by omega
 obtain ⟨lf, fx, c, a', b', m, v, w⟩ := n
 simp only at f1 f2 g1 g2 e0 ft c2 h0 hf ⊢
 cases left
 ·rw [if_neg (by decide)] at e0
  rw [e0]
  have f3 := empty_c hk g1
  have f4 := with_c hk g1 hf (by omega)
  rw [ft] at f4
  generalize abvV (b.getD fx.toNat dS) c (!m) = s at *
  simp only [eNd, eS, eQ] at f1 f3 f4 ⊢
  cases hE : empV s <;> rw [hE] at f3
  ·rw [if_neg (by decide)]
   rw [R_go FF F229 c229.eq_1]
   simp only [RB, RL, un, St.none, Nat.reduceEqDiff, Nat.reduceAdd, Nat.reduceMul, Nat.reduceMod, Nat.reduceLeDiff, Nat.reduceLT, Int.reduceLT, Int.reduceLE, Int.reduceEq, Int.reduceToNat, Int.reduceSub, Int.reduceNeg, Int.reduceAdd, ↓reduceIte, reduceCtorEq, pack, pid, parN, lid, chkK, apartV, Heap.none, f1, f3, f4, h0, c2, eS_rules, eS_row, n64]
  ·rw [if_pos rfl]
   rw [R_go FF F229 c229.eq_1]
   simp only [RB, RL, un, St.none, Nat.reduceEqDiff, Nat.reduceAdd, Nat.reduceMul, Nat.reduceMod, Nat.reduceLeDiff, Nat.reduceLT, Int.reduceLT, Int.reduceLE, Int.reduceEq, Int.reduceToNat, Int.reduceSub, Int.reduceNeg, Int.reduceAdd, ↓reduceIte, reduceCtorEq, pack, pid, parN, lid, chkK, apartV, Heap.none, f1, f3, h0, c2, eS_rules, eS_row, n64]
 ·rw [if_pos rfl] at e0
  rw [e0]
  have f3 := empty_c hk g2
  have f4 := with_c hk g2 hf (by omega)
  rw [ft] at f4
  generalize belV (b.getD fx.toNat dS) c m = s at *
  generalize abvV (b.getD fx.toNat dS) c (!m) = s' at *
  simp only [eNd, eS, eQ] at f1 f2 f3 f4 ⊢
  cases hE : empV s <;> rw [hE] at f3
  ·rw [if_neg (by decide)]
   rw [R_go FF F229 c229.eq_1]
   simp only [RB, RL, un, St.none, Nat.reduceEqDiff, Nat.reduceAdd, Nat.reduceMul, Nat.reduceMod, Nat.reduceLeDiff, Nat.reduceLT, Int.reduceLT, Int.reduceLE, Int.reduceEq, Int.reduceToNat, Int.reduceSub, Int.reduceNeg, Int.reduceAdd, ↓reduceIte, reduceCtorEq, pack, pid, parN, lid, chkK, apartV, Heap.none, f1, f2, f3, f4, h0, c2, eS_rules, eS_row, n64]
  ·rw [if_pos rfl]
   rw [R_go FF F229 c229.eq_1]
   simp only [RB, RL, un, St.none, Nat.reduceEqDiff, Nat.reduceAdd, Nat.reduceMul, Nat.reduceMod, Nat.reduceLeDiff, Nat.reduceLT, Int.reduceLT, Int.reduceLE, Int.reduceEq, Int.reduceToNat, Int.reduceSub, Int.reduceNeg, Int.reduceAdd, ↓reduceIte, reduceCtorEq, pack, pid, parN, lid, chkK, apartV, Heap.none, f1, f2, f3, h0, c2, eS_rules, eS_row, n64]
theorem regG_len (t : List RNd) (T : TT) (b : List RS) : (regG t T b).length ≤ T.pre.length := by
 unfold regG
 rw [zm]
 exact zu (reg_count T b) (lvs_count T)
theorem take_app9 {α : Type} (l m : List α) : (l ++ m).take (l.length + m.length) = l ++ m := zb (by rw [zj]; exact zk _)
theorem regions_c {t : List RNd} {f : Int} {k : Nat} (hk : k ≤ 1000000000) (h1k : 1 ≤ k) (ht : t.length ≤ 1000) (hs : SmT t k) (hrg : t.any (bdR t.length f) = false) : ∀ (T : TT) (b : List RS), UN t T → T.pre.length ≤ 1000 → (b.length : Int) = f → b.length ≤ 1000 → SmB b k →
  R FF 259 [.l 14 (t.map eNd), (AV.i .i64 ((T.top : Int))), .l 9 (b.map eS)] = some (.l 5 ((regG t T b).map eG))
 | .lf a, b, hT, hp, hb, hn, hB => by
  have c1 : (a : Int) < (t.length : Int) := by have := hT.1; omega
  have hv := (hs _ (getD_mem' dNd hT.1)).2.2
  have f1 := qclean_s (q := (t.getD a dNd).val.1) hv (by omega)
  change R FF 63 [(AV.agg [AV.b ((t.getD a dNd).val.1), (AV.l 1 (List.map u (((t.getD a dNd).val.2.1)))), (AV.l 1 (List.map u (((t.getD a dNd).val.2.2))))])] = some (AV.agg [AV.b (ng (Rat.num ((vQ (t.getD a dNd).val)))), (AV.l 1 (List.map u (D (Int.natAbs (Rat.num ((vQ (t.getD a dNd).val))))))), (AV.l 1 (List.map u (D (Rat.den ((vQ (t.getD a dNd).val))))))]) at f1
  have e : (regG t (.lf a) b).map eG = [[.i .i64 (a : Int), .b (ng (vQ (t.getD a dNd).val).num), (AV.l 1 (List.map u (D (vQ (t.getD a dNd).val).num.natAbs))), (AV.l 1 (List.map u (D (vQ (t.getD a dNd).val).den))), .l 9 (b.map eS)]] := rfl
  have hl := hT.2
  rw [e]
  show R FF 259 [.l 14 (t.map eNd), (AV.i .i64 ((a : Int))), .l 9 (b.map eS)] = _
  generalize vQ (t.getD a dNd).val = v at *
  rw [R_go FF F259 c259.eq_1]
  simp only [RB, RL, un, St.none, Nat.reduceEqDiff, Nat.reduceAdd, Nat.reduceMul, Nat.reduceMod, Nat.reduceLeDiff, Nat.reduceLT, Int.reduceLT, Int.reduceLE, Int.reduceEq, Int.reduceToNat, Int.reduceSub, Int.reduceNeg, Int.reduceAdd, ↓reduceIte, reduceCtorEq, pack, pid, parN, lid, chkK, apartV, Heap.none, c1, hl, f1, n64, eNd_rules, eNd_row, eS_rules, eS_row, zd]
 | .nd a l r, b, hT, hp, hb, hn, hB => by
  obtain ⟨h1, h2, h3, h4, h5, h6⟩ := hT
  have hft := un_ft hrg hb h1 h2
  have hrn := rng_of hrg (getD_mem' dNd h1) h2
  have hc := (hs _ (getD_mem' dNd h1)).2.1
  have hlen : (TT.nd a l r).pre.length = r.pre.length + l.pre.length + 1 := by rw [TT.pre, zw, zj]
  have p1 := part_c (n := t.getD a dNd) (left := true) (by omega) h1k hB hc hft.2 hft.1 hn
  have p2 := part_c (n := t.getD a dNd) (left := false) (by omega) h1k hB hc hft.2 hft.1 hn
  have i1 := regions_c hk h1k ht hs hrg l (partB b (t.getD a dNd) true) h5 (by omega) (by rw [prtB_len]; exact hb) (by rw [prtB_len]; exact hn) (part_sm hB hc h1k hft.1)
  have i2 := regions_c hk h1k ht hs hrg r (partB b (t.getD a dNd) false) h6 (by omega) (by rw [prtB_len]; exact hb) (by rw [prtB_len]; exact hn) (part_sm hB hc h1k hft.1)
  rw [show (l.top : Int) = (t.getD a dNd).lft by rw [h3]; omega] at i1
  rw [show (r.top : Int) = (t.getD a dNd).rgt by rw [h4]; omega] at i2
  have n1 := regG_len t l (partB b (t.getD a dNd) true)
  have n2 := regG_len t r (partB b (t.getD a dNd) false)
  have e : (regG t (.nd a l r) b).map eG = (if empV (sdV b (t.getD a dNd) true) then [] else (regG t l (partB b (t.getD a dNd) true)).map eG) ++ (if empV (sdV b (t.getD a dNd) false) then [] else (regG t r (partB b (t.getD a dNd) false)).map eG) := by
   unfold regG
   rw [regV, List.map_append, List.map_append]
   congr 1
   ·split <;> rfl
   ·split <;> rfl
  rw [e]
  show R FF 259 [.l 14 (t.map eNd), (AV.i .i64 ((a : Int))), .l 9 (b.map eS)] = _
  have c1 : (a : Int) < (t.length : Int) := by omega
  generalize regG t l (partB b (t.getD a dNd) true) = G1 at *
  generalize regG t r (partB b (t.getD a dNd) false) = G2 at *
  generalize partB b (t.getD a dNd) true = b1 at *
  generalize partB b (t.getD a dNd) false = b2 at *
  generalize empV (sdV b (t.getD a dNd) true) = E1 at *
  generalize empV (sdV b (t.getD a dNd) false) = E2 at *
  clear hrn hft hc h3 h4
  obtain ⟨x, hx⟩ : ∃ x, x = t.getD a dNd := ⟨_, rfl⟩
  rw [← hx] at h2 p1 p2 i1 i2
  have hx' := hx.symm
  obtain ⟨xl, xf, xc, xa, xb, xm, xv, xw⟩ := x
  simp only at h2
  subst h2
  simp only [eNd] at p1 p2
  have q1 : G1.length * 88 ≤ 140737488355328 := by omega
  have q2 : G2.length * 88 ≤ 140737488355328 := by omega
  have q3 : (G1.length + G2.length) * 88 ≤ 140737488355328 := by omega
  have t3 := take_app9 G1 G2
  cases E1 <;> cases E2 <;> simp only [zz, if_false, if_true] at p1 p2 ⊢
  ·rw [R_go FF F259 c259.eq_1]
   simp only [RB, RL, un, St.none, Nat.reduceEqDiff, Nat.reduceAdd, Nat.reduceMul, Nat.reduceMod, Nat.reduceLeDiff, Nat.reduceLT, Int.reduceLT, Int.reduceLE, Int.reduceEq, Int.reduceToNat, Int.reduceSub, Int.reduceNeg, Int.reduceAdd, ↓reduceIte, reduceCtorEq, pack, pid, parN, lid, chkK, apartV, Heap.none, c1, hx', eNd, p1, p2, i1, i2, n64, eNd_rules, eNd_row, eS_rules, eS_row, eG_rules, eG_row, zd, q1, q3, List.nil_append, List.append_nil, t3, zm, zf]
  ·rw [R_go FF F259 c259.eq_1]
   simp only [RB, RL, un, St.none, Nat.reduceEqDiff, Nat.reduceAdd, Nat.reduceMul, Nat.reduceMod, Nat.reduceLeDiff, Nat.reduceLT, Int.reduceLT, Int.reduceLE, Int.reduceEq, Int.reduceToNat, Int.reduceSub, Int.reduceNeg, Int.reduceAdd, ↓reduceIte, reduceCtorEq, pack, pid, parN, lid, chkK, apartV, Heap.none, c1, hx', eNd, p1, p2, i1, n64, eNd_rules, eNd_row, eS_rules, eS_row, eG_rules, eG_row, zd, q1, List.nil_append, List.append_nil, zm, zf]
  ·rw [R_go FF F259 c259.eq_1]
   simp only [RB, RL, un, St.none, Nat.reduceEqDiff, Nat.reduceAdd, Nat.reduceMul, Nat.reduceMod, Nat.reduceLeDiff, Nat.reduceLT, Int.reduceLT, Int.reduceLE, Int.reduceEq, Int.reduceToNat, Int.reduceSub, Int.reduceNeg, Int.reduceAdd, ↓reduceIte, reduceCtorEq, pack, pid, parN, lid, chkK, apartV, Heap.none, c1, hx', eNd, p1, p2, i2, n64, eNd_rules, eNd_row, eS_rules, eS_row, eG_rules, eG_row, zd, q2, List.nil_append, List.append_nil, zm, zf]
  ·rw [R_go FF F259 c259.eq_1]
   simp only [RB, RL, un, St.none, Nat.reduceEqDiff, Nat.reduceAdd, Nat.reduceMul, Nat.reduceMod, Nat.reduceLeDiff, Nat.reduceLT, Int.reduceLT, Int.reduceLE, Int.reduceEq, Int.reduceToNat, Int.reduceSub, Int.reduceNeg, Int.reduceAdd, ↓reduceIte, reduceCtorEq, pack, pid, parN, lid, chkK, apartV, Heap.none, c1, hx', eNd, p1, p2, n64, eNd_rules, eNd_row, eS_rules, eS_row, eG_rules, eG_row, zd, List.nil_append]
def cB (b : List RS) : List RS := b.map cS
theorem cB_len (b : List RS) : (cB b).length = b.length := zm ..
theorem cB_get {b : List RS} {j : Nat} (h : j < b.length) : (cB b).getD j dS = cS (b.getD j dS) := by
 unfold cB
 rw [za, List.getElem?_map, za, zh h]; rfl
theorem cB_in (b : List RS) (row : List RC) : inB (cB b) row = inB b row := by
 rw [Bool.eq_iff_iff, inB_iff, inB_iff, cB_len]
 constructor
 ·intro h
  exact ⟨h.1, fun j hj => by have := h.2 j hj; rwa [cB_get (by omega), inV_cS] at this⟩
 ·intro h
  exact ⟨h.1, fun j hj => by rw [cB_get (by omega), inV_cS]; exact h.2 j hj⟩
theorem cB_void {b : List RS} (h : vF b 0 b.length = false) : vF (cB b) 0 (cB b).length = false := by
 rw [vF_iff] at h ⊢
 intro j h1 h2
 rw [cB_len] at h2
 rw [cB_get (by omega), emp_cS]
 exact h j h1 h2
theorem cB_sm {b : List RS} {k : Nat} (h1k : 1 ≤ k) (h : SmB b k) : SmB (cB b) k := by
 intro x hx
 obtain ⟨y, hy, rfl⟩ := List.mem_map.1 hx
 exact cS_sm (h y hy) h1k
theorem Regions_l0 {b : List RS} {k : Nat} (hk : k ≤ 1000000000) (hb : b.length ≤ 1000) (hB : SmB b k) {t : List RNd} : ∀ (d i : Nat), i + d = b.length →
  LP FF [(6, 1), (0, 0), (16, 0), (17, 0), (18, 0)] [(0, 0), (6, 0)] b277_0 [.own true 9 (((b.take i).map cS).map eS), .l 14 (t.map eNd), .l 9 (b.map eS), (AV.i .i64 ((b.length : Int))), (AV.i .i64 ((i : Int)))] = some (.exit 0, [.l 14 (t.map eNd), .l 9 ((cB b).map eS)]) := by
 intro d
 induction d with
 | zero =>
  intro i hi
  have c1 : ¬ (i : Int) < (b.length : Int) := by omega
  rw [zb (by omega), show b.map cS = cB b from rfl]
  generalize cB b = F at *
  rw [LP_go FF b277_0.eq_1]
  simp only [RB, RL, un, St.none, Nat.reduceEqDiff, Nat.reduceAdd, Nat.reduceMul, Nat.reduceMod, Nat.reduceLeDiff, Nat.reduceLT, Int.reduceLT, Int.reduceLE, Int.reduceEq, Int.reduceToNat, Int.reduceSub, Int.reduceNeg, Int.reduceAdd, ↓reduceIte, reduceCtorEq, pack, pid, parN, lid, chkK, apartV, Heap.none, c1, eS_rules, eS_row, eNd_rules, eNd_row, Row.freeze, zf]
 | succ d ih =>
  intro i hi
  have hlt : i < b.length := by omega
  have h9 := ih (i + 1) (by omega)
  have hx := hB _ (getD_mem' dS hlt)
  have f1 := bclean_c (by omega) hx
  have ht : (b.take (i + 1)).map cS = (b.take i).map cS ++ [cS (b.getD i dS)] := by
   rw [List.take_add_one, zh hlt, List.map_append, za, zh hlt]
   rfl
  rw [ht] at h9
  have hlen : ((b.take i).map cS).length = i := by rw [zm, zi]; omega
  have c1 : (i : Int) < (b.length : Int) := by omega
  have e2 : IntKind.i64.wrap ((i : Int) + 1) = ((i + 1 : Nat) : Int) := w64succ (by omega)
  have b2 : (i + 1) * 128 ≤ 140737488355328 := by omega
  generalize (b.take i).map cS = A at *
  generalize cS (b.getD i dS) = y at *
  obtain ⟨y1, y2, ⟨y3, y4, y5⟩, ⟨y6, y7, y8⟩, y9⟩ := y
  have m2 : List.take (i + 1) (A ++ [(y1, y2, (y3, y4, y5), (y6, y7, y8), y9)]) = A ++ [(y1, y2, (y3, y4, y5), (y6, y7, y8), y9)] := zb (by rw [zj, hlen]; exact zk _)
  have m3 : List.take i A = A := zb (by omega)
  have m1 : List.map eS A ++ [[.b y1, .b y2, .b y3, .l 1 (y4.map u), .l 1 (y5.map u), .b y6, .l 1 (y7.map u), .l 1 (y8.map u), .b y9]] = List.map eS (A ++ [(y1, y2, (y3, y4, y5), (y6, y7, y8), y9)]) := by rw [List.map_append]; rfl
  simp only [eS] at f1
  rw [LP_go FF b277_0.eq_1]
  simp only [RB, RL, un, St.none, Nat.reduceEqDiff, Nat.reduceAdd, Nat.reduceMul, Nat.reduceMod, Nat.reduceLeDiff, Nat.reduceLT, Int.reduceLT, Int.reduceLE, Int.reduceEq, Int.reduceToNat, Int.reduceSub, Int.reduceNeg, Int.reduceAdd, ↓reduceIte, reduceCtorEq, pack, pid, parN, lid, chkK, apartV, Heap.none, c1, eS_rules, eS_row, eNd_rules, eNd_row, zd, f1, e2, hlen, b2, m3, m1, m2]
  exact h9
theorem Regions_bad {t : List RNd} {b : List RS} {k : Nat} (hk : k ≤ 1000000000) (h1k : 1 ≤ k) (ht : t.length ≤ 1000) (hs : SmT t k) (hv : ¬ VM (((b.length : Nat) : Int), [t])) : R FF 277 [.l 14 (t.map eNd), .l 9 (b.map eS)] = some (.tup [.l 5 [], (AV.i .i64 1)]) := by
 obtain ⟨c, f1, f2⟩ := vtree_c (t := t) (f := ((b.length : Nat) : Int)) (k := k) (by omega) h1k (by omega) hs
 have hc : c = false := by
  cases c
  ·rfl
  ·exact (hv (f2.1 rfl)).elim
 subst hc
 rw [R_go FF F277 c277.eq_1]
 simp only [RB, RL, un, St.none, Nat.reduceEqDiff, Nat.reduceAdd, Nat.reduceMul, Nat.reduceMod, Nat.reduceLeDiff, Nat.reduceLT, Int.reduceLT, Int.reduceLE, Int.reduceEq, Int.reduceToNat, Int.reduceSub, Int.reduceNeg, Int.reduceAdd, ↓reduceIte, reduceCtorEq, pack, pid, parN, lid, chkK, apartV, Heap.none, f1, eS_rules, eS_row, eNd_rules, eNd_row]
theorem Regions_void {t : List RNd} {b : List RS} {k : Nat} (hk : k ≤ 1000000000) (h1k : 1 ≤ k) (ht : t.length ≤ 1000) (hb : b.length ≤ 1000) (hs : SmT t k) (hB : SmB b k) (hv : VM (((b.length : Nat) : Int), [t])) (hw : vF b 0 b.length = true) : R FF 277 [.l 14 (t.map eNd), .l 9 (b.map eS)] = some (.tup [.l 5 [], (AV.i .i64 0)]) := by
 obtain ⟨c, f1, f2⟩ := vtree_c (t := t) (f := ((b.length : Nat) : Int)) (k := k) (by omega) h1k (by omega) hs
 have hc : c = true := f2.2 hv
 subst hc
 have f3 := void_c (b := b) (k := k) (by omega) (by omega) hB
 rw [hw] at f3
 rw [R_go FF F277 c277.eq_1]
 simp only [RB, RL, un, St.none, Nat.reduceEqDiff, Nat.reduceAdd, Nat.reduceMul, Nat.reduceMod, Nat.reduceLeDiff, Nat.reduceLT, Int.reduceLT, Int.reduceLE, Int.reduceEq, Int.reduceToNat, Int.reduceSub, Int.reduceNeg, Int.reduceAdd, ↓reduceIte, reduceCtorEq, pack, pid, parN, lid, chkK, apartV, Heap.none, f1, f3, eS_rules, eS_row, eNd_rules, eNd_row]
theorem Regions_c {t : List RNd} {b : List RS} {k : Nat} {T : TT} (hk : k ≤ 1000000000) (h1k : 1 ≤ k) (ht : t.length ≤ 1000) (hb : b.length ≤ 1000) (hs : SmT t k) (hB : SmB b k) (hv : VM (((b.length : Nat) : Int), [t])) (hT : GT t ((b.length : Nat) : Int) T) (hw : vF b 0 b.length = false) :
  R FF 277 [.l 14 (t.map eNd), .l 9 (b.map eS)] = some (.tup [.l 5 ((regG t T (cB b)).map eG), (AV.i .i64 0)]) := by
 obtain ⟨c, f1, f2⟩ := vtree_c (t := t) (f := ((b.length : Nat) : Int)) (k := k) (by omega) h1k (by omega) hs
 have hc : c = true := f2.2 hv
 subst hc
 have f3 := void_c (b := b) (k := k) (by omega) (by omega) hB
 rw [hw] at f3
 have l0 := Regions_l0 (t := t) hk hb hB b.length 0 (by omega)
 rw [List.take_zero, zy] at l0
 simp only [List.map_nil] at l0
 have f4 := regions_c hk h1k ht hs hT.rg T (cB b) hT.un (zu hT.le ht) (by rw [cB_len]) (by rw [cB_len]; exact hb) (cB_sm h1k hB)
 rw [hT.top, zy] at f4
 generalize regG t T (cB b) = G at *
 generalize cB b = c at *
 rw [R_go FF F277 c277.eq_1]
 simp only [RB, RL, un, St.none, Nat.reduceEqDiff, Nat.reduceAdd, Nat.reduceMul, Nat.reduceMod, Nat.reduceLeDiff, Nat.reduceLT, Int.reduceLT, Int.reduceLE, Int.reduceEq, Int.reduceToNat, Int.reduceSub, Int.reduceNeg, Int.reduceAdd, ↓reduceIte, reduceCtorEq, pack, pid, parN, lid, chkK, apartV, Heap.none, f1, f3, l0, f4, eS_rules, eS_row, eNd_rules, eNd_row]
structure OkT (ts : List (List RNd)) (f : Int) (k : Nat) : Prop where
 n : ts.length ≤ 6
 gt : ∀ t ∈ ts, ∃ T : TT, GT t f T
 len : ∀ t ∈ ts, t.length ≤ 1000
 sm : ∀ t ∈ ts, SmT t k
theorem drop_getD {α : Type} {l : List α} (d : α) {j : Nat} (h : j < l.length) : l.drop j = l.getD j d :: l.drop (j + 1) := by
 rw [za, zh h]
 exact List.drop_eq_getElem_cons h
structure Fw (m : RM) (k : Nat) : Prop where
 n : m.2.length ≤ 6
 len : ∀ t ∈ m.2, t.length ≤ 1000
 sm : ∀ t ∈ m.2, SmT t k
def ovE : Nat → List AV → Option AV :=
 ovF 31 (two fun x y => encQ (x + y)) <| ovF 55 (two fun x y => encQ (x - y)) <| ovF 14 (two fun x y => some (AV.i .i64 (qcmp x y))) <| ovF 57 (two fun x y => some (.b (decide (x = y)))) <| ovF 162 (one fun x => some (AV.i .i64 (cmp x.num 0))) <|
 ovF 63 (one encQ) <| ovF 68 ofG <| ovF 54 (nilG 0) <| ovF 56 (nilG 1) nothing
theorem ovE_ok : LeC ovE (R FF) :=
 ovF_ok ov_add <| ovF_ok ov_sub <| ovF_ok ov_cmp <| ovF_ok ov_same <| ovF_ok ov_sign <| ovF_ok ov_clean <| ovF_ok ov_of <| ovF_ok ov_zero <| ovF_ok ov_one nothing_ok
theorem runE {k f : Nat} {xs : List AV} {v : AV} (h : runV ovE FF k f xs = some v) : R FF f xs = some v := runV_ok ovE_ok k f xs v h
theorem awake24e : R FF 199 [] = some (.b true) := runE (k := 30) (by kernel_rfl)
def fB9 (b : List RS) : List RS := (b.take 5).map t3S
theorem SmQ.mono {x : RQt} {k j : Nat} (h : SmQ x k) (hj : k ≤ j) : SmQ x j := Sm.mono h hj
theorem SmT.mono {t : List RNd} {k j : Nat} (h : SmT t k) (hj : k ≤ j) : SmT t j := fun n hn => ⟨(h n hn).1.mono hj, (h n hn).2.1.mono hj, (h n hn).2.2.mono hj⟩
theorem SmB.mono {b : List RS} {k j : Nat} (h : SmB b k) (hj : k ≤ j) : SmB b j := fun x hx => ⟨(h x hx).1.mono hj, (h x hx).2.mono hj⟩
theorem SmR.mono {r : List RC} {k j : Nat} (h : SmR r k) (hj : k ≤ j) : SmR r j := fun x hx => (h x hx).mono hj
theorem fB9_sm {b : List RS} (h : b.length ≤ maxL ∧ ∀ x ∈ b, OkS x) : SmB (fB9 b) 4 := (few_smB h.2 5).mono (by omega)
theorem fB9_len (b : List RS) : (fB9 b).length ≤ 5 := by unfold fB9; rw [zm]; exact List.length_take_le _ _
theorem holds24_c {b : List RS} {r : List RC} {k : Nat} (hk : k ≤ 100000000000) (hr : r.length ≤ 100000000000) (h1 : SmB b k) (h2 : SmR r k) : R FF 200 [.l 9 (b.map eS), .l 4 (r.map eC)] = some (.b (inB b r)) := by
 have c1 := Holds23_c hk hr h1 h2
 rw [R_go FF F200 c200.eq_1]
 simp only [RB, RL, un, St.none, Nat.reduceEqDiff, Nat.reduceAdd, Nat.reduceMul, Nat.reduceMod, Nat.reduceLeDiff, Nat.reduceLT, Int.reduceLT, Int.reduceLE, Int.reduceEq, Int.reduceToNat, Int.reduceSub, Int.reduceNeg, Int.reduceAdd, ↓reduceIte, reduceCtorEq, pack, pid, parN, lid, chkK, apartV, Heap.none, c1, eS_rules, eS_row, eC_rules, eC_row]
end Go.Pe
