/- Part 3 of the texts of GrowLosses: words, the machine's side of functions (written by a program), plain lemmas. -/
import Derived.Test.YtmdlpmhkpnobeaaDoorBGrowLosses2
import Derived.KernelRfl
import Derived.Below
import Derived.Deep.MidRow
import Derived.Laws.IdiomCopy
import Derived.Laws.AppendOwn
import Derived.Laws.MakeOwn
import Derived.Laws.Slices
set_option linter.unusedVariables false
set_option linter.unusedSimpArgs false
set_option linter.unusedSimpArgs false
set_option linter.unusedVariables false
open Go
namespace Go.Pe
theorem sv_add {q : Bool} {a b : Int} (ha : ng a = q) (hb : ng b = q) : sv q (a.natAbs + b.natAbs) = a + b := by
  cases q
  · rw [ng_false] at ha hb; unfold sv; simp; omega
  · rw [ng_true] at ha hb; unfold sv; simp; omega
theorem wadd_c {q r : Bool} {l m : List Int} (hu : U l) (hl : l.length ≤ 17592186044416) (hv : U m) (hm : m.length ≤ 17592186044416) : R FF 76 [(AV.agg [AV.b q, (AV.l 1 (List.map u l))]), (AV.agg [AV.b r, (AV.l 1 (List.map u m))])] = some (AV.agg [AV.b (ng (wv q l + wv r m)), (AV.l 1 (List.map u (D (Int.natAbs (wv q l + wv r m)))))]) := by
  have h1 := wclean_c (q := q) hu (by omega)
  have h2 := wclean_c (q := r) hv (by omega)
  have l1 := wv_L q l
  have l2 := wv_L r m
  generalize wv q l = a at *
  generalize wv r m = b at *
  have s1 := add_D (m := a.natAbs) (n := b.natAbs) (by omega) (by omega)
  have c1 := cmp_c (D_U a.natAbs) (D_U b.natAbs) (show L a.natAbs ≤ _ by omega) (show L b.natAbs ≤ _ by omega)
  rw [W_D, W_D] at c1
  cases ha : ng a <;> cases hb : ng b <;> rw [ha] at h1 <;> rw [hb] at h2
  · have g1 := sign_c false (a.natAbs + b.natAbs)
    rw [sv_add ha hb] at g1
    rw [R_go FF F76 c76.eq_1]
    simp only [RB, un, St.none, Nat.reduceEqDiff, Nat.reduceAdd, Nat.reduceMul, Nat.reduceMod, Nat.reduceLeDiff, Nat.reduceLT, Int.reduceLT, Int.reduceLE, Int.reduceEq, Int.reduceToNat, Int.reduceSub, Int.reduceNeg, Int.reduceAdd, ↓reduceIte, reduceCtorEq, ite_self, eq_self, if_true, if_false, pack, pid, parN, List.not_mem_nil, List.mem_cons, lid, chkK, apartV, List.map_nil, List.flatMap_nil, List.append_nil, List.nil_append, List.drop_zero, List.length_set, List.length_replicate, List.length_append, List.take_length, List.take_zero, List.drop_length, Option.isNone_none, Heap.none, h1, h2, s1, g1]
  · rw [ng_false] at ha
    rw [ng_true] at hb
    by_cases hlt : a.natAbs < b.natAbs
    · have hc : cmp ((a.natAbs : Nat) : Int) ((b.natAbs : Nat) : Int) < 0 := cmp_lt_iff.2 (by omega)
      have d1 := sub_ge (D_U b.natAbs) (D_U a.natAbs) (show L b.natAbs ≤ _ by omega) (show L a.natAbs ≤ _ by omega) (by rw [W_D, W_D]; omega)
      rw [W_D, W_D] at d1
      have g1 := sign_c true (b.natAbs - a.natAbs)
      rw [show sv true (b.natAbs - a.natAbs) = a + b by unfold sv; simp; omega] at g1
      rw [R_go FF F76 c76.eq_1]
      simp only [RB, un, St.none, Nat.reduceEqDiff, Nat.reduceAdd, Nat.reduceMul, Nat.reduceMod, Nat.reduceLeDiff, Nat.reduceLT, Int.reduceLT, Int.reduceLE, Int.reduceEq, Int.reduceToNat, Int.reduceSub, Int.reduceNeg, Int.reduceAdd, ↓reduceIte, reduceCtorEq, ite_self, eq_self, if_true, if_false, pack, pid, parN, List.not_mem_nil, List.mem_cons, lid, chkK, apartV, List.map_nil, List.flatMap_nil, List.append_nil, List.nil_append, List.drop_zero, List.length_set, List.length_replicate, List.length_append, List.take_length, List.take_zero, List.drop_length, Option.isNone_none, Heap.none, h1, h2, c1, hc, d1, g1]
    · have hc : ¬ cmp ((a.natAbs : Nat) : Int) ((b.natAbs : Nat) : Int) < 0 := fun h => by have := cmp_lt_iff.1 h; omega
      have d1 := sub_ge (D_U a.natAbs) (D_U b.natAbs) (show L a.natAbs ≤ _ by omega) (show L b.natAbs ≤ _ by omega) (by rw [W_D, W_D]; omega)
      rw [W_D, W_D] at d1
      have g1 := sign_c false (a.natAbs - b.natAbs)
      rw [show sv false (a.natAbs - b.natAbs) = a + b by unfold sv; simp; omega] at g1
      rw [R_go FF F76 c76.eq_1]
      simp only [RB, un, St.none, Nat.reduceEqDiff, Nat.reduceAdd, Nat.reduceMul, Nat.reduceMod, Nat.reduceLeDiff, Nat.reduceLT, Int.reduceLT, Int.reduceLE, Int.reduceEq, Int.reduceToNat, Int.reduceSub, Int.reduceNeg, Int.reduceAdd, ↓reduceIte, reduceCtorEq, ite_self, eq_self, if_true, if_false, pack, pid, parN, List.not_mem_nil, List.mem_cons, lid, chkK, apartV, List.map_nil, List.flatMap_nil, List.append_nil, List.nil_append, List.drop_zero, List.length_set, List.length_replicate, List.length_append, List.take_length, List.take_zero, List.drop_length, Option.isNone_none, Heap.none, h1, h2, c1, hc, d1, g1]
  · rw [ng_true] at ha
    rw [ng_false] at hb
    by_cases hlt : a.natAbs < b.natAbs
    · have hc : cmp ((a.natAbs : Nat) : Int) ((b.natAbs : Nat) : Int) < 0 := cmp_lt_iff.2 (by omega)
      have d1 := sub_ge (D_U b.natAbs) (D_U a.natAbs) (show L b.natAbs ≤ _ by omega) (show L a.natAbs ≤ _ by omega) (by rw [W_D, W_D]; omega)
      rw [W_D, W_D] at d1
      have g1 := sign_c false (b.natAbs - a.natAbs)
      rw [show sv false (b.natAbs - a.natAbs) = a + b by unfold sv; simp; omega] at g1
      rw [R_go FF F76 c76.eq_1]
      simp only [RB, un, St.none, Nat.reduceEqDiff, Nat.reduceAdd, Nat.reduceMul, Nat.reduceMod, Nat.reduceLeDiff, Nat.reduceLT, Int.reduceLT, Int.reduceLE, Int.reduceEq, Int.reduceToNat, Int.reduceSub, Int.reduceNeg, Int.reduceAdd, ↓reduceIte, reduceCtorEq, ite_self, eq_self, if_true, if_false, pack, pid, parN, List.not_mem_nil, List.mem_cons, lid, chkK, apartV, List.map_nil, List.flatMap_nil, List.append_nil, List.nil_append, List.drop_zero, List.length_set, List.length_replicate, List.length_append, List.take_length, List.take_zero, List.drop_length, Option.isNone_none, Heap.none, h1, h2, c1, hc, d1, g1]
    · have hc : ¬ cmp ((a.natAbs : Nat) : Int) ((b.natAbs : Nat) : Int) < 0 := fun h => by have := cmp_lt_iff.1 h; omega
      have d1 := sub_ge (D_U a.natAbs) (D_U b.natAbs) (show L a.natAbs ≤ _ by omega) (show L b.natAbs ≤ _ by omega) (by rw [W_D, W_D]; omega)
      rw [W_D, W_D] at d1
      have g1 := sign_c true (a.natAbs - b.natAbs)
      rw [show sv true (a.natAbs - b.natAbs) = a + b by unfold sv; simp; omega] at g1
      rw [R_go FF F76 c76.eq_1]
      simp only [RB, un, St.none, Nat.reduceEqDiff, Nat.reduceAdd, Nat.reduceMul, Nat.reduceMod, Nat.reduceLeDiff, Nat.reduceLT, Int.reduceLT, Int.reduceLE, Int.reduceEq, Int.reduceToNat, Int.reduceSub, Int.reduceNeg, Int.reduceAdd, ↓reduceIte, reduceCtorEq, ite_self, eq_self, if_true, if_false, pack, pid, parN, List.not_mem_nil, List.mem_cons, lid, chkK, apartV, List.map_nil, List.flatMap_nil, List.append_nil, List.nil_append, List.drop_zero, List.length_set, List.length_replicate, List.length_append, List.take_length, List.take_zero, List.drop_length, Option.isNone_none, Heap.none, h1, h2, c1, hc, d1, g1]
  · have g1 := sign_c true (a.natAbs + b.natAbs)
    rw [sv_add ha hb] at g1
    rw [R_go FF F76 c76.eq_1]
    simp only [RB, un, St.none, Nat.reduceEqDiff, Nat.reduceAdd, Nat.reduceMul, Nat.reduceMod, Nat.reduceLeDiff, Nat.reduceLT, Int.reduceLT, Int.reduceLE, Int.reduceEq, Int.reduceToNat, Int.reduceSub, Int.reduceNeg, Int.reduceAdd, ↓reduceIte, reduceCtorEq, ite_self, eq_self, if_true, if_false, pack, pid, parN, List.not_mem_nil, List.mem_cons, lid, chkK, apartV, List.map_nil, List.flatMap_nil, List.append_nil, List.nil_append, List.drop_zero, List.length_set, List.length_replicate, List.length_append, List.take_length, List.take_zero, List.drop_length, Option.isNone_none, Heap.none, h1, h2, s1, g1]
theorem wadd_D {a b : Int} (ha : L a.natAbs ≤ 17592186044416) (hb : L b.natAbs ≤ 17592186044416) : R FF 76 [(AV.agg [AV.b (ng a), (AV.l 1 (List.map u (D (Int.natAbs a))))]), (AV.agg [AV.b (ng b), (AV.l 1 (List.map u (D (Int.natAbs b))))])] = some (AV.agg [AV.b (ng (a + b)), (AV.l 1 (List.map u (D (Int.natAbs (a + b)))))]) := by
  have := wadd_c (q := ng a) (r := ng b) (D_U a.natAbs) ha (D_U b.natAbs) hb
  rwa [wv_ci, wv_ci] at this
theorem sv_xor_mul (a b : Int) : sv (ng a != ng b) (a.natAbs * b.natAbs) = a * b := by
  rw [← Int.natAbs_mul]
  have h := sv_self (a * b)
  cases ha : ng a <;> cases hb : ng b <;> (first | rw [ng_true] at ha | rw [ng_false] at ha) <;> (first | rw [ng_true] at hb | rw [ng_false] at hb) <;> unfold sv <;> simp
  · have := Int.mul_nonneg ha hb
    omega
  · have := Int.mul_nonneg ha (show 0 ≤ -b by omega)
    rw [Int.mul_neg] at this
    omega
  · have := Int.mul_nonneg (show 0 ≤ -a by omega) hb
    rw [Int.neg_mul] at this
    omega
  · have := Int.mul_nonneg (show 0 ≤ -a by omega) (show 0 ≤ -b by omega)
    rw [Int.neg_mul_neg] at this
    omega
theorem wmul_c {q r : Bool} {l m : List Int} (hu : U l) (hl : l.length ≤ 17592186044416) (hv : U m) (hm : m.length ≤ 17592186044416) : R FF 65 [(AV.agg [AV.b q, (AV.l 1 (List.map u l))]), (AV.agg [AV.b r, (AV.l 1 (List.map u m))])] = some (AV.agg [AV.b (ng (wv q l * wv r m)), (AV.l 1 (List.map u (D (Int.natAbs (wv q l * wv r m)))))]) := by
  have h1 := wclean_c (q := q) hu (by omega)
  have h2 := wclean_c (q := r) hv (by omega)
  have l1 := wv_L q l
  have l2 := wv_L r m
  generalize wv q l = a at *
  generalize wv r m = b at *
  have s1 := mul_D (m := a.natAbs) (n := b.natAbs) (by omega)
  have g1 := sign_c (ng a != ng b) (a.natAbs * b.natAbs)
  rw [sv_xor_mul] at g1
  cases ha : ng a <;> cases hb : ng b <;> rw [ha] at h1 g1 <;> rw [hb] at h2 g1 <;> simp only [bne, boolq, Bool.not_true, Bool.not_false] at g1
  all_goals
    rw [R_go FF F65 c65.eq_1]
    simp only [RB, un, St.none, Nat.reduceEqDiff, Nat.reduceAdd, Nat.reduceMul, Nat.reduceMod, Nat.reduceLeDiff, Nat.reduceLT, Int.reduceLT, Int.reduceLE, Int.reduceEq, Int.reduceToNat, Int.reduceSub, Int.reduceNeg, Int.reduceAdd, ↓reduceIte, reduceCtorEq, ite_self, eq_self, if_true, if_false, pack, pid, parN, List.not_mem_nil, List.mem_cons, lid, chkK, apartV, List.map_nil, List.flatMap_nil, List.append_nil, List.nil_append, List.drop_zero, List.length_set, List.length_replicate, List.length_append, List.take_length, List.take_zero, List.drop_length, Option.isNone_none, Heap.none, h1, h2, s1, g1]
theorem wmul_D {a b : Int} (ha : L a.natAbs ≤ 17592186044416) (hb : L b.natAbs ≤ 17592186044416) : R FF 65 [(AV.agg [AV.b (ng a), (AV.l 1 (List.map u (D (Int.natAbs a))))]), (AV.agg [AV.b (ng b), (AV.l 1 (List.map u (D (Int.natAbs b))))])] = some (AV.agg [AV.b (ng (a * b)), (AV.l 1 (List.map u (D (Int.natAbs (a * b)))))]) := by
  have := wmul_c (q := ng a) (r := ng b) (D_U a.natAbs) ha (D_U b.natAbs) hb
  rwa [wv_ci, wv_ci] at this
theorem rmake_c (q : Bool) (k : Nat) : R FF 39 [.b q, (AV.l 1 (List.map n64 (E k)))] = some (AV.agg [AV.b (ng (sv q k)), (AV.l 1 (List.map n64 (E (Int.natAbs (sv q k)))))]) := by
  have h1 : (E k).length = LE k := rfl
  have h2 : decide (0 < (LE k : Int)) = decide (0 < k) := by
    refine decide_eq_decide.2 ?_
    have : LE k = 0 ↔ k = 0 := by
      show (E k).length = 0 ↔ _
      rw [List.length_eq_zero_iff, E_nil]
    omega
  rw [sv_abs, sv_ng]
  cases q
  · rw [R_go FF F39 c39.eq_1]
    simp only [RB, un, St.none, Nat.reduceEqDiff, Nat.reduceAdd, Nat.reduceMul, Nat.reduceMod, Nat.reduceLeDiff, Nat.reduceLT, Int.reduceLT, Int.reduceLE, Int.reduceEq, Int.reduceToNat, Int.reduceSub, Int.reduceNeg, Int.reduceAdd, ↓reduceIte, reduceCtorEq, ite_self, eq_self, if_true, if_false, pack, pid, parN, List.not_mem_nil, List.mem_cons, lid, chkK, apartV, List.map_nil, List.flatMap_nil, List.append_nil, List.nil_append, List.drop_zero, List.length_set, List.length_replicate, List.length_append, List.take_length, List.take_zero, List.drop_length, Option.isNone_none, Heap.none]
  · rw [R_go FF F39 c39.eq_1]
    simp only [RB, un, St.none, Nat.reduceEqDiff, Nat.reduceAdd, Nat.reduceMul, Nat.reduceMod, Nat.reduceLeDiff, Nat.reduceLT, Int.reduceLT, Int.reduceLE, Int.reduceEq, Int.reduceToNat, Int.reduceSub, Int.reduceNeg, Int.reduceAdd, ↓reduceIte, reduceCtorEq, ite_self, eq_self, if_true, if_false, pack, pid, parN, List.not_mem_nil, List.mem_cons, lid, chkK, apartV, List.map_nil, List.flatMap_nil, List.append_nil, List.nil_append, List.drop_zero, List.length_set, List.length_replicate, List.length_append, List.take_length, List.take_zero, List.drop_length, Option.isNone_none, Heap.none, h1, h2]
theorem rsmall_c {x : Int} (h0 : -9223372036854775808 ≤ x) (h1 : x ≤ 9223372036854775807) : R FF 258 [(AV.i .i64 x)] = some (AV.agg [AV.b (ng x), (AV.l 1 (List.map n64 (E (Int.natAbs x))))]) := by
  by_cases hx : x < 0
  · have e1 : IntKind.i64.wrap (x + 1) = x + 1 := w64 (by omega) (by omega)
    have e2 : IntKind.i64.wrap (0 - (x + 1)) = ((x.natAbs - 1 : Nat) : Int) := by rw [w64 (by omega) (by omega)]; omega
    have s1 := small_c (x := ((x.natAbs - 1 : Nat) : Int)) (n := x.natAbs - 1) rfl (by omega)
    have s2 := small_c (x := 1) (n := 1) rfl (by omega)
    have b1 := LE_u64 (n := x.natAbs - 1) (by omega)
    have b2 := LE_u64 (n := 1) (by omega)
    have s3 := plus_c (x := x.natAbs - 1) (y := 1) (by omega) (by omega)
    rw [show x.natAbs - 1 + 1 = x.natAbs by omega] at s3
    have s4 := rmake_c true x.natAbs
    rw [show sv true x.natAbs = x by unfold sv; simp; omega] at s4
    rw [R_go FF F258 c258.eq_1]
    simp only [RB, un, St.none, Nat.reduceEqDiff, Nat.reduceAdd, Nat.reduceMul, Nat.reduceMod, Nat.reduceLeDiff, Nat.reduceLT, Int.reduceLT, Int.reduceLE, Int.reduceEq, Int.reduceToNat, Int.reduceSub, Int.reduceNeg, Int.reduceAdd, ↓reduceIte, reduceCtorEq, ite_self, eq_self, if_true, if_false, pack, pid, parN, List.not_mem_nil, List.mem_cons, lid, chkK, apartV, List.map_nil, List.flatMap_nil, List.append_nil, List.nil_append, List.drop_zero, List.length_set, List.length_replicate, List.length_append, List.take_length, List.take_zero, List.drop_length, Option.isNone_none, Heap.none, hx, e1, e2, s1, s2, s3, s4]
  · have s1 := small_c (x := x) (n := x.natAbs) (by omega) (by omega)
    have s4 := rmake_c false x.natAbs
    rw [show sv false x.natAbs = x by unfold sv; simp; omega] at s4
    rw [R_go FF F258 c258.eq_1]
    simp only [RB, un, St.none, Nat.reduceEqDiff, Nat.reduceAdd, Nat.reduceMul, Nat.reduceMod, Nat.reduceLeDiff, Nat.reduceLT, Int.reduceLT, Int.reduceLE, Int.reduceEq, Int.reduceToNat, Int.reduceSub, Int.reduceNeg, Int.reduceAdd, ↓reduceIte, reduceCtorEq, ite_self, eq_self, if_true, if_false, pack, pid, parN, List.not_mem_nil, List.mem_cons, lid, chkK, apartV, List.map_nil, List.flatMap_nil, List.append_nil, List.nil_append, List.drop_zero, List.length_set, List.length_replicate, List.length_append, List.take_length, List.take_zero, List.drop_length, Option.isNone_none, Heap.none, hx, s1, s4]
theorem rfrom_c {q : Bool} {l : List Int} (hu : U l) (hl : l.length ≤ 1000000000000) : R FF 38 [(AV.agg [AV.b q, (AV.l 1 (List.map u l))])] = some (AV.agg [AV.b (ng (wv q l)), (AV.l 1 (List.map n64 (E (Int.natAbs (wv q l)))))]) := by
  have h1 := from_c hu hl
  have h2 := rmake_c q (W l)
  rw [R_go FF F38 c38.eq_1]
  simp only [RB, un, St.none, Nat.reduceEqDiff, Nat.reduceAdd, Nat.reduceMul, Nat.reduceMod, Nat.reduceLeDiff, Nat.reduceLT, Int.reduceLT, Int.reduceLE, Int.reduceEq, Int.reduceToNat, Int.reduceSub, Int.reduceNeg, Int.reduceAdd, ↓reduceIte, reduceCtorEq, ite_self, eq_self, if_true, if_false, pack, pid, parN, List.not_mem_nil, List.mem_cons, lid, chkK, apartV, List.map_nil, List.flatMap_nil, List.append_nil, List.nil_append, List.drop_zero, List.length_set, List.length_replicate, List.length_append, List.take_length, List.take_zero, List.drop_length, Option.isNone_none, Heap.none, h1, h2]
  rfl
theorem rord_c {a b : Int} (ha : LE a.natAbs ≤ 35184372088832) (hb : LE b.natAbs ≤ 35184372088832) : R FF 47 [(AV.agg [AV.b (ng a), (AV.l 1 (List.map n64 (E (Int.natAbs a))))]), (AV.agg [AV.b (ng b), (AV.l 1 (List.map n64 (E (Int.natAbs b))))])] = some (AV.i .i64 (cmp a b)) := by
  have c1 := rorder_c ha hb
  have c2 := rorder_c hb ha
  cases ha : ng a <;> cases hb : ng b <;> (first | rw [ng_true] at ha | rw [ng_false] at ha) <;> (first | rw [ng_true] at hb | rw [ng_false] at hb)
  · rw [show ((a.natAbs : Nat) : Int) = a by omega, show ((b.natAbs : Nat) : Int) = b by omega] at c1
    rw [R_go FF F47 c47.eq_1]
    simp only [RB, un, St.none, Nat.reduceEqDiff, Nat.reduceAdd, Nat.reduceMul, Nat.reduceMod, Nat.reduceLeDiff, Nat.reduceLT, Int.reduceLT, Int.reduceLE, Int.reduceEq, Int.reduceToNat, Int.reduceSub, Int.reduceNeg, Int.reduceAdd, ↓reduceIte, reduceCtorEq, ite_self, eq_self, if_true, if_false, pack, pid, parN, List.not_mem_nil, List.mem_cons, lid, chkK, apartV, List.map_nil, List.flatMap_nil, List.append_nil, List.nil_append, List.drop_zero, List.length_set, List.length_replicate, List.length_append, List.take_length, List.take_zero, List.drop_length, Option.isNone_none, Heap.none, c1]
  · rw [cmp_gt (by omega)]
    rw [R_go FF F47 c47.eq_1]
    simp only [RB, un, St.none, Nat.reduceEqDiff, Nat.reduceAdd, Nat.reduceMul, Nat.reduceMod, Nat.reduceLeDiff, Nat.reduceLT, Int.reduceLT, Int.reduceLE, Int.reduceEq, Int.reduceToNat, Int.reduceSub, Int.reduceNeg, Int.reduceAdd, ↓reduceIte, reduceCtorEq, ite_self, eq_self, if_true, if_false, pack, pid, parN, List.not_mem_nil, List.mem_cons, lid, chkK, apartV, List.map_nil, List.flatMap_nil, List.append_nil, List.nil_append, List.drop_zero, List.length_set, List.length_replicate, List.length_append, List.take_length, List.take_zero, List.drop_length, Option.isNone_none, Heap.none]
  · rw [cmp_lt (by omega)]
    rw [R_go FF F47 c47.eq_1]
    simp only [RB, un, St.none, Nat.reduceEqDiff, Nat.reduceAdd, Nat.reduceMul, Nat.reduceMod, Nat.reduceLeDiff, Nat.reduceLT, Int.reduceLT, Int.reduceLE, Int.reduceEq, Int.reduceToNat, Int.reduceSub, Int.reduceNeg, Int.reduceAdd, ↓reduceIte, reduceCtorEq, ite_self, eq_self, if_true, if_false, pack, pid, parN, List.not_mem_nil, List.mem_cons, lid, chkK, apartV, List.map_nil, List.flatMap_nil, List.append_nil, List.nil_append, List.drop_zero, List.length_set, List.length_replicate, List.length_append, List.take_length, List.take_zero, List.drop_length, Option.isNone_none, Heap.none]
  · have e : cmp ((b.natAbs : Nat) : Int) ((a.natAbs : Nat) : Int) = cmp a b := by unfold cmp; split <;> split <;> (try split) <;> (try split) <;> omega
    rw [e] at c2
    rw [R_go FF F47 c47.eq_1]
    simp only [RB, un, St.none, Nat.reduceEqDiff, Nat.reduceAdd, Nat.reduceMul, Nat.reduceMod, Nat.reduceLeDiff, Nat.reduceLT, Int.reduceLT, Int.reduceLE, Int.reduceEq, Int.reduceToNat, Int.reduceSub, Int.reduceNeg, Int.reduceAdd, ↓reduceIte, reduceCtorEq, ite_self, eq_self, if_true, if_false, pack, pid, parN, List.not_mem_nil, List.mem_cons, lid, chkK, apartV, List.map_nil, List.flatMap_nil, List.append_nil, List.nil_append, List.drop_zero, List.length_set, List.length_replicate, List.length_append, List.take_length, List.take_zero, List.drop_length, Option.isNone_none, Heap.none, c2]
theorem rtimes_c {a b : Int} (hl : LE a.natAbs + LE b.natAbs ≤ 35184372088832) : R FF 43 [(AV.agg [AV.b (ng a), (AV.l 1 (List.map n64 (E (Int.natAbs a))))]), (AV.agg [AV.b (ng b), (AV.l 1 (List.map n64 (E (Int.natAbs b))))])] = some (AV.agg [AV.b (ng (a * b)), (AV.l 1 (List.map n64 (E (Int.natAbs (a * b)))))]) := by
  have s1 := times_c hl
  have g1 := rmake_c (ng a != ng b) (a.natAbs * b.natAbs)
  rw [sv_xor_mul] at g1
  cases ha : ng a <;> cases hb : ng b <;> rw [ha, hb] at g1 <;> simp only [bne, boolq, Bool.not_true, Bool.not_false] at g1
  all_goals
    rw [R_go FF F43 c43.eq_1]
    simp only [RB, un, St.none, Nat.reduceEqDiff, Nat.reduceAdd, Nat.reduceMul, Nat.reduceMod, Nat.reduceLeDiff, Nat.reduceLT, Int.reduceLT, Int.reduceLE, Int.reduceEq, Int.reduceToNat, Int.reduceSub, Int.reduceNeg, Int.reduceAdd, ↓reduceIte, reduceCtorEq, ite_self, eq_self, if_true, if_false, pack, pid, parN, List.not_mem_nil, List.mem_cons, lid, chkK, apartV, List.map_nil, List.flatMap_nil, List.append_nil, List.nil_append, List.drop_zero, List.length_set, List.length_replicate, List.length_append, List.take_length, List.take_zero, List.drop_length, Option.isNone_none, Heap.none, s1, g1]
end Go.Pe
set_option linter.unusedSimpArgs false
set_option linter.unusedVariables false
open Go
namespace Go.Pe
theorem over_l1 {y r : Nat} (hy : 0 < y) (hy2 : LE y ≤ 1000000000000) (hr : LE r ≤ 1000000000000) (a out : List Int) (i : Nat) :
    ∀ (d lo hi : Nat), hi ≤ lo + d → lo < hi → hi ≤ 10000 → y * lo ≤ r → r < y * hi → LP FF [(6, 1), (0, 0), (1, 0), (7, 0), (8, 0), (10, 0), (11, 0)] [(6, 1), (0, 0), (1, 0), (7, 0), (8, 0), (10, 0)] b80_1 [.own true 1 (out.map n64), (AV.l 1 (List.map n64 a)), (AV.l 1 (List.map n64 (E y))), (AV.l 1 (List.map n64 (E r))), (AV.i .i64 ((i : Int))), (AV.i .i64 ((lo : Int))), (AV.i .i64 ((hi : Int)))] = some (.exit 2, [.own true 1 (out.map n64), (AV.l 1 (List.map n64 a)), (AV.l 1 (List.map n64 (E y))), (AV.l 1 (List.map n64 (E r))), (AV.i .i64 ((i : Int))), (AV.i .i64 (((r / y : Nat) : Int)))]) := by
  intro d
  induction d with
  | zero => intro lo hi h1 h2; omega
  | succ d ih =>
    intro lo hi h1 h2 h3 h4 h5
    have e0 : IntKind.i64.wrap ((hi : Int) - (lo : Int)) = ((hi - lo : Nat) : Int) := by rw [w64 (by omega) (by omega)]; omega
    by_cases hc : lo + 1 < hi
    · have c1 : 1 < ((hi - lo : Nat) : Int) := by omega
      have e1 : IntKind.i64.wrap ((lo : Int) + (hi : Int)) = ((lo + hi : Nat) : Int) := w64add (by omega)
      have e2 : IntKind.i64.wrap (Int.tdiv ((lo + hi : Nat) : Int) 2) = (((lo + hi) / 2 : Nat) : Int) := by rw [tdiv_pos (by omega), w64 (by omega) (by omega)]; omega
      have hm : (lo + hi) / 2 < hi := by omega
      have hm2 : lo < (lo + hi) / 2 := by omega
      generalize (lo + hi) / 2 = m at *
      have hl := LE_u64 (n := m) (by omega)
      have hl2 := LE_mul y m
      have s1 := small_c (x := (m : Int)) (n := m) rfl (by omega)
      have s2 := times_c (x := y) (y := m) (by omega)
      have s3 := rorder_c (m := y * m) (n := r) (by omega) (by omega)
      have hcm := cmp_le_iff (a := ((y * m : Nat) : Int)) (b := r)
      by_cases hle : y * m ≤ r
      · have h9 := ih m hi (by omega) hm h3 hle h5
        have c2 : cmp ((y * m : Nat) : Int) (r : Int) ≤ 0 := hcm.2 (by omega)
        rw [LP_go FF b80_1.eq_1]
        simp only [RB, un, St.none, Nat.reduceEqDiff, Nat.reduceAdd, Nat.reduceMul, Nat.reduceMod, Nat.reduceLeDiff, Nat.reduceLT, Int.reduceLT, Int.reduceLE, Int.reduceEq, Int.reduceToNat, Int.reduceSub, Int.reduceNeg, Int.reduceAdd, ↓reduceIte, reduceCtorEq, ite_self, eq_self, if_true, if_false, pack, pid, parN, List.not_mem_nil, List.mem_cons, lid, chkK, apartV, List.map_nil, List.flatMap_nil, List.append_nil, List.nil_append, List.drop_zero, List.length_set, List.length_replicate, List.length_append, List.take_length, List.take_zero, List.drop_length, Option.isNone_none, Heap.none, e0, c1, e1, e2, s1, s2, s3, c2]
        exact h9
      · have h9 := ih lo m (by omega) hm2 (by omega) h4 (by omega)
        have c2 : ¬ cmp ((y * m : Nat) : Int) (r : Int) ≤ 0 := fun h => hle (by have := hcm.1 h; omega)
        rw [LP_go FF b80_1.eq_1]
        simp only [RB, un, St.none, Nat.reduceEqDiff, Nat.reduceAdd, Nat.reduceMul, Nat.reduceMod, Nat.reduceLeDiff, Nat.reduceLT, Int.reduceLT, Int.reduceLE, Int.reduceEq, Int.reduceToNat, Int.reduceSub, Int.reduceNeg, Int.reduceAdd, ↓reduceIte, reduceCtorEq, ite_self, eq_self, if_true, if_false, pack, pid, parN, List.not_mem_nil, List.mem_cons, lid, chkK, apartV, List.map_nil, List.flatMap_nil, List.append_nil, List.nil_append, List.drop_zero, List.length_set, List.length_replicate, List.length_append, List.take_length, List.take_zero, List.drop_length, Option.isNone_none, Heap.none, e0, c1, e1, e2, s1, s2, s3, c2]
        exact h9
    · have hh : hi = lo + 1 := by omega
      subst hh
      have hq : r / y = lo := Nat.div_eq_of_lt_le (by rw [Nat.mul_comm]; exact h4) (by rw [Nat.mul_comm]; exact h5)
      have c1 : ¬ 1 < ((lo + 1 - lo : Nat) : Int) := by omega
      rw [hq]
      rw [LP_go FF b80_1.eq_1]
      simp only [RB, un, St.none, Nat.reduceEqDiff, Nat.reduceAdd, Nat.reduceMul, Nat.reduceMod, Nat.reduceLeDiff, Nat.reduceLT, Int.reduceLT, Int.reduceLE, Int.reduceEq, Int.reduceToNat, Int.reduceSub, Int.reduceNeg, Int.reduceAdd, ↓reduceIte, reduceCtorEq, ite_self, eq_self, if_true, if_false, pack, pid, parN, List.not_mem_nil, List.mem_cons, lid, chkK, apartV, List.map_nil, List.flatMap_nil, List.append_nil, List.nil_append, List.drop_zero, List.length_set, List.length_replicate, List.length_append, List.take_length, List.take_zero, List.drop_length, Option.isNone_none, Heap.none, e0, c1]
theorem vl_drop_E (m w : Nat) : Dg.vl 10000 ((E m).drop w) = ((m / 10000 ^ w : Nat) : Int) := by
  have h := Dg.vl_take_drop 10000 (E m) w
  rw [E_vl] at h
  have h0 := Dg.vl_nonneg ((E_dig m).take w) (by decide)
  have h1 := Dg.vl_lt ((E_dig m).take w) (by decide)
  have h2 := Dg.vl_nonneg ((E_dig m).drop w) (by decide)
  have h3 : 10000 ^ ((E m).take w).length ≤ 10000 ^ w := Nat.pow_le_pow_right (by decide) (by rw [List.length_take]; omega)
  obtain ⟨x, hx⟩ := Int.eq_ofNat_of_zero_le h0
  obtain ⟨y, hy⟩ := Int.eq_ofNat_of_zero_le h2
  rw [hx, hy] at h
  rw [hx] at h1
  have e : ∀ k : Nat, (10000 : Int) ^ k = ((10000 ^ k : Nat) : Int) := fun k => by rw [Int.natCast_pow]; rfl
  rw [e, ← Int.natCast_mul, ← Int.natCast_add] at h
  rw [e] at h1
  have h4 : m = x + 10000 ^ w * y := Int.ofNat_inj.1 h
  have h5 : x < 10000 ^ w := Nat.lt_of_lt_of_le (Int.ofNat_lt.1 h1) h3
  rw [hy, h4, Nat.add_mul_div_left _ _ (Nat.pow_pos (by decide)), Nat.div_eq_of_lt h5, Nat.zero_add]
theorem over_l0 {x y : Nat} (hy : 0 < y) (hx : LE x ≤ 1000000000 ) (hy2 : LE y ≤ 1000000000) :
    ∀ (n : Nat) (out : List Int), n ≤ LE x → out.length = LE x → Dg.Dig 10000 out → Dg.vl 10000 (out.drop n) = ((x / 10000 ^ n / y : Nat) : Int) →
    ∃ o, LP FF [(6, 1), (0, 0), (1, 0), (7, 0), (8, 0)] [(6, 0), (7, 0)] b80_0 [.own true 1 (out.map n64), (AV.l 1 (List.map n64 (E x))), (AV.l 1 (List.map n64 (E y))), (AV.l 1 (List.map n64 (E (x / 10000 ^ n % y)))), (AV.i .i64 ((n : Int) - 1))] = some (.exit 0, [(AV.l 1 (List.map n64 o)), (AV.l 1 (List.map n64 (E (x % y))))]) ∧ o.length = LE x ∧ Dg.Dig 10000 o ∧ Dg.vl 10000 o = ((x / y : Nat) : Int) := by
  intro n
  have hEx : (E x).length = LE x := rfl
  induction n with
  | zero =>
    intro out hn ho hd hv
    rw [Nat.pow_zero, Nat.div_one] at hv ⊢
    refine ⟨out, ?_, ho, hd, by rw [List.drop_zero] at hv; exact hv⟩
    rw [LP_go FF b80_0.eq_1]
    simp only [RB, un, St.none, Nat.reduceEqDiff, Nat.reduceAdd, Nat.reduceMul, Nat.reduceMod, Nat.reduceLeDiff, Nat.reduceLT, Int.reduceLT, Int.reduceLE, Int.reduceEq, Int.reduceToNat, Int.reduceSub, Int.reduceNeg, Int.reduceAdd, ↓reduceIte, reduceCtorEq, ite_self, eq_self, if_true, if_false, pack, pid, parN, List.not_mem_nil, List.mem_cons, lid, chkK, apartV, List.map_nil, List.flatMap_nil, List.append_nil, List.nil_append, List.drop_zero, List.length_set, List.length_replicate, List.length_append, List.take_length, List.take_zero, List.drop_length, Option.isNone_none, Heap.none]
  | succ n ih =>
    intro out hn ho hd hv
    have hg := E_get x n
    have hsp := Dg.vl_drop_succ 10000 (E x) n
    rw [vl_drop_E, vl_drop_E] at hsp
    have hpp : x / 10000 ^ (n + 1) = x / 10000 ^ n / 10000 := by rw [Nat.pow_succ, Nat.div_div_eq_div_mul]
    have e0 : ((n + 1 : Nat) : Int) - 1 = (n : Int) := by omega
    rw [hpp] at hv hsp ⊢
    have hdm := Nat.div_add_mod (x / 10000 ^ n / 10000) y
    have hrl := Nat.mod_lt (x / 10000 ^ n / 10000) hy
    have hLr : LE (x / 10000 ^ n / 10000 % y) ≤ LE y := LE_mono (by omega)
    have hELr : (E (x / 10000 ^ n / 10000 % y)).length = LE (x / 10000 ^ n / 10000 % y) := rfl
    have h10 : x / 10000 ^ n % 10000 = ((E x).getD n 0).toNat := by omega
    have hdm2 := Nat.div_add_mod (x / 10000 ^ n) 10000
    generalize hz : x / 10000 ^ n = z at *
    generalize hr : z / 10000 % y = r at *
    generalize hq : z / 10000 / y = q at *
    have hval : Dg.vl 10000 ((E x).getD n 0 :: E r) = ((z % 10000 + 10000 * r : Nat) : Int) := by
      rw [Dg.vl_cons, E_vl]
      omega
    have t1 := rtrim_c (Dg.Dig.cons hg.1 hg.2 (E_dig r)) (by rw [List.length_cons]; omega) hval
    -- z = y * (10000 q) + (z % 10000 + 10000 r)
    have hzz : z = z % 10000 + 10000 * r + y * (10000 * q) := by
      have : y * (10000 * q) = 10000 * (y * q) := by rw [Nat.mul_left_comm]
      omega
    have hmod : (z % 10000 + 10000 * r) % y = z % y := by
      conv => rhs; rw [hzz]
      rw [Nat.add_mul_mod_self_left]
    have hdiv : z / y = (z % 10000 + 10000 * r) / y + 10000 * q := by
      conv => lhs; rw [hzz]
      rw [Nat.add_mul_div_left _ _ hy]
    have hlt : z % 10000 + 10000 * r < y * 10000 := by omega
    have hqd : (z % 10000 + 10000 * r) / y < 10000 := (Nat.div_lt_iff_lt_mul hy).2 (by rw [Nat.mul_comm 10000 y]; exact hlt)
    have hLw : LE (z % 10000 + 10000 * r) ≤ LE (y * 10000) := LE_mono (by omega)
    have hLw2 := LE_mul y 10000
    have hLw3 := LE_u64 (n := 10000) (by omega)
    have h1 := over_l1 hy (by omega) (by omega) (r := z % 10000 + 10000 * r) (E x) out n 10000 0 10000 (by omega) (by omega) (by omega) (by omega) hlt
    have h9 := ih (out.set n (((z % 10000 + 10000 * r) / y : Nat) : Int)) (by omega) (by rw [List.length_set]; exact ho) (hd.set _ (Int.natCast_nonneg _) (Int.ofNat_lt.2 hqd)) (by
      rw [Dg.vl_drop_succ, Dg.vl_drop_set _ _ _ _ _ (Nat.lt_succ_self _), hv, Dg.getD_set _ _ _ _ (by omega), if_pos rfl, hdiv]
      omega)
    obtain ⟨o, h10', h11⟩ := h9
    refine ⟨o, ?_, h11⟩
    have hqy := Nat.div_add_mod (z % 10000 + 10000 * r) y
    have hqle : y * ((z % 10000 + 10000 * r) / y) ≤ z % 10000 + 10000 * r := Nat.mul_div_le _ _
    have hsub : z % 10000 + 10000 * r - y * ((z % 10000 + 10000 * r) / y) = z % y := by rw [← hmod]; omega
    have hLv := LE_mono hqle
    have hl := LE_u64 (n := (z % 10000 + 10000 * r) / y) (by omega)
    have hLe : LE (z % 10000 + 10000 * r) ≤ 2000000000 := by omega
    generalize hv' : (z % 10000 + 10000 * r) / y = v at *
    have s1 := small_c (x := (v : Int)) (n := v) rfl (by omega)
    have s2 := times_c (x := y) (y := v) (by omega)
    have s3 := minus_c (x := z % 10000 + 10000 * r) (y := y * v) hqle (by omega)
    rw [hsub] at s3
    have e3 : IntKind.i64.wrap ((n : Int) - 1) = (n : Int) - 1 := w64 (by omega) (by omega)
    have b1 : (1 + LE r) * 8 ≤ 140737488355328 := by omega
    have b2 : n < LE x := by omega
    rw [Int.ofNat_zero] at h1
    have b0 : ((10000 : Nat) : Int) = 10000 := rfl
    rw [b0] at h1
    clear hsp hval hzz hmod hdiv hlt hqd hLw hLw2 hLw3 hdm hdm2 hrl h10 hLr hpp hv hqy hqle hsub hLv hg
    have m1 : List.take (1 + LE r) ([n64 ((E x).getD n 0)] ++ List.map n64 (E r)) = List.map n64 ((E x).getD n 0 :: E r) := by
      rw [List.take_of_length_le (by simp only [List.length_append, List.length_map, List.length_singleton, hELr]; omega)]; rfl
    have b3 : (n : Int) < (LE x : Int) := by omega
    have m2 : List.take (LE x) (out.set n (v : Int)) = out.set n (v : Int) := List.take_of_length_le (by rw [List.length_set]; omega)
    have m3 : List.take (LE x) out = out := List.take_of_length_le (by omega)
    simp only [List.map_cons] at t1
    rw [LP_go FF b80_0.eq_1]
    simp only [RB, un, St.none, Nat.reduceEqDiff, Nat.reduceAdd, Nat.reduceMul, Nat.reduceMod, Nat.reduceLeDiff, Nat.reduceLT, Int.reduceLT, Int.reduceLE, Int.reduceEq, Int.reduceToNat, Int.reduceSub, Int.reduceNeg, Int.reduceAdd, ↓reduceIte, reduceCtorEq, ite_self, eq_self, if_true, if_false, pack, pid, parN, List.not_mem_nil, List.mem_cons, lid, chkK, apartV, List.map_nil, List.flatMap_nil, List.append_nil, List.nil_append, List.drop_zero, List.length_set, List.length_replicate, List.length_append, List.take_length, List.take_zero, List.drop_length, Option.isNone_none, Heap.none, e0, hEx, ho, hELr, b1, m1, t1, h1, s1, s2, s3, e3, b2, b3, Int.natCast_nonneg, List.length_map, m2, m3]
    exact h10'
theorem over_c {x y : Nat} (hy : y ≠ 0) (hx : LE x ≤ 1000000000) (hy2 : LE y ≤ 1000000000) : R FF 80 [(AV.l 1 (List.map n64 (E x))), (AV.l 1 (List.map n64 (E y)))] = some (.tup [(AV.l 1 (List.map n64 (E (x / y)))), (AV.l 1 (List.map n64 (E (x % y))))]) := by
  have hEx : (E x).length = LE x := rfl
  have h0 : x / 10000 ^ LE x = 0 := Nat.div_eq_of_lt (LE_lt x)
  obtain ⟨o, h1, h2, h3, h4⟩ := over_l0 (x := x) (y := y) (by omega) hx hy2 (LE x) (List.replicate (LE x) 0) (Nat.le_refl _) List.length_replicate (Dg.Dig.replicate (by decide) _) (by
    rw [List.drop_of_length_le (by rw [List.length_replicate]; exact Nat.le_refl _), h0, Nat.zero_div]; rfl)
  rw [h0, Nat.zero_mod, E_zero] at h1
  have t1 := rtrim_c h3 (by omega) h4
  have e1 : IntKind.i64.wrap ((LE x : Int) - 1) = (LE x : Int) - 1 := w64 (by omega) (by omega)
  have b1 : LE x * 8 ≤ 281474976710656 := by omega
  simp only [List.map_nil] at h1
  have m1 : List.take (LE x) (List.replicate (LE x) (0 : Int)) = List.replicate (LE x) 0 := List.take_of_length_le (by rw [List.length_replicate]; omega)
  rw [R_go FF F80 c80.eq_1]
  simp only [RB, un, St.none, Nat.reduceEqDiff, Nat.reduceAdd, Nat.reduceMul, Nat.reduceMod, Nat.reduceLeDiff, Nat.reduceLT, Int.reduceLT, Int.reduceLE, Int.reduceEq, Int.reduceToNat, Int.reduceSub, Int.reduceNeg, Int.reduceAdd, ↓reduceIte, reduceCtorEq, ite_self, eq_self, if_true, if_false, pack, pid, parN, List.not_mem_nil, List.mem_cons, lid, chkK, apartV, List.map_nil, List.flatMap_nil, List.append_nil, List.nil_append, List.drop_zero, List.length_set, List.length_replicate, List.length_append, List.take_length, List.take_zero, List.drop_length, Option.isNone_none, Heap.none, hEx, e1, b1, Int.natCast_nonneg, m1, h1, t1]
end Go.Pe
set_option linter.unusedVariables false
namespace Go.Pe
abbrev maxL : Nat := 9223372036854775807
theorem row_rules {α : Type} (f : α → List AV) (d : α) (z : Nat) (hz : ∀ x, (f x).length = z) (ht : ∀ h x, (f x).map (tellC h) = f x) :
    (∀ (l : List α) j, idxV z (.l z (l.map f)) j = if 0 ≤ j ∧ j < (l.length : Int) then some (.tp (f (l.getD j.toNat d)) 0) else none) ∧
    (∀ ap e (l : List α), Row.at e (.sl ap z (l.map f)) = if e < l.length then some (f (l.getD e d)) else none) ∧ (∀ e (l : List α), Row.at e (.fsl z (l.map f)) = if e < l.length then some (f (l.getD e d)) else none) ∧
    (∀ (l : List α) e x, putC z (l.map f) e 0 (f x) = (l.set e x).map f) ∧ (∀ (l : List α) x, l.map f ++ [f x] = (l ++ [x]).map f) := by
  refine ⟨fun l j => idxV_map f d z l j, fun ap e l => at_map f d ap z e l, fun e l => at_map f d true z e l, fun l e x => putC_map f z l e x (hz x), fun l x => by rw [List.map_append]; rfl⟩
end Go.Pe
set_option linter.unusedSimpArgs false
set_option linter.unusedVariables false
open Go
namespace Go.Pe
theorem take_U {l : List Int} (h : U l) (n : Nat) : U (l.take n) := fun x hx => h x (List.mem_of_mem_take hx)
end Go.Pe
set_option linter.unusedSimpArgs false
set_option linter.unusedVariables false
open Go
namespace Go.Pe
theorem getD_mem' {α : Type} {l : List α} {k : Nat} (d : α) (h : k < l.length) : l.getD k d ∈ l := by
  rw [List.getD_eq_getElem?_getD, List.getElem?_eq_getElem h]
  exact List.getElem_mem _
end Go.Pe
set_option linter.unusedSimpArgs false
set_option linter.unusedVariables false
open Go
namespace Go.Pe
theorem rgcd_l0 : ∀ (N a b : Nat), b ≤ N → LE a ≤ 1000000000 → LE b ≤ 1000000000 → LP FF [(0, 0), (1, 0)] [(0, 0)] b40_0 [(AV.l 1 (List.map n64 (E a))), (AV.l 1 (List.map n64 (E b)))] = some (.exit 0, [(AV.l 1 (List.map n64 (E (Nat.gcd a b))))]) := by
  intro N
  induction N with
  | zero =>
    intro a b hb _ _
    have : b = 0 := by omega
    subst this
    rw [Nat.gcd_zero_right, E_zero]
    rw [LP_go FF b40_0.eq_1]
    simp only [RB, un, St.none, Nat.reduceEqDiff, Nat.reduceAdd, Nat.reduceMul, Nat.reduceMod, Nat.reduceLeDiff, Nat.reduceLT, Int.reduceLT, Int.reduceLE, Int.reduceEq, Int.reduceToNat, Int.reduceSub, Int.reduceNeg, Int.reduceAdd, ↓reduceIte, reduceCtorEq, ite_self, eq_self, if_true, if_false, pack, pid, parN, List.not_mem_nil, List.mem_cons, lid, chkK, apartV, List.map_nil, List.flatMap_nil, List.append_nil, List.nil_append, List.drop_zero, List.length_set, List.length_replicate, List.length_append, List.take_length, List.take_zero, List.drop_length, Option.isNone_none, Heap.none]
  | succ N ih =>
    intro a b hb ha hb2
    by_cases h0 : b = 0
    · subst h0
      rw [Nat.gcd_zero_right, E_zero]
      rw [LP_go FF b40_0.eq_1]
      simp only [RB, un, St.none, Nat.reduceEqDiff, Nat.reduceAdd, Nat.reduceMul, Nat.reduceMod, Nat.reduceLeDiff, Nat.reduceLT, Int.reduceLT, Int.reduceLE, Int.reduceEq, Int.reduceToNat, Int.reduceSub, Int.reduceNeg, Int.reduceAdd, ↓reduceIte, reduceCtorEq, ite_self, eq_self, if_true, if_false, pack, pid, parN, List.not_mem_nil, List.mem_cons, lid, chkK, apartV, List.map_nil, List.flatMap_nil, List.append_nil, List.nil_append, List.drop_zero, List.length_set, List.length_replicate, List.length_append, List.take_length, List.take_zero, List.drop_length, Option.isNone_none, Heap.none]
    · have o1 := over_c (x := a) h0 ha hb2
      have hlt := Nat.mod_lt a (Nat.pos_of_ne_zero h0)
      have h9 := ih b (a % b) (by omega) hb2 (Nat.le_trans (LE_mono (Nat.le_of_lt hlt)) hb2)
      rw [Nat.gcd_comm b, ← Nat.gcd_rec, Nat.gcd_comm b] at h9
      have c1 : 0 < (((E b).length : Nat) : Int) := by
        rcases Nat.eq_zero_or_pos (E b).length with h | h
        · have h2 := List.eq_nil_of_length_eq_zero h
          have h3 := E_vl b
          rw [h2] at h3
          have : Dg.vl 10000 [] = 0 := rfl
          omega
        · omega
      rw [LP_go FF b40_0.eq_1]
      simp only [RB, un, St.none, Nat.reduceEqDiff, Nat.reduceAdd, Nat.reduceMul, Nat.reduceMod, Nat.reduceLeDiff, Nat.reduceLT, Int.reduceLT, Int.reduceLE, Int.reduceEq, Int.reduceToNat, Int.reduceSub, Int.reduceNeg, Int.reduceAdd, ↓reduceIte, reduceCtorEq, ite_self, eq_self, if_true, if_false, pack, pid, parN, List.not_mem_nil, List.mem_cons, lid, chkK, apartV, List.map_nil, List.flatMap_nil, List.append_nil, List.nil_append, List.drop_zero, List.length_set, List.length_replicate, List.length_append, List.take_length, List.take_zero, List.drop_length, Option.isNone_none, Heap.none, c1, o1]
      exact h9
theorem rgcd_c {a b : Nat} (ha : LE a ≤ 1000000000) (hb : LE b ≤ 1000000000) : R FF 40 [(AV.l 1 (List.map n64 (E a))), (AV.l 1 (List.map n64 (E b)))] = some (AV.l 1 (List.map n64 (E (Nat.gcd a b)))) := by
  have h1 := rgcd_l0 b a b (Nat.le_refl _) ha hb
  rw [R_go FF F40 c40.eq_1]
  simp only [RB, un, St.none, Nat.reduceEqDiff, Nat.reduceAdd, Nat.reduceMul, Nat.reduceMod, Nat.reduceLeDiff, Nat.reduceLT, Int.reduceLT, Int.reduceLE, Int.reduceEq, Int.reduceToNat, Int.reduceSub, Int.reduceNeg, Int.reduceAdd, ↓reduceIte, reduceCtorEq, ite_self, eq_self, if_true, if_false, pack, pid, parN, List.not_mem_nil, List.mem_cons, lid, chkK, apartV, List.map_nil, List.flatMap_nil, List.append_nil, List.nil_append, List.drop_zero, List.length_set, List.length_replicate, List.length_append, List.take_length, List.take_zero, List.drop_length, Option.isNone_none, Heap.none, h1]
end Go.Pe
set_option linter.unusedSimpArgs false
set_option linter.unusedVariables false
open Go
namespace Go.Pe
def qv (q : Bool) (l d : List Int) : Rat := mkRat (wv q l) (W d)
theorem mk_num {n : Int} {d : Nat} (hd : d ≠ 0) : (mkRat n d).num.natAbs = n.natAbs / Nat.gcd n.natAbs d ∧ ng (mkRat n d).num = ng n ∧ (mkRat n d).den = d / Nat.gcd n.natAbs d := by
  rw [Rat.num_mkRat, Rat.den_mkRat, if_neg hd, if_neg hd, Nat.gcd_comm d]
  have hg : 0 < Nat.gcd n.natAbs d := Nat.gcd_pos_of_pos_right _ (Nat.pos_of_ne_zero hd)
  obtain ⟨m, hm⟩ := Int.ofNat_dvd_left.2 (Nat.gcd_dvd_left n.natAbs d)
  generalize Nat.gcd n.natAbs d = g at *
  subst hm
  have g0 : (g : Int) ≠ 0 := by omega
  rw [Int.mul_ediv_cancel_left _ g0, Int.natAbs_mul, Int.natAbs_natCast, Nat.mul_div_cancel_left _ hg]
  refine ⟨rfl, ?_, rfl⟩
  unfold ng
  rw [decide_eq_decide]
  constructor
  · intro h; exact Int.mul_neg_of_pos_of_neg (by omega) h
  · intro h
    rcases Int.lt_or_le m 0 with k | k
    · exact k
    · have := Int.mul_nonneg (show (0 : Int) ≤ g by omega) k; omega
theorem form_c {n : Int} {d : Nat} (hd : d ≠ 0) (hn : L n.natAbs ≤ 100000000000) (hl : L d ≤ 100000000000) : R FF 75 [(AV.agg [AV.b (ng n), (AV.l 1 (List.map u (D (Int.natAbs n))))]), (AV.l 1 (List.map u (D d)))] = some (AV.agg [AV.b (ng (Rat.num (mkRat n d))), (AV.l 1 (List.map u (D (Int.natAbs (Rat.num (mkRat n d)))))), (AV.l 1 (List.map u (D (Rat.den (mkRat n d)))))]) := by
  obtain ⟨k1, k2, k3⟩ := mk_num (n := n) hd
  rw [k1, k2, k3]
  have o1 := of_c (x := 1) (by omega) (by omega) (n := 1) rfl
  by_cases h0 : n = 0
  · subst h0
    rw [ng_false.2 (Int.le_refl _), Int.natAbs_zero, Nat.zero_div, Nat.gcd_zero_left, Nat.div_self (Nat.pos_of_ne_zero hd), D_zero]
    rw [R_go FF F75 c75.eq_1]
    simp only [RB, un, St.none, Nat.reduceEqDiff, Nat.reduceAdd, Nat.reduceMul, Nat.reduceMod, Nat.reduceLeDiff, Nat.reduceLT, Int.reduceLT, Int.reduceLE, Int.reduceEq, Int.reduceToNat, Int.reduceSub, Int.reduceNeg, Int.reduceAdd, ↓reduceIte, reduceCtorEq, ite_self, eq_self, if_true, if_false, pack, pid, parN, List.not_mem_nil, List.mem_cons, lid, chkK, apartV, List.map_nil, List.flatMap_nil, List.append_nil, List.nil_append, List.drop_zero, List.length_set, List.length_replicate, List.length_append, List.take_length, List.take_zero, List.drop_length, Option.isNone_none, Heap.none, o1]
  · have g1 := gcd_D (a := n.natAbs) (b := d) (by omega) (by omega)
    have hg : 0 < Nat.gcd n.natAbs d := Nat.gcd_pos_of_pos_right _ (Nat.pos_of_ne_zero hd)
    have c1 : ¬ (((D n.natAbs).length : Nat) : Int) = 0 := by have := (L_pos (k := n.natAbs)).2 (by omega); show ¬ (L n.natAbs : Int) = 0; omega
    have hgl : L (Nat.gcd n.natAbs d) ≤ 100000000000 := Nat.le_trans (L_mono (Nat.gcd_le_right _ (Nat.pos_of_ne_zero hd))) hl
    have d1 := divmod_c (D_U n.natAbs) (D_U (Nat.gcd n.natAbs d)) (show L _ ≤ _ by omega) (show L _ ≤ _ by omega)
    have d2 := divmod_c (D_U d) (D_U (Nat.gcd n.natAbs d)) (show L _ ≤ _ by omega) (show L _ ≤ _ by omega)
    rw [W_D, W_D, if_neg (by omega)] at d1 d2
    generalize Nat.gcd n.natAbs d = g at *
    by_cases h1 : g = 1
    · subst h1
      have e1 : D 1 = [1] := by decide +kernel
      rw [Nat.div_one, Nat.div_one]
      rw [e1] at g1
      rw [R_go FF F75 c75.eq_1]
      simp only [RB, un, St.none, Nat.reduceEqDiff, Nat.reduceAdd, Nat.reduceMul, Nat.reduceMod, Nat.reduceLeDiff, Nat.reduceLT, Int.reduceLT, Int.reduceLE, Int.reduceEq, Int.reduceToNat, Int.reduceSub, Int.reduceNeg, Int.reduceAdd, ↓reduceIte, reduceCtorEq, ite_self, eq_self, if_true, if_false, pack, pid, parN, List.not_mem_nil, List.mem_cons, lid, chkK, apartV, List.map_nil, List.flatMap_nil, List.append_nil, List.nil_append, List.drop_zero, List.length_set, List.length_replicate, List.length_append, List.take_length, List.take_zero, List.drop_length, Option.isNone_none, Heap.none, c1, g1]
    · by_cases h2 : ((L g : Nat) : Int) = 1
      · obtain ⟨x, hx⟩ := List.length_eq_one_iff.1 (show (D g).length = 1 from by have : (D g).length = L g := rfl; omega)
        have e1 : x = (g : Int) := by
          have h3 := D_vl g
          rw [hx] at h3
          simpa [Dg.vl] using h3
        have c2 : ¬ x = 1 := by omega
        rw [hx] at g1 d1 d2
        simp only [List.map_cons, List.map_nil] at g1 d1 d2
        rw [R_go FF F75 c75.eq_1]
        simp only [RB, un, St.none, Nat.reduceEqDiff, Nat.reduceAdd, Nat.reduceMul, Nat.reduceMod, Nat.reduceLeDiff, Nat.reduceLT, Int.reduceLT, Int.reduceLE, Int.reduceEq, Int.reduceToNat, Int.reduceSub, Int.reduceNeg, Int.reduceAdd, ↓reduceIte, reduceCtorEq, ite_self, eq_self, if_true, if_false, pack, pid, parN, List.not_mem_nil, List.mem_cons, lid, chkK, apartV, List.map_nil, List.flatMap_nil, List.append_nil, List.nil_append, List.drop_zero, List.length_set, List.length_replicate, List.length_append, List.take_length, List.take_zero, List.drop_length, Option.isNone_none, Heap.none, c1, g1, c2, d1, d2]
      · have c2 : ¬ (((D g).length : Nat) : Int) = 1 := h2
        rw [R_go FF F75 c75.eq_1]
        simp only [RB, un, St.none, Nat.reduceEqDiff, Nat.reduceAdd, Nat.reduceMul, Nat.reduceMod, Nat.reduceLeDiff, Nat.reduceLT, Int.reduceLT, Int.reduceLE, Int.reduceEq, Int.reduceToNat, Int.reduceSub, Int.reduceNeg, Int.reduceAdd, ↓reduceIte, reduceCtorEq, ite_self, eq_self, if_true, if_false, pack, pid, parN, List.not_mem_nil, List.mem_cons, lid, chkK, apartV, List.map_nil, List.flatMap_nil, List.append_nil, List.nil_append, List.drop_zero, List.length_set, List.length_replicate, List.length_append, List.take_length, List.take_zero, List.drop_length, Option.isNone_none, Heap.none, c1, g1, c2, d1, d2]
def sq (x : Rat) : Nat := max (L x.num.natAbs) (L x.den)
theorem sq_num (x : Rat) : L x.num.natAbs ≤ sq x := Nat.le_max_left _ _
theorem sq_den (x : Rat) : L x.den ≤ sq x := Nat.le_max_right _ _
theorem sq_mk {n : Int} {d : Nat} (hd : d ≠ 0) : sq (mkRat n d) ≤ max (L n.natAbs) (L d) := by
  obtain ⟨k1, _, k3⟩ := mk_num (n := n) hd
  unfold sq
  rw [k1, k3]
  have h1 := L_mono (Nat.div_le_self n.natAbs (Nat.gcd n.natAbs d))
  have h2 := L_mono (Nat.div_le_self d (Nat.gcd n.natAbs d))
  omega
theorem qv_cq (x : Rat) : qv (ng x.num) (D x.num.natAbs) (D x.den) = x := by unfold qv; rw [wv_ci, W_D, Rat.mkRat_self]
theorem qv_sq {q : Bool} {l d : List Int} {k : Nat} (h1 : l.length ≤ k) (h2 : d.length ≤ k) (hk : 1 ≤ k) : sq (qv q l d) ≤ k := by
  unfold qv
  by_cases h0 : W d = 0
  · rw [h0, Rat.mkRat_zero]
    have a1 : L (0 : Rat).num.natAbs ≤ 0 := L_le (n := 0) (k := 0) (by decide)
    have a2 : L (0 : Rat).den ≤ 1 := L_le (n := 1) (k := 1) (by decide)
    unfold sq
    omega
  · have := sq_mk (n := wv q l) h0
    have := wv_L q l
    have := L_W d
    omega
theorem sq_add (x y : Rat) : sq (x + y) ≤ sq x + sq y + 1 := by
  rw [Rat.add_def']
  have h := sq_mk (n := x.num * y.den + y.num * x.den) (d := x.den * y.den) (Nat.mul_ne_zero x.den_nz y.den_nz)
  have a1 := L_mul x.den y.den
  have a2 := L_mono (Int.natAbs_add_le (x.num * y.den) (y.num * x.den))
  have a3 := L_add (x.num * y.den).natAbs (y.num * x.den).natAbs
  rw [Int.natAbs_mul, Int.natAbs_mul, Int.natAbs_natCast, Int.natAbs_natCast] at a2 a3
  have a4 := L_mul x.num.natAbs y.den
  have a5 := L_mul y.num.natAbs x.den
  have := sq_num x
  have := sq_num y
  have := sq_den x
  have := sq_den y
  omega
theorem sq_mul (x y : Rat) : sq (x * y) ≤ sq x + sq y := by
  rw [Rat.mul_def']
  have h := sq_mk (n := x.num * y.num) (d := x.den * y.den) (Nat.mul_ne_zero x.den_nz y.den_nz)
  have a1 := L_mul x.den y.den
  have a4 := L_mul x.num.natAbs y.num.natAbs
  rw [Int.natAbs_mul] at h
  have := sq_num x
  have := sq_num y
  have := sq_den x
  have := sq_den y
  omega
theorem sq_neg (x : Rat) : sq (-x) = sq x := by unfold sq; rw [Rat.neg_num, Rat.neg_den, Int.natAbs_neg]
theorem qzero_c : R FF 54 [] = some (AV.agg [AV.b (ng (Rat.num ((0 : Rat)))), (AV.l 1 (List.map u (D (Int.natAbs (Rat.num ((0 : Rat))))))), (AV.l 1 (List.map u (D (Rat.den ((0 : Rat))))))]) := by
  have o1 := of_c (x := 1) (by omega) (by omega) (n := 1) rfl
  show R FF 54 [] = some (.agg [.b (ng 0), (AV.l 1 (List.map u (D 0))), (AV.l 1 (List.map u (D 1)))])
  rw [ng_false.2 (Int.le_refl _), D_zero]
  rw [R_go FF F54 c54.eq_1]
  simp only [RB, un, St.none, Nat.reduceEqDiff, Nat.reduceAdd, Nat.reduceMul, Nat.reduceMod, Nat.reduceLeDiff, Nat.reduceLT, Int.reduceLT, Int.reduceLE, Int.reduceEq, Int.reduceToNat, Int.reduceSub, Int.reduceNeg, Int.reduceAdd, ↓reduceIte, reduceCtorEq, ite_self, eq_self, if_true, if_false, pack, pid, parN, List.not_mem_nil, List.mem_cons, lid, chkK, apartV, List.map_nil, List.flatMap_nil, List.append_nil, List.nil_append, List.drop_zero, List.length_set, List.length_replicate, List.length_append, List.take_length, List.take_zero, List.drop_length, Option.isNone_none, Heap.none, o1]
theorem qof_c {n : Int} (h0 : -9223372036854775808 ≤ n) (h1 : n ≤ 9223372036854775807) : R FF 68 [(AV.i .i64 n)] = some (AV.agg [AV.b (ng (Rat.num ((n : Rat)))), (AV.l 1 (List.map u (D (Int.natAbs (Rat.num ((n : Rat))))))), (AV.l 1 (List.map u (D (Rat.den ((n : Rat))))))]) := by
  have o1 := of_c (x := 1) (by omega) (by omega) (n := 1) rfl
  have o2 := wof_c h0 h1
  rw [Rat.num_intCast, Rat.den_intCast]
  rw [R_go FF F68 c68.eq_1]
  simp only [RB, un, St.none, Nat.reduceEqDiff, Nat.reduceAdd, Nat.reduceMul, Nat.reduceMod, Nat.reduceLeDiff, Nat.reduceLT, Int.reduceLT, Int.reduceLE, Int.reduceEq, Int.reduceToNat, Int.reduceSub, Int.reduceNeg, Int.reduceAdd, ↓reduceIte, reduceCtorEq, ite_self, eq_self, if_true, if_false, pack, pid, parN, List.not_mem_nil, List.mem_cons, lid, chkK, apartV, List.map_nil, List.flatMap_nil, List.append_nil, List.nil_append, List.drop_zero, List.length_set, List.length_replicate, List.length_append, List.take_length, List.take_zero, List.drop_length, Option.isNone_none, Heap.none, o1, o2]
theorem qclean_c {q : Bool} {l d : List Int} (hu : U l) (hl : l.length ≤ 100000000000) (hv : U d) (hd : d.length ≤ 100000000000) : R FF 63 [(AV.agg [AV.b q, (AV.l 1 (List.map u l)), (AV.l 1 (List.map u d))])] = some (AV.agg [AV.b (ng (Rat.num (qv q l d))), (AV.l 1 (List.map u (D (Int.natAbs (Rat.num (qv q l d)))))), (AV.l 1 (List.map u (D (Rat.den (qv q l d)))))]) := by
  have c1 := clean_c hv (by omega)
  have c2 := wclean_c (q := q) hu (by omega)
  unfold qv
  have l1 := wv_L q l
  have l2 := L_W d
  by_cases h0 : W d = 0
  · have z1 := qzero_c
    rw [h0] at c1
    rw [h0, Rat.mkRat_zero]
    rw [D_zero] at c1
    rw [R_go FF F63 c63.eq_1]
    simp only [RB, un, St.none, Nat.reduceEqDiff, Nat.reduceAdd, Nat.reduceMul, Nat.reduceMod, Nat.reduceLeDiff, Nat.reduceLT, Int.reduceLT, Int.reduceLE, Int.reduceEq, Int.reduceToNat, Int.reduceSub, Int.reduceNeg, Int.reduceAdd, ↓reduceIte, reduceCtorEq, ite_self, eq_self, if_true, if_false, pack, pid, parN, List.not_mem_nil, List.mem_cons, lid, chkK, apartV, List.map_nil, List.flatMap_nil, List.append_nil, List.nil_append, List.drop_zero, List.length_set, List.length_replicate, List.length_append, List.take_length, List.take_zero, List.drop_length, Option.isNone_none, Heap.none, c1, z1]
  · have f1 := form_c (n := wv q l) h0 (by omega) (by omega)
    have c3 : ¬ (((D (W d)).length : Nat) : Int) = 0 := by have := (L_pos (k := W d)).2 (Nat.pos_of_ne_zero h0); show ¬ (L (W d) : Int) = 0; omega
    rw [R_go FF F63 c63.eq_1]
    simp only [RB, un, St.none, Nat.reduceEqDiff, Nat.reduceAdd, Nat.reduceMul, Nat.reduceMod, Nat.reduceLeDiff, Nat.reduceLT, Int.reduceLT, Int.reduceLE, Int.reduceEq, Int.reduceToNat, Int.reduceSub, Int.reduceNeg, Int.reduceAdd, ↓reduceIte, reduceCtorEq, ite_self, eq_self, if_true, if_false, pack, pid, parN, List.not_mem_nil, List.mem_cons, lid, chkK, apartV, List.map_nil, List.flatMap_nil, List.append_nil, List.nil_append, List.drop_zero, List.length_set, List.length_replicate, List.length_append, List.take_length, List.take_zero, List.drop_length, Option.isNone_none, Heap.none, c1, c2, c3, f1]
theorem qden_c {q : Bool} {l d : List Int} : R FF 66 [(AV.agg [AV.b q, (AV.l 1 (List.map u l)), (AV.l 1 (List.map u d))])] = some (AV.agg [AV.b false, (AV.l 1 (List.map u d))]) := by
  rw [R_go FF F66 c66.eq_1]
  simp only [RB, un, St.none, Nat.reduceEqDiff, Nat.reduceAdd, Nat.reduceMul, Nat.reduceMod, Nat.reduceLeDiff, Nat.reduceLT, Int.reduceLT, Int.reduceLE, Int.reduceEq, Int.reduceToNat, Int.reduceSub, Int.reduceNeg, Int.reduceAdd, ↓reduceIte, reduceCtorEq, ite_self, eq_self, if_true, if_false, pack, pid, parN, List.not_mem_nil, List.mem_cons, lid, chkK, apartV, List.map_nil, List.flatMap_nil, List.append_nil, List.nil_append, List.drop_zero, List.length_set, List.length_replicate, List.length_append, List.take_length, List.take_zero, List.drop_length, Option.isNone_none, Heap.none]
def qcmp (x y : Rat) : Int := cmp (x.num * y.den) (y.num * x.den)
theorem qcmp_lt {x y : Rat} : qcmp x y < 0 ↔ x < y := by unfold qcmp; rw [cmp_lt_iff, Rat.lt_iff]
theorem qcmp_le {x y : Rat} : qcmp x y ≤ 0 ↔ x ≤ y := by unfold qcmp; rw [cmp_le_iff, Rat.le_iff]
theorem qcmp_ge {x y : Rat} : 0 ≤ qcmp x y ↔ y ≤ x := by have := qcmp_lt (x := x) (y := y); have := Rat.not_lt (a := x) (b := y); grind
theorem qcmp_eq {x y : Rat} : qcmp x y = 0 ↔ x = y := by
  have h1 := qcmp_le (x := x) (y := y)
  have h2 := qcmp_ge (x := x) (y := y)
  constructor
  · intro h; exact Rat.le_antisymm (h1.1 (by omega)) (h2.1 (by omega))
  · intro h
    have a1 := h1.2 (by rw [h]; exact Rat.le_refl)
    have a2 := h2.2 (by rw [h]; exact Rat.le_refl)
    omega
theorem den_ci (d : Nat) : wv false (D d) = (d : Int) := by unfold wv sv; rw [W_D]; rfl
theorem qcmp_c {q r : Bool} {l d m e : List Int} (hu : U l) (hl : l.length ≤ 100000000000) (hv : U d) (hd : d.length ≤ 100000000000) (hu2 : U m) (hl2 : m.length ≤ 100000000000) (hv2 : U e) (hd2 : e.length ≤ 100000000000) :
    R FF 14 [(AV.agg [AV.b q, (AV.l 1 (List.map u l)), (AV.l 1 (List.map u d))]), (AV.agg [AV.b r, (AV.l 1 (List.map u m)), (AV.l 1 (List.map u e))])] = some (AV.i .i64 (qcmp (qv q l d) (qv r m e))) := by
  have c1 := qclean_c (q := q) hu hl hv hd
  have c2 := qclean_c (q := r) hu2 hl2 hv2 hd2
  have s1 := qv_sq (q := q) (l := l) (d := d) (k := 100000000000) hl hd (by omega)
  have s2 := qv_sq (q := r) (l := m) (d := e) (k := 100000000000) hl2 hd2 (by omega)
  generalize qv q l d = x at *
  generalize qv r m e = y at *
  have e1 := qden_c (q := ng x.num) (l := D x.num.natAbs) (d := D x.den)
  have e2 := qden_c (q := ng y.num) (l := D y.num.natAbs) (d := D y.den)
  have n1 := sq_num x
  have n2 := sq_num y
  have n3 := sq_den x
  have n4 := sq_den y
  have m1 := wmul_c (q := ng x.num) (r := false) (D_U x.num.natAbs) (show L _ ≤ _ by omega) (D_U y.den) (show L _ ≤ _ by omega)
  have m2 := wmul_c (q := ng y.num) (r := false) (D_U y.num.natAbs) (show L _ ≤ _ by omega) (D_U x.den) (show L _ ≤ _ by omega)
  rw [wv_ci, den_ci] at m1 m2
  have b1 : L (x.num * y.den).natAbs ≤ 200000000000 := by rw [Int.natAbs_mul, Int.natAbs_natCast]; have := L_mul x.num.natAbs y.den; omega
  have b2 : L (y.num * x.den).natAbs ≤ 200000000000 := by rw [Int.natAbs_mul, Int.natAbs_natCast]; have := L_mul y.num.natAbs x.den; omega
  have k1 := wcmp_c (q := ng (x.num * y.den)) (r := ng (y.num * x.den)) (D_U (x.num * y.den).natAbs) (show L _ ≤ _ by omega) (D_U (y.num * x.den).natAbs) (show L _ ≤ _ by omega)
  rw [wv_ci, wv_ci] at k1
  unfold qcmp
  rw [R_go FF F14 c14.eq_1]
  simp only [RB, un, St.none, Nat.reduceEqDiff, Nat.reduceAdd, Nat.reduceMul, Nat.reduceMod, Nat.reduceLeDiff, Nat.reduceLT, Int.reduceLT, Int.reduceLE, Int.reduceEq, Int.reduceToNat, Int.reduceSub, Int.reduceNeg, Int.reduceAdd, ↓reduceIte, reduceCtorEq, ite_self, eq_self, if_true, if_false, pack, pid, parN, List.not_mem_nil, List.mem_cons, lid, chkK, apartV, List.map_nil, List.flatMap_nil, List.append_nil, List.nil_append, List.drop_zero, List.length_set, List.length_replicate, List.length_append, List.take_length, List.take_zero, List.drop_length, Option.isNone_none, Heap.none, c1, c2, e1, e2, m1, m2, k1]
end Go.Pe
set_option linter.unusedVariables false
namespace Go.Pe
abbrev RQt := Bool × List Int × List Int
def eQ (x : RQt) : List AV := [.b x.1, .l 1 (x.2.1.map u), .l 1 (x.2.2.map u)]
def OkQ (x : RQt) : Prop := (U x.2.1 ∧ x.2.1.length ≤ maxL) ∧ U x.2.2 ∧ x.2.2.length ≤ maxL
abbrev RC := Bool × RQt
def eC (c : RC) : List AV := [.b c.1, .b c.2.1, .l 1 (c.2.2.1.map u), .l 1 (c.2.2.2.map u)]
def OkC (c : RC) : Prop := OkQ c.2
theorem eC_rules : (∀ x, (eC x).length = 4) ∧ (∀ h x, (eC x).map (tellC h) = eC x) ∧ (∀ h x, (eC x).map (tell0 h) = eC x) ∧ (∀ h x, (eC x).flatMap (refC h) = []) ∧ (∀ x, (eC x).flatMap ref0 = []) ∧ (∀ x, ldC true 4 0 (eC x) = some (.agg [.b x.1, .b x.2.1, .l 1 (x.2.2.1.map u), .l 1 (x.2.2.2.map u)])) ∧ (∀ x, ldC true 3 1 (eC x) = some (.agg [.b x.2.1, .l 1 (x.2.2.1.map u), .l 1 (x.2.2.2.map u)])) ∧ (∀ x, ldC false 1 0 (eC x) = some (.b x.1)) := by
  refine ⟨?_, ?_, ?_, ?_, ?_, ?_, ?_, ?_⟩ <;> intros <;> rfl
theorem eC_row : type_of% (row_rules eC (false, false, [], []) 4 (fun _ => rfl) (fun _ _ => rfl)) := row_rules eC (false, false, [], []) 4 (fun _ => rfl) (fun _ _ => rfl)
abbrev dQ : RQt := (false, [], [])
theorem eQ_rules : (∀ x, (eQ x).length = 3) ∧ (∀ h x, (eQ x).map (tellC h) = eQ x) ∧ (∀ h x, (eQ x).map (tell0 h) = eQ x) ∧ (∀ h x, (eQ x).flatMap (refC h) = []) ∧ (∀ x, (eQ x).flatMap ref0 = []) ∧
    (∀ x, ldC true 3 0 (eQ x) = some (.agg [.b x.1, .l 1 (x.2.1.map u), .l 1 (x.2.2.map u)])) := by
  refine ⟨?_, ?_, ?_, ?_, ?_, ?_⟩ <;> intros <;> rfl
theorem eQ_row : type_of% (row_rules eQ dQ 3 (fun _ => rfl) (fun _ _ => rfl)) := row_rules eQ dQ 3 (fun _ => rfl) (fun _ _ => rfl)
end Go.Pe
set_option linter.unusedSimpArgs false
set_option linter.unusedVariables false
open Go
namespace Go.Pe
def Sm (l d : List Int) (k : Nat) : Prop := (U l ∧ l.length ≤ k) ∧ U d ∧ d.length ≤ k
theorem Sm.take {l d : List Int} {k : Nat} (h : Sm l d k) (n : Nat) : Sm (l.take n) (d.take n) n := ⟨⟨take_U h.1.1 n, List.length_take_le _ _⟩, take_U h.2.1 n, List.length_take_le _ _⟩
theorem Sm.mono {l d : List Int} {k m : Nat} (h : Sm l d k) (hm : k ≤ m) : Sm l d m := ⟨⟨h.1.1, Nat.le_trans h.1.2 hm⟩, h.2.1, Nat.le_trans h.2.2 hm⟩
theorem sm_cq {x : Rat} {k : Nat} (h : sq x ≤ k) : Sm (D x.num.natAbs) (D x.den) k := ⟨⟨D_U _, Nat.le_trans (sq_num x) h⟩, D_U _, Nat.le_trans (sq_den x) h⟩
theorem Sm.sq {q : Bool} {l d : List Int} {k : Nat} (h : Sm l d k) (hk : 1 ≤ k) : sq (qv q l d) ≤ k := qv_sq h.1.2 h.2.2 hk
theorem qclean_s {q : Bool} {l d : List Int} {k : Nat} (h : Sm l d k) (hk : k ≤ 100000000000) : R FF 63 [(AV.agg [AV.b q, (AV.l 1 (List.map u l)), (AV.l 1 (List.map u d))])] = some (AV.agg [AV.b (ng (Rat.num (qv q l d))), (AV.l 1 (List.map u (D (Int.natAbs (Rat.num (qv q l d)))))), (AV.l 1 (List.map u (D (Rat.den (qv q l d)))))]) := qclean_c h.1.1 (Nat.le_trans h.1.2 hk) h.2.1 (Nat.le_trans h.2.2 hk)
theorem qcmp_s {q r : Bool} {l d m e : List Int} {k j : Nat} (h : Sm l d k) (h2 : Sm m e j) (hk : k ≤ 100000000000) (hj : j ≤ 100000000000) : R FF 14 [(AV.agg [AV.b q, (AV.l 1 (List.map u l)), (AV.l 1 (List.map u d))]), (AV.agg [AV.b r, (AV.l 1 (List.map u m)), (AV.l 1 (List.map u e))])] = some (AV.i .i64 (qcmp (qv q l d) (qv r m e))) :=
  qcmp_c h.1.1 (Nat.le_trans h.1.2 hk) h.2.1 (Nat.le_trans h.2.2 hk) h2.1.1 (Nat.le_trans h2.1.2 hj) h2.2.1 (Nat.le_trans h2.2.2 hj)
theorem number09_c {q : Bool} {l d : List Int} (hl : l.length ≤ maxL) (hd : d.length ≤ maxL) : R FF 74 [(AV.agg [AV.b q, (AV.l 1 (List.map u l)), (AV.l 1 (List.map u d))])] = some (AV.agg [AV.b q, (AV.l 1 (List.map u (((l.take 3))))), (AV.l 1 (List.map u (((d.take 3)))))]) := by
  have e3 : (3 : Int).toNat = 3 := rfl
  by_cases c1 : 3 < (l.length : Int)
  · have c3 : (3 : Int) ≤ (l.length : Int) := by omega
    by_cases c2 : 3 < (d.length : Int)
    · have c4 : (3 : Int) ≤ (d.length : Int) := by omega
      rw [R_go FF F74 c74.eq_1]
      simp only [RB, un, St.none, Nat.reduceEqDiff, Nat.reduceAdd, Nat.reduceMul, Nat.reduceMod, Nat.reduceLeDiff, Nat.reduceLT, Int.reduceLT, Int.reduceLE, Int.reduceEq, Int.reduceToNat, Int.reduceSub, Int.reduceNeg, Int.reduceAdd, ↓reduceIte, reduceCtorEq, ite_self, eq_self, if_true, if_false, pack, pid, parN, List.not_mem_nil, List.mem_cons, lid, chkK, apartV, List.map_nil, List.flatMap_nil, List.append_nil, List.nil_append, List.drop_zero, List.length_set, List.length_replicate, List.length_append, List.take_length, List.take_zero, List.drop_length, Option.isNone_none, Heap.none, c1, c2, c3, c4]
    · have t2 : d.take 3 = d := List.take_of_length_le (by omega)
      rw [t2]
      rw [R_go FF F74 c74.eq_1]
      simp only [RB, un, St.none, Nat.reduceEqDiff, Nat.reduceAdd, Nat.reduceMul, Nat.reduceMod, Nat.reduceLeDiff, Nat.reduceLT, Int.reduceLT, Int.reduceLE, Int.reduceEq, Int.reduceToNat, Int.reduceSub, Int.reduceNeg, Int.reduceAdd, ↓reduceIte, reduceCtorEq, ite_self, eq_self, if_true, if_false, pack, pid, parN, List.not_mem_nil, List.mem_cons, lid, chkK, apartV, List.map_nil, List.flatMap_nil, List.append_nil, List.nil_append, List.drop_zero, List.length_set, List.length_replicate, List.length_append, List.take_length, List.take_zero, List.drop_length, Option.isNone_none, Heap.none, c1, c2, c3]
  · have t1 : l.take 3 = l := List.take_of_length_le (by omega)
    rw [t1]
    by_cases c2 : 3 < (d.length : Int)
    · have c4 : (3 : Int) ≤ (d.length : Int) := by omega
      rw [R_go FF F74 c74.eq_1]
      simp only [RB, un, St.none, Nat.reduceEqDiff, Nat.reduceAdd, Nat.reduceMul, Nat.reduceMod, Nat.reduceLeDiff, Nat.reduceLT, Int.reduceLT, Int.reduceLE, Int.reduceEq, Int.reduceToNat, Int.reduceSub, Int.reduceNeg, Int.reduceAdd, ↓reduceIte, reduceCtorEq, ite_self, eq_self, if_true, if_false, pack, pid, parN, List.not_mem_nil, List.mem_cons, lid, chkK, apartV, List.map_nil, List.flatMap_nil, List.append_nil, List.nil_append, List.drop_zero, List.length_set, List.length_replicate, List.length_append, List.take_length, List.take_zero, List.drop_length, Option.isNone_none, Heap.none, c1, c2, c4]
    · have t2 : d.take 3 = d := List.take_of_length_le (by omega)
      rw [t2]
      rw [R_go FF F74 c74.eq_1]
      simp only [RB, un, St.none, Nat.reduceEqDiff, Nat.reduceAdd, Nat.reduceMul, Nat.reduceMod, Nat.reduceLeDiff, Nat.reduceLT, Int.reduceLT, Int.reduceLE, Int.reduceEq, Int.reduceToNat, Int.reduceSub, Int.reduceNeg, Int.reduceAdd, ↓reduceIte, reduceCtorEq, ite_self, eq_self, if_true, if_false, pack, pid, parN, List.not_mem_nil, List.mem_cons, lid, chkK, apartV, List.map_nil, List.flatMap_nil, List.append_nil, List.nil_append, List.drop_zero, List.length_set, List.length_replicate, List.length_append, List.take_length, List.take_zero, List.drop_length, Option.isNone_none, Heap.none, c1, c2]
def t3 (c : RC) : RC := (c.1, c.2.1, c.2.2.1.take 3, c.2.2.2.take 3)
theorem few09_l0 {l : List RC} {n : Nat} (hn : n ≤ 100000000000) (hu : ∀ x ∈ l, OkC x) (hl : l.length ≤ maxL) : ∀ (d i : Nat), i + d = min l.length n →
    LP FF [(5, 1), (0, 0), (1, 0), (6, 0)] [(5, 0)] b29_0 [.own true 4 (((l.take i).map t3).map eC), .l 4 (l.map eC), (AV.i .i64 ((n : Int))), (AV.i .i64 ((i : Int)))] = some (.exit 0, [.l 4 (((l.take n).map t3).map eC)]) := by
  intro d
  induction d with
  | zero =>
    intro i hi
    have h2 : l.take i = l.take n := by
      rw [show i = min l.length n by omega]
      rcases Nat.le_total l.length n with h | h
      · rw [Nat.min_eq_left h, List.take_of_length_le (Nat.le_refl _), List.take_of_length_le h]
      · rw [Nat.min_eq_right h]
    rw [h2, show i = min l.length n by omega]
    by_cases c1 : ((min l.length n : Nat) : Int) < (l.length : Int)
    · have c2 : ¬ ((min l.length n : Nat) : Int) < (n : Int) := by omega
      rw [LP_go FF b29_0.eq_1]
      simp only [RB, un, St.none, Nat.reduceEqDiff, Nat.reduceAdd, Nat.reduceMul, Nat.reduceMod, Nat.reduceLeDiff, Nat.reduceLT, Int.reduceLT, Int.reduceLE, Int.reduceEq, Int.reduceToNat, Int.reduceSub, Int.reduceNeg, Int.reduceAdd, ↓reduceIte, reduceCtorEq, ite_self, eq_self, if_true, if_false, pack, pid, parN, List.not_mem_nil, List.mem_cons, lid, chkK, apartV, List.map_nil, List.flatMap_nil, List.append_nil, List.nil_append, List.drop_zero, List.length_set, List.length_replicate, List.length_append, List.take_length, List.take_zero, List.drop_length, Option.isNone_none, Heap.none, c1, c2]
    · rw [LP_go FF b29_0.eq_1]
      simp only [RB, un, St.none, Nat.reduceEqDiff, Nat.reduceAdd, Nat.reduceMul, Nat.reduceMod, Nat.reduceLeDiff, Nat.reduceLT, Int.reduceLT, Int.reduceLE, Int.reduceEq, Int.reduceToNat, Int.reduceSub, Int.reduceNeg, Int.reduceAdd, ↓reduceIte, reduceCtorEq, ite_self, eq_self, if_true, if_false, pack, pid, parN, List.not_mem_nil, List.mem_cons, lid, chkK, apartV, List.map_nil, List.flatMap_nil, List.append_nil, List.nil_append, List.drop_zero, List.length_set, List.length_replicate, List.length_append, List.take_length, List.take_zero, List.drop_length, Option.isNone_none, Heap.none, c1]
  | succ d ih =>
    intro i hi
    have hlt : i < l.length := by omega
    have h9 := ih (i + 1) (by omega)
    have hx := hu _ (getD_mem' (false, false, [], []) hlt)
    have f1 := number09_c (q := (l.getD i (false, false, [], [])).2.1) hx.1.2 hx.2.2
    have ht : (l.take (i + 1)).map t3 = (l.take i).map t3 ++ [t3 (l.getD i (false, false, [], []))] := by
      rw [List.take_add_one, List.getElem?_eq_getElem hlt, List.map_append, List.getD_eq_getElem?_getD, List.getElem?_eq_getElem hlt]
      rfl
    rw [ht] at h9
    have hlen : (List.map t3 (List.take i l)).length = i := by rw [List.length_map, List.length_take]; omega
    have c1 : (i : Int) < (l.length : Int) := by omega
    have c2 : (i : Int) < (n : Int) := by omega
    have e2 : IntKind.i64.wrap ((i : Int) + 1) = ((i + 1 : Nat) : Int) := w64succ (by omega)
    have b2 : (i + 1) * 64 ≤ 140737488355328 := by omega
    have m2 : List.take (i + 1) (List.map t3 (List.take i l) ++ [t3 (l.getD i (false, false, [], []))]) = List.map t3 (List.take i l) ++ [t3 (l.getD i (false, false, [], []))] := List.take_of_length_le (by rw [List.length_append, hlen]; simp)
    have m3 : List.take i (List.map t3 (List.take i l)) = List.map t3 (List.take i l) := List.take_of_length_le (by omega)
    have m1 : List.map eC (List.map t3 (List.take i l)) ++ [[AV.b (l.getD i (false, false, [], [])).1, AV.b (l.getD i (false, false, [], [])).2.1, AV.l 1 (List.map u ((l.getD i (false, false, [], [])).2.2.1.take 3)), AV.l 1 (List.map u ((l.getD i (false, false, [], [])).2.2.2.take 3))]] = List.map eC (List.map t3 (List.take i l) ++ [t3 (l.getD i (false, false, [], []))]) := by rw [List.map_append]; rfl
    rw [LP_go FF b29_0.eq_1]
    simp only [RB, un, St.none, Nat.reduceEqDiff, Nat.reduceAdd, Nat.reduceMul, Nat.reduceMod, Nat.reduceLeDiff, Nat.reduceLT, Int.reduceLT, Int.reduceLE, Int.reduceEq, Int.reduceToNat, Int.reduceSub, Int.reduceNeg, Int.reduceAdd, ↓reduceIte, reduceCtorEq, ite_self, eq_self, if_true, if_false, pack, pid, parN, List.not_mem_nil, List.mem_cons, lid, chkK, apartV, List.map_nil, List.flatMap_nil, List.append_nil, List.nil_append, List.drop_zero, List.length_set, List.length_replicate, List.length_append, List.take_length, List.take_zero, List.drop_length, Option.isNone_none, Heap.none, c1, c2, eC_rules, eC_row, Int.natCast_nonneg, f1, e2, hlen, b2, m3, m1, m2]
    exact h9
theorem few09_c {l : List RC} {n : Nat} (hn : n ≤ 100000000000) (hu : ∀ x ∈ l, OkC x) (hl : l.length ≤ maxL) : R FF 29 [.l 4 (l.map eC), (AV.i .i64 ((n : Int)))] = some (.l 4 (((l.take n).map t3).map eC)) := by
  have h1 := few09_l0 hn hu hl (min l.length n) 0 (by omega)
  rw [List.take_zero, Int.ofNat_zero] at h1
  simp only [List.map_nil] at h1
  rw [R_go FF F29 c29.eq_1]
  simp only [RB, un, St.none, Nat.reduceEqDiff, Nat.reduceAdd, Nat.reduceMul, Nat.reduceMod, Nat.reduceLeDiff, Nat.reduceLT, Int.reduceLT, Int.reduceLE, Int.reduceEq, Int.reduceToNat, Int.reduceSub, Int.reduceNeg, Int.reduceAdd, ↓reduceIte, reduceCtorEq, ite_self, eq_self, if_true, if_false, pack, pid, parN, List.not_mem_nil, List.mem_cons, lid, chkK, apartV, List.map_nil, List.flatMap_nil, List.append_nil, List.nil_append, List.drop_zero, List.length_set, List.length_replicate, List.length_append, List.take_length, List.take_zero, List.drop_length, Option.isNone_none, Heap.none, h1]
end Go.Pe
set_option linter.unusedSimpArgs false
set_option linter.unusedVariables false
open Go
namespace Go.Pe
def vQ (x : RQt) : Rat := qv x.1 x.2.1 x.2.2
def SmQ (x : RQt) (k : Nat) : Prop := Sm x.2.1 x.2.2 k
def tQ (x : RQt) : RQt := (x.1, x.2.1.take 3, x.2.2.take 3)
end Go.Pe
set_option linter.unusedVariables false
set_option linter.unusedSimpArgs false
namespace Go.Pe
open Go
def eRw (r : List RC) : List AV := [.l 4 (r.map eC)]
theorem eRw_rules : (∀ x, (eRw x).length = 1) ∧ (∀ h x, (eRw x).map (tellC h) = eRw x) ∧ (∀ h x, (eRw x).map (tell0 h) = eRw x) ∧ (∀ h x, (eRw x).flatMap (refC h) = []) ∧ (∀ x, (eRw x).flatMap ref0 = []) ∧
    (∀ x, ldC false 1 0 (eRw x) = some (.l 4 (x.map eC))) := by
  refine ⟨?_, ?_, ?_, ?_, ?_, ?_⟩ <;> intros <;> rfl
theorem eRw_row : type_of% (row_rules eRw [] 1 (fun _ => rfl) (fun _ _ => rfl)) := row_rules eRw [] 1 (fun _ => rfl) (fun _ _ => rfl)
def fw (w : Nat) (r : List RC) : List RC := (r.take w).map t3
def OkRw (l : List (List RC)) : Prop := ∀ r ∈ l, r.length ≤ maxL ∧ ∀ c ∈ r, OkC c
theorem all09_l0 {l : List (List RC)} {n w : Nat} (hn : n ≤ 1000000) (hw : w ≤ 1000000) (hu : OkRw l) (hl : l.length ≤ maxL) : ∀ (d i : Nat), i + d = min l.length n →
    LP FF [(7, 1), (0, 0), (1, 0), (2, 0), (8, 0)] [(7, 0)] b97_0 [.own true 1 (((l.take i).map (fw w)).map eRw), .l 1 (l.map eRw), (AV.i .i64 ((n : Int))), (AV.i .i64 ((w : Int))), (AV.i .i64 ((i : Int)))] = some (.exit 0, [.l 1 (((l.take n).map (fw w)).map eRw)]) := by
  intro d
  induction d with
  | zero =>
    intro i hi
    have h2 : l.take i = l.take n := by
      rw [show i = min l.length n by omega]
      rcases Nat.le_total l.length n with h | h
      · rw [Nat.min_eq_left h, List.take_of_length_le (Nat.le_refl _), List.take_of_length_le h]
      · rw [Nat.min_eq_right h]
    rw [h2, show i = min l.length n by omega]
    by_cases c1 : ((min l.length n : Nat) : Int) < (l.length : Int)
    · have c2 : ¬ ((min l.length n : Nat) : Int) < (n : Int) := by omega
      rw [LP_go FF b97_0.eq_1]
      simp only [RB, un, St.none, Nat.reduceEqDiff, Nat.reduceAdd, Nat.reduceMul, Nat.reduceMod, Nat.reduceLeDiff, Nat.reduceLT, Int.reduceLT, Int.reduceLE, Int.reduceEq, Int.reduceToNat, Int.reduceSub, Int.reduceNeg, Int.reduceAdd, ↓reduceIte, reduceCtorEq, ite_self, eq_self, if_true, if_false, pack, pid, parN, List.not_mem_nil, List.mem_cons, lid, chkK, apartV, List.map_nil, List.flatMap_nil, List.append_nil, List.nil_append, List.drop_zero, List.length_set, List.length_replicate, List.length_append, List.take_length, List.take_zero, List.drop_length, Option.isNone_none, Heap.none, c1, c2]
    · rw [LP_go FF b97_0.eq_1]
      simp only [RB, un, St.none, Nat.reduceEqDiff, Nat.reduceAdd, Nat.reduceMul, Nat.reduceMod, Nat.reduceLeDiff, Nat.reduceLT, Int.reduceLT, Int.reduceLE, Int.reduceEq, Int.reduceToNat, Int.reduceSub, Int.reduceNeg, Int.reduceAdd, ↓reduceIte, reduceCtorEq, ite_self, eq_self, if_true, if_false, pack, pid, parN, List.not_mem_nil, List.mem_cons, lid, chkK, apartV, List.map_nil, List.flatMap_nil, List.append_nil, List.nil_append, List.drop_zero, List.length_set, List.length_replicate, List.length_append, List.take_length, List.take_zero, List.drop_length, Option.isNone_none, Heap.none, c1]
  | succ d ih =>
    intro i hi
    have hlt : i < l.length := by omega
    have h9 := ih (i + 1) (by omega)
    have hx := hu _ (getD_mem' ([] : List RC) hlt)
    have f1 := few09_c (l := l.getD i []) (n := w) (by omega) hx.2 hx.1
    rw [show ((l.getD i []).take w).map t3 = fw w (l.getD i []) from rfl] at f1
    have ht : (l.take (i + 1)).map (fw w) = (l.take i).map (fw w) ++ [fw w (l.getD i [])] := by
      rw [List.take_add_one, List.getElem?_eq_getElem hlt, List.map_append, List.getD_eq_getElem?_getD, List.getElem?_eq_getElem hlt]
      rfl
    rw [ht] at h9
    have hlen : (List.map (fw w) (List.take i l)).length = i := by rw [List.length_map, List.length_take]; omega
    have c1 : (i : Int) < (l.length : Int) := by omega
    have c2 : (i : Int) < (n : Int) := by omega
    have e2 : IntKind.i64.wrap ((i : Int) + 1) = ((i + 1 : Nat) : Int) := w64succ (by omega)
    have b2 : (i + 1) * 24 ≤ 140737488355328 := by omega
    have m2 : List.take (i + 1) (List.map (fw w) (List.take i l) ++ [fw w (l.getD i [])]) = List.map (fw w) (List.take i l) ++ [fw w (l.getD i [])] := List.take_of_length_le (by rw [List.length_append, hlen]; exact Nat.le_refl _)
    have m3 : List.take i (List.map (fw w) (List.take i l)) = List.map (fw w) (List.take i l) := List.take_of_length_le (by omega)
    have m1 : List.map eRw (List.map (fw w) (List.take i l)) ++ [[AV.l 4 ((fw w (l.getD i [])).map eC)]] = List.map eRw (List.map (fw w) (List.take i l) ++ [fw w (l.getD i [])]) := by rw [List.map_append (f := eRw)]; rfl
    rw [LP_go FF b97_0.eq_1]
    simp only [RB, un, St.none, Nat.reduceEqDiff, Nat.reduceAdd, Nat.reduceMul, Nat.reduceMod, Nat.reduceLeDiff, Nat.reduceLT, Int.reduceLT, Int.reduceLE, Int.reduceEq, Int.reduceToNat, Int.reduceSub, Int.reduceNeg, Int.reduceAdd, ↓reduceIte, reduceCtorEq, ite_self, eq_self, if_true, if_false, pack, pid, parN, List.not_mem_nil, List.mem_cons, lid, chkK, apartV, List.map_nil, List.flatMap_nil, List.append_nil, List.nil_append, List.drop_zero, List.length_set, List.length_replicate, List.length_append, List.take_length, List.take_zero, List.drop_length, Option.isNone_none, Heap.none, c1, c2, eRw_rules, eRw_row, Int.natCast_nonneg, f1, e2, hlen, b2, m3, m1, m2]
    exact h9
theorem all09_c {l : List (List RC)} {n w : Nat} (hn : n ≤ 1000000) (hw : w ≤ 1000000) (hu : OkRw l) (hl : l.length ≤ maxL) : R FF 97 [.l 1 (l.map eRw), (AV.i .i64 ((n : Int))), (AV.i .i64 ((w : Int)))] = some (.l 1 (((l.take n).map (fw w)).map eRw)) := by
  have h1 := all09_l0 hn hw hu hl (min l.length n) 0 (by omega)
  rw [List.take_zero, Int.ofNat_zero] at h1
  simp only [List.map_nil] at h1
  rw [R_go FF F97 c97.eq_1]
  simp only [RB, un, St.none, Nat.reduceEqDiff, Nat.reduceAdd, Nat.reduceMul, Nat.reduceMod, Nat.reduceLeDiff, Nat.reduceLT, Int.reduceLT, Int.reduceLE, Int.reduceEq, Int.reduceToNat, Int.reduceSub, Int.reduceNeg, Int.reduceAdd, ↓reduceIte, reduceCtorEq, ite_self, eq_self, if_true, if_false, pack, pid, parN, List.not_mem_nil, List.mem_cons, lid, chkK, apartV, List.map_nil, List.flatMap_nil, List.append_nil, List.nil_append, List.drop_zero, List.length_set, List.length_replicate, List.length_append, List.take_length, List.take_zero, List.drop_length, Option.isNone_none, Heap.none, h1]
end Go.Pe
set_option linter.unusedVariables false
set_option linter.unusedSimpArgs false
namespace Go.Pe
open Go
abbrev I64 (n : Int) : Prop := -9223372036854775808 ≤ n ∧ n ≤ 9223372036854775807
abbrev RD := Int × List (List RC) × List RQt
def eD (x : RD) : List AV := [.i .i64 x.1, .l 1 (x.2.1.map eRw), .l 3 (x.2.2.map eQ)]
def OkD (x : RD) : Prop := I64 x.1 ∧ (x.2.1.length ≤ maxL ∧ OkRw x.2.1) ∧ x.2.2.length ≤ maxL ∧ ∀ a ∈ x.2.2, OkQ a
end Go.Pe
set_option linter.unusedSimpArgs false
set_option linter.unusedVariables false
open Go
namespace Go.Pe
theorem qadd_c {q r : Bool} {l d m e : List Int} (hu : U l) (hl : l.length ≤ 40000000000) (hv : U d) (hd : d.length ≤ 40000000000) (hu2 : U m) (hl2 : m.length ≤ 40000000000) (hv2 : U e) (hd2 : e.length ≤ 40000000000) :
    R FF 31 [(AV.agg [AV.b q, (AV.l 1 (List.map u l)), (AV.l 1 (List.map u d))]), (AV.agg [AV.b r, (AV.l 1 (List.map u m)), (AV.l 1 (List.map u e))])] = some (AV.agg [AV.b (ng (Rat.num (qv q l d + qv r m e))), (AV.l 1 (List.map u (D (Int.natAbs (Rat.num (qv q l d + qv r m e)))))), (AV.l 1 (List.map u (D (Rat.den (qv q l d + qv r m e)))))]) := by
  have k1 := qclean_c (q := q) hu (by omega) hv (by omega)
  have k2 := qclean_c (q := r) hu2 (by omega) hv2 (by omega)
  have s1 := qv_sq (q := q) (l := l) (d := d) (k := 40000000000) hl hd (by omega)
  have s2 := qv_sq (q := r) (l := m) (d := e) (k := 40000000000) hl2 hd2 (by omega)
  generalize qv q l d = x at *
  generalize qv r m e = y at *
  have e1 := qden_c (q := ng x.num) (l := D x.num.natAbs) (d := D x.den)
  have e2 := qden_c (q := ng y.num) (l := D y.num.natAbs) (d := D y.den)
  have n1 := sq_num x
  have n2 := sq_num y
  have n3 := sq_den x
  have n4 := sq_den y
  have m1 := wmul_c (q := ng x.num) (r := false) (D_U x.num.natAbs) (show L _ ≤ _ by omega) (D_U y.den) (show L _ ≤ _ by omega)
  have m2 := wmul_c (q := ng y.num) (r := false) (D_U y.num.natAbs) (show L _ ≤ _ by omega) (D_U x.den) (show L _ ≤ _ by omega)
  rw [wv_ci, den_ci] at m1 m2
  have b1 : L (x.num * y.den).natAbs ≤ 80000000000 := by rw [Int.natAbs_mul, Int.natAbs_natCast]; have := L_mul x.num.natAbs y.den; omega
  have b2 : L (y.num * x.den).natAbs ≤ 80000000000 := by rw [Int.natAbs_mul, Int.natAbs_natCast]; have := L_mul y.num.natAbs x.den; omega
  have a1 := wadd_D (a := x.num * y.den) (b := y.num * x.den) (by omega) (by omega)
  have b3 : L (x.num * y.den + y.num * x.den).natAbs ≤ 80000000001 := by
    have h1 := L_mono (Int.natAbs_add_le (x.num * y.den) (y.num * x.den))
    have h2 := L_add (x.num * y.den).natAbs (y.num * x.den).natAbs
    omega
  have m3 := mul_D (m := x.den) (n := y.den) (by omega)
  have b4 := L_mul x.den y.den
  have f1 := form_c (n := x.num * y.den + y.num * x.den) (d := x.den * y.den) (Nat.mul_ne_zero x.den_nz y.den_nz) (by omega) (by omega)
  rw [← Rat.add_def'] at f1
  rw [R_go FF F31 c31.eq_1]
  simp only [RB, un, St.none, Nat.reduceEqDiff, Nat.reduceAdd, Nat.reduceMul, Nat.reduceMod, Nat.reduceLeDiff, Nat.reduceLT, Int.reduceLT, Int.reduceLE, Int.reduceEq, Int.reduceToNat, Int.reduceSub, Int.reduceNeg, Int.reduceAdd, ↓reduceIte, reduceCtorEq, ite_self, eq_self, if_true, if_false, pack, pid, parN, List.not_mem_nil, List.mem_cons, lid, chkK, apartV, List.map_nil, List.flatMap_nil, List.append_nil, List.nil_append, List.drop_zero, List.length_set, List.length_replicate, List.length_append, List.take_length, List.take_zero, List.drop_length, Option.isNone_none, Heap.none, k1, k2, e1, e2, m1, m2, a1, m3, f1]
theorem qneg_c {q : Bool} {l d : List Int} (hu : U l) (hl : l.length ≤ 100000000000) (hv : U d) (hd : d.length ≤ 100000000000) : R FF 96 [(AV.agg [AV.b q, (AV.l 1 (List.map u l)), (AV.l 1 (List.map u d))])] = some (AV.agg [AV.b (ng (Rat.num (-qv q l d))), (AV.l 1 (List.map u (D (Int.natAbs (Rat.num (-qv q l d)))))), (AV.l 1 (List.map u (D (Rat.den (-qv q l d)))))]) := by
  have k1 := qclean_c (q := q) hu hl hv hd
  have s1 := qv_sq (q := q) (l := l) (d := d) (k := 100000000000) hl hd (by omega)
  generalize qv q l d = x at *
  have n1 := sq_num x
  have m1 := wneg_c (q := ng x.num) (D_U x.num.natAbs) (show L _ ≤ _ by omega)
  rw [wv_ci] at m1
  rw [Rat.neg_num, Rat.neg_den]
  rw [R_go FF F96 c96.eq_1]
  simp only [RB, un, St.none, Nat.reduceEqDiff, Nat.reduceAdd, Nat.reduceMul, Nat.reduceMod, Nat.reduceLeDiff, Nat.reduceLT, Int.reduceLT, Int.reduceLE, Int.reduceEq, Int.reduceToNat, Int.reduceSub, Int.reduceNeg, Int.reduceAdd, ↓reduceIte, reduceCtorEq, ite_self, eq_self, if_true, if_false, pack, pid, parN, List.not_mem_nil, List.mem_cons, lid, chkK, apartV, List.map_nil, List.flatMap_nil, List.append_nil, List.nil_append, List.drop_zero, List.length_set, List.length_replicate, List.length_append, List.take_length, List.take_zero, List.drop_length, Option.isNone_none, Heap.none, k1, m1]
theorem qsub_c {q r : Bool} {l d m e : List Int} (hu : U l) (hl : l.length ≤ 40000000000) (hv : U d) (hd : d.length ≤ 40000000000) (hu2 : U m) (hl2 : m.length ≤ 40000000000) (hv2 : U e) (hd2 : e.length ≤ 40000000000) :
    R FF 55 [(AV.agg [AV.b q, (AV.l 1 (List.map u l)), (AV.l 1 (List.map u d))]), (AV.agg [AV.b r, (AV.l 1 (List.map u m)), (AV.l 1 (List.map u e))])] = some (AV.agg [AV.b (ng (Rat.num (qv q l d - qv r m e))), (AV.l 1 (List.map u (D (Int.natAbs (Rat.num (qv q l d - qv r m e)))))), (AV.l 1 (List.map u (D (Rat.den (qv q l d - qv r m e)))))]) := by
  have k1 := qneg_c (q := r) hu2 (by omega) hv2 (by omega)
  have s2 := qv_sq (q := r) (l := m) (d := e) (k := 40000000000) hl2 hd2 (by omega)
  rw [← sq_neg] at s2
  rw [Rat.sub_eq_add_neg]
  generalize -qv r m e = y at *
  have n2 := sq_num y
  have n4 := sq_den y
  have k2 := qadd_c (q := q) (r := ng y.num) hu hl hv hd (D_U y.num.natAbs) (show L _ ≤ _ by omega) (D_U y.den) (show L _ ≤ _ by omega)
  rw [qv_cq] at k2
  rw [R_go FF F55 c55.eq_1]
  simp only [RB, un, St.none, Nat.reduceEqDiff, Nat.reduceAdd, Nat.reduceMul, Nat.reduceMod, Nat.reduceLeDiff, Nat.reduceLT, Int.reduceLT, Int.reduceLE, Int.reduceEq, Int.reduceToNat, Int.reduceSub, Int.reduceNeg, Int.reduceAdd, ↓reduceIte, reduceCtorEq, ite_self, eq_self, if_true, if_false, pack, pid, parN, List.not_mem_nil, List.mem_cons, lid, chkK, apartV, List.map_nil, List.flatMap_nil, List.append_nil, List.nil_append, List.drop_zero, List.length_set, List.length_replicate, List.length_append, List.take_length, List.take_zero, List.drop_length, Option.isNone_none, Heap.none, k1, k2]
theorem qmul_c {q r : Bool} {l d m e : List Int} (hu : U l) (hl : l.length ≤ 40000000000) (hv : U d) (hd : d.length ≤ 40000000000) (hu2 : U m) (hl2 : m.length ≤ 40000000000) (hv2 : U e) (hd2 : e.length ≤ 40000000000) :
    R FF 94 [(AV.agg [AV.b q, (AV.l 1 (List.map u l)), (AV.l 1 (List.map u d))]), (AV.agg [AV.b r, (AV.l 1 (List.map u m)), (AV.l 1 (List.map u e))])] = some (AV.agg [AV.b (ng (Rat.num (qv q l d * qv r m e))), (AV.l 1 (List.map u (D (Int.natAbs (Rat.num (qv q l d * qv r m e)))))), (AV.l 1 (List.map u (D (Rat.den (qv q l d * qv r m e)))))]) := by
  have k1 := qclean_c (q := q) hu (by omega) hv (by omega)
  have k2 := qclean_c (q := r) hu2 (by omega) hv2 (by omega)
  have s1 := qv_sq (q := q) (l := l) (d := d) (k := 40000000000) hl hd (by omega)
  have s2 := qv_sq (q := r) (l := m) (d := e) (k := 40000000000) hl2 hd2 (by omega)
  generalize qv q l d = x at *
  generalize qv r m e = y at *
  have n1 := sq_num x
  have n2 := sq_num y
  have n3 := sq_den x
  have n4 := sq_den y
  have m1 := wmul_D (a := x.num) (b := y.num) (by omega) (by omega)
  have b1 : L (x.num * y.num).natAbs ≤ 80000000000 := by rw [Int.natAbs_mul]; have := L_mul x.num.natAbs y.num.natAbs; omega
  have m3 := mul_D (m := x.den) (n := y.den) (by omega)
  have b4 := L_mul x.den y.den
  have f1 := form_c (n := x.num * y.num) (d := x.den * y.den) (Nat.mul_ne_zero x.den_nz y.den_nz) (by omega) (by omega)
  rw [← Rat.mul_def'] at f1
  rw [R_go FF F94 c94.eq_1]
  simp only [RB, un, St.none, Nat.reduceEqDiff, Nat.reduceAdd, Nat.reduceMul, Nat.reduceMod, Nat.reduceLeDiff, Nat.reduceLT, Int.reduceLT, Int.reduceLE, Int.reduceEq, Int.reduceToNat, Int.reduceSub, Int.reduceNeg, Int.reduceAdd, ↓reduceIte, reduceCtorEq, ite_self, eq_self, if_true, if_false, pack, pid, parN, List.not_mem_nil, List.mem_cons, lid, chkK, apartV, List.map_nil, List.flatMap_nil, List.append_nil, List.nil_append, List.drop_zero, List.length_set, List.length_replicate, List.length_append, List.take_length, List.take_zero, List.drop_length, Option.isNone_none, Heap.none, k1, k2, m1, m3, f1]
theorem qone_c : R FF 56 [] = some (AV.agg [AV.b (ng (Rat.num ((1 : Rat)))), (AV.l 1 (List.map u (D (Int.natAbs (Rat.num ((1 : Rat))))))), (AV.l 1 (List.map u (D (Rat.den ((1 : Rat))))))]) := by
  have o1 := qof_c (n := 1) (by omega) (by omega)
  rw [show ((1 : Int) : Rat) = 1 from rfl] at o1
  rw [R_go FF F56 c56.eq_1]
  simp only [RB, un, St.none, Nat.reduceEqDiff, Nat.reduceAdd, Nat.reduceMul, Nat.reduceMod, Nat.reduceLeDiff, Nat.reduceLT, Int.reduceLT, Int.reduceLE, Int.reduceEq, Int.reduceToNat, Int.reduceSub, Int.reduceNeg, Int.reduceAdd, ↓reduceIte, reduceCtorEq, ite_self, eq_self, if_true, if_false, pack, pid, parN, List.not_mem_nil, List.mem_cons, lid, chkK, apartV, List.map_nil, List.flatMap_nil, List.append_nil, List.nil_append, List.drop_zero, List.length_set, List.length_replicate, List.length_append, List.take_length, List.take_zero, List.drop_length, Option.isNone_none, Heap.none, o1]
theorem qsame_c {q r : Bool} {l d m e : List Int} (hu : U l) (hl : l.length ≤ 100000000000) (hv : U d) (hd : d.length ≤ 100000000000) (hu2 : U m) (hl2 : m.length ≤ 100000000000) (hv2 : U e) (hd2 : e.length ≤ 100000000000) :
    R FF 57 [(AV.agg [AV.b q, (AV.l 1 (List.map u l)), (AV.l 1 (List.map u d))]), (AV.agg [AV.b r, (AV.l 1 (List.map u m)), (AV.l 1 (List.map u e))])] = some (.b (decide (qv q l d = qv r m e))) := by
  have k1 := qcmp_c (q := q) (r := r) hu hl hv hd hu2 hl2 hv2 hd2
  have e1 := qcmp_eq (x := qv q l d) (y := qv r m e)
  rw [show decide (qv q l d = qv r m e) = decide (qcmp (qv q l d) (qv r m e) = 0) from decide_eq_decide.2 e1.symm]
  rw [R_go FF F57 c57.eq_1]
  simp only [RB, un, St.none, Nat.reduceEqDiff, Nat.reduceAdd, Nat.reduceMul, Nat.reduceMod, Nat.reduceLeDiff, Nat.reduceLT, Int.reduceLT, Int.reduceLE, Int.reduceEq, Int.reduceToNat, Int.reduceSub, Int.reduceNeg, Int.reduceAdd, ↓reduceIte, reduceCtorEq, ite_self, eq_self, if_true, if_false, pack, pid, parN, List.not_mem_nil, List.mem_cons, lid, chkK, apartV, List.map_nil, List.flatMap_nil, List.append_nil, List.nil_append, List.drop_zero, List.length_set, List.length_replicate, List.length_append, List.take_length, List.take_zero, List.drop_length, Option.isNone_none, Heap.none, k1]
end Go.Pe
set_option linter.unusedSimpArgs false
set_option linter.unusedVariables false
open Go
namespace Go.Pe
theorem qsub_s {q r : Bool} {l d m e : List Int} {k j : Nat} (h : Sm l d k) (h2 : Sm m e j) (hk : k ≤ 40000000000) (hj : j ≤ 40000000000) : R FF 55 [(AV.agg [AV.b q, (AV.l 1 (List.map u l)), (AV.l 1 (List.map u d))]), (AV.agg [AV.b r, (AV.l 1 (List.map u m)), (AV.l 1 (List.map u e))])] = some (AV.agg [AV.b (ng (Rat.num (qv q l d - qv r m e))), (AV.l 1 (List.map u (D (Int.natAbs (Rat.num (qv q l d - qv r m e)))))), (AV.l 1 (List.map u (D (Rat.den (qv q l d - qv r m e)))))]) :=
  qsub_c h.1.1 (Nat.le_trans h.1.2 hk) h.2.1 (Nat.le_trans h.2.2 hk) h2.1.1 (Nat.le_trans h2.1.2 hj) h2.2.1 (Nat.le_trans h2.2.2 hj)
theorem qadd_s {q r : Bool} {l d m e : List Int} {k j : Nat} (h : Sm l d k) (h2 : Sm m e j) (hk : k ≤ 40000000000) (hj : j ≤ 40000000000) : R FF 31 [(AV.agg [AV.b q, (AV.l 1 (List.map u l)), (AV.l 1 (List.map u d))]), (AV.agg [AV.b r, (AV.l 1 (List.map u m)), (AV.l 1 (List.map u e))])] = some (AV.agg [AV.b (ng (Rat.num (qv q l d + qv r m e))), (AV.l 1 (List.map u (D (Int.natAbs (Rat.num (qv q l d + qv r m e)))))), (AV.l 1 (List.map u (D (Rat.den (qv q l d + qv r m e)))))]) :=
  qadd_c h.1.1 (Nat.le_trans h.1.2 hk) h.2.1 (Nat.le_trans h.2.2 hk) h2.1.1 (Nat.le_trans h2.1.2 hj) h2.2.1 (Nat.le_trans h2.2.2 hj)
theorem qmul_s {q r : Bool} {l d m e : List Int} {k j : Nat} (h : Sm l d k) (h2 : Sm m e j) (hk : k ≤ 40000000000) (hj : j ≤ 40000000000) : R FF 94 [(AV.agg [AV.b q, (AV.l 1 (List.map u l)), (AV.l 1 (List.map u d))]), (AV.agg [AV.b r, (AV.l 1 (List.map u m)), (AV.l 1 (List.map u e))])] = some (AV.agg [AV.b (ng (Rat.num (qv q l d * qv r m e))), (AV.l 1 (List.map u (D (Int.natAbs (Rat.num (qv q l d * qv r m e)))))), (AV.l 1 (List.map u (D (Rat.den (qv q l d * qv r m e)))))]) :=
  qmul_c h.1.1 (Nat.le_trans h.1.2 hk) h.2.1 (Nat.le_trans h.2.2 hk) h2.1.1 (Nat.le_trans h2.1.2 hj) h2.2.1 (Nat.le_trans h2.2.2 hj)
theorem qsame_s {q r : Bool} {l d m e : List Int} {k j : Nat} (h : Sm l d k) (h2 : Sm m e j) (hk : k ≤ 100000000000) (hj : j ≤ 100000000000) : R FF 57 [(AV.agg [AV.b q, (AV.l 1 (List.map u l)), (AV.l 1 (List.map u d))]), (AV.agg [AV.b r, (AV.l 1 (List.map u m)), (AV.l 1 (List.map u e))])] = some (.b (decide (qv q l d = qv r m e))) :=
  qsame_c h.1.1 (Nat.le_trans h.1.2 hk) h.2.1 (Nat.le_trans h.2.2 hk) h2.1.1 (Nat.le_trans h2.1.2 hj) h2.2.1 (Nat.le_trans h2.2.2 hj)
theorem sq_one : sq 1 ≤ 1 := by
  have h1 : L (1 : Rat).num.natAbs ≤ 1 := L_le (n := 1) (k := 1) (by decide)
  have h2 : L (1 : Rat).den ≤ 1 := L_le (n := 1) (k := 1) (by decide)
  unfold sq
  omega
theorem sq_zero : sq 0 ≤ 1 := by
  have h1 : L (0 : Rat).num.natAbs ≤ 0 := L_le (n := 0) (k := 0) (by decide)
  have h2 : L (0 : Rat).den ≤ 1 := L_le (n := 1) (k := 1) (by decide)
  unfold sq
  omega
theorem sq_sub (x y : Rat) : sq (x - y) ≤ sq x + sq y + 1 := by rw [Rat.sub_eq_add_neg, ← sq_neg y]; exact sq_add x (-y)
end Go.Pe
set_option linter.unusedSimpArgs false
set_option linter.unusedVariables false
open Go
namespace Go.Pe
theorem qsign_c {q : Bool} {l d : List Int} {k : Nat} (hk : k ≤ 100000000000) (h : Sm l d k) : R FF 162 [(AV.agg [AV.b q, (AV.l 1 (List.map u l)), (AV.l 1 (List.map u d))])] = some (AV.i .i64 (cmp (qv q l d).num 0)) := by
  have k1 := qclean_s (q := q) h hk
  have s1 := qv_sq (q := q) (l := l) (d := d) (k := 100000000000) (Nat.le_trans h.1.2 hk) (Nat.le_trans h.2.2 hk) (by omega)
  generalize qv q l d = x at *
  have n1 := sq_num x
  have m1 := wsign_c (q := ng x.num) (D_U x.num.natAbs) (show L _ ≤ _ by omega)
  rw [wv_ci] at m1
  rw [R_go FF F162 c162.eq_1]
  simp only [RB, un, St.none, Nat.reduceEqDiff, Nat.reduceAdd, Nat.reduceMul, Nat.reduceMod, Nat.reduceLeDiff, Nat.reduceLT, Int.reduceLT, Int.reduceLE, Int.reduceEq, Int.reduceToNat, Int.reduceSub, Int.reduceNeg, Int.reduceAdd, ↓reduceIte, reduceCtorEq, ite_self, eq_self, if_true, if_false, pack, pid, parN, List.not_mem_nil, List.mem_cons, lid, chkK, apartV, List.map_nil, List.flatMap_nil, List.append_nil, List.nil_append, List.drop_zero, List.length_set, List.length_replicate, List.length_append, List.take_length, List.take_zero, List.drop_length, Option.isNone_none, Heap.none, k1, m1]
def SmL (p : List RQt) (k : Nat) : Prop := ∀ x ∈ p, Sm x.2.1 x.2.2 k
end Go.Pe
set_option linter.unusedSimpArgs false
set_option linter.unusedVariables false
open Go
namespace Go.Pe
abbrev Fn := Nat → Rat
def sh (f : Fn) : Fn := fun i => f (i + 1)
def mu : Fn → Fn → Nat → Rat
  | f, g, 0 => f 0 * g 0
  | f, g, j + 1 => f 0 * g (j + 1) + mu (sh f) g j
theorem mu_zero (f g : Fn) : mu f g 0 = f 0 * g 0 := by rw [mu]
theorem mu_succ (f g : Fn) (j : Nat) : mu f g (j + 1) = f 0 * g (j + 1) + mu (sh f) g j := by rw [mu]
theorem mu_addl (f f' g : Fn) : ∀ j, mu (fun i => f i + f' i) g j = mu f g j + mu f' g j := by
  intro j
  induction j generalizing f f' with
  | zero => rw [mu_zero, mu_zero, mu_zero]; grind
  | succ j ih => rw [mu_succ, mu_succ, mu_succ, show sh (fun i => f i + f' i) = fun i => sh f i + sh f' i from rfl, ih]; grind
theorem mu_scl (c : Rat) (f g : Fn) : ∀ j, mu (fun i => c * f i) g j = c * mu f g j := by
  intro j
  induction j generalizing f with
  | zero => rw [mu_zero, mu_zero]; grind
  | succ j ih => rw [mu_succ, mu_succ, show sh (fun i => c * f i) = fun i => c * sh f i from rfl, ih]; grind
theorem mu_z (g : Fn) : ∀ j, mu (fun _ => 0) g j = 0 := by
  intro j
  induction j with
  | zero => rw [mu_zero]; grind
  | succ j ih => rw [mu_succ, show sh (fun _ => (0 : Rat)) = fun _ => 0 from rfl, ih]; grind
def cv (f g : Fn) : Nat → Nat → Rat
  | 0, _ => 0
  | n + 1, j => cv f g n j + (if n ≤ j then f n * g (j - n) else 0)
theorem cv_front (f g : Fn) (j : Nat) : ∀ n, cv f g (n + 1) (j + 1) = f 0 * g (j + 1) + cv (sh f) g n j := by
  intro n
  induction n with
  | zero => unfold cv; unfold cv; rw [if_pos (by omega)]; rw [Nat.sub_zero]; grind
  | succ n ih =>
    rw [cv, ih]
    show _ = _ + (cv (sh f) g n j + (if n ≤ j then f (n + 1) * g (j - n) else 0))
    rw [show j + 1 - (n + 1) = j - n by omega]
    by_cases c : n ≤ j
    · rw [if_pos c, if_pos (by omega)]; grind
    · rw [if_neg c, if_neg (by omega)]; grind
theorem cv_mu (f g : Fn) : ∀ j, cv f g (j + 1) j = mu f g j := by
  intro j
  induction j generalizing f with
  | zero => unfold cv; unfold cv; rw [if_pos (by omega), mu_zero]; grind
  | succ j ih => rw [cv_front, ih, mu_succ]
def Dg (f : Fn) (n : Nat) : Prop := ∀ i, n ≤ i → f i = 0
theorem Dg.mono {f : Fn} {n m : Nat} (h : Dg f n) (hm : n ≤ m) : Dg f m := fun i hi => h i (by omega)
theorem cv_ge (f g : Fn) (j : Nat) : ∀ d n, (∀ i, n ≤ i → i ≤ j → f i = 0) → cv f g (n + d) j = cv f g n j := by
  intro d
  induction d with
  | zero => intro n _; rfl
  | succ d ih =>
    intro n h
    show cv f g (n + d) j + (if n + d ≤ j then f (n + d) * g (j - (n + d)) else 0) = _
    rw [ih n h]
    by_cases c : n + d ≤ j
    · rw [if_pos c, h (n + d) (by omega) c]; grind
    · rw [if_neg c]; grind
theorem cv_dg {f : Fn} {n : Nat} (h : Dg f n) (g : Fn) (j : Nat) : cv f g n j = mu f g j := by
  rw [← cv_mu]
  rcases Nat.le_total n (j + 1) with c | c
  · have := cv_ge f g j (j + 1 - n) n (fun i hi _ => h i hi)
    rw [← this, show n + (j + 1 - n) = j + 1 by omega]
  · have := cv_ge f g j (n - (j + 1)) (j + 1) (fun i hi hj => by omega)
    rw [← this, show j + 1 + (n - (j + 1)) = n by omega]
def Dv (c a : Fn) : Prop := ∃ t n, Dg t n ∧ a = mu t c
theorem Dv.zero (c : Fn) : Dv c (fun _ => 0) := ⟨fun _ => 0, 0, fun _ _ => rfl, by funext j; rw [mu_z]⟩
theorem Dv.sc {c a : Fn} (h : Dv c a) (k : Rat) : Dv c (fun i => k * a i) := by
  obtain ⟨t, n, ht, rfl⟩ := h
  exact ⟨fun i => k * t i, n, fun i hi => by show k * t i = 0; rw [ht i hi]; grind, by funext j; rw [mu_scl]⟩
end Go.Pe
set_option linter.unusedSimpArgs false
set_option linter.unusedVariables false
open Go
namespace Go.Pe
def co (l : List Rat) (i : Nat) : Rat := l.getD i 0
def mkL (f : Fn) (n : Nat) : List Rat := (List.range n).map f
theorem mkL_len (f : Fn) (n : Nat) : (mkL f n).length = n := by simp [mkL]
theorem co_mk (f : Fn) (n i : Nat) : co (mkL f n) i = if i < n then f i else 0 := by
  unfold co mkL
  rw [List.getD_eq_getElem?_getD, List.getElem?_map]
  by_cases h : i < n
  · rw [if_pos h, List.getElem?_range h]; rfl
  · rw [if_neg h, List.getElem?_eq_none (by rw [List.length_range]; omega)]; rfl
theorem co_big {l : List Rat} {i : Nat} (h : l.length ≤ i) : co l i = 0 := by
  unfold co
  rw [List.getD_eq_getElem?_getD, List.getElem?_eq_none h]; rfl
theorem co_dg (l : List Rat) : Dg (co l) l.length := fun i hi => co_big hi
def tlR (l : List Rat) : Nat → Nat
  | 0 => 0
  | n + 1 => if co l n = 0 then tlR l n else n + 1
def tr (l : List Rat) : List Rat := l.take (tlR l l.length)
theorem tlR_le (l : List Rat) : ∀ n, tlR l n ≤ n := by
  intro n
  induction n with
  | zero => exact Nat.le_refl _
  | succ n ih => unfold tlR; split <;> omega
theorem tlR_zero {l : List Rat} : ∀ n i, tlR l n ≤ i → i < n → co l i = 0 := by
  intro n
  induction n with
  | zero => intro i _ h; omega
  | succ n ih =>
    intro i h1 h2
    unfold tlR at h1
    by_cases h0 : co l n = 0
    · rw [if_pos h0] at h1
      by_cases e : i = n
      · rw [e]; exact h0
      · exact ih i h1 (by omega)
    · rw [if_neg h0] at h1; omega
theorem tlR_top {l : List Rat} : ∀ n, 0 < tlR l n → co l (tlR l n - 1) ≠ 0 := by
  intro n
  induction n with
  | zero => intro h; exact absurd h (by unfold tlR; omega)
  | succ n ih =>
    intro h
    unfold tlR at h ⊢
    by_cases h0 : co l n = 0
    · rw [if_pos h0] at h ⊢; exact ih h
    · rw [if_neg h0]; exact h0
theorem tr_len (l : List Rat) : (tr l).length = tlR l l.length := by
  unfold tr
  rw [List.length_take]
  have := tlR_le l l.length
  omega
theorem tr_le (l : List Rat) : (tr l).length ≤ l.length := by rw [tr_len]; exact tlR_le _ _
theorem co_take (l : List Rat) (n i : Nat) : co (l.take n) i = if i < n then co l i else 0 := by
  unfold co
  rw [List.getD_eq_getElem?_getD, List.getD_eq_getElem?_getD]
  by_cases h : i < n
  · rw [if_pos h, List.getElem?_take_of_lt h]
  · rw [if_neg h, List.getElem?_eq_none (by rw [List.length_take]; omega)]; rfl
theorem co_tr (l : List Rat) (i : Nat) : co (tr l) i = co l i := by
  unfold tr
  rw [co_take]
  split
  · rfl
  · rename_i h
    by_cases h2 : i < l.length
    · exact (tlR_zero l.length i (by omega) h2).symm
    · rw [co_big (by omega)]
def Ca (l : List Rat) : Prop := l.length = 0 ∨ co l (l.length - 1) ≠ 0
theorem ca_tr (l : List Rat) : Ca (tr l) := by
  unfold Ca
  rcases Nat.eq_zero_or_pos (tr l).length with h | h
  · exact .inl h
  · refine .inr ?_
    rw [co_tr, tr_len]
    rw [tr_len] at h
    exact tlR_top _ h
theorem ca_len {l : List Rat} {n : Nat} (h : Ca l) (hn : Dg (co l) n) : l.length ≤ n := by
  rcases h with h | h
  · omega
  · rcases Nat.lt_or_ge n l.length with k | k
    · exact absurd (hn _ (by omega)) h
    · exact k
theorem ca_top {l : List Rat} (h : Ca l) (hn : l ≠ []) : co l (l.length - 1) ≠ 0 := by
  rcases h with h | h
  · exact absurd (List.length_eq_zero_iff.1 h) hn
  · exact h
def tk (f : Fn) (n : Nat) : List Rat := tr (mkL f n)
theorem co_tk {f : Fn} {n : Nat} (h : Dg f n) : co (tk f n) = f := by
  funext i
  unfold tk
  rw [co_tr, co_mk]
  split
  · rfl
  · exact (h i (by omega)).symm
theorem ca_tk (f : Fn) (n : Nat) : Ca (tk f n) := ca_tr _
theorem tk_le (f : Fn) (n : Nat) : (tk f n).length ≤ n := Nat.le_trans (tr_le _) (Nat.le_of_eq (mkL_len f n))
theorem dg_sc {f : Fn} {n : Nat} (hf : Dg f n) (c : Rat) : Dg (fun i => f i * c) n := fun i hi => by show f i * c = 0; rw [hf i hi]; grind
def scT (a : List Rat) (c : Rat) : List Rat := tk (fun i => co a i * c) a.length
theorem co_scT (a : List Rat) (c : Rat) : co (scT a c) = fun i => co a i * c := co_tk (dg_sc (co_dg a) c)
def dvG (A B : Fn) (m n : Nat) : Nat → Fn
  | 0 => A
  | s + 1 => fun j => dvG A B m n s j - (if n - 1 - s ≤ j then dvG A B m n s (n - 1 - s + m) * (B m)⁻¹ * B (j - (n - 1 - s)) else 0)
def dvC (A B : Fn) (m n i : Nat) : Rat := dvG A B m n (n - 1 - i) (i + m) * (B m)⁻¹
def dvP (A B : Fn) (m n s : Nat) : Fn := fun i => if n - s ≤ i ∧ i < n then dvC A B m n i else 0
theorem mu_one (c : Rat) (g : Fn) : ∀ i j, mu (fun k => if k = i then c else 0) g j = if i ≤ j then c * g (j - i) else 0 := by
  intro i
  induction i with
  | zero =>
    intro j
    have e : sh (fun k => if k = 0 then c else 0) = fun _ => 0 := by funext k; simp [sh]
    cases j with
    | zero => rw [mu_zero]; simp
    | succ j => rw [mu_succ, e, mu_z]; simp; grind
  | succ i ih =>
    intro j
    have e : sh (fun k => if k = i + 1 then c else 0) = fun k => if k = i then c else 0 := by funext k; simp [sh]
    cases j with
    | zero => rw [mu_zero]; simp
    | succ j => rw [mu_succ, e, ih, Nat.add_sub_add_right]; simp [Rat.zero_add]
theorem dvP_succ {A B : Fn} {m n s : Nat} (h : s < n) : dvP A B m n (s + 1) = fun i => dvP A B m n s i + (if i = n - 1 - s then dvC A B m n (n - 1 - s) else 0) := by
  funext i
  unfold dvP
  by_cases c : i = n - 1 - s
  · rw [if_pos (by omega), if_neg (by omega), if_pos c, c]; grind
  · rw [if_neg c]
    by_cases d : n - s ≤ i ∧ i < n
    · rw [if_pos d, if_pos (by omega)]; grind
    · rw [if_neg d, if_neg (by omega)]; grind
theorem dv_eq {A B : Fn} {m n : Nat} : ∀ s, s ≤ n → ∀ j, A j = mu (dvP A B m n s) B j + dvG A B m n s j := by
  intro s
  induction s with
  | zero =>
    intro _ j
    have e : dvP A B m n 0 = fun _ => 0 := by funext i; unfold dvP; rw [if_neg (by omega)]
    rw [e, mu_z]; unfold dvG; grind
  | succ s ih =>
    intro hs j
    rw [dvP_succ (by omega), mu_addl, mu_one]
    have h := ih (by omega) j
    have e : dvC A B m n (n - 1 - s) = dvG A B m n s (n - 1 - s + m) * (B m)⁻¹ := by unfold dvC; rw [show n - 1 - (n - 1 - s) = s by omega]
    rw [e]
    show A j = _ + (dvG A B m n s j - (if n - 1 - s ≤ j then dvG A B m n s (n - 1 - s + m) * (B m)⁻¹ * B (j - (n - 1 - s)) else 0))
    grind
theorem dvG_dg {A B : Fn} {m n : Nat} (hA : Dg A (n + m)) (hB : Dg B (m + 1)) (h0 : B m ≠ 0) : ∀ s, s ≤ n → Dg (dvG A B m n s) (n - s + m) := by
  intro s
  induction s with
  | zero => intro _ i hi; exact hA i (by omega)
  | succ s ih =>
    intro hs j hj
    have h := ih (by omega)
    show dvG A B m n s j - (if n - 1 - s ≤ j then dvG A B m n s (n - 1 - s + m) * (B m)⁻¹ * B (j - (n - 1 - s)) else 0) = 0
    rw [if_pos (by omega)]
    by_cases c : j = n - 1 - s + m
    · rw [c, Nat.add_sub_cancel_left]
      have := Rat.inv_mul_cancel (B m) h0
      grind
    · rw [h j (by omega), hB (j - (n - 1 - s)) (by omega)]; grind
def dvQ (A B : List Rat) : List Rat := if A.length < B.length then [] else tk (dvC (co A) (co B) (B.length - 1) (A.length - B.length + 1)) (A.length - B.length + 1)
def dvR (A B : List Rat) : List Rat := if A.length < B.length then A else tk (dvG (co A) (co B) (B.length - 1) (A.length - B.length + 1) (A.length - B.length + 1)) A.length
theorem dvR_ca {A : List Rat} (B : List Rat) (h : Ca A) : Ca (dvR A B) := by unfold dvR; split; exact h; exact ca_tk _ _
theorem dvR_eq {A B : List Rat} (hB : Ca B) (hb : B ≠ []) : (∀ j, co A j = mu (co (dvQ A B)) (co B) j + co (dvR A B) j) ∧ Dg (co (dvR A B)) (B.length - 1) := by
  have hl : 0 < B.length := by cases B with | nil => exact absurd rfl hb | cons _ _ => simp
  unfold dvQ dvR
  by_cases c : A.length < B.length
  · rw [if_pos c, if_pos c]
    refine ⟨fun j => ?_, fun i hi => co_dg A i (by omega)⟩
    have e : co [] = fun _ => 0 := by funext i; rfl
    rw [e, mu_z]; grind
  · rw [if_neg c, if_neg c]
    have hg : Dg (co B) (B.length - 1 + 1) := fun i hi => co_dg B i (by omega)
    have h2 := dvG_dg (A := co A) (n := A.length - B.length + 1) (fun i hi => co_dg A i (by omega)) hg (ca_top hB hb) (A.length - B.length + 1) (by omega)
    rw [Nat.sub_self, Nat.zero_add] at h2
    have e1 : co (tk (dvG (co A) (co B) (B.length - 1) (A.length - B.length + 1) (A.length - B.length + 1)) A.length) = _ := co_tk (h2.mono (by omega))
    have h3 := dv_eq (A := co A) (B := co B) (m := B.length - 1) (n := A.length - B.length + 1) (A.length - B.length + 1) (Nat.le_refl _)
    have e2 : co (tk (dvC (co A) (co B) (B.length - 1) (A.length - B.length + 1)) (A.length - B.length + 1)) = dvP (co A) (co B) (B.length - 1) (A.length - B.length + 1) (A.length - B.length + 1) := by
      funext i
      unfold tk dvP
      rw [co_tr, co_mk, Nat.sub_self]
      by_cases k : i < A.length - B.length + 1
      · rw [if_pos k, if_pos (by omega)]
      · rw [if_neg k, if_neg (by omega)]
    rw [e1, e2]
    exact ⟨h3, h2⟩
theorem dvR_len {A B : List Rat} (hA : Ca A) (hB : Ca B) (hb : B ≠ []) : (dvR A B).length < B.length := by
  have hl : 0 < B.length := by cases B with | nil => exact absurd rfl hb | cons _ _ => simp
  have := ca_len (dvR_ca B hA) (dvR_eq (A := A) hB hb).2
  omega
end Go.Pe
set_option linter.unusedSimpArgs false
set_option linter.unusedVariables false
open Go
namespace Go.Pe
def SzE (f : Fn) (k : Nat) : Prop := ∀ i, sq (f i) ≤ k
theorem SzE.mono {f : Fn} {k m : Nat} (h : SzE f k) (hm : k ≤ m) : SzE f m := fun i => Nat.le_trans (h i) hm
theorem SzE.add {f g : Fn} {k m : Nat} (hf : SzE f k) (hg : SzE g m) : SzE (fun i => f i + g i) (k + m + 1) := fun i => by have := sq_add (f i) (g i); have := hf i; have := hg i; show sq (f i + g i) ≤ _; omega
theorem SzE.sub {f g : Fn} {k m : Nat} (hf : SzE f k) (hg : SzE g m) : SzE (fun i => f i - g i) (k + m + 1) := fun i => by have := sq_sub (f i) (g i); have := hf i; have := hg i; show sq (f i - g i) ≤ _; omega
theorem SzE.sc {f : Fn} {k m : Nat} (hf : SzE f k) {c : Rat} (hc : sq c ≤ m) : SzE (fun i => f i * c) (k + m) := fun i => by have := sq_mul (f i) c; have := hf i; show sq (f i * c) ≤ _; omega
theorem SzE.cv {f g : Fn} {k m : Nat} (hf : SzE f k) (hg : SzE g m) (j : Nat) : ∀ n, sq (cv f g n j) ≤ n * (k + m + 1) + 1 := by
  intro n
  induction n with
  | zero => have := sq_zero; rw [show Go.Pe.cv f g 0 j = 0 from rfl]; omega
  | succ n ih =>
    rw [show Go.Pe.cv f g (n + 1) j = Go.Pe.cv f g n j + (if n ≤ j then f n * g (j - n) else 0) from rfl]
    rw [Nat.add_mul]
    split
    · have := sq_add (Go.Pe.cv f g n j) (f n * g (j - n)); have := sq_mul (f n) (g (j - n)); have := hf n; have := hg (j - n); omega
    · rw [Rat.add_zero]; omega
theorem SzE.mu {f g : Fn} {k m n : Nat} (hf : SzE f k) (hg : SzE g m) (hd : Dg f n) : SzE (Go.Pe.mu f g) (n * (k + m + 1) + 1) := fun j => by rw [← cv_dg hd]; exact SzE.cv hf hg j n
theorem SzE.one : SzE (co [1]) 1 := fun i => by
  cases i with
  | zero => exact sq_one
  | succ i => rw [co_big (by simp)]; exact sq_zero
theorem SzE.nil : SzE (co []) 1 := fun i => by rw [co_big (by simp)]; exact sq_zero
end Go.Pe
set_option linter.unusedSimpArgs false
set_option linter.unusedVariables false
open Go
namespace Go.Pe
def SzF (f : Fn) (k : Nat) : Prop := ∃ e : Int, e ≠ 0 ∧ L e.natAbs ≤ k ∧ ∀ i, ∃ n : Int, L n.natAbs ≤ k ∧ f i * (e : Rat) = (n : Rat)
theorem cast_ne {e : Int} (h : e ≠ 0) : (e : Rat) ≠ 0 := fun k => h (by have := congrArg Rat.num k; simpa using this)
theorem sq_div {x : Rat} {e n : Int} {k : Nat} (he : e ≠ 0) (h1 : L e.natAbs ≤ k) (h2 : L n.natAbs ≤ k) (h : x * (e : Rat) = (n : Rat)) : sq x ≤ k := by
  have h0 := cast_ne he
  have hx : x = Rat.divInt n e := by
    rw [Rat.divInt_eq_div, Rat.div_def, ← h, Rat.mul_assoc, Rat.mul_inv_cancel _ h0, Rat.mul_one]
  rw [hx]
  rcases Int.lt_or_le e 0 with c | c
  · have e1 : e = -((e.natAbs : Nat) : Int) := by omega
    rw [e1, Rat.divInt_neg', Rat.divInt_ofNat]
    have := sq_mk (n := -n) (d := e.natAbs) (by omega)
    rw [Int.natAbs_neg] at this
    omega
  · have e1 : e = ((e.natAbs : Nat) : Int) := by omega
    rw [e1, Rat.divInt_ofNat]
    have := sq_mk (n := n) (d := e.natAbs) (by omega)
    omega
theorem SzF.sq {f : Fn} {k : Nat} (h : SzF f k) : SzE f k := by
  obtain ⟨e, he, h1, h2⟩ := h
  intro i
  obtain ⟨n, hn, h3⟩ := h2 i
  exact sq_div he h1 hn h3
theorem SzF.mono {f : Fn} {k m : Nat} (h : SzF f k) (hm : k ≤ m) : SzF f m := by
  obtain ⟨e, he, h1, h2⟩ := h
  exact ⟨e, he, by omega, fun i => by obtain ⟨n, hn, h3⟩ := h2 i; exact ⟨n, by omega, h3⟩⟩
theorem L_imul (a b : Int) : L (a * b).natAbs ≤ L a.natAbs + L b.natAbs := by rw [Int.natAbs_mul]; exact L_mul _ _
theorem L_isub (a b : Int) {k : Nat} (ha : L a.natAbs ≤ k) (hb : L b.natAbs ≤ k) : L (a - b).natAbs ≤ k + 1 := by
  have h1 := L_mono (Int.natAbs_sub_le a b)
  have h2 := L_add a.natAbs b.natAbs
  omega
theorem num_den (x : Rat) : x * ((x.den : Int) : Rat) = (x.num : Rat) := by
  have h0 : ((x.den : Int) : Rat) ≠ 0 := cast_ne (by have := x.den_nz; omega)
  have h := Rat.num_divInt_den x
  rw [Rat.divInt_eq_div, Rat.div_def] at h
  generalize ((x.den : Int) : Rat) = d at *
  generalize ((x.num : Int) : Rat) = n at *
  rw [← h, Rat.mul_assoc, Rat.inv_mul_cancel _ h0, Rat.mul_one]
theorem szF_of {f : Fn} {k : Nat} (h : SzE f k) : ∀ n, ∃ e : Int, e ≠ 0 ∧ L e.natAbs ≤ n * k + 1 ∧ ∀ i, i < n → ∃ m : Int, L m.natAbs ≤ n * k + 1 ∧ f i * (e : Rat) = (m : Rat) := by
  intro n
  induction n with
  | zero => exact ⟨1, by decide, by have : L 1 ≤ 1 := L_le (n := 1) (k := 1) (by decide); show L 1 ≤ _; omega, fun i hi => by omega⟩
  | succ n ih =>
    obtain ⟨e, he, h1, h2⟩ := ih
    have hn := h n
    have a1 := sq_num (f n)
    have a2 := sq_den (f n)
    have b1 := L_imul e ((f n).den : Int)
    rw [Int.natAbs_natCast] at b1
    rw [Nat.add_mul, Nat.one_mul]
    refine ⟨e * ((f n).den : Int), Int.mul_ne_zero he (by have := (f n).den_nz; omega), by omega, fun i hi => ?_⟩
    have hd := num_den (f n)
    by_cases c : i = n
    · refine ⟨(f n).num * e, ?_, ?_⟩
      · have := L_imul (f n).num e; omega
      · rw [c, Rat.intCast_mul, Rat.intCast_mul]; grind
    · obtain ⟨m, hm, h3⟩ := h2 i (by omega)
      refine ⟨m * ((f n).den : Int), ?_, ?_⟩
      · have := L_imul m ((f n).den : Int); rw [Int.natAbs_natCast] at this; omega
      · rw [Rat.intCast_mul, Rat.intCast_mul]; grind
theorem SzE.f {f : Fn} {k n : Nat} (h : SzE f k) (hd : Dg f n) : SzF f (n * k + 1) := by
  obtain ⟨e, he, h1, h2⟩ := szF_of h n
  refine ⟨e, he, h1, fun i => ?_⟩
  by_cases c : i < n
  · exact h2 i c
  · refine ⟨0, Nat.le_trans (L_le (n := 0) (k := 0) (by decide)) (Nat.zero_le _), ?_⟩
    rw [hd i (by omega)]
    show (0 : Rat) * _ = 0
    grind
theorem SzF.step {g b : Fn} {k m s t i : Nat} (hg : SzF g k) (hb : SzF b m) (h0 : b t ≠ 0) : SzF (fun j => g j - (if i ≤ j then g s * (b t)⁻¹ * b (j - i) else 0)) (k + m + 1) := by
  obtain ⟨e, he, h1, h2⟩ := hg
  obtain ⟨d, hd, k1, k2⟩ := hb
  obtain ⟨N, hN, hN2⟩ := h2 s
  obtain ⟨M, hM, hM2⟩ := k2 t
  have hM0 : M ≠ 0 := fun h => by
    rw [h] at hM2
    rcases Rat.mul_eq_zero.1 hM2 with h | h
    · exact h0 h
    · exact cast_ne hd h
  have hi := Rat.inv_mul_cancel _ h0
  refine ⟨e * M, Int.mul_ne_zero he hM0, by have := L_imul e M; omega, fun j => ?_⟩
  obtain ⟨n, hn, hn2⟩ := h2 j
  by_cases c : i ≤ j
  · obtain ⟨m', hm, hm2⟩ := k2 (j - i)
    refine ⟨n * M - N * m', L_isub _ _ (by have := L_imul n M; omega) (by have := L_imul N m'; omega), ?_⟩
    show (g j - (if i ≤ j then g s * (b t)⁻¹ * b (j - i) else 0)) * _ = _
    rw [if_pos c, Rat.intCast_mul, Rat.intCast_sub, Rat.intCast_mul, Rat.intCast_mul, ← hn2, ← hN2, ← hM2, ← hm2]
    generalize (b t)⁻¹ = v at *
    generalize (e : Rat) = e at *
    generalize (d : Rat) = d at *
    generalize b t = bt at *
    generalize g s = gs at *
    generalize g j = gj at *
    generalize b (j - i) = bj at *
    have e1 : (gj - gs * v * bj) * (e * (bt * d)) = gj * e * (bt * d) - gs * e * (bj * d) * (v * bt) := by grind
    rw [e1, hi]; grind
  · refine ⟨n * M, by have := L_imul n M; omega, ?_⟩
    show (g j - (if i ≤ j then g s * (b t)⁻¹ * b (j - i) else 0)) * _ = _
    rw [if_neg c, Rat.intCast_mul, Rat.intCast_mul, ← hn2]
    grind
theorem dvG_sz {A B : Fn} {k m n t : Nat} (hA : SzF A k) (hB : SzF B m) (h0 : B t ≠ 0) : ∀ s, SzF (dvG A B t n s) (k + s * (m + 1)) := by
  intro s
  induction s with
  | zero => exact hA.mono (by omega)
  | succ s ih => exact (SzF.step ih hB h0).mono (by rw [Nat.add_mul]; omega)
theorem sq_inv (x : Rat) : sq x⁻¹ ≤ sq x + 1 := by
  unfold sq
  rw [Rat.num_inv, Rat.den_inv, Int.natAbs_mul, Int.natAbs_natCast]
  have h1 : L (x.num.sign.natAbs * x.den) ≤ L x.den := L_mono (by
    have : x.num.sign.natAbs ≤ 1 := by rcases Int.lt_trichotomy x.num 0 with h | h | h
                                       · rw [Int.sign_eq_neg_one_of_neg h]; decide
                                       · rw [h]; decide
                                       · rw [Int.sign_eq_one_of_pos h]; decide
    calc x.num.sign.natAbs * x.den ≤ 1 * x.den := Nat.mul_le_mul_right _ this
      _ = x.den := Nat.one_mul _)
  split
  · have : L 1 ≤ 1 := L_le (n := 1) (k := 1) (by decide)
    omega
  · omega
theorem dvR_sz {A B : List Rat} {k : Nat} (hA : SzF (co A) k) (hB : SzF (co B) k) (hc : Ca B) (hb : B ≠ []) : SzF (co (dvR A B)) (k + (A.length - B.length + 1) * (k + 1)) := by
  unfold dvR
  split
  · exact hA.mono (Nat.le_add_right _ _)
  · rename_i c
    have hl : 0 < B.length := by cases B with | nil => exact absurd rfl hb | cons _ _ => simp
    have h2 := dvG_dg (A := co A) (B := co B) (m := B.length - 1) (n := A.length - B.length + 1) (fun i hi => co_dg A i (by omega)) (fun i hi => co_dg B i (by omega)) (ca_top hc hb) (A.length - B.length + 1) (Nat.le_refl _)
    rw [co_tk (h2.mono (by omega))]
    exact dvG_sz hA hB (ca_top hc hb) _
theorem euc_sz {a b : List Rat} {k : Nat} (ha : Ca a) (hb : Ca b) (h1 : SzF (co a) k) (h2 : SzF (co b) k) (h0 : b ≠ []) (c : b.length ≤ a.length) :
    ∃ k', k ≤ k' ∧ SzF (co b) k' ∧ SzF (co (dvR a b)) k' ∧ (k' + 1) * 2 ^ (b.length + (dvR a b).length) ≤ (k + 1) * 2 ^ (a.length + b.length) := by
  have hr := dvR_len ha hb h0
  have h3 := dvR_sz h1 h2 hb h0
  refine ⟨_, Nat.le_add_right _ _, h2.mono (Nat.le_add_right k _), h3, ?_⟩
  have e1 : k + (a.length - b.length + 1) * (k + 1) + 1 = (a.length - b.length + 2) * (k + 1) := by rw [Nat.add_mul, Nat.add_mul (a.length - b.length) 2]; omega
  rw [e1]
  have e2 : a.length - b.length + 2 ≤ 2 ^ (a.length - b.length + 1) := by
    have : a.length - b.length + 1 < 2 ^ (a.length - b.length + 1) := Nat.lt_two_pow_self
    omega
  have e3 : 2 ^ (b.length + (dvR a b).length) ≤ 2 ^ (b.length + b.length - 1) := Nat.pow_le_pow_right (by omega) (by omega)
  calc (a.length - b.length + 2) * (k + 1) * 2 ^ (b.length + (dvR a b).length) ≤ 2 ^ (a.length - b.length + 1) * (k + 1) * 2 ^ (b.length + b.length - 1) := Nat.mul_le_mul (Nat.mul_le_mul_right _ e2) e3
    _ = (k + 1) * (2 ^ (a.length - b.length + 1) * 2 ^ (b.length + b.length - 1)) := by rw [Nat.mul_comm (2 ^ _) (k + 1), Nat.mul_assoc]
    _ = (k + 1) * 2 ^ (a.length + b.length) := by
      have hl : 0 < b.length := by cases b with | nil => exact absurd rfl h0 | cons _ _ => simp
      rw [← Nat.pow_add, show a.length - b.length + 1 + (b.length + b.length - 1) = a.length + b.length by omega]
theorem k_pow (k n : Nat) : k ≤ (k + 1) * 2 ^ n := by
  have hp : 1 ≤ 2 ^ n := Nat.one_le_two_pow
  have := Nat.mul_le_mul_left (k + 1) hp
  omega
theorem SzF.scm {f : Fn} {k : Nat} (h : SzF f k) : SzF (fun i => f i * (-1)) k := by
  obtain ⟨e, he, h1, h2⟩ := h
  refine ⟨e, he, h1, fun i => ?_⟩
  obtain ⟨n, hn, h3⟩ := h2 i
  refine ⟨-n, by rw [Int.natAbs_neg]; exact hn, ?_⟩
  rw [Rat.intCast_neg, ← h3]; grind
end Go.Pe
set_option linter.unusedSimpArgs false
set_option linter.unusedVariables false
open Go
namespace Go.Pe
theorem sq_int (n : Int) (h : n.natAbs < 4294967296) : sq (n : Rat) ≤ 1 := by
  unfold sq
  rw [Rat.num_intCast, Rat.den_intCast]
  have h1 : L n.natAbs ≤ 1 := L_le (n := n.natAbs) (k := 1) (by omega)
  have h2 : L 1 ≤ 1 := L_le (n := 1) (k := 1) (by decide)
  omega
end Go.Pe
set_option linter.unusedSimpArgs false
set_option linter.unusedVariables false
open Go
namespace Go.Pe
theorem qmake_c {n d : Int} (hn : L n.natAbs ≤ 100000000000) (hd : L d.natAbs ≤ 100000000000) (h0 : d ≠ 0) : R FF 122 [(AV.agg [AV.b (ng n), (AV.l 1 (List.map u (D (Int.natAbs n))))]), (AV.agg [AV.b (ng d), (AV.l 1 (List.map u (D (Int.natAbs d))))])] = some (.tup [(AV.agg [AV.b (ng (Rat.num ((Rat.divInt n d)))), (AV.l 1 (List.map u (D (Int.natAbs (Rat.num ((Rat.divInt n d))))))), (AV.l 1 (List.map u (D (Rat.den ((Rat.divInt n d))))))]), (AV.i .i64 0)]) := by
  have k1 := wclean_c (q := ng n) (D_U n.natAbs) (show L _ ≤ _ by omega)
  have k2 := wclean_c (q := ng d) (D_U d.natAbs) (show L _ ≤ _ by omega)
  have s1 := wsign_c (q := ng d) (D_U d.natAbs) (show L _ ≤ _ by omega)
  have m1 := wneg_c (q := ng n) (D_U n.natAbs) (show L _ ≤ _ by omega)
  rw [wv_ci] at k1 k2 s1 m1
  have c0 : ¬ cmp d 0 = 0 := fun h => h0 (cmp_eq_iff.1 h)
  rcases Int.lt_or_le d 0 with c | c
  · have e1 : d = -((d.natAbs : Nat) : Int) := by omega
    have e2 : Rat.divInt n d = mkRat (-n) d.natAbs := by
      conv => lhs; rw [e1]
      rw [Rat.divInt_neg', Rat.divInt_ofNat]
    have f1 := form_c (n := -n) (d := d.natAbs) (by omega) (by rw [Int.natAbs_neg]; omega) hd
    have b1 : ng d = true := by unfold ng; exact decide_eq_true c
    rw [e2]
    rw [b1] at k2 s1 ⊢
    generalize mkRat (-n) d.natAbs = z at *
    rw [R_go FF F122 c122.eq_1]
    simp only [RB, un, St.none, Nat.reduceEqDiff, Nat.reduceAdd, Nat.reduceMul, Nat.reduceMod, Nat.reduceLeDiff, Nat.reduceLT, Int.reduceLT, Int.reduceLE, Int.reduceEq, Int.reduceToNat, Int.reduceSub, Int.reduceNeg, Int.reduceAdd, ↓reduceIte, reduceCtorEq, ite_self, eq_self, if_true, if_false, pack, pid, parN, List.not_mem_nil, List.mem_cons, lid, chkK, apartV, List.map_nil, List.flatMap_nil, List.append_nil, List.nil_append, List.drop_zero, List.length_set, List.length_replicate, List.length_append, List.take_length, List.take_zero, List.drop_length, Option.isNone_none, Heap.none, k1, k2, s1, m1, c0, f1]
  · have e1 : d = ((d.natAbs : Nat) : Int) := by omega
    have e2 : Rat.divInt n d = mkRat n d.natAbs := by
      conv => lhs; rw [e1]
      rw [Rat.divInt_ofNat]
    have f1 := form_c (n := n) (d := d.natAbs) (by omega) hn hd
    have b1 : ng d = false := ng_false.2 c
    rw [e2]
    rw [b1] at k2 s1 ⊢
    generalize mkRat n d.natAbs = z at *
    rw [R_go FF F122 c122.eq_1]
    simp only [RB, un, St.none, Nat.reduceEqDiff, Nat.reduceAdd, Nat.reduceMul, Nat.reduceMod, Nat.reduceLeDiff, Nat.reduceLT, Int.reduceLT, Int.reduceLE, Int.reduceEq, Int.reduceToNat, Int.reduceSub, Int.reduceNeg, Int.reduceAdd, ↓reduceIte, reduceCtorEq, ite_self, eq_self, if_true, if_false, pack, pid, parN, List.not_mem_nil, List.mem_cons, lid, chkK, apartV, List.map_nil, List.flatMap_nil, List.append_nil, List.nil_append, List.drop_zero, List.length_set, List.length_replicate, List.length_append, List.take_length, List.take_zero, List.drop_length, Option.isNone_none, Heap.none, k1, k2, s1, m1, c0, f1]
theorem qfrac_c {i : Nat} (hi : i < 1000000) : R FF 95 [(AV.i .i64 1), (AV.i .i64 (((i + 1 : Nat) : Int)))] = some (AV.agg [AV.b (ng (Rat.num (((((i + 1 : Nat) : Int) : Rat)⁻¹)))), (AV.l 1 (List.map u (D (Int.natAbs (Rat.num (((((i + 1 : Nat) : Int) : Rat)⁻¹))))))), (AV.l 1 (List.map u (D (Rat.den (((((i + 1 : Nat) : Int) : Rat)⁻¹))))))]) := by
  have o1 := wof_c (x := 1) (by omega) (by omega)
  have o2 := wof_c (x := ((i + 1 : Nat) : Int)) (by omega) (by omega)
  have m1 := qmake_c (n := 1) (d := ((i + 1 : Nat) : Int)) (Nat.le_trans (L_le (n := 1) (k := 1) (by decide)) (by omega)) (Nat.le_trans (L_le (n := i + 1) (k := 1) (by omega)) (by omega)) (by omega)
  have e : Rat.divInt 1 ((i + 1 : Nat) : Int) = (((i + 1 : Nat) : Int) : Rat)⁻¹ := by rw [Rat.inv_def]; rfl
  rw [e] at m1
  have s0 := sq_int ((i + 1 : Nat) : Int) (by omega)
  have s1 := sq_inv ((((i + 1 : Nat) : Int)) : Rat)
  generalize ((((i + 1 : Nat) : Int)) : Rat)⁻¹ = y at *
  have k1 := qclean_s (q := ng y.num) (sm_cq (x := y) (k := 2) (by omega)) (by omega)
  rw [qv_cq] at k1
  rw [R_go FF F95 c95.eq_1]
  simp only [RB, un, St.none, Nat.reduceEqDiff, Nat.reduceAdd, Nat.reduceMul, Nat.reduceMod, Nat.reduceLeDiff, Nat.reduceLT, Int.reduceLT, Int.reduceLE, Int.reduceEq, Int.reduceToNat, Int.reduceSub, Int.reduceNeg, Int.reduceAdd, ↓reduceIte, reduceCtorEq, ite_self, eq_self, if_true, if_false, pack, pid, parN, List.not_mem_nil, List.mem_cons, lid, chkK, apartV, List.map_nil, List.flatMap_nil, List.append_nil, List.nil_append, List.drop_zero, List.length_set, List.length_replicate, List.length_append, List.take_length, List.take_zero, List.drop_length, Option.isNone_none, Heap.none, o1, o2, m1, k1]
end Go.Pe
set_option linter.unusedSimpArgs false
set_option linter.unusedVariables false
open Go
namespace Go.Pe
theorem SzE.two {c d : Rat} {k : Nat} (h1k : 1 ≤ k) (h1 : sq c ≤ k) (h2 : sq d ≤ k) : SzE (co [c, d]) k := fun i => by
  match i with
  | 0 => exact h1
  | 1 => exact h2
  | i + 2 => rw [co_big (by simp)]; exact Nat.le_trans sq_zero h1k
theorem SzE.scT {a : List Rat} {k m : Nat} (ha : SzE (co a) k) {c : Rat} (hc : sq c ≤ m) : SzE (co (scT a c)) (k + m) := by rw [co_scT]; exact SzE.sc ha hc
theorem SzE.single {c : Rat} {k : Nat} (h1k : 1 ≤ k) (h : sq c ≤ k) : SzE (co [c]) k := fun i => by
  match i with
  | 0 => exact h
  | i + 1 => rw [co_big (by simp)]; exact Nat.le_trans sq_zero h1k
theorem scT_len {a : List Rat} {c : Rat} (h : Ca a) (hc : c ≠ 0) : (scT a c).length = a.length := by
  have h1 : (scT a c).length ≤ a.length := tk_le _ _
  rcases h with h | h
  · omega
  · rcases Nat.lt_or_ge (scT a c).length a.length with k | k
    · have h2 := co_dg (scT a c) (a.length - 1) (by omega)
      rw [co_scT] at h2
      rcases Rat.mul_eq_zero.1 h2 with h3 | h3
      · exact absurd h3 h
      · exact absurd h3 hc
    · omega
end Go.Pe
set_option linter.unusedSimpArgs false
set_option linter.unusedVariables false
open Go
namespace Go.Pe
structure ChZ (p q : List Rat) (n K : Nat) : Prop where
  cp : Ca p
  cq : Ca q
  lt : q.length < p.length
  ln : q.length ≤ n
  lp : p.length ≤ n + 1
  z : ∃ k, SzF (co p) k ∧ SzF (co q) k ∧ (k + 1) * 2 ^ (p.length + q.length) ≤ K
theorem ChZ.next {p q : List Rat} {n K : Nat} (h : ChZ p q (n + 1) K) (h0 : q ≠ []) : ChZ q (scT (dvR p q) (-1)) n K ∧ SzF (co (dvR p q)) K := by
  have hr := dvR_len h.cp h.cq h0
  have hlt := h.lt
  have hln := h.ln
  obtain ⟨k, k1, k2, k3⟩ := h.z
  obtain ⟨k', _, h3, h4, h5⟩ := euc_sz h.cp h.cq k1 k2 h0 (by omega)
  have hs : (scT (dvR p q) (-1)).length = (dvR p q).length := scT_len (dvR_ca q h.cp) (by decide)
  refine ⟨⟨h.cq, ca_tk _ _, by omega, by omega, by omega, k', h3, ?_, ?_⟩, ?_⟩
  · rw [co_scT]; exact SzF.scm h4
  · rw [hs]; exact Nat.le_trans h5 k3
  · have := k_pow k' (q.length + (dvR p q).length)
    exact h4.mono (by omega)
end Go.Pe
set_option linter.unusedVariables false
set_option linter.unusedSimpArgs false
open Go
namespace Go.Pe
def fD (d : RD) : RD := (d.1, (d.2.1.take 6).map (fw 4), (d.2.2.take 6).map tQ)
theorem few1_c {q : Bool} {l d : List Int} (h : OkQ (q, l, d)) : R FF 29 [.l 4 [[.b false, .b q, .l 1 (l.map u), .l 1 (d.map u)]], (AV.i .i64 1)] = some (.l 4 [[.b false, .b q, .l 1 ((l.take 3).map u), .l 1 ((d.take 3).map u)]]) :=
  few09_c (l := [(false, q, l, d)]) (n := 1) (by omega) (fun x hx => by rw [List.mem_singleton.1 hx]; exact h) (by rw [List.length_singleton]; decide)
theorem nJ (ls : List Nat) (y : AV) (g : Heap) (xs : List AV) : nestJ ls (some (y, g)) xs = (nestL ls g xs).map fun q => (y :: q.1, q.2) := rfl
theorem nK (h : Heap) (q z o n : Nat) (ap : Bool) (z' : Nat) (es : List (List AV)) : nestK h q z o n (some (.sl ap z' es)) = some (.own (ap && decide (o = 0)) z ((es.drop o).take n), h.put q .dead) := rfl
theorem few26_l0 {f : Int} {rs rows : List (List AV)} {l : List RQt} (hu : ∀ x ∈ l, OkQ x) (hl : l.length ≤ maxL) : ∀ (d i : Nat), i + d = min l.length 6 →
    LP FF [(2, 1), (3, 4), (1, 0), (4, 0)] [(2, 1), (3, 0)] b167_0 [.ownp [(AV.i .i64 0), .l 1 [], .l 3 []], .ownp [(AV.i .i64 f), .l 1 rows, .own true 3 (((l.take i).map tQ).map eQ)], .tp [(AV.i .i64 f), .l 1 rs, .l 3 (l.map eQ)] 0, (AV.i .i64 ((i : Int)))] = some (.exit 0, [.ownp [(AV.i .i64 0), .l 1 [], .l 3 []], .tp [(AV.i .i64 f), .l 1 rows, .l 3 (((l.take 6).map tQ).map eQ)] 0]) := by
  intro d
  induction d with
  | zero =>
    intro i hi
    have h2 : l.take i = l.take 6 := by
      rw [show i = min l.length 6 by omega]
      rcases Nat.le_total l.length 6 with h | h
      · rw [Nat.min_eq_left h, List.take_of_length_le (Nat.le_refl _), List.take_of_length_le h]
      · rw [Nat.min_eq_right h]
    rw [h2]
    by_cases c1 : (i : Int) < (l.length : Int)
    · have c2 : ¬ (i : Int) < 6 := by omega
      rw [LP_go FF b167_0.eq_1]
      simp only [RB, un, St.none, Nat.reduceEqDiff, Nat.reduceAdd, Nat.reduceMul, Nat.reduceMod, Nat.reduceLeDiff, Nat.reduceLT, Int.reduceLT, Int.reduceLE, Int.reduceEq, Int.reduceToNat, Int.reduceSub, Int.reduceNeg, Int.reduceAdd, ↓reduceIte, reduceCtorEq, ite_self, eq_self, if_true, if_false, pack, pid, parN, List.not_mem_nil, List.mem_cons, lid, chkK, apartV, List.map_nil, List.flatMap_nil, List.append_nil, List.nil_append, List.drop_zero, List.length_set, List.length_replicate, List.length_append, List.take_length, List.take_zero, List.drop_length, Option.isNone_none, Heap.none, c1, c2, nJ, nK]
    · rw [LP_go FF b167_0.eq_1]
      simp only [RB, un, St.none, Nat.reduceEqDiff, Nat.reduceAdd, Nat.reduceMul, Nat.reduceMod, Nat.reduceLeDiff, Nat.reduceLT, Int.reduceLT, Int.reduceLE, Int.reduceEq, Int.reduceToNat, Int.reduceSub, Int.reduceNeg, Int.reduceAdd, ↓reduceIte, reduceCtorEq, ite_self, eq_self, if_true, if_false, pack, pid, parN, List.not_mem_nil, List.mem_cons, lid, chkK, apartV, List.map_nil, List.flatMap_nil, List.append_nil, List.nil_append, List.drop_zero, List.length_set, List.length_replicate, List.length_append, List.take_length, List.take_zero, List.drop_length, Option.isNone_none, Heap.none, c1, nJ, nK]
  | succ d ih =>
    intro i hi
    have hlt : i < l.length := by omega
    have h9 := ih (i + 1) (by omega)
    have hx := hu _ (getD_mem' dQ hlt)
    have f1 := few1_c (q := (l.getD i dQ).1) (l := (l.getD i dQ).2.1) (d := (l.getD i dQ).2.2) hx
    have ht : (l.take (i + 1)).map tQ = (l.take i).map tQ ++ [tQ (l.getD i dQ)] := by
      rw [List.take_add_one, List.getElem?_eq_getElem hlt, List.map_append, List.getD_eq_getElem?_getD, List.getElem?_eq_getElem hlt]
      rfl
    rw [ht] at h9
    have hlen : (List.map tQ (List.take i l)).length = i := by rw [List.length_map, List.length_take]; omega
    have c1 : (i : Int) < (l.length : Int) := by omega
    have c2 : (i : Int) < 6 := by omega
    have e2 : IntKind.i64.wrap ((i : Int) + 1) = ((i + 1 : Nat) : Int) := w64succ (by omega)
    have b2 : (i + 1) * 56 ≤ 140737488355328 := by omega
    have m2 : List.take (i + 1) (List.map tQ (List.take i l) ++ [tQ (l.getD i dQ)]) = List.map tQ (List.take i l) ++ [tQ (l.getD i dQ)] := List.take_of_length_le (by rw [List.length_append, hlen]; simp)
    have m3 : List.take i (List.map tQ (List.take i l)) = List.map tQ (List.take i l) := List.take_of_length_le (by omega)
    have m1 : List.map eQ (List.map tQ (List.take i l)) ++ [[AV.b (l.getD i dQ).1, AV.l 1 (List.map u ((l.getD i dQ).2.1.take 3)), AV.l 1 (List.map u ((l.getD i dQ).2.2.take 3))]] = List.map eQ (List.map tQ (List.take i l) ++ [tQ (l.getD i dQ)]) := by rw [List.map_append]; rfl
    rw [LP_go FF b167_0.eq_1]
    simp only [RB, un, St.none, Nat.reduceEqDiff, Nat.reduceAdd, Nat.reduceMul, Nat.reduceMod, Nat.reduceLeDiff, Nat.reduceLT, Int.reduceLT, Int.reduceLE, Int.reduceEq, Int.reduceToNat, Int.reduceSub, Int.reduceNeg, Int.reduceAdd, ↓reduceIte, reduceCtorEq, ite_self, eq_self, if_true, if_false, pack, pid, parN, List.not_mem_nil, List.mem_cons, lid, chkK, apartV, List.map_nil, List.flatMap_nil, List.append_nil, List.nil_append, List.drop_zero, List.length_set, List.length_replicate, List.length_append, List.take_length, List.take_zero, List.drop_length, Option.isNone_none, Heap.none, c1, c2, nJ, nK, eQ_rules, eQ_row, Int.natCast_nonneg, f1, e2, hlen, b2, m3, m1, m2]


    exact h9
theorem few26_c {d : RD} (h : OkD d) : R FF 167 [.agg (eD d)] = some (.agg (eD (fD d))) := by
  obtain ⟨f, rows, vals⟩ := d
  have f1 : R FF 97 [.l 1 (rows.map eRw), (AV.i .i64 6), (AV.i .i64 4)] = _ := all09_c (n := 6) (w := 4) (by omega) (by omega) h.2.1.2 h.2.1.1
  have l0 := few26_l0 (f := f) (l := vals) (rs := rows.map eRw) (rows := ((rows.take 6).map (fw 4)).map eRw) h.2.2.2 h.2.2.1 (min vals.length 6) 0 (by omega)
  rw [List.take_zero, Int.ofNat_zero] at l0
  simp only [List.map_nil] at l0
  simp only [eD, fD]
  rw [R_go FF F167 c167.eq_1]
  simp only [RB, un, St.none, Nat.reduceEqDiff, Nat.reduceAdd, Nat.reduceMul, Nat.reduceMod, Nat.reduceLeDiff, Nat.reduceLT, Int.reduceLT, Int.reduceLE, Int.reduceEq, Int.reduceToNat, Int.reduceSub, Int.reduceNeg, Int.reduceAdd, ↓reduceIte, reduceCtorEq, ite_self, eq_self, if_true, if_false, pack, pid, parN, List.not_mem_nil, List.mem_cons, lid, chkK, apartV, List.map_nil, List.flatMap_nil, List.append_nil, List.nil_append, List.drop_zero, List.length_set, List.length_replicate, List.length_append, List.take_length, List.take_zero, List.drop_length, Option.isNone_none, Heap.none, f1, l0, nJ, nK, n64]
end Go.Pe
set_option linter.unusedVariables false
set_option linter.unusedSimpArgs false
open Go
namespace Go.Pe
theorem LE_zero {k : Nat} : LE k = 0 ↔ k = 0 := by
  show (E k).length = 0 ↔ _
  rw [List.length_eq_zero_iff, E_nil]
theorem r3from_c {q : Bool} {l d : List Int} {k : Nat} (hk : k ≤ 1000000) (h : Sm l d k) : ∃ (n : Int) (m : Nat), R FF 216 [(AV.agg [AV.b q, (AV.l 1 (List.map u l)), (AV.l 1 (List.map u d))])] = some (AV.agg [AV.b (ng n), (AV.l 1 (List.map n64 (E (Int.natAbs n)))), (AV.l 1 (List.map n64 (E m)))]) ∧ m ≠ 0 ∧ mkRat n m = qv q l d ∧ L n.natAbs ≤ max k 1 ∧ L m ≤ max k 1 := by
  have f1 := from_c h.2.1 (show d.length ≤ 1000000000000 by have := h.2.2; omega)
  have f2 := rfrom_c (q := q) h.1.1 (show l.length ≤ 1000000000000 by have := h.1.2; omega)
  have h5 : (E (W d)).length = LE (W d) := rfl
  by_cases h0 : W d = 0
  · have g0 : (LE (W d) : Int) = 0 := by have := LE_zero.2 h0; omega
    have s1 := rsmall_c (x := 0) (by omega) (by omega)
    have s2 := small_c (x := 1) (n := 1) rfl (by omega)
    have s3 : R FF 242 [(AV.i .i64 0), (AV.i .i64 1)] = some (AV.agg [AV.b (ng 0), (AV.l 1 (List.map n64 (E (Int.natAbs 0)))), (AV.l 1 (List.map n64 (E 1)))]) := by
      rw [R_go FF F242 c242.eq_1]
      simp only [RB, un, St.none, Nat.reduceEqDiff, Nat.reduceAdd, Nat.reduceMul, Nat.reduceMod, Nat.reduceLeDiff, Nat.reduceLT, Int.reduceLT, Int.reduceLE, Int.reduceEq, Int.reduceToNat, Int.reduceSub, Int.reduceNeg, Int.reduceAdd, ↓reduceIte, reduceCtorEq, ite_self, eq_self, if_true, if_false, pack, pid, parN, List.not_mem_nil, List.mem_cons, lid, chkK, apartV, List.map_nil, List.flatMap_nil, List.append_nil, List.nil_append, List.drop_zero, List.length_set, List.length_replicate, List.length_append, List.take_length, List.take_zero, List.drop_length, Option.isNone_none, Heap.none, s1, s2]
    refine ⟨0, 1, ?_, by decide, ?_, ?_, ?_⟩
    · rw [R_go FF F216 c216.eq_1]
      simp only [RB, un, St.none, Nat.reduceEqDiff, Nat.reduceAdd, Nat.reduceMul, Nat.reduceMod, Nat.reduceLeDiff, Nat.reduceLT, Int.reduceLT, Int.reduceLE, Int.reduceEq, Int.reduceToNat, Int.reduceSub, Int.reduceNeg, Int.reduceAdd, ↓reduceIte, reduceCtorEq, ite_self, eq_self, if_true, if_false, pack, pid, parN, List.not_mem_nil, List.mem_cons, lid, chkK, apartV, List.map_nil, List.flatMap_nil, List.append_nil, List.nil_append, List.drop_zero, List.length_set, List.length_replicate, List.length_append, List.take_length, List.take_zero, List.drop_length, Option.isNone_none, Heap.none, f1, f2, s3, h5, g0]
    · unfold qv; rw [h0, Rat.mkRat_zero]; rfl
    · exact Nat.le_trans (L_le (k := 0) (by decide)) (by omega)
    · exact Nat.le_trans (L_le (k := 1) (by decide)) (by omega)
  · have g0 : ¬ (LE (W d) : Int) = 0 := by have := LE_zero (k := W d); omega
    refine ⟨wv q l, W d, ?_, h0, rfl, ?_, ?_⟩
    · rw [R_go FF F216 c216.eq_1]
      simp only [RB, un, St.none, Nat.reduceEqDiff, Nat.reduceAdd, Nat.reduceMul, Nat.reduceMod, Nat.reduceLeDiff, Nat.reduceLT, Int.reduceLT, Int.reduceLE, Int.reduceEq, Int.reduceToNat, Int.reduceSub, Int.reduceNeg, Int.reduceAdd, ↓reduceIte, reduceCtorEq, ite_self, eq_self, if_true, if_false, pack, pid, parN, List.not_mem_nil, List.mem_cons, lid, chkK, apartV, List.map_nil, List.flatMap_nil, List.append_nil, List.nil_append, List.drop_zero, List.length_set, List.length_replicate, List.length_append, List.take_length, List.take_zero, List.drop_length, Option.isNone_none, Heap.none, f1, f2, h5, g0]
    · exact Nat.le_trans (wv_L q l) (by have := h.1.2; omega)
    · exact Nat.le_trans (L_W d) (by have := h.2.2; omega)
theorem r3den_c {n : Int} {m : Nat} : R FF 257 [(AV.agg [AV.b (ng n), (AV.l 1 (List.map n64 (E (Int.natAbs n)))), (AV.l 1 (List.map n64 (E m)))])] = some (AV.agg [AV.b (ng ((m : Int))), (AV.l 1 (List.map n64 (E (Int.natAbs ((m : Int))))))]) := by
  have f1 := rmake_c false m
  rw [show sv false m = (m : Int) from rfl] at f1
  rw [R_go FF F257 c257.eq_1]
  simp only [RB, un, St.none, Nat.reduceEqDiff, Nat.reduceAdd, Nat.reduceMul, Nat.reduceMod, Nat.reduceLeDiff, Nat.reduceLT, Int.reduceLT, Int.reduceLE, Int.reduceEq, Int.reduceToNat, Int.reduceSub, Int.reduceNeg, Int.reduceAdd, ↓reduceIte, reduceCtorEq, ite_self, eq_self, if_true, if_false, pack, pid, parN, List.not_mem_nil, List.mem_cons, lid, chkK, apartV, List.map_nil, List.flatMap_nil, List.append_nil, List.nil_append, List.drop_zero, List.length_set, List.length_replicate, List.length_append, List.take_length, List.take_zero, List.drop_length, Option.isNone_none, Heap.none, f1]
theorem r3order_c {n n' : Int} {m m' k : Nat} (hk : k ≤ 1000000) (h1 : L n.natAbs ≤ k) (h2 : L m ≤ k) (h3 : L n'.natAbs ≤ k) (h4 : L m' ≤ k) : R FF 241 [(AV.agg [AV.b (ng n), (AV.l 1 (List.map n64 (E (Int.natAbs n)))), (AV.l 1 (List.map n64 (E m)))]), (AV.agg [AV.b (ng (n')), (AV.l 1 (List.map n64 (E (Int.natAbs (n'))))), (AV.l 1 (List.map n64 (E (m'))))])] = some (AV.i .i64 (cmp (n * (m' : Int)) (n' * (m : Int)))) := by
  have d1 := r3den_c (n := n) (m := m)
  have d2 := r3den_c (n := n') (m := m')
  have e1 := LE_L n.natAbs
  have e2 := LE_L n'.natAbs
  have e3 := LE_L m
  have e4 := LE_L m'
  have t1 := rtimes_c (a := n) (b := (m' : Int)) (by rw [Int.natAbs_natCast]; omega)
  have t2 := rtimes_c (a := n') (b := (m : Int)) (by rw [Int.natAbs_natCast]; omega)
  have e5 := LE_mul n.natAbs m'
  have e6 := LE_mul n'.natAbs m
  have o1 := rord_c (a := n * (m' : Int)) (b := n' * (m : Int)) (by rw [Int.natAbs_mul, Int.natAbs_natCast]; omega) (by rw [Int.natAbs_mul, Int.natAbs_natCast]; omega)
  rw [R_go FF F241 c241.eq_1]
  simp only [RB, un, St.none, Nat.reduceEqDiff, Nat.reduceAdd, Nat.reduceMul, Nat.reduceMod, Nat.reduceLeDiff, Nat.reduceLT, Int.reduceLT, Int.reduceLE, Int.reduceEq, Int.reduceToNat, Int.reduceSub, Int.reduceNeg, Int.reduceAdd, ↓reduceIte, reduceCtorEq, ite_self, eq_self, if_true, if_false, pack, pid, parN, List.not_mem_nil, List.mem_cons, lid, chkK, apartV, List.map_nil, List.flatMap_nil, List.append_nil, List.nil_append, List.drop_zero, List.length_set, List.length_replicate, List.length_append, List.take_length, List.take_zero, List.drop_length, Option.isNone_none, Heap.none, d1, d2, t1, t2, o1]
theorem r3right_c {x : Rat} (hx : sq x ≤ 1000000) : R FF 240 [(AV.agg [AV.b (ng (Rat.num x)), (AV.l 1 (List.map u (D (Int.natAbs (Rat.num x))))), (AV.l 1 (List.map u (D (Rat.den x))))])] = some (.b true) := by
  have n1 := sq_num x
  have n2 := sq_den x
  have r1 := rright_c (D_U x.num.natAbs) (show L _ ≤ _ by omega)
  have r2 := rright_c (D_U x.den) (show L _ ≤ _ by omega)
  rw [W_D, decide_eq_true rfl] at r1 r2
  have f1 := from_D (n := x.num.natAbs) (by omega)
  have f2 := from_D (n := x.den) (by omega)
  have e1 := LE_L x.num.natAbs
  have e2 := LE_L x.den
  have g1 := rgcd_c (a := x.num.natAbs) (b := x.den) (by omega) (by omega)
  rw [x.reduced] at g1
  have s1 := small_c (x := 1) (n := 1) rfl (by omega)
  have o1 := rorder_c (m := 1) (n := 1) (Nat.le_trans (LE_u64 (n := 1) (by omega)) (by omega)) (Nat.le_trans (LE_u64 (n := 1) (by omega)) (by omega))
  rw [show cmp ((1 : Nat) : Int) ((1 : Nat) : Int) = 0 from rfl] at o1
  have h5 : (D x.den).length = L x.den := rfl
  have h6 : (D x.num.natAbs).length = L x.num.natAbs := rfl
  have h7 : ¬ (L x.den : Int) = 0 := by have := (L_pos (k := x.den)).2 (Nat.pos_of_ne_zero x.den_nz); omega
  by_cases h0 : x.num = 0
  · have h8 : (L x.num.natAbs : Int) = 0 := by have := L_pos (k := x.num.natAbs); omega
    have h9 : ng x.num = false := ng_false.2 (by omega)
    rw [R_go FF F240 c240.eq_1]
    simp only [RB, un, St.none, Nat.reduceEqDiff, Nat.reduceAdd, Nat.reduceMul, Nat.reduceMod, Nat.reduceLeDiff, Nat.reduceLT, Int.reduceLT, Int.reduceLE, Int.reduceEq, Int.reduceToNat, Int.reduceSub, Int.reduceNeg, Int.reduceAdd, ↓reduceIte, reduceCtorEq, ite_self, eq_self, if_true, if_false, pack, pid, parN, List.not_mem_nil, List.mem_cons, lid, chkK, apartV, List.map_nil, List.flatMap_nil, List.append_nil, List.nil_append, List.drop_zero, List.length_set, List.length_replicate, List.length_append, List.take_length, List.take_zero, List.drop_length, Option.isNone_none, Heap.none, r1, r2, f1, f2, g1, s1, o1, h5, h6, h7, h8, h9]
  · have h8 : ¬ (L x.num.natAbs : Int) = 0 := by have := (L_pos (k := x.num.natAbs)).2 (by omega); omega
    rw [R_go FF F240 c240.eq_1]
    simp only [RB, un, St.none, Nat.reduceEqDiff, Nat.reduceAdd, Nat.reduceMul, Nat.reduceMod, Nat.reduceLeDiff, Nat.reduceLT, Int.reduceLT, Int.reduceLE, Int.reduceEq, Int.reduceToNat, Int.reduceSub, Int.reduceNeg, Int.reduceAdd, ↓reduceIte, reduceCtorEq, ite_self, eq_self, if_true, if_false, pack, pid, parN, List.not_mem_nil, List.mem_cons, lid, chkK, apartV, List.map_nil, List.flatMap_nil, List.append_nil, List.nil_append, List.drop_zero, List.length_set, List.length_replicate, List.length_append, List.take_length, List.take_zero, List.drop_length, Option.isNone_none, Heap.none, r1, r2, f1, f2, g1, s1, o1, h5, h6, h7, h8]
theorem is3_c {x : Rat} {n : Int} {m k : Nat} (hk : k ≤ 1000000) (hx : sq x ≤ k) (h1 : L n.natAbs ≤ k) (h2 : L m ≤ k) (h0 : m ≠ 0) : R FF 215 [(AV.agg [AV.b (ng (Rat.num x)), (AV.l 1 (List.map u (D (Int.natAbs (Rat.num x))))), (AV.l 1 (List.map u (D (Rat.den x))))]), (AV.agg [AV.b (ng n), (AV.l 1 (List.map n64 (E (Int.natAbs n)))), (AV.l 1 (List.map n64 (E m)))])] = some (.b (decide (x = mkRat n m))) := by
  have r1 := r3right_c (x := x) (by omega)
  have n1 := sq_num x
  have n2 := sq_den x
  have f1 := rfrom_c (q := ng x.num) (D_U x.num.natAbs) (show L _ ≤ _ by omega)
  rw [wv_ci] at f1
  have f2 := from_D (n := x.den) (by omega)
  have h5 : (E x.den).length = LE x.den := rfl
  have g0 : ¬ (LE x.den : Int) = 0 := by have := LE_zero (k := x.den); have := x.den_nz; omega
  have f3 : R FF 216 [(AV.agg [AV.b (ng (Rat.num x)), (AV.l 1 (List.map u (D (Int.natAbs (Rat.num x))))), (AV.l 1 (List.map u (D (Rat.den x))))])] = some (AV.agg [AV.b (ng x.num), (AV.l 1 (List.map n64 (E (Int.natAbs x.num)))), (AV.l 1 (List.map n64 (E x.den)))]) := by
    rw [R_go FF F216 c216.eq_1]
    simp only [RB, un, St.none, Nat.reduceEqDiff, Nat.reduceAdd, Nat.reduceMul, Nat.reduceMod, Nat.reduceLeDiff, Nat.reduceLT, Int.reduceLT, Int.reduceLE, Int.reduceEq, Int.reduceToNat, Int.reduceSub, Int.reduceNeg, Int.reduceAdd, ↓reduceIte, reduceCtorEq, ite_self, eq_self, if_true, if_false, pack, pid, parN, List.not_mem_nil, List.mem_cons, lid, chkK, apartV, List.map_nil, List.flatMap_nil, List.append_nil, List.nil_append, List.drop_zero, List.length_set, List.length_replicate, List.length_append, List.take_length, List.take_zero, List.drop_length, Option.isNone_none, Heap.none, f1, f2, h5, g0]
  have o1 := r3order_c (n := x.num) (m := x.den) (n' := n) (m' := m) hk (by omega) (by omega) h1 h2
  have e : decide (cmp (x.num * (m : Int)) (n * (x.den : Int)) = 0) = decide (x = mkRat n m) := decide_eq_decide.2 (by
    rw [cmp_eq_iff]
    conv => rhs; lhs; rw [← Rat.mkRat_self x]
    rw [Rat.mkRat_eq_iff x.den_nz h0])
  rw [R_go FF F215 c215.eq_1]
  simp only [RB, un, St.none, Nat.reduceEqDiff, Nat.reduceAdd, Nat.reduceMul, Nat.reduceMod, Nat.reduceLeDiff, Nat.reduceLT, Int.reduceLT, Int.reduceLE, Int.reduceEq, Int.reduceToNat, Int.reduceSub, Int.reduceNeg, Int.reduceAdd, ↓reduceIte, reduceCtorEq, ite_self, eq_self, if_true, if_false, pack, pid, parN, List.not_mem_nil, List.mem_cons, lid, chkK, apartV, List.map_nil, List.flatMap_nil, List.append_nil, List.nil_append, List.drop_zero, List.length_set, List.length_replicate, List.length_append, List.take_length, List.take_zero, List.drop_length, Option.isNone_none, Heap.none, r1, f3, o1, e]
theorem is10_c {x : Rat} {q : Bool} {l d : List Int} {k : Nat} (hk : k ≤ 1000000) (h1k : 1 ≤ k) (hx : sq x ≤ k) (h : Sm l d k) : R FF 171 [(AV.agg [AV.b (ng (Rat.num x)), (AV.l 1 (List.map u (D (Int.natAbs (Rat.num x))))), (AV.l 1 (List.map u (D (Rat.den x))))]), (AV.agg [AV.b q, (AV.l 1 (List.map u l)), (AV.l 1 (List.map u d))])] = some (.b (decide (x = qv q l d))) := by
  obtain ⟨n, m, f1, h0, f2, h1, h2⟩ := r3from_c (q := q) hk h
  rw [Nat.max_eq_left h1k] at h1 h2
  have g1 := is3_c hk hx h1 h2 h0
  rw [f2] at g1
  rw [R_go FF F171 c171.eq_1]
  simp only [RB, un, St.none, Nat.reduceEqDiff, Nat.reduceAdd, Nat.reduceMul, Nat.reduceMod, Nat.reduceLeDiff, Nat.reduceLT, Int.reduceLT, Int.reduceLE, Int.reduceEq, Int.reduceToNat, Int.reduceSub, Int.reduceNeg, Int.reduceAdd, ↓reduceIte, reduceCtorEq, ite_self, eq_self, if_true, if_false, pack, pid, parN, List.not_mem_nil, List.mem_cons, lid, chkK, apartV, List.map_nil, List.flatMap_nil, List.append_nil, List.nil_append, List.drop_zero, List.length_set, List.length_replicate, List.length_append, List.take_length, List.take_zero, List.drop_length, Option.isNone_none, Heap.none, f1, g1]
end Go.Pe
set_option linter.unusedVariables false
set_option linter.unusedSimpArgs false
open Go
namespace Go.Pe
def eX (i : Nat) : List AV := [.i .i64 (i : Int)]
theorem eX_rules : (∀ x, (eX x).length = 1) ∧ (∀ h x, (eX x).map (tellC h) = eX x) ∧ (∀ h x, (eX x).map (tell0 h) = eX x) ∧ (∀ h x, (eX x).flatMap (refC h) = []) ∧ (∀ x, (eX x).flatMap ref0 = []) ∧
    (∀ x, ldC false 1 0 (eX x) = some (.i .i64 (x : Int))) := by
  refine ⟨?_, ?_, ?_, ?_, ?_, ?_⟩ <;> intros <;> rfl
theorem eX_row : type_of% (row_rules eX 0 1 (fun _ => rfl) (fun _ _ => rfl)) := row_rules eX 0 1 (fun _ => rfl) (fun _ _ => rfl)
def sR : List Rat → Rat
  | [] => 0
  | x :: l => x + sR l
def pR : List Rat → Rat
  | [] => 0
  | x :: l => x * x + pR l
theorem sR_snoc (l : List Rat) (x : Rat) : sR (l ++ [x]) = sR l + x := by
  induction l with
  | nil => show x + 0 = 0 + x; grind
  | cons y l ih => show y + sR (l ++ [x]) = y + sR l + x; rw [ih]; grind
theorem pR_snoc (l : List Rat) (x : Rat) : pR (l ++ [x]) = pR l + x * x := by
  induction l with
  | nil => show x * x + 0 = 0 + x * x; grind
  | cons y l ih => show y * y + pR (l ++ [x]) = y * y + pR l + x * x; rw [ih]; grind
def AllQ (l : List Rat) (k : Nat) : Prop := ∀ x ∈ l, sq x ≤ k
theorem sR_sq {k : Nat} : ∀ {l : List Rat}, AllQ l k → sq (sR l) ≤ l.length * (k + 1) + 1
  | [], _ => Nat.le_trans sq_zero (by omega)
  | x :: l, h => by
    have h1 := sR_sq (l := l) (fun y hy => h y (List.mem_cons_of_mem _ hy))
    have h2 := sq_add x (sR l)
    have h3 := h x (List.mem_cons_self ..)
    show sq (x + sR l) ≤ _
    rw [List.length_cons, Nat.add_mul, Nat.one_mul]
    omega
theorem pR_sq {k : Nat} : ∀ {l : List Rat}, AllQ l k → sq (pR l) ≤ l.length * (2 * k + 1) + 1
  | [], _ => Nat.le_trans sq_zero (by omega)
  | x :: l, h => by
    have h1 := pR_sq (l := l) (fun y hy => h y (List.mem_cons_of_mem _ hy))
    have h2 := sq_add (x * x) (pR l)
    have h3 := h x (List.mem_cons_self ..)
    have h4 := sq_mul x x
    show sq (x * x + pR l) ≤ _
    rw [List.length_cons, Nat.add_mul, Nat.one_mul]
    omega
def vsL (V : List RQt) (l : List Nat) : List Rat := l.map fun i => vQ (V.getD i dQ)
def InX (l : List Nat) (n : Nat) : Prop := ∀ i ∈ l, i < n
theorem vsL_all {V : List RQt} {l : List Nat} {k : Nat} (hV : SmL V k) (hk : 1 ≤ k) (hl : InX l V.length) : AllQ (vsL V l) k := fun x hx => by
  obtain ⟨i, hi, rfl⟩ := List.mem_map.1 hx
  exact Sm.sq (hV _ (getD_mem' dQ (hl i hi))) hk
theorem vsL_len (V : List RQt) (l : List Nat) : (vsL V l).length = l.length := List.length_map ..
theorem vsL_snoc {V : List RQt} {l : List Nat} {i : Nat} (hi : i < l.length) : vsL V (l.take (i + 1)) = vsL V (l.take i) ++ [vQ (V.getD (l.getD i 0) dQ)] := by
  unfold vsL
  rw [List.take_add_one, List.getElem?_eq_getElem hi, List.map_append, List.getD_eq_getElem?_getD (l := l), List.getElem?_eq_getElem hi]
  rfl
theorem take_all {l : List Nat} {i n : Nat} (h : InX l n) : InX (l.take i) n := fun x hx => h x (List.mem_of_mem_take hx)
end Go.Pe
set_option linter.unusedVariables false
set_option linter.unusedSimpArgs false
open Go
namespace Go.Pe
theorem qadd_v {s : Rat} {x : RQt} {k j : Nat} (hs : sq s ≤ k) (hx : SmQ x j) (hk : k ≤ 40000000000) (hj : j ≤ 40000000000) : R FF 31 [(AV.agg [AV.b (ng (Rat.num s)), (AV.l 1 (List.map u (D (Int.natAbs (Rat.num s))))), (AV.l 1 (List.map u (D (Rat.den s))))]), (AV.agg [AV.b x.1, (AV.l 1 (List.map u x.2.1)), (AV.l 1 (List.map u x.2.2))])] = some (AV.agg [AV.b (ng (Rat.num (s + vQ x))), (AV.l 1 (List.map u (D (Int.natAbs (Rat.num (s + vQ x)))))), (AV.l 1 (List.map u (D (Rat.den (s + vQ x)))))]) := by
  have h := qadd_s (q := ng s.num) (r := x.1) (sm_cq hs) hx hk hj
  rwa [qv_cq] at h
theorem qadd_cc {s t : Rat} {k j : Nat} (hs : sq s ≤ k) (ht : sq t ≤ j) (hk : k ≤ 40000000000) (hj : j ≤ 40000000000) : R FF 31 [(AV.agg [AV.b (ng (Rat.num s)), (AV.l 1 (List.map u (D (Int.natAbs (Rat.num s))))), (AV.l 1 (List.map u (D (Rat.den s))))]), (AV.agg [AV.b (ng (Rat.num t)), (AV.l 1 (List.map u (D (Int.natAbs (Rat.num t))))), (AV.l 1 (List.map u (D (Rat.den t))))])] = some (AV.agg [AV.b (ng (Rat.num (s + t))), (AV.l 1 (List.map u (D (Int.natAbs (Rat.num (s + t)))))), (AV.l 1 (List.map u (D (Rat.den (s + t)))))]) := by
  have h := qadd_s (q := ng s.num) (r := ng t.num) (sm_cq hs) (sm_cq ht) hk hj
  rwa [qv_cq, qv_cq] at h
theorem qsub_cc {s t : Rat} {k j : Nat} (hs : sq s ≤ k) (ht : sq t ≤ j) (hk : k ≤ 40000000000) (hj : j ≤ 40000000000) : R FF 55 [(AV.agg [AV.b (ng (Rat.num s)), (AV.l 1 (List.map u (D (Int.natAbs (Rat.num s))))), (AV.l 1 (List.map u (D (Rat.den s))))]), (AV.agg [AV.b (ng (Rat.num t)), (AV.l 1 (List.map u (D (Int.natAbs (Rat.num t))))), (AV.l 1 (List.map u (D (Rat.den t))))])] = some (AV.agg [AV.b (ng (Rat.num (s - t))), (AV.l 1 (List.map u (D (Int.natAbs (Rat.num (s - t)))))), (AV.l 1 (List.map u (D (Rat.den (s - t)))))]) := by
  have h := qsub_s (q := ng s.num) (r := ng t.num) (sm_cq hs) (sm_cq ht) hk hj
  rwa [qv_cq, qv_cq] at h
theorem qsub_vc {s : Rat} {x : RQt} {k j : Nat} (hs : sq s ≤ k) (hx : SmQ x j) (hk : k ≤ 40000000000) (hj : j ≤ 40000000000) : R FF 55 [(AV.agg [AV.b x.1, (AV.l 1 (List.map u x.2.1)), (AV.l 1 (List.map u x.2.2))]), (AV.agg [AV.b (ng (Rat.num s)), (AV.l 1 (List.map u (D (Int.natAbs (Rat.num s))))), (AV.l 1 (List.map u (D (Rat.den s))))])] = some (AV.agg [AV.b (ng (Rat.num (vQ x - s))), (AV.l 1 (List.map u (D (Int.natAbs (Rat.num (vQ x - s)))))), (AV.l 1 (List.map u (D (Rat.den (vQ x - s)))))]) := by
  have h := qsub_s (q := x.1) (r := ng s.num) hx (sm_cq hs) hj hk
  rwa [qv_cq] at h
theorem qmul_cc {s t : Rat} {k j : Nat} (hs : sq s ≤ k) (ht : sq t ≤ j) (hk : k ≤ 40000000000) (hj : j ≤ 40000000000) : R FF 94 [(AV.agg [AV.b (ng (Rat.num s)), (AV.l 1 (List.map u (D (Int.natAbs (Rat.num s))))), (AV.l 1 (List.map u (D (Rat.den s))))]), (AV.agg [AV.b (ng (Rat.num t)), (AV.l 1 (List.map u (D (Int.natAbs (Rat.num t))))), (AV.l 1 (List.map u (D (Rat.den t))))])] = some (AV.agg [AV.b (ng (Rat.num (s * t))), (AV.l 1 (List.map u (D (Int.natAbs (Rat.num (s * t)))))), (AV.l 1 (List.map u (D (Rat.den (s * t)))))]) := by
  have h := qmul_s (q := ng s.num) (r := ng t.num) (sm_cq hs) (sm_cq ht) hk hj
  rwa [qv_cq, qv_cq] at h
theorem qmul_vv {x y : RQt} {k j : Nat} (hx : SmQ x k) (hy : SmQ y j) (hk : k ≤ 40000000000) (hj : j ≤ 40000000000) : R FF 94 [(AV.agg [AV.b x.1, (AV.l 1 (List.map u x.2.1)), (AV.l 1 (List.map u x.2.2))]), (AV.agg [AV.b y.1, (AV.l 1 (List.map u y.2.1)), (AV.l 1 (List.map u y.2.2))])] = some (AV.agg [AV.b (ng (Rat.num (vQ x * vQ y))), (AV.l 1 (List.map u (D (Int.natAbs (Rat.num (vQ x * vQ y)))))), (AV.l 1 (List.map u (D (Rat.den (vQ x * vQ y)))))]) := qmul_s hx hy hk hj
theorem len_mul {a b c n : Nat} (h : n ≤ a) (hb : b ≤ c) : n * b ≤ a * c := Nat.mul_le_mul h hb
theorem gof_l0 {f : Int} {rows : List (List AV)} {V : List RQt} {l : List Nat} {k : Nat} (hk : k ≤ 1000000) (h1k : 1 ≤ k) (hV : SmL V k) (hVl : V.length ≤ 1000) (hl : InX l V.length) (hn : l.length ≤ 1000) : ∀ (d i : Nat), i + d = l.length →
    LP FF [(4, 1), (5, 1), (2, 0), (11, 0), (12, 0), (13, 0)] [(4, 1), (5, 0)] b217_0 [.ownp [(AV.i .i64 0), .b false, .l 1 [], .l 1 [], .b false, .l 1 [], .l 1 []],
      .ownp [(AV.i .i64 ((i : Int))), .b (ng (sR (vsL V (l.take i))).num), (AV.l 1 (List.map u (D (sR (vsL V (l.take i))).num.natAbs))), (AV.l 1 (List.map u (D (sR (vsL V (l.take i))).den))), .b (ng (pR (vsL V (l.take i))).num), (AV.l 1 (List.map u (D (pR (vsL V (l.take i))).num.natAbs))), (AV.l 1 (List.map u (D (pR (vsL V (l.take i))).den)))],
      .tp [(AV.i .i64 f), .l 1 rows, .l 3 (V.map eQ)] 0, .l 1 (l.map eX), (AV.i .i64 ((l.length : Int))), (AV.i .i64 ((i : Int)))] =
      some (.exit 0, [.ownp [(AV.i .i64 0), .b false, .l 1 [], .l 1 [], .b false, .l 1 [], .l 1 []],
        .tp [(AV.i .i64 ((l.length : Int))), .b (ng (sR (vsL V l)).num), (AV.l 1 (List.map u (D (sR (vsL V l)).num.natAbs))), (AV.l 1 (List.map u (D (sR (vsL V l)).den))), .b (ng (pR (vsL V l)).num), (AV.l 1 (List.map u (D (pR (vsL V l)).num.natAbs))), (AV.l 1 (List.map u (D (pR (vsL V l)).den)))] 0]) := by
  intro d
  induction d with
  | zero =>
    intro i hi
    have hi' : i = l.length := by omega
    rw [hi', List.take_of_length_le (Nat.le_refl _)]
    have c1 : ¬ (l.length : Int) < (l.length : Int) := by omega
    rw [LP_go FF b217_0.eq_1]
    simp only [RB, un, St.none, Nat.reduceEqDiff, Nat.reduceAdd, Nat.reduceMul, Nat.reduceMod, Nat.reduceLeDiff, Nat.reduceLT, Int.reduceLT, Int.reduceLE, Int.reduceEq, Int.reduceToNat, Int.reduceSub, Int.reduceNeg, Int.reduceAdd, ↓reduceIte, reduceCtorEq, ite_self, eq_self, if_true, if_false, pack, pid, parN, List.not_mem_nil, List.mem_cons, lid, chkK, apartV, List.map_nil, List.flatMap_nil, List.append_nil, List.nil_append, List.drop_zero, List.length_set, List.length_replicate, List.length_append, List.take_length, List.take_zero, List.drop_length, Option.isNone_none, Heap.none, c1]
  | succ d ih =>
    intro i hi
    have hlt : i < l.length := by omega
    have h9 := ih (i + 1) (by omega)
    have hx : l.getD i 0 < V.length := hl _ (getD_mem' 0 hlt)
    rw [vsL_snoc hlt, sR_snoc, pR_snoc] at h9
    have a1 := vsL_all hV h1k (take_all (i := i) hl)
    have s1 := sR_sq a1
    have s2 := pR_sq a1
    rw [vsL_len] at s1 s2
    have hti : (l.take i).length ≤ 1000 := Nat.le_trans (List.length_take_le _ _) (by omega)
    have s3 := len_mul hti (show k + 1 ≤ 1000001 by omega)
    have s4 := len_mul hti (show 2 * k + 1 ≤ 2000001 by omega)
    have hxk := hV _ (getD_mem' dQ hx)
    have v1 : sq (vQ (V.getD (l.getD i 0) dQ)) ≤ k := Sm.sq hxk h1k
    have v2 := sq_mul (vQ (V.getD (l.getD i 0) dQ)) (vQ (V.getD (l.getD i 0) dQ))
    have f1 := qadd_v (s := sR (vsL V (l.take i))) (x := V.getD (l.getD i 0) dQ) (k := 1000001001) (j := k) (by omega) hxk (by omega) (by omega)
    have f2 := qmul_vv (x := V.getD (l.getD i 0) dQ) (y := V.getD (l.getD i 0) dQ) hxk hxk (by omega) (by omega)
    have f3 := qadd_cc (s := pR (vsL V (l.take i))) (t := vQ (V.getD (l.getD i 0) dQ) * vQ (V.getD (l.getD i 0) dQ)) (k := 2000001001) (j := 2000000) (by omega) (by omega) (by omega) (by omega)
    generalize pR (vsL V (l.take i)) = p at *
    generalize sR (vsL V (l.take i)) = s at *
    have c1 : (i : Int) < (l.length : Int) := by omega
    have c2 : ((l.getD i 0 : Nat) : Int) < (V.length : Int) := by omega
    have e2 : IntKind.i64.wrap ((i : Int) + 1) = ((i + 1 : Nat) : Int) := w64succ (by omega)
    generalize vQ (V.getD (l.getD i 0) dQ) = y at *
    rw [LP_go FF b217_0.eq_1]
    simp only [RB, un, St.none, Nat.reduceEqDiff, Nat.reduceAdd, Nat.reduceMul, Nat.reduceMod, Nat.reduceLeDiff, Nat.reduceLT, Int.reduceLT, Int.reduceLE, Int.reduceEq, Int.reduceToNat, Int.reduceSub, Int.reduceNeg, Int.reduceAdd, ↓reduceIte, reduceCtorEq, ite_self, eq_self, if_true, if_false, pack, pid, parN, List.not_mem_nil, List.mem_cons, lid, chkK, apartV, List.map_nil, List.flatMap_nil, List.append_nil, List.nil_append, List.drop_zero, List.length_set, List.length_replicate, List.length_append, List.take_length, List.take_zero, List.drop_length, Option.isNone_none, Heap.none, c1, c2, eX_rules, eX_row, eQ_rules, eQ_row, Int.natCast_nonneg, f1, f2, f3, e2, n64]
    exact h9
theorem gof_c {f : Int} {rows : List (List AV)} {V : List RQt} {l : List Nat} {k : Nat} (hk : k ≤ 1000000) (h1k : 1 ≤ k) (hV : SmL V k) (hVl : V.length ≤ 1000) (hl : InX l V.length) (hn : l.length ≤ 1000) :
    R FF 217 [.agg [(AV.i .i64 f), .l 1 rows, .l 3 (V.map eQ)], .l 1 (l.map eX)] = some (.agg [(AV.i .i64 ((l.length : Int))), .b (ng (sR (vsL V l)).num), (AV.l 1 (List.map u (D (sR (vsL V l)).num.natAbs))), (AV.l 1 (List.map u (D (sR (vsL V l)).den))), .b (ng (pR (vsL V l)).num), (AV.l 1 (List.map u (D (pR (vsL V l)).num.natAbs))), (AV.l 1 (List.map u (D (pR (vsL V l)).den)))]) := by
  have z1 := qzero_c
  have l0 := gof_l0 (f := f) (rows := rows) hk h1k hV hVl hl hn l.length 0 (by omega)
  rw [List.take_zero, show sR (vsL V []) = 0 from rfl, show pR (vsL V []) = 0 from rfl, Int.ofNat_zero] at l0
  rw [R_go FF F217 c217.eq_1]
  simp only [RB, un, St.none, Nat.reduceEqDiff, Nat.reduceAdd, Nat.reduceMul, Nat.reduceMod, Nat.reduceLeDiff, Nat.reduceLT, Int.reduceLT, Int.reduceLE, Int.reduceEq, Int.reduceToNat, Int.reduceSub, Int.reduceNeg, Int.reduceAdd, ↓reduceIte, reduceCtorEq, ite_self, eq_self, if_true, if_false, pack, pid, parN, List.not_mem_nil, List.mem_cons, lid, chkK, apartV, List.map_nil, List.flatMap_nil, List.append_nil, List.nil_append, List.drop_zero, List.length_set, List.length_replicate, List.length_append, List.take_length, List.take_zero, List.drop_length, Option.isNone_none, Heap.none, z1, l0, n64, eX_rules, eX_row]
end Go.Pe
set_option linter.unusedVariables false
set_option linter.unusedSimpArgs false
open Go
namespace Go.Pe
theorem qfrac0 : R FF 95 [(AV.i .i64 1), (AV.i .i64 0)] = some (AV.agg [AV.b (ng (Rat.num ((0 : Rat)))), (AV.l 1 (List.map u (D (Int.natAbs (Rat.num ((0 : Rat))))))), (AV.l 1 (List.map u (D (Rat.den ((0 : Rat))))))]) := (R_some FF).2 ⟨40, by kernel_rfl⟩
def ivn (n : Nat) : Rat := ((n : Int) : Rat)⁻¹
theorem qfracn_c {n : Nat} (hn : n < 1000000) : R FF 95 [(AV.i .i64 1), (AV.i .i64 ((n : Int)))] = some (AV.agg [AV.b (ng (Rat.num ((ivn n)))), (AV.l 1 (List.map u (D (Int.natAbs (Rat.num ((ivn n))))))), (AV.l 1 (List.map u (D (Rat.den ((ivn n))))))]) := by
  cases n with
  | zero =>
    have e : ivn 0 = 0 := by unfold ivn; rw [show (((0 : Nat) : Int) : Rat) = 0 from rfl, Rat.inv_zero]
    rw [e]; exact qfrac0
  | succ n => exact qfrac_c (by omega)
theorem ivn_sq {n : Nat} (hn : n < 1000000) : sq (ivn n) ≤ 2 := by
  have h1 := sq_inv ((n : Int) : Rat)
  have h2 := sq_int (n : Int) (by omega)
  unfold ivn
  omega
def mnV (X : List Rat) : Rat := sR X * ivn X.length
def lsV (X : List Rat) : Rat := pR X - sR X * sR X * ivn X.length
def dR (m : Rat) : List Rat → Rat
  | [] => 0
  | x :: l => (x - m) * (x - m) + dR m l
theorem dR_snoc (m : Rat) (l : List Rat) (x : Rat) : dR m (l ++ [x]) = dR m l + (x - m) * (x - m) := by
  induction l with
  | nil => show (x - m) * (x - m) + 0 = 0 + (x - m) * (x - m); grind
  | cons y l ih => show (y - m) * (y - m) + dR m (l ++ [x]) = (y - m) * (y - m) + dR m l + (x - m) * (x - m); rw [ih]; grind
theorem dR_eq (m : Rat) (l : List Rat) : dR m l = pR l - 2 * m * sR l + ((l.length : Int) : Rat) * (m * m) := by
  induction l with
  | nil => show (0 : Rat) = 0 - 2 * m * 0 + (((0 : Nat) : Int) : Rat) * (m * m); rw [show (((0 : Nat) : Int) : Rat) = 0 from rfl]; grind
  | cons y l ih =>
    show (y - m) * (y - m) + dR m l = y * y + pR l - 2 * m * (y + sR l) + (((l.length + 1 : Nat) : Int) : Rat) * (m * m)
    rw [ih, show (((l.length + 1 : Nat) : Int) : Rat) = ((l.length : Int) : Rat) + 1 by rw [Int.natCast_add, Rat.intCast_add]; rfl]
    grind
theorem dR_loss (l : List Rat) : dR (mnV l) l = lsV l := by
  rw [dR_eq]
  unfold mnV lsV ivn
  by_cases h : l.length = 0
  · have : l = [] := List.length_eq_zero_iff.1 h
    subst this
    show (0 : Rat) - 2 * (0 * _) * 0 + _ * ((0 * _) * (0 * _)) = 0 - 0 * 0 * _
    grind
  · have h1 : ((l.length : Int) : Rat) ≠ 0 := fun h0 => h (by have := Rat.intCast_inj.1 (show ((l.length : Int) : Rat) = ((0 : Int) : Rat) from h0); omega)
    have h2 := Rat.mul_inv_cancel _ h1
    generalize ((l.length : Int) : Rat)⁻¹ = i at *
    generalize ((l.length : Int) : Rat) = n at *
    grind
theorem mnV_sq {X : List Rat} {k : Nat} (h : AllQ X k) (hn : X.length < 1000000) : sq (mnV X) ≤ X.length * (k + 1) + 3 := by
  have h1 := sR_sq h
  have h2 := ivn_sq hn
  have h3 := sq_mul (sR X) (ivn X.length)
  unfold mnV
  omega
theorem lsV_sq {X : List Rat} {k : Nat} (h : AllQ X k) (hn : X.length < 1000000) : sq (lsV X) ≤ X.length * (2 * k + 1) + 2 * (X.length * (k + 1)) + 6 := by
  have h1 := sR_sq h
  have h2 := ivn_sq hn
  have h3 := sq_mul (sR X) (sR X)
  have h4 := sq_mul (sR X * sR X) (ivn X.length)
  have h5 := pR_sq h
  have h6 := sq_sub (pR X) (sR X * sR X * ivn X.length)
  unfold lsV
  omega
theorem sloss_c {X : List Rat} {k : Nat} (hk : k ≤ 1000000) (h : AllQ X k) (hn : X.length ≤ 1000) :
    R FF 218 [.agg [(AV.i .i64 ((X.length : Int))), .b (ng (sR X).num), (AV.l 1 (List.map u (D (sR X).num.natAbs))), (AV.l 1 (List.map u (D (sR X).den))), .b (ng (pR X).num), (AV.l 1 (List.map u (D (pR X).num.natAbs))), (AV.l 1 (List.map u (D (pR X).den)))]] = some (AV.agg [AV.b (ng (Rat.num (lsV X))), (AV.l 1 (List.map u (D (Int.natAbs (Rat.num (lsV X)))))), (AV.l 1 (List.map u (D (Rat.den (lsV X)))))]) := by
  have s1 := sR_sq h
  have s2 := pR_sq h
  have s3 := len_mul hn (show k + 1 ≤ 1000001 by omega)
  have s4 := len_mul hn (show 2 * k + 1 ≤ 2000001 by omega)
  have s5 := sq_mul (sR X) (sR X)
  have s6 := ivn_sq (n := X.length) (by omega)
  have s7 := sq_mul (sR X * sR X) (ivn X.length)
  have f1 := qmul_cc (s := sR X) (t := sR X) (k := 1000001001) (j := 1000001001) (by omega) (by omega) (by omega) (by omega)
  have f2 := qfracn_c (n := X.length) (by omega)
  have f3 := qmul_cc (s := sR X * sR X) (t := ivn X.length) (k := 2000002002) (j := 2) (by omega) (by omega) (by omega) (by omega)
  have f4 := qsub_cc (s := pR X) (t := sR X * sR X * ivn X.length) (k := 2000001001) (j := 2000002004) (by omega) (by omega) (by omega) (by omega)
  have z1 := qzero_c
  by_cases h0 : X.length = 0
  · have : X = [] := List.length_eq_zero_iff.1 h0
    subst this
    have e : lsV [] = 0 := by show (0 : Rat) - 0 * 0 * _ = 0; grind
    rw [e]
    show R FF 218 [.agg [(AV.i .i64 0), .b (ng (sR []).num), (AV.l 1 (List.map u (D (sR []).num.natAbs))), (AV.l 1 (List.map u (D (sR []).den))), .b (ng (pR []).num), (AV.l 1 (List.map u (D (pR []).num.natAbs))), (AV.l 1 (List.map u (D (pR []).den)))]] = _
    rw [R_go FF F218 c218.eq_1]
    simp only [RB, un, St.none, Nat.reduceEqDiff, Nat.reduceAdd, Nat.reduceMul, Nat.reduceMod, Nat.reduceLeDiff, Nat.reduceLT, Int.reduceLT, Int.reduceLE, Int.reduceEq, Int.reduceToNat, Int.reduceSub, Int.reduceNeg, Int.reduceAdd, ↓reduceIte, reduceCtorEq, ite_self, eq_self, if_true, if_false, pack, pid, parN, List.not_mem_nil, List.mem_cons, lid, chkK, apartV, List.map_nil, List.flatMap_nil, List.append_nil, List.nil_append, List.drop_zero, List.length_set, List.length_replicate, List.length_append, List.take_length, List.take_zero, List.drop_length, Option.isNone_none, Heap.none, z1, n64]
  · have h0' : ¬ (X.length : Int) = 0 := by omega
    unfold lsV
    generalize pR X = p at *
    generalize sR X = s at *
    generalize s * s * ivn X.length = y at *
    generalize s * s = x at *
    rw [R_go FF F218 c218.eq_1]
    simp only [RB, un, St.none, Nat.reduceEqDiff, Nat.reduceAdd, Nat.reduceMul, Nat.reduceMod, Nat.reduceLeDiff, Nat.reduceLT, Int.reduceLT, Int.reduceLE, Int.reduceEq, Int.reduceToNat, Int.reduceSub, Int.reduceNeg, Int.reduceAdd, ↓reduceIte, reduceCtorEq, ite_self, eq_self, if_true, if_false, pack, pid, parN, List.not_mem_nil, List.mem_cons, lid, chkK, apartV, List.map_nil, List.flatMap_nil, List.append_nil, List.nil_append, List.drop_zero, List.length_set, List.length_replicate, List.length_append, List.take_length, List.take_zero, List.drop_length, Option.isNone_none, Heap.none, f1, f2, f3, f4, h0', n64]
end Go.Pe
set_option linter.unusedVariables false
set_option linter.unusedSimpArgs false
open Go
namespace Go.Pe
theorem mean26_l0 {f : Int} {rows : List (List AV)} {V : List RQt} {l : List Nat} {k : Nat} (hk : k ≤ 1000000) (h1k : 1 ≤ k) (hV : SmL V k) (hVl : V.length ≤ 1000) (hl : InX l V.length) (hn : l.length ≤ 1000) : ∀ (d i : Nat), i + d = l.length →
    LP FF [(4, 1), (5, 1), (1, 0), (2, 0), (6, 0)] [(4, 1), (1, 0), (5, 0)] b219_0 [.ownp [.b false, .l 1 [], .l 1 []], .ownp [.b (ng (sR (vsL V (l.take i))).num), (AV.l 1 (List.map u (D (sR (vsL V (l.take i))).num.natAbs))), (AV.l 1 (List.map u (D (sR (vsL V (l.take i))).den)))], .l 1 (l.map eX), .tp [(AV.i .i64 f), .l 1 rows, .l 3 (V.map eQ)] 0, (AV.i .i64 ((i : Int)))] =
      some (.exit 0, [.ownp [.b false, .l 1 [], .l 1 []], .l 1 (l.map eX), .tp [.b (ng (sR (vsL V l)).num), (AV.l 1 (List.map u (D (sR (vsL V l)).num.natAbs))), (AV.l 1 (List.map u (D (sR (vsL V l)).den)))] 0]) := by
  intro d
  induction d with
  | zero =>
    intro i hi
    have hi' : i = l.length := by omega
    rw [hi', List.take_of_length_le (Nat.le_refl _)]
    have c1 : ¬ (l.length : Int) < (l.length : Int) := by omega
    rw [LP_go FF b219_0.eq_1]
    simp only [RB, un, St.none, Nat.reduceEqDiff, Nat.reduceAdd, Nat.reduceMul, Nat.reduceMod, Nat.reduceLeDiff, Nat.reduceLT, Int.reduceLT, Int.reduceLE, Int.reduceEq, Int.reduceToNat, Int.reduceSub, Int.reduceNeg, Int.reduceAdd, ↓reduceIte, reduceCtorEq, ite_self, eq_self, if_true, if_false, pack, pid, parN, List.not_mem_nil, List.mem_cons, lid, chkK, apartV, List.map_nil, List.flatMap_nil, List.append_nil, List.nil_append, List.drop_zero, List.length_set, List.length_replicate, List.length_append, List.take_length, List.take_zero, List.drop_length, Option.isNone_none, Heap.none, c1, eX_rules, eX_row]
  | succ d ih =>
    intro i hi
    have hlt : i < l.length := by omega
    have h9 := ih (i + 1) (by omega)
    have hx : l.getD i 0 < V.length := hl _ (getD_mem' 0 hlt)
    rw [vsL_snoc hlt, sR_snoc] at h9
    have a1 := vsL_all hV h1k (take_all (i := i) hl)
    have s1 := sR_sq a1
    rw [vsL_len] at s1
    have hti : (l.take i).length ≤ 1000 := Nat.le_trans (List.length_take_le _ _) (by omega)
    have s3 := len_mul hti (show k + 1 ≤ 1000001 by omega)
    have hxk := hV _ (getD_mem' dQ hx)
    have f1 := qadd_v (s := sR (vsL V (l.take i))) (x := V.getD (l.getD i 0) dQ) (k := 1000001001) (j := k) (by omega) hxk (by omega) (by omega)
    generalize sR (vsL V (l.take i)) = s at *
    have c1 : (i : Int) < (l.length : Int) := by omega
    have c2 : ((l.getD i 0 : Nat) : Int) < (V.length : Int) := by omega
    have e2 : IntKind.i64.wrap ((i : Int) + 1) = ((i + 1 : Nat) : Int) := w64succ (by omega)
    generalize vQ (V.getD (l.getD i 0) dQ) = y at *
    rw [LP_go FF b219_0.eq_1]
    simp only [RB, un, St.none, Nat.reduceEqDiff, Nat.reduceAdd, Nat.reduceMul, Nat.reduceMod, Nat.reduceLeDiff, Nat.reduceLT, Int.reduceLT, Int.reduceLE, Int.reduceEq, Int.reduceToNat, Int.reduceSub, Int.reduceNeg, Int.reduceAdd, ↓reduceIte, reduceCtorEq, ite_self, eq_self, if_true, if_false, pack, pid, parN, List.not_mem_nil, List.mem_cons, lid, chkK, apartV, List.map_nil, List.flatMap_nil, List.append_nil, List.nil_append, List.drop_zero, List.length_set, List.length_replicate, List.length_append, List.take_length, List.take_zero, List.drop_length, Option.isNone_none, Heap.none, c1, c2, eX_rules, eX_row, eQ_rules, eQ_row, Int.natCast_nonneg, f1, e2, n64]
    exact h9
theorem mean26_c {f : Int} {rows : List (List AV)} {V : List RQt} {l : List Nat} {k : Nat} (hk : k ≤ 1000000) (h1k : 1 ≤ k) (hV : SmL V k) (hVl : V.length ≤ 1000) (hl : InX l V.length) (hn : l.length ≤ 1000) :
    R FF 219 [.agg [(AV.i .i64 f), .l 1 rows, .l 3 (V.map eQ)], .l 1 (l.map eX)] = some (AV.agg [AV.b (ng (Rat.num (mnV (vsL V l)))), (AV.l 1 (List.map u (D (Int.natAbs (Rat.num (mnV (vsL V l))))))), (AV.l 1 (List.map u (D (Rat.den (mnV (vsL V l))))))]) := by
  have z1 := qzero_c
  have l0 := mean26_l0 (f := f) (rows := rows) hk h1k hV hVl hl hn l.length 0 (by omega)
  rw [List.take_zero, show sR (vsL V []) = 0 from rfl, Int.ofNat_zero] at l0
  have s1 := sR_sq (vsL_all hV h1k hl)
  rw [vsL_len] at s1
  have s3 := len_mul hn (show k + 1 ≤ 1000001 by omega)
  have s6 := ivn_sq (n := l.length) (by omega)
  have f2 := qfracn_c (n := l.length) (by omega)
  have f3 := qmul_cc (s := sR (vsL V l)) (t := ivn l.length) (k := 1000001001) (j := 2) (by omega) (by omega) (by omega) (by omega)
  have e : mnV (vsL V l) = sR (vsL V l) * ivn l.length := by unfold mnV; rw [vsL_len]
  rw [e]
  generalize sR (vsL V l) = s at *
  generalize s * ivn l.length = x at *
  rw [R_go FF F219 c219.eq_1]
  simp only [RB, un, St.none, Nat.reduceEqDiff, Nat.reduceAdd, Nat.reduceMul, Nat.reduceMod, Nat.reduceLeDiff, Nat.reduceLT, Int.reduceLT, Int.reduceLE, Int.reduceEq, Int.reduceToNat, Int.reduceSub, Int.reduceNeg, Int.reduceAdd, ↓reduceIte, reduceCtorEq, ite_self, eq_self, if_true, if_false, pack, pid, parN, List.not_mem_nil, List.mem_cons, lid, chkK, apartV, List.map_nil, List.flatMap_nil, List.append_nil, List.nil_append, List.drop_zero, List.length_set, List.length_replicate, List.length_append, List.take_length, List.take_zero, List.drop_length, Option.isNone_none, Heap.none, z1, l0, n64, eX_rules, eX_row, f2, f3]
theorem dR_sq {m : Rat} {k j : Nat} (hm : sq m ≤ j) : ∀ {l : List Rat}, AllQ l k → sq (dR m l) ≤ l.length * (2 * (k + j + 1) + 1) + 1
  | [], _ => Nat.le_trans sq_zero (by omega)
  | x :: l, h => by
    have h1 := dR_sq hm (l := l) (fun y hy => h y (List.mem_cons_of_mem _ hy))
    have h2 := sq_add ((x - m) * (x - m)) (dR m l)
    have h3 := h x (List.mem_cons_self ..)
    have h4 := sq_mul (x - m) (x - m)
    have h5 := sq_sub x m
    show sq ((x - m) * (x - m) + dR m l) ≤ _
    rw [List.length_cons, Nat.add_mul, Nat.one_mul]
    omega
theorem loss26_l0 {f : Int} {rows : List (List AV)} {V : List RQt} {l : List Nat} {k : Nat} {m : Rat} (hk : k ≤ 1000) (hm : sq m ≤ 2000000) (h1k : 1 ≤ k) (hV : SmL V k) (hVl : V.length ≤ 1000) (hl : InX l V.length) (hn : l.length ≤ 1000) : ∀ (d i : Nat), i + d = l.length →
    LP FF [(4, 1), (6, 1), (1, 0), (2, 0), (5, 0), (7, 0)] [(4, 1), (6, 0)] b173_0 [.ownp [.b false, .l 1 [], .l 1 []], .ownp [.b (ng (dR m (vsL V (l.take i))).num), (AV.l 1 (List.map u (D (dR m (vsL V (l.take i))).num.natAbs))), (AV.l 1 (List.map u (D (dR m (vsL V (l.take i))).den)))], .l 1 (l.map eX), .tp [(AV.i .i64 f), .l 1 rows, .l 3 (V.map eQ)] 0, .tp [.b (ng m.num), (AV.l 1 (List.map u (D m.num.natAbs))), (AV.l 1 (List.map u (D m.den)))] 0, (AV.i .i64 ((i : Int)))] =
      some (.exit 0, [.ownp [.b false, .l 1 [], .l 1 []], .tp [.b (ng (dR m (vsL V l)).num), (AV.l 1 (List.map u (D (dR m (vsL V l)).num.natAbs))), (AV.l 1 (List.map u (D (dR m (vsL V l)).den)))] 0]) := by
  intro d
  induction d with
  | zero =>
    intro i hi
    have hi' : i = l.length := by omega
    rw [hi', List.take_of_length_le (Nat.le_refl _)]
    have c1 : ¬ (l.length : Int) < (l.length : Int) := by omega
    rw [LP_go FF b173_0.eq_1]
    simp only [RB, un, St.none, Nat.reduceEqDiff, Nat.reduceAdd, Nat.reduceMul, Nat.reduceMod, Nat.reduceLeDiff, Nat.reduceLT, Int.reduceLT, Int.reduceLE, Int.reduceEq, Int.reduceToNat, Int.reduceSub, Int.reduceNeg, Int.reduceAdd, ↓reduceIte, reduceCtorEq, ite_self, eq_self, if_true, if_false, pack, pid, parN, List.not_mem_nil, List.mem_cons, lid, chkK, apartV, List.map_nil, List.flatMap_nil, List.append_nil, List.nil_append, List.drop_zero, List.length_set, List.length_replicate, List.length_append, List.take_length, List.take_zero, List.drop_length, Option.isNone_none, Heap.none, c1, eX_rules, eX_row]
  | succ d ih =>
    intro i hi
    have hlt : i < l.length := by omega
    have h9 := ih (i + 1) (by omega)
    have hx : l.getD i 0 < V.length := hl _ (getD_mem' 0 hlt)
    rw [vsL_snoc hlt, dR_snoc] at h9
    have a1 := vsL_all hV h1k (take_all (i := i) hl)
    have s1 := dR_sq hm a1
    rw [vsL_len] at s1
    have hti : (l.take i).length ≤ 1000 := Nat.le_trans (List.length_take_le _ _) (by omega)
    have s3 := len_mul hti (show 2 * (k + 2000000 + 1) + 1 ≤ 4002003 by omega)
    have hxk := hV _ (getD_mem' dQ hx)
    have v1 : sq (vQ (V.getD (l.getD i 0) dQ)) ≤ k := Sm.sq hxk h1k
    have v2 := sq_sub (vQ (V.getD (l.getD i 0) dQ)) m
    have v3 := sq_mul (vQ (V.getD (l.getD i 0) dQ) - m) (vQ (V.getD (l.getD i 0) dQ) - m)
    have f1 := qsub_vc (s := m) (x := V.getD (l.getD i 0) dQ) (k := 2000000) (j := k) (by omega) hxk (by omega) (by omega)
    have f2 := qmul_cc (s := vQ (V.getD (l.getD i 0) dQ) - m) (t := vQ (V.getD (l.getD i 0) dQ) - m) (k := 2001001) (j := 2001001) (by omega) (by omega) (by omega) (by omega)
    have f3 := qadd_cc (s := dR m (vsL V (l.take i))) (t := (vQ (V.getD (l.getD i 0) dQ) - m) * (vQ (V.getD (l.getD i 0) dQ) - m)) (k := 4002003001) (j := 4002002) (by omega) (by omega) (by omega) (by omega)
    generalize dR m (vsL V (l.take i)) = s at *
    have c1 : (i : Int) < (l.length : Int) := by omega
    have c2 : ((l.getD i 0 : Nat) : Int) < (V.length : Int) := by omega
    have e2 : IntKind.i64.wrap ((i : Int) + 1) = ((i + 1 : Nat) : Int) := w64succ (by omega)
    generalize vQ (V.getD (l.getD i 0) dQ) - m = y at *
    generalize y * y = z at *
    generalize s + z = w at *
    rw [LP_go FF b173_0.eq_1]
    simp only [RB, un, St.none, Nat.reduceEqDiff, Nat.reduceAdd, Nat.reduceMul, Nat.reduceMod, Nat.reduceLeDiff, Nat.reduceLT, Int.reduceLT, Int.reduceLE, Int.reduceEq, Int.reduceToNat, Int.reduceSub, Int.reduceNeg, Int.reduceAdd, ↓reduceIte, reduceCtorEq, ite_self, eq_self, if_true, if_false, pack, pid, parN, List.not_mem_nil, List.mem_cons, lid, chkK, apartV, List.map_nil, List.flatMap_nil, List.append_nil, List.nil_append, List.drop_zero, List.length_set, List.length_replicate, List.length_append, List.take_length, List.take_zero, List.drop_length, Option.isNone_none, Heap.none, c1, c2, eX_rules, eX_row, eQ_rules, eQ_row, Int.natCast_nonneg, f1, f2, f3, e2, n64]
    exact h9
theorem loss26_c {f : Int} {rows : List (List AV)} {V : List RQt} {l : List Nat} {k : Nat} (hk : k ≤ 1000) (h1k : 1 ≤ k) (hV : SmL V k) (hVl : V.length ≤ 1000) (hl : InX l V.length) (hn : l.length ≤ 1000) :
    R FF 173 [.agg [(AV.i .i64 f), .l 1 rows, .l 3 (V.map eQ)], .l 1 (l.map eX)] = some (AV.agg [AV.b (ng (Rat.num (lsV (vsL V l)))), (AV.l 1 (List.map u (D (Int.natAbs (Rat.num (lsV (vsL V l))))))), (AV.l 1 (List.map u (D (Rat.den (lsV (vsL V l))))))]) := by
  have z1 := qzero_c
  have f1 := mean26_c (f := f) (rows := rows) (k := k) (by omega) h1k hV hVl hl hn
  have a1 := vsL_all hV h1k hl
  have m1 := mnV_sq a1 (by rw [vsL_len]; omega)
  rw [vsL_len] at m1
  have s3 := len_mul hn (show k + 1 ≤ 1001 by omega)
  have l0 := loss26_l0 (f := f) (rows := rows) (m := mnV (vsL V l)) hk (by omega) h1k hV hVl hl hn l.length 0 (by omega)
  rw [List.take_zero, show dR (mnV (vsL V l)) (vsL V []) = 0 from rfl, Int.ofNat_zero, dR_loss] at l0
  generalize mnV (vsL V l) = m at *
  generalize lsV (vsL V l) = x at *
  rw [R_go FF F173 c173.eq_1]
  simp only [RB, un, St.none, Nat.reduceEqDiff, Nat.reduceAdd, Nat.reduceMul, Nat.reduceMod, Nat.reduceLeDiff, Nat.reduceLT, Int.reduceLT, Int.reduceLE, Int.reduceEq, Int.reduceToNat, Int.reduceSub, Int.reduceNeg, Int.reduceAdd, ↓reduceIte, reduceCtorEq, ite_self, eq_self, if_true, if_false, pack, pid, parN, List.not_mem_nil, List.mem_cons, lid, chkK, apartV, List.map_nil, List.flatMap_nil, List.append_nil, List.nil_append, List.drop_zero, List.length_set, List.length_replicate, List.length_append, List.take_length, List.take_zero, List.drop_length, Option.isNone_none, Heap.none, z1, f1, l0, n64, eX_rules, eX_row]
theorem range_X (i : Nat) : (List.range i).map eX ++ [n64 ((i : Nat) : Int)] = (List.range (i + 1)).map eX := by rw [List.range_succ, List.map_append]; rfl
theorem Loss_l0 {x : List AV} {n : Nat} (hn : n ≤ 1000) : ∀ (d i : Nat), i + d = n →
    LP FF [(2, 1), (4, 1), (3, 0), (9, 0), (10, 0)] [(2, 1), (3, 0), (4, 0)] b172_0 [.ownp [.b false, .l 1 [], .l 1 []], .own true 1 ((List.range i).map eX), .tp x 0, (AV.i .i64 ((n : Int))), (AV.i .i64 ((i : Int)))] =
      some (.exit 0, [.ownp [.b false, .l 1 [], .l 1 []], .tp x 0, .l 1 ((List.range n).map eX)]) := by
  intro d
  induction d with
  | zero =>
    intro i hi
    rw [show i = n by omega]
    have c1 : ¬ (n : Int) < (n : Int) := by omega
    rw [LP_go FF b172_0.eq_1]
    simp only [RB, un, St.none, Nat.reduceEqDiff, Nat.reduceAdd, Nat.reduceMul, Nat.reduceMod, Nat.reduceLeDiff, Nat.reduceLT, Int.reduceLT, Int.reduceLE, Int.reduceEq, Int.reduceToNat, Int.reduceSub, Int.reduceNeg, Int.reduceAdd, ↓reduceIte, reduceCtorEq, ite_self, eq_self, if_true, if_false, pack, pid, parN, List.not_mem_nil, List.mem_cons, lid, chkK, apartV, List.map_nil, List.flatMap_nil, List.append_nil, List.nil_append, List.drop_zero, List.length_set, List.length_replicate, List.length_append, List.take_length, List.take_zero, List.drop_length, Option.isNone_none, Heap.none, c1, eX_rules, eX_row]
  | succ d ih =>
    intro i hi
    have h9 := ih (i + 1) (by omega)
    have c1 : (i : Int) < (n : Int) := by omega
    have e2 : IntKind.i64.wrap ((i : Int) + 1) = ((i + 1 : Nat) : Int) := w64succ (by omega)
    have b2 : (i + 1) * 8 ≤ 140737488355328 := by omega
    have m1 := range_X i
    have m2 : (List.range i).length = i := List.length_range ..
    have m3 : List.take i (List.range i) = List.range i := List.take_of_length_le (by rw [m2]; exact Nat.le_refl _)
    have m4 : (List.range (i + 1)).length = i + 1 := List.length_range ..
    have m5 : List.take (i + 1) (List.range (i + 1)) = List.range (i + 1) := List.take_of_length_le (by rw [m4]; exact Nat.le_refl _)
    rw [LP_go FF b172_0.eq_1]
    simp only [RB, un, St.none, Nat.reduceEqDiff, Nat.reduceAdd, Nat.reduceMul, Nat.reduceMod, Nat.reduceLeDiff, Nat.reduceLT, Int.reduceLT, Int.reduceLE, Int.reduceEq, Int.reduceToNat, Int.reduceSub, Int.reduceNeg, Int.reduceAdd, ↓reduceIte, reduceCtorEq, ite_self, eq_self, if_true, if_false, pack, pid, parN, List.not_mem_nil, List.mem_cons, lid, chkK, apartV, List.map_nil, List.flatMap_nil, List.append_nil, List.nil_append, List.drop_zero, List.length_set, List.length_replicate, List.length_append, List.take_length, List.take_zero, List.drop_length, Option.isNone_none, Heap.none, c1, eX_rules, eX_row, Int.natCast_nonneg, e2, b2, m1, m2, m3, m4, m5]
    exact h9
end Go.Pe
set_option linter.unusedVariables false
set_option linter.unusedSimpArgs false
open Go
namespace Go.Pe
def runV (ov : Nat → List AV → Option AV) (F : Nat → Option PF) : Nat → Nat → List AV → Option AV
  | 0, _, _ => none
  | k + 1, f, xs => match ov f xs with
    | some v => some v
    | none => (F f).bind fun p => (p.body.ev (runV ov F k) (loopF (runV ov F k) k) (un (parN p.lent 0 xs) xs)).bind (finE p)
theorem loopF_R (F : Nat → Option PF) : ∀ k, LeL (loopF (R F) k) (LP F) := by
  intro k
  induction k with
  | zero => intro l o x vs y e; cases e
  | succ k ih =>
    intro l o x vs
    rw [LP_eq]
    exact Le.bind (PC.mono (fun _ _ => Le.refl _) ih x _) fun p => round_mono (ih l o x) p
theorem runV_ok {ov : Nat → List AV → Option AV} {F : Nat → Option PF} (h : LeC ov (R F)) : ∀ k, LeC (runV ov F k) (R F) := by
  intro k
  induction k with
  | zero => intro f xs y e; cases e
  | succ k ih =>
    intro f xs y e
    rw [runV] at e
    cases h9 : ov f xs with
    | some v => rw [h9] at e; exact h f xs y (h9.trans e)
    | none =>
      rw [h9] at e
      rw [R_eq]
      refine Le.bind (Le.refl _) (fun p => Le.bind ?_ fun q => Le.refl _) y e
      exact PC.mono ih (fun l o x vs => Le.trans (loopF_call ih k l o x vs) (loopF_R F k l o x vs)) _ _
def dgf : Nat → Nat → List Int
  | 0, _ => []
  | k + 1, n => if n = 0 then [] else ((n % 4294967296 : Nat) : Int) :: dgf k (n / 4294967296)
theorem dgf_D : ∀ k n, n < 4294967296 ^ k → dgf k n = D n := by
  intro k
  induction k with
  | zero =>
    intro n h
    have : n = 0 := by rw [Nat.pow_zero] at h; omega
    subst this
    exact (Dg.dg_zero _).symm
  | succ k ih =>
    intro n h
    unfold dgf
    by_cases h0 : n = 0
    · rw [if_pos h0, h0]; exact (Dg.dg_zero _).symm
    · rw [if_neg h0]
      show _ = Dg.dg 4294967296 n
      rw [Dg.dg_succ (by decide) h0, ih (n / 4294967296) (by rw [Nat.div_lt_iff_lt_mul (by decide), ← Nat.pow_succ]; exact h)]
      rfl
def encQ (x : Rat) : Option AV :=
  if x.num.natAbs < 4294967296 ^ 20 ∧ x.den < 4294967296 ^ 20 then some (.agg [.b (decide (x.num < 0)), .l 1 ((dgf 20 x.num.natAbs).map u), .l 1 ((dgf 20 x.den).map u)]) else none
theorem encQ_ok {x : Rat} {v : AV} (h : encQ x = some v) : v = (AV.agg [AV.b (ng (Rat.num x)), (AV.l 1 (List.map u (D (Int.natAbs (Rat.num x))))), (AV.l 1 (List.map u (D (Rat.den x))))]) := by
  unfold encQ at h
  split at h
  · rename_i h1
    rw [dgf_D _ _ h1.1, dgf_D _ _ h1.2] at h
    exact (Option.some.inj h).symm
  · cases h
def decW : List (List AV) → Option (List Int)
  | [] => some []
  | [.i .u64 n] :: l => if 0 ≤ n ∧ n ≤ 18446744073709551615 then (decW l).map (n :: ·) else none
  | _ => none
theorem decW_ok : ∀ {es : List (List AV)} {l : List Int}, decW es = some l → es = l.map u ∧ U l := by
  intro es
  induction es with
  | nil => intro l h; cases h; exact ⟨rfl, fun _ h => (List.not_mem_nil h).elim⟩
  | cons e es ih =>
    intro l h
    unfold decW at h
    split at h
    · rename_i h'; cases h'
    · rename_i n l' heq
      cases heq
      split at h
      · rename_i hn
        obtain ⟨l2, h2, rfl⟩ := Option.map_eq_some_iff.1 h
        obtain ⟨g1, g2⟩ := ih h2
        exact ⟨by rw [g1]; rfl, fun x hx => (List.mem_cons.1 hx).elim (fun e => by rw [e]; exact hn) (g2 x)⟩
      · cases h
    · cases h
def decQ : AV → Option (Bool × List Int × List Int)
  | .agg [.b q, .l 1 a, .l 1 b] => (decW a).bind fun l => (decW b).bind fun d => if l.length ≤ 100 ∧ d.length ≤ 100 then some (q, l, d) else none
  | _ => none
theorem decQ_ok {v : AV} {x : Bool × List Int × List Int} (h : decQ v = some x) : v = (AV.agg [AV.b x.1, (AV.l 1 (List.map u x.2.1)), (AV.l 1 (List.map u x.2.2))]) ∧ Sm x.2.1 x.2.2 100 := by
  unfold decQ at h
  split at h
  · rename_i q a b
    obtain ⟨l, h1, h⟩ := Option.bind_eq_some_iff.1 h
    obtain ⟨d, h2, h⟩ := Option.bind_eq_some_iff.1 h
    split at h
    · rename_i hl
      cases h
      obtain ⟨rfl, u1⟩ := decW_ok h1
      obtain ⟨rfl, u2⟩ := decW_ok h2
      exact ⟨rfl, ⟨u1, hl.1⟩, u2, hl.2⟩
    · cases h
  · cases h
def two (g : Rat → Rat → Option AV) : List AV → Option AV
  | [a, b] => (decQ a).bind fun x => (decQ b).bind fun y => g (qv x.1 x.2.1 x.2.2) (qv y.1 y.2.1 y.2.2)
  | _ => none
def one (g : Rat → Option AV) : List AV → Option AV
  | [a] => (decQ a).bind fun x => g (qv x.1 x.2.1 x.2.2)
  | _ => none
theorem two_ok {f : Nat} {g : Rat → Rat → Option AV} (h : ∀ q l d r m e v, Sm l d 100 → Sm m e 100 → g (qv q l d) (qv r m e) = some v → R FF f [(AV.agg [AV.b q, (AV.l 1 (List.map u l)), (AV.l 1 (List.map u d))]), (AV.agg [AV.b r, (AV.l 1 (List.map u m)), (AV.l 1 (List.map u e))])] = some v) : ∀ xs, Le (two g xs) (R FF f xs) := by
  intro xs v hv
  unfold two at hv
  split at hv
  · obtain ⟨x, h1, k1⟩ := Option.bind_eq_some_iff.1 hv
    obtain ⟨y, h2, k2⟩ := Option.bind_eq_some_iff.1 k1
    obtain ⟨e1, s1⟩ := decQ_ok h1
    obtain ⟨e2, s2⟩ := decQ_ok h2
    rw [e1, e2]
    exact h _ _ _ _ _ _ _ s1 s2 k2
  · cases hv
theorem one_ok {f : Nat} {g : Rat → Option AV} (h : ∀ q l d v, Sm l d 100 → g (qv q l d) = some v → R FF f [(AV.agg [AV.b q, (AV.l 1 (List.map u l)), (AV.l 1 (List.map u d))])] = some v) : ∀ xs, Le (one g xs) (R FF f xs) := by
  intro xs v hv
  unfold one at hv
  split at hv
  · obtain ⟨x, h1, k1⟩ := Option.bind_eq_some_iff.1 hv
    obtain ⟨e1, s1⟩ := decQ_ok h1
    rw [e1]
    exact h _ _ _ _ s1 k1
  · cases hv
def ovF (f : Nat) (g : List AV → Option AV) (rest : Nat → List AV → Option AV) (n : Nat) (xs : List AV) : Option AV := if n = f then g xs else rest n xs
theorem ovF_ok {f : Nat} {g : List AV → Option AV} {rest : Nat → List AV → Option AV} (h1 : ∀ xs, Le (g xs) (R FF f xs)) (h2 : LeC rest (R FF)) : LeC (ovF f g rest) (R FF) := by
  intro n xs v h
  unfold ovF at h
  split at h
  · rename_i e; subst e; exact h1 xs v h
  · exact h2 n xs v h
def nothing (n : Nat) (xs : List AV) : Option AV := none
theorem nothing_ok : LeC nothing (R FF) := fun _ _ _ h => by cases h
end Go.Pe
set_option linter.unusedVariables false
set_option linter.unusedSimpArgs false
open Go
namespace Go.Pe
theorem ov_add (xs : List AV) : Le (two (fun x y => encQ (x + y)) xs) (R FF 31 xs) := two_ok (fun q l d r m e v h1 h2 h => by rw [encQ_ok h]; exact qadd_s h1 h2 (by omega) (by omega)) xs
theorem ov_sub (xs : List AV) : Le (two (fun x y => encQ (x - y)) xs) (R FF 55 xs) := two_ok (fun q l d r m e v h1 h2 h => by rw [encQ_ok h]; exact qsub_s h1 h2 (by omega) (by omega)) xs
theorem ov_mul (xs : List AV) : Le (two (fun x y => encQ (x * y)) xs) (R FF 94 xs) := two_ok (fun q l d r m e v h1 h2 h => by rw [encQ_ok h]; exact qmul_s h1 h2 (by omega) (by omega)) xs
theorem ov_cmp (xs : List AV) : Le (two (fun x y => some (AV.i .i64 (qcmp x y))) xs) (R FF 14 xs) := two_ok (fun q l d r m e v h1 h2 h => by rw [← Option.some.inj h]; exact qcmp_s h1 h2 (by omega) (by omega)) xs
theorem ov_same (xs : List AV) : Le (two (fun x y => some (.b (decide (x = y)))) xs) (R FF 57 xs) := two_ok (fun q l d r m e v h1 h2 h => by rw [← Option.some.inj h]; exact qsame_s h1 h2 (by omega) (by omega)) xs
theorem ov_sign (xs : List AV) : Le (one (fun x => some (AV.i .i64 (cmp x.num 0))) xs) (R FF 162 xs) := one_ok (fun q l d v h1 h => by rw [← Option.some.inj h]; exact qsign_c (by omega) h1) xs
theorem ov_clean (xs : List AV) : Le (one encQ xs) (R FF 63 xs) := one_ok (fun q l d v h1 h => by rw [encQ_ok h]; exact qclean_s h1 (by omega)) xs
def ofG : List AV → Option AV
  | [.i .i64 n] => if -1000000 < n ∧ n < 1000000 then encQ n else none
  | _ => none
theorem ov_of (xs : List AV) : Le (ofG xs) (R FF 68 xs) := by
  intro v h
  unfold ofG at h
  split at h
  · split at h
    · rw [encQ_ok h]; exact qof_c (by omega) (by omega)
    · cases h
  · cases h
def fracG : List AV → Option AV
  | [.i .i64 1, .i .i64 n] => if 0 ≤ n ∧ n < 1000000 then encQ (ivn n.toNat) else none
  | _ => none
theorem ov_frac (xs : List AV) : Le (fracG xs) (R FF 95 xs) := by
  intro v h
  unfold fracG at h
  split at h
  · rename_i n
    split at h
    · rename_i hn
      rw [encQ_ok h]
      obtain ⟨m, rfl⟩ : ∃ m : Nat, n = m := ⟨n.toNat, by omega⟩
      exact qfracn_c (by omega)
    · cases h
  · cases h
def nilG (x : Rat) : List AV → Option AV
  | [] => encQ x
  | _ => none
theorem ov_zero (xs : List AV) : Le (nilG 0 xs) (R FF 54 xs) := by
  intro v h
  unfold nilG at h
  split at h
  · rw [encQ_ok h]; exact qzero_c
  · cases h
theorem ov_one (xs : List AV) : Le (nilG 1 xs) (R FF 56 xs) := by
  intro v h
  unfold nilG at h
  split at h
  · rw [encQ_ok h]; exact qone_c
  · cases h
def ovQ : Nat → List AV → Option AV :=
  ovF 31 (two fun x y => encQ (x + y)) <| ovF 55 (two fun x y => encQ (x - y)) <| ovF 94 (two fun x y => encQ (x * y)) <| ovF 14 (two fun x y => some (AV.i .i64 (qcmp x y))) <| ovF 57 (two fun x y => some (.b (decide (x = y)))) <| ovF 162 (one fun x => some (AV.i .i64 (cmp x.num 0))) <|
  ovF 63 (one encQ) <| ovF 68 ofG <| ovF 95 fracG <| ovF 54 (nilG 0) <| ovF 56 (nilG 1) nothing
theorem ovQ_ok : LeC ovQ (R FF) :=
  ovF_ok ov_add <| ovF_ok ov_sub <| ovF_ok ov_mul <| ovF_ok ov_cmp <| ovF_ok ov_same <| ovF_ok ov_sign <| ovF_ok ov_clean <| ovF_ok ov_of <| ovF_ok ov_frac <| ovF_ok ov_zero <| ovF_ok ov_one nothing_ok
theorem runQ {k f : Nat} {xs : List AV} {v : AV} (h : runV ovQ FF k f xs = some v) : R FF f xs = some v := runV_ok ovQ_ok k f xs v h
end Go.Pe
set_option linter.unusedVariables false
open Go
namespace Go.Pe
theorem awake26 : R FF 170 [] = some (.b true) := runQ (k := 30) (by kernel_rfl)
end Go.Pe
set_option linter.unusedVariables false
set_option linter.unusedSimpArgs false
open Go
namespace Go.Pe
theorem inX_range (n : Nat) : InX (List.range n) n := fun i hi => List.mem_range.1 hi
theorem Loss_c {V : List RQt} {k : Nat} (hk : k ≤ 1000) (h1k : 1 ≤ k) (hV : SmL V k) (hVl : V.length ≤ 1000) : R FF 172 [.l 3 (V.map eQ)] = some (AV.agg [AV.b (ng (Rat.num (lsV (vsL V (List.range V.length))))), (AV.l 1 (List.map u (D (Int.natAbs (Rat.num (lsV (vsL V (List.range V.length)))))))), (AV.l 1 (List.map u (D (Rat.den (lsV (vsL V (List.range V.length)))))))]) := by
  have l0 := Loss_l0 (x := [(AV.i .i64 0), .l 1 [], .l 3 (V.map eQ)]) (n := V.length) hVl V.length 0 (by omega)
  rw [List.range_zero, Int.ofNat_zero] at l0
  simp only [List.map_nil] at l0
  have hn : (List.range V.length).length ≤ 1000 := by rw [List.length_range]; exact hVl
  have f1 := gof_c (f := 0) (rows := []) (k := k) (by omega) h1k hV hVl (inX_range V.length) hn
  have f2 := sloss_c (X := vsL V (List.range V.length)) (k := k) (by omega) (vsL_all hV h1k (inX_range _)) (by rw [vsL_len]; exact hn)
  rw [vsL_len] at f2
  generalize sR (vsL V (List.range V.length)) = s at *
  generalize pR (vsL V (List.range V.length)) = p at *
  generalize lsV (vsL V (List.range V.length)) = w at *
  generalize List.range V.length = L at *
  generalize L.length = m at *
  rw [R_go FF F172 c172.eq_1]
  simp only [RB, un, St.none, Nat.reduceEqDiff, Nat.reduceAdd, Nat.reduceMul, Nat.reduceMod, Nat.reduceLeDiff, Nat.reduceLT, Int.reduceLT, Int.reduceLE, Int.reduceEq, Int.reduceToNat, Int.reduceSub, Int.reduceNeg, Int.reduceAdd, ↓reduceIte, reduceCtorEq, ite_self, eq_self, if_true, if_false, pack, pid, parN, List.not_mem_nil, List.mem_cons, lid, chkK, apartV, List.map_nil, List.flatMap_nil, List.append_nil, List.nil_append, List.drop_zero, List.length_set, List.length_replicate, List.length_append, List.take_length, List.take_zero, List.drop_length, Option.isNone_none, Heap.none, l0, f1, f2, n64]
theorem GrowLosses_l0 {f : Int} {rows : List (List AV)} {V : List RQt} (hn : V.length ≤ 1000) : ∀ (d i : Nat), i + d = V.length →
    LP FF [(4, 1), (3, 0), (5, 0)] [(3, 0), (4, 0)] b144_0 [.own true 1 ((List.range i).map eX), .tp [(AV.i .i64 f), .l 1 rows, .l 3 (V.map eQ)] 0, (AV.i .i64 ((i : Int)))] =
      some (.exit 0, [.tp [(AV.i .i64 f), .l 1 rows, .l 3 (V.map eQ)] 0, .l 1 ((List.range V.length).map eX)]) := by
  intro d
  induction d with
  | zero =>
    intro i hi
    rw [show i = V.length by omega]
    have c1 : ¬ (V.length : Int) < (V.length : Int) := by omega
    rw [LP_go FF b144_0.eq_1]
    simp only [RB, un, St.none, Nat.reduceEqDiff, Nat.reduceAdd, Nat.reduceMul, Nat.reduceMod, Nat.reduceLeDiff, Nat.reduceLT, Int.reduceLT, Int.reduceLE, Int.reduceEq, Int.reduceToNat, Int.reduceSub, Int.reduceNeg, Int.reduceAdd, ↓reduceIte, reduceCtorEq, ite_self, eq_self, if_true, if_false, pack, pid, parN, List.not_mem_nil, List.mem_cons, lid, chkK, apartV, List.map_nil, List.flatMap_nil, List.append_nil, List.nil_append, List.drop_zero, List.length_set, List.length_replicate, List.length_append, List.take_length, List.take_zero, List.drop_length, Option.isNone_none, Heap.none, c1, eX_rules, eX_row]
  | succ d ih =>
    intro i hi
    have h9 := ih (i + 1) (by omega)
    have c1 : (i : Int) < (V.length : Int) := by omega
    have e2 : IntKind.i64.wrap ((i : Int) + 1) = ((i + 1 : Nat) : Int) := w64succ (by omega)
    have b2 : (i + 1) * 8 ≤ 140737488355328 := by omega
    have m1 := range_X i
    have m2 : (List.range i).length = i := List.length_range ..
    have m3 : List.take i (List.range i) = List.range i := List.take_of_length_le (by rw [m2]; exact Nat.le_refl _)
    have m4 : (List.range (i + 1)).length = i + 1 := List.length_range ..
    have m5 : List.take (i + 1) (List.range (i + 1)) = List.range (i + 1) := List.take_of_length_le (by rw [m4]; exact Nat.le_refl _)
    rw [LP_go FF b144_0.eq_1]
    simp only [RB, un, St.none, Nat.reduceEqDiff, Nat.reduceAdd, Nat.reduceMul, Nat.reduceMod, Nat.reduceLeDiff, Nat.reduceLT, Int.reduceLT, Int.reduceLE, Int.reduceEq, Int.reduceToNat, Int.reduceSub, Int.reduceNeg, Int.reduceAdd, ↓reduceIte, reduceCtorEq, ite_self, eq_self, if_true, if_false, pack, pid, parN, List.not_mem_nil, List.mem_cons, lid, chkK, apartV, List.map_nil, List.flatMap_nil, List.append_nil, List.nil_append, List.drop_zero, List.length_set, List.length_replicate, List.length_append, List.take_length, List.take_zero, List.drop_length, Option.isNone_none, Heap.none, c1, eX_rules, eX_row, Int.natCast_nonneg, e2, b2, m1, m2, m3, m4, m5]
    exact h9
theorem fD_vals {d : RD} (h : OkD d) : SmL (fD d).2.2 3 ∧ (fD d).2.2.length ≤ 6 := by
  constructor
  · intro x hx
    obtain ⟨y, hy, rfl⟩ := List.mem_map.1 (show x ∈ (d.2.2.take 6).map tQ from hx)
    exact Sm.take (k := maxL) (h.2.2.2 y (List.mem_of_mem_take hy)) 3
  · show ((d.2.2.take 6).map tQ).length ≤ 6
    rw [List.length_map]; exact List.length_take_le _ _
theorem law_GrowLosses (l : List RQt) (hl : l.length ≤ maxL ∧ ∀ x ∈ l, OkQ x) : R FF 144 [.l 3 (l.map eQ)] = some (.b true) := by
  have hd : OkD (0, [], l) := ⟨show I64 0 by decide, ⟨Nat.zero_le _, fun _ h => (List.not_mem_nil h).elim⟩, hl.1, hl.2⟩
  have f1 := few26_c hd
  obtain ⟨hV, hVl⟩ := fD_vals hd
  have e : fD (0, [], l) = (0, [], (fD (0, [], l)).2.2) := rfl
  rw [e] at f1
  generalize (fD (0, [], l)).2.2 = V at *
  have hn : (List.range V.length).length ≤ 1000 := by rw [List.length_range]; omega
  have l0 := GrowLosses_l0 (f := 0) (rows := []) (V := V) (by omega) V.length 0 (by omega)
  rw [List.range_zero, Int.ofNat_zero] at l0
  simp only [List.map_nil] at l0
  have g1 := Loss_c (k := 3) (by omega) (by omega) hV (by omega)
  have g2 := loss26_c (f := 0) (rows := []) (k := 3) (by omega) (by omega) hV (by omega) (inX_range V.length) hn
  have s1 := lsV_sq (vsL_all hV (by omega) (inX_range V.length)) (by rw [vsL_len]; omega)
  rw [vsL_len, List.length_range] at s1
  have s2 : sq (lsV (vsL V (List.range V.length))) ≤ 1000 := by
    refine Nat.le_trans s1 ?_
    omega
  have g3 := is10_c (x := lsV (vsL V (List.range V.length))) (q := ng (lsV (vsL V (List.range V.length))).num) (by omega) (by omega) s2 (sm_cq s2)
  rw [qv_cq, decide_eq_true rfl] at g3
  have aw := awake26
  generalize lsV (vsL V (List.range V.length)) = w at *
  generalize List.range V.length = L at *
  simp only [eD, List.map_nil] at f1
  rw [R_go FF F144 c144.eq_1]
  simp only [RB, un, St.none, Nat.reduceEqDiff, Nat.reduceAdd, Nat.reduceMul, Nat.reduceMod, Nat.reduceLeDiff, Nat.reduceLT, Int.reduceLT, Int.reduceLE, Int.reduceEq, Int.reduceToNat, Int.reduceSub, Int.reduceNeg, Int.reduceAdd, ↓reduceIte, reduceCtorEq, ite_self, eq_self, if_true, if_false, pack, pid, parN, List.not_mem_nil, List.mem_cons, lid, chkK, apartV, List.map_nil, List.flatMap_nil, List.append_nil, List.nil_append, List.drop_zero, List.length_set, List.length_replicate, List.length_append, List.take_length, List.take_zero, List.drop_length, Option.isNone_none, Heap.none, f1, l0, g1, g2, g3, aw, n64]
end Go.Pe
set_option linter.unusedVariables false
set_option linter.unusedSimpArgs false
namespace Go.Pe
open Go
structure Pl where
  z : Nat
  n : Nat
  loc : Option (Nat × Nat)
abbrev Rho := Nat → Option Pl
def Rho.none : Rho := fun _ => .none
theorem add_at (b o n : Nat) : (⟨b, o, none⟩ : Addr).add n = ⟨b, o + n, none⟩ := by unfold Addr.add; split <;> simp_all
inductive Rv (w : World) (T : Nat → Prop) : Rho → AV → Value → Prop
  | junk {ρ v} : Rv w T ρ .junk v
  | b {ρ x} : Rv w T ρ (.b x) (.bool x)
  | i {ρ k n} : Rv w T ρ (.i k n) (.int k n)
  | s {ρ x} : Rv w T ρ (.s x) (.string x)
  | np {ρ} : Rv w T ρ .np (.pointer none)
  | ns {ρ z} : Rv w T ρ (.ns z) (.slice none 0 0)
  | lnil {ρ z a cap} (ha : a = none → cap = 0) (hm : cap ≤ maxLen) : Rv w T ρ (.l z []) (.slice a 0 cap)
  | l {ρ z es b base cap} (g : Nat → Nat → Value) (hT : ¬ T b) (hb : b < w.heap.size) (hc : es.length ≤ cap) (hm : cap ≤ maxLen) (hz : ∀ j, j < es.length → (es.getD j []).length = z)
      (hcell : ∀ j c, j < es.length → c < z → w.cell? ⟨b, base + j * z + c, none⟩ = some (g j c) ∧ (g j c).oneCell' = true)
      (hv : ∀ j c, j < es.length → c < z → Rv w T Rho.none ((es.getD j []).getD c .junk) (g j c)) : Rv w T ρ (.l z es) (.slice (some ⟨b, base, none⟩) es.length cap)
  | tp {ρ cs o b base} (g : Nat → Value) (hT : ¬ T b) (hb : b < w.heap.size)
      (hcell : ∀ c, c < cs.length → w.cell? ⟨b, base + c, none⟩ = some (g c) ∧ (g c).oneCell' = true)
      (hv : ∀ c, c < cs.length → Rv w T Rho.none (cs.getD c .junk) (g c)) : Rv w T ρ (.tp cs o) (.pointer (some ⟨b, base + o, none⟩))
  | sl {ρ r z o n m b base cap} (hr : ρ r = some ⟨z, m, some (b, base)⟩) (hn : o + n ≤ m) (hc : n ≤ cap) (hm : cap ≤ maxLen)
      (hs : ∃ cur e fr, w.heap[b]? = some (Obj.cells cur e fr) ∧ base + (o + cap) * z ≤ cur.size) : Rv w T ρ (.sl r z o n) (.slice (some ⟨b, base + o * z, none⟩) n cap)
  | slz {ρ r z o m b base off} (hr : ρ r = some ⟨z, m, some (b, base)⟩) (hn : o ≤ m) : Rv w T ρ (.sl r z o 0) (.slice (some ⟨b, off, none⟩) 0 0)
  | slnil {ρ r z} (hr : ρ r = some ⟨z, 0, none⟩) : Rv w T ρ (.sl r z 0 0) (.slice none 0 0)
  | p {ρ r e o z m b base} (hr : ρ r = some ⟨z, m, some (b, base)⟩) : Rv w T ρ (.p r e o) (.pointer (some ⟨b, base + e * z + o, none⟩))
  | agg {ρ cs} (vs : Array Value) (hl : vs.size = cs.length) (h1 : ∀ c, c < cs.length → (vs.getD c undef).oneCell' = true)
      (hv : ∀ c, c < cs.length → Rv w T ρ (cs.getD c .junk) (vs.getD c undef)) : Rv w T ρ (.agg cs) (.agg vs)
  | tup {ρ cs} (vs : Array Value) (hl : vs.size = cs.length) (hv : ∀ c, c < cs.length → Rv w T ρ (cs.getD c .junk) (vs.getD c undef)) : Rv w T ρ (.tup cs) (.tuple vs)
theorem Rv.lnil0 {w : World} {T : Nat → Prop} {ρ : Rho} {z : Nat} : Rv w T ρ (.l z []) (.slice none 0 0) := .lnil (fun _ => rfl) (Nat.zero_le _)
structure Same (T : Nat → Prop) (w w' : World) : Prop where
  size : w.heap.size ≤ w'.heap.size
  same : ∀ (b : Nat), b < w.heap.size → ¬ T b → w'.heap[b]? = w.heap[b]?
  shape : ∀ (b : Nat) cur e fr, w.heap[b]? = some (Obj.cells cur e fr) → ∃ cur', w'.heap[b]? = some (Obj.cells cur' e fr) ∧ cur'.size = cur.size
theorem Same.refl (T : Nat → Prop) (w : World) : Same T w w := ⟨Nat.le_refl _, fun _ _ _ => rfl, fun _ cur _ _ h => ⟨cur, h, rfl⟩⟩
theorem lt_of_cells {w : World} {b : Nat} {o : Obj} (h : w.heap[b]? = some o) : b < w.heap.size := (Array.getElem?_eq_some_iff.1 h).1
theorem Same.trans {T : Nat → Prop} {w w' w'' : World} (h : Same T w w') (k : Same T w' w'') : Same T w w'' := by
  refine ⟨Nat.le_trans h.size k.size, fun b hb ht => ?_, fun b cur e fr hb => ?_⟩
  · rw [k.same b (Nat.lt_of_lt_of_le hb h.size) ht, h.same b hb ht]
  · obtain ⟨c1, h1, s1⟩ := h.shape b cur e fr hb
    obtain ⟨c2, h2, s2⟩ := k.shape b c1 e fr h1
    exact ⟨c2, h2, s2.trans s1⟩
theorem Same.cell {T : Nat → Prop} {w w' : World} (h : Same T w w') {b o : Nat} (hb : b < w.heap.size) (ht : ¬ T b) : w'.cell? ⟨b, o, none⟩ = w.cell? ⟨b, o, none⟩ := by
  simp only [World.cell?, h.same b hb ht]
theorem Rv.mono {w w' : World} {T T' : Nat → Prop} (hk : Same T w w') (hT : ∀ b, b < w.heap.size → T' b → T b) {ρ : Rho} {av : AV} {v : Value} (h : Rv w T ρ av v) :
    ∀ {ρ' : Rho}, (∀ r p, ρ r = some p → ρ' r = some p) → Rv w' T' ρ' av v := by
  induction h with
  | junk => intro ρ' hρ; exact .junk
  | b => intro ρ' hρ; exact .b
  | i => intro ρ' hρ; exact .i
  | s => intro ρ' hρ; exact .s
  | np => intro ρ' hρ; exact .np
  | ns => intro ρ' hρ; exact .ns
  | lnil ha hm => intro ρ' hρ; exact .lnil ha hm
  | @l ρ z es b base cap g hTb hb hc hm hz hcell hv ih =>
    intro ρ' hρ
    refine .l g (fun h => hTb (hT b hb h)) (Nat.lt_of_lt_of_le hb hk.size) hc hm hz (fun j c hj hc => ?_) (fun j c hj hc => ih j c hj hc fun r p h => h)
    rw [hk.cell hb hTb]
    exact hcell j c hj hc
  | @tp ρ cs o b base g hTb hb hcell hv ih =>
    intro ρ' hρ
    refine .tp g (fun h => hTb (hT b hb h)) (Nat.lt_of_lt_of_le hb hk.size) (fun c hc => ?_) (fun c hc => ih c hc fun r p h => h)
    rw [hk.cell hb hTb]
    exact hcell c hc
  | sl hr hn hc hm hs =>
    intro ρ' hρ
    obtain ⟨cur, e, fr, h1, h2⟩ := hs
    obtain ⟨cur', h3, h4⟩ := hk.shape _ cur e fr h1
    exact .sl (hρ _ _ hr) hn hc hm ⟨cur', e, fr, h3, by rw [h4]; exact h2⟩
  | slz hr hn => intro ρ' hρ; exact .slz (hρ _ _ hr) hn
  | slnil hr => intro ρ' hρ; exact .slnil (hρ _ _ hr)
  | p hr => intro ρ' hρ; exact .p (hρ _ _ hr)
  | agg vs hl h1 hv ih => intro ρ' hρ; exact .agg vs hl h1 fun c hc => ih c hc hρ
  | tup vs hl hv ih => intro ρ' hρ; exact .tup vs hl fun c hc => ih c hc hρ
structure RowAt (w : World) (b base z : Nat) (es : List (List AV)) (R : AV → Value → Prop) : Prop where
  len : ∀ j, j < es.length → (es.getD j []).length = z
  cell : ∀ j c, j < es.length → c < z → ∃ v, w.cell? ⟨b, base + j * z + c, none⟩ = some v ∧ v.oneCell' = true ∧ R ((es.getD j []).getD c .junk) v
def RowOk (w : World) (T : Nat → Prop) (ρ : Rho) (r : Nat) : Row → Prop
  | .sl ap z es => (es = [] ∧ True ∧ ρ r = some ⟨z, 0, none⟩) ∨ ∃ b base cur e, ρ r = some ⟨z, es.length, some (b, base)⟩ ∧ T b ∧ w.heap[b]? = some (Obj.cells cur e (0, 0)) ∧ base + es.length * z ≤ cur.size ∧ (ap = true → base = 0) ∧ RowAt w b base z es (Rv w T Rho.none)
  | .st cs => ∃ b base cur e, ρ r = some ⟨cs.length, 1, some (b, base)⟩ ∧ T b ∧ w.heap[b]? = some (Obj.cells cur e (0, 0)) ∧ base + cs.length ≤ cur.size ∧ RowAt w b base cs.length [cs] (Rv w T ρ)
  | .fsl z es => (es = [] ∧ ρ r = some ⟨z, 0, none⟩) ∨ ∃ b base, ρ r = some ⟨z, es.length, some (b, base)⟩ ∧ ¬ T b ∧ b < w.heap.size ∧ RowAt w b base z es (Rv w T Rho.none)
  | .fst cs => ∃ b base, ρ r = some ⟨cs.length, 1, some (b, base)⟩ ∧ ¬ T b ∧ b < w.heap.size ∧ RowAt w b base cs.length [cs] (Rv w T ρ)
  | .dead => True
theorem RowAt.mono {w w' : World} {b base z : Nat} {es : List (List AV)} {R R' : AV → Value → Prop} (h : RowAt w b base z es R) (hc : ∀ o, w'.cell? ⟨b, o, none⟩ = w.cell? ⟨b, o, none⟩) (hR : ∀ av v, R av v → R' av v) : RowAt w' b base z es R' := by
  refine ⟨h.len, fun j c hj hc' => ?_⟩
  obtain ⟨v, h1, h2, h3⟩ := h.cell j c hj hc'
  exact ⟨v, by rw [hc]; exact h1, h2, hR _ _ h3⟩
end Go.Pe
set_option linter.unusedVariables false
set_option linter.unusedSimpArgs false
namespace Go.Pe
open Go
def Row.live : Row → Bool
  | .sl _ _ _ | .st _ => true
  | _ => false
def Row.isAp : Row → Bool
  | .sl ap _ _ => ap
  | _ => false
structure Keeps (W : Nat → Nat → Prop) (w w' : World) : Prop where
  os : w'.os = w.os
  tape : w'.tape = w.tape
  output : w'.output = w.output
  size : w.heap.size ≤ w'.heap.size
  block : ∀ (b : Nat), b < w.heap.size → w'.heap[b]? = w.heap[b]? ∨ ∃ c c' e fr, w.heap[b]? = some (Obj.cells c e fr) ∧ w'.heap[b]? = some (Obj.cells c' e fr) ∧ c'.size = c.size ∧ ∀ o : Nat, ¬ W b o → c'[o]? = c[o]?
theorem Keeps.refl (W : Nat → Nat → Prop) (w : World) : Keeps W w w := ⟨rfl, rfl, rfl, Nat.le_refl _, fun _ _ => .inl rfl⟩
theorem Keeps.trans {W W' : Nat → Nat → Prop} {w w' w'' : World} (h : Keeps W w w') (k : Keeps W' w' w'') (hW : ∀ b o, b < w.heap.size → W' b o → W b o) : Keeps W w w'' := by
  refine ⟨k.os.trans h.os, k.tape.trans h.tape, k.output.trans h.output, Nat.le_trans h.size k.size, fun b hb => ?_⟩
  rcases h.block b hb with h1 | ⟨c, c', e, fr, h1, h2, h3, h4⟩
  · rcases k.block b (Nat.lt_of_lt_of_le hb h.size) with k1 | ⟨d, d', e', fr', k1, k2, k3, k4⟩
    · exact .inl (k1.trans h1)
    · exact .inr ⟨d, d', e', fr', h1.symm.trans k1, k2, k3, fun o ho => k4 o fun hw => ho (hW b o hb hw)⟩
  · rcases k.block b (Nat.lt_of_lt_of_le hb h.size) with k1 | ⟨d, d', e', fr', k1, k2, k3, k4⟩
    · exact .inr ⟨c, c', e, fr, h1, k1.trans h2, h3, h4⟩
    · rw [h2] at k1
      cases k1
      exact .inr ⟨c, d', _, _, h1, k2, k3.trans h3, fun o ho => (k4 o fun hw => ho (hW b o hb hw)).trans (h4 o ho)⟩
theorem Keeps.same {W : Nat → Nat → Prop} {T : Nat → Prop} {w w' : World} (h : Keeps W w w') (hW : ∀ b o, b < w.heap.size → W b o → T b) : Same T w w' := by
  refine ⟨h.size, fun b hb ht => ?_, fun b cur e fr hb => ?_⟩
  · rcases h.block b hb with h1 | ⟨c, c', e, fr, h1, h2, h3, h4⟩
    · exact h1
    · rw [h1, h2]
      have : c' = c := by
        apply Array.ext_getElem?
        intro o
        exact h4 o fun hw => ht (hW b o hb hw)
      rw [this]
  · rcases h.block b (lt_of_cells hb) with h1 | ⟨c, c', e', fr', h1, h2, h3, h4⟩
    · exact ⟨cur, h1.trans hb, rfl⟩
    · rw [hb] at h1
      cases h1
      exact ⟨c', h2, h3⟩
structure Old (w w' : World) : Prop where
  os : w'.os = w.os
  tape : w'.tape = w.tape
  output : w'.output = w.output
  size : w.heap.size ≤ w'.heap.size
  block : ∀ (b : Nat), b < w.heap.size → w'.heap[b]? = w.heap[b]?
theorem Old.refl (w : World) : Old w w := ⟨rfl, rfl, rfl, Nat.le_refl _, fun _ _ => rfl⟩
theorem Old.keeps {w w' : World} (h : Old w w') (W : Nat → Nat → Prop) : Keeps W w w' := ⟨h.os, h.tape, h.output, h.size, fun b hb => .inl (h.block b hb)⟩
theorem Old.same {w w' : World} (h : Old w w') (T : Nat → Prop) : Same T w w' := (h.keeps fun _ _ => False).same fun _ _ _ h => h.elim
theorem Old.cell {w w' : World} (h : Old w w') {b o : Nat} (hb : b < w.heap.size) : w'.cell? ⟨b, o, none⟩ = w.cell? ⟨b, o, none⟩ := by simp only [World.cell?, h.block b hb]
theorem Old.trans {w w' w'' : World} (h : Old w w') (k : Old w' w'') : Old w w'' := ⟨k.os.trans h.os, k.tape.trans h.tape, k.output.trans h.output, Nat.le_trans h.size k.size, fun b hb => (k.block b (Nat.lt_of_lt_of_le hb h.size)).trans (h.block b hb)⟩
theorem Old.alloc (w : World) (o : Obj) : Old w (w.alloc o) := ⟨rfl, rfl, rfl, by simp, fun b hb => Go.RowKit.Below.heap_alloc w o b hb⟩
theorem Old.drew (w : World) : Old w w.drew := ⟨rfl, rfl, rfl, Nat.le_refl _, fun _ _ => rfl⟩
theorem RowOk.lt {w : World} {T : Nat → Prop} {ρ : Rho} {r : Nat} {x : Row} (h : RowOk w T ρ r x) (hx : x ≠ .dead) : ∀ p b base, ρ r = some p → p.loc = some (b, base) → b < w.heap.size := by
  intro p b base hp hl
  cases x with
  | sl ap z es =>
    rcases h with ⟨_, _, h⟩ | ⟨b', base', cur, e, h, _, hc, _⟩
    · rw [h] at hp; cases hp; cases hl
    · rw [h] at hp; cases hp; cases hl; exact lt_of_cells hc
  | st cs =>
    obtain ⟨b', base', cur, e, h, _, hc, _⟩ := h
    rw [h] at hp; cases hp; cases hl; exact lt_of_cells hc
  | fsl z es =>
    rcases h with ⟨_, h⟩ | ⟨b', base', h, _, hc, _⟩
    · rw [h] at hp; cases hp; cases hl
    · rw [h] at hp; cases hp; cases hl; exact hc
  | fst cs =>
    obtain ⟨b', base', h, _, hc, _⟩ := h
    rw [h] at hp; cases hp; cases hl; exact hc
  | dead => exact absurd rfl hx
theorem RowOk.inT {w : World} {T : Nat → Prop} {ρ : Rho} {r : Nat} {x : Row} (h : RowOk w T ρ r x) (hx : x.live = true) : ∀ p b base, ρ r = some p → p.loc = some (b, base) → T b := by
  intro p b base hp hl
  cases x with
  | sl ap z es =>
    rcases h with ⟨_, _, h⟩ | ⟨b', base', cur, e, h, ht, _⟩
    · rw [h] at hp; cases hp; cases hl
    · rw [h] at hp; cases hp; cases hl; exact ht
  | st cs =>
    obtain ⟨b', base', cur, e, h, ht, _⟩ := h
    rw [h] at hp; cases hp; cases hl; exact ht
  | fsl => cases hx
  | fst => cases hx
  | dead => cases hx
theorem RowOk.mono {w w' : World} {T T' : Nat → Prop} {ρ ρ' : Rho} {r : Nat} {x : Row} (h : RowOk w T ρ r x) (hs : Same T w w') (hT : ∀ b, b < w.heap.size → T' b → T b) (hρ : ∀ q p, ρ q = some p → ρ' q = some p)
    (hb : ∀ p b base, ρ r = some p → p.loc = some (b, base) → x.live = true → w'.heap[b]? = w.heap[b]? ∧ T' b) : RowOk w' T' ρ' r x := by
  have hR : ∀ av v, Rv w T Rho.none av v → Rv w' T' Rho.none av v := fun av v h => h.mono hs hT fun _ _ h => h
  have hR' : ∀ av v, Rv w T ρ av v → Rv w' T' ρ' av v := fun av v h => h.mono hs hT hρ
  cases x with
  | sl ap z es =>
    rcases h with ⟨h1, h2, h3⟩ | ⟨b, base, cur, e, h1, h2, h3, h4, h5, h6⟩
    · exact .inl ⟨h1, h2, hρ _ _ h3⟩
    · obtain ⟨k1, k2⟩ := hb _ _ _ h1 rfl rfl
      exact .inr ⟨b, base, cur, e, hρ _ _ h1, k2, k1.trans h3, h4, h5, h6.mono (fun o => by simp only [World.cell?, k1]) hR⟩
  | st cs =>
    obtain ⟨b, base, cur, e, h1, h2, h3, h4, h5⟩ := h
    obtain ⟨k1, k2⟩ := hb _ _ _ h1 rfl rfl
    exact ⟨b, base, cur, e, hρ _ _ h1, k2, k1.trans h3, h4, h5.mono (fun o => by simp only [World.cell?, k1]) hR'⟩
  | fsl z es =>
    rcases h with ⟨h1, h2⟩ | ⟨b, base, h1, h2, h3, h4⟩
    · exact .inl ⟨h1, hρ _ _ h2⟩
    · exact .inr ⟨b, base, hρ _ _ h1, fun h => h2 (hT b h3 h), Nat.lt_of_lt_of_le h3 hs.size, h4.mono (fun o => hs.cell h3 h2) hR⟩
  | fst cs =>
    obtain ⟨b, base, h1, h2, h3, h4⟩ := h
    exact ⟨b, base, hρ _ _ h1, fun h => h2 (hT b h3 h), Nat.lt_of_lt_of_le h3 hs.size, h4.mono (fun o => hs.cell h3 h2) hR'⟩
  | dead => trivial
structure Fr where
  w0 : World
  W0 : Nat → Nat → Prop
  T0 : Nat → Prop
  lids : List Nat
  pl0 : Nat → Pl
  tabs : List (Nat × List AV)
  N0 : Nat → Prop
  lidn : ∀ r ∈ lids, isLid r = true
  n0w : ∀ b, N0 b → ∀ o, W0 b o
structure WInv (f : Fr) (w : World) (T : Nat → Prop) (ρ : Rho) (h : Heap) : Prop where
  keeps : Keeps f.W0 f.w0 w
  tlt : ∀ b, T b → b < w.heap.size
  rows : ∀ r x, h r = some x → RowOk w T ρ r x
  dom : ∀ r, h r = none → ρ r = none
  sep : ∀ r r' x x', r ≠ r' → h r = some x → h r' = some x' → x.live = true → x'.live = true → ∀ p p' b base b' base', ρ r = some p → ρ r' = some p' → p.loc = some (b, base) → p'.loc = some (b', base') → b ≠ b'
  wr : ∀ r x p b base, h r = some x → x.live = true → ρ r = some p → p.loc = some (b, base) → f.w0.heap.size ≤ b ∨ ((∀ o, base ≤ o → o < base + p.n * p.z → f.W0 b o) ∧ (x.isAp = true → ∀ o, f.W0 b o))
  t0 : ∀ b, f.T0 b → ¬ f.N0 b → T b ∨ ∃ r ∈ f.lids, ∀ x, h r = some x → x.live = false
  lp : ∀ r ∈ f.lids, ρ r = some (f.pl0 r)
  own : ∀ r x p b base, r ∉ f.lids → h r = some x → x.live = true → ρ r = some p → p.loc = some (b, base) → f.w0.heap.size ≤ b ∨ f.N0 b
  t0lt : ∀ b, f.T0 b → b < f.w0.heap.size
  la : ∀ r ∈ f.lids, ∀ x, h r = some x → x.isAp = false
  tab : ∀ p ∈ f.tabs, Rv w T Rho.none (.tp p.2 0) (.pointer (some ⟨p.1, 0, none⟩))
structure Goes (w w' : World) (T T' : Nat → Prop) (ρ ρ' : Rho) : Prop where
  same : Same T w w'
  less : ∀ b, b < w.heap.size → T' b → T b
  more : ∀ r p, ρ r = some p → ρ' r = some p
theorem Goes.refl (w : World) (T : Nat → Prop) (ρ : Rho) : Goes w w T T ρ ρ := ⟨Same.refl _ _, fun _ _ h => h, fun _ _ h => h⟩
theorem Goes.rv {w w' : World} {T T' : Nat → Prop} {ρ ρ' : Rho} (g : Goes w w' T T' ρ ρ') {av : AV} {v : Value} (h : Rv w T ρ av v) : Rv w' T' ρ' av v := h.mono g.same g.less g.more
theorem Goes.rv0 {w w' : World} {T T' : Nat → Prop} {ρ ρ' : Rho} (g : Goes w w' T T' ρ ρ') {av : AV} {v : Value} (h : Rv w T Rho.none av v) : Rv w' T' Rho.none av v := h.mono g.same g.less fun _ _ h => h
theorem Goes.trans {w w' w'' : World} {T T' T'' : Nat → Prop} {ρ ρ' ρ'' : Rho} (h : Goes w w' T T' ρ ρ') (k : Goes w' w'' T' T'' ρ' ρ'') : Goes w w'' T T'' ρ ρ'' := by
  refine ⟨⟨Nat.le_trans h.same.size k.same.size, fun b hb ht => ?_, fun b cur e fr hb => ?_⟩, fun b hb ht => h.less b hb (k.less b (Nat.lt_of_lt_of_le hb h.same.size) ht), fun r p hp => k.more r p (h.more r p hp)⟩
  · rw [k.same.same b (Nat.lt_of_lt_of_le hb h.same.size) (fun h' => ht (h.less b hb h')), h.same.same b hb ht]
  · obtain ⟨c1, h1, s1⟩ := h.same.shape b cur e fr hb
    obtain ⟨c2, h2, s2⟩ := k.same.shape b c1 e fr h1
    exact ⟨c2, h2, s2.trans s1⟩
section
variable {f : Fr} {w : World} {T : Nat → Prop} {ρ : Rho} {h : Heap}
theorem WInv.old (k : WInv f w T ρ h) {w' : World} (ho : Old w w') : WInv f w' T ρ h := by
  refine ⟨k.keeps.trans (ho.keeps fun _ _ => False) (fun _ _ _ h => h.elim), fun b hb => Nat.lt_of_lt_of_le (k.tlt b hb) ho.size, fun r x hx => ?_, k.dom, k.sep, k.wr, k.t0, k.lp, k.own, k.t0lt, k.la, fun p hp => (k.tab p hp).mono (ho.same T) (fun _ _ h => h) fun _ _ h => h⟩
  exact (k.rows r x hx).mono (ho.same T) (fun _ _ h => h) (fun _ _ h => h) fun p b base hp hl hlv => ⟨ho.block b (k.tlt b ((k.rows r x hx).inT hlv p b base hp hl)), (k.rows r x hx).inT hlv p b base hp hl⟩
theorem Goes.old {w' : World} (ho : Old w w') : Goes w w' T T ρ ρ := ⟨ho.same T, fun _ _ h => h, fun _ _ h => h⟩
theorem WInv.new' (k : WInv f w T ρ h) {w' : World} (ho : Old w w') {id : Nat} (hid : h id = none) {x : Row} {z n base : Nat} (hsz : w.heap.size < w'.heap.size)
    {b : Nat} (hb : w.heap.size ≤ b) (hb' : b < w'.heap.size)
    (hx : RowOk w' (fun a => T a ∨ a = b) (fun r => if r = id then some ⟨z, n, some (b, base)⟩ else ρ r) id x) :
    WInv f w' (fun a => T a ∨ a = b) (fun r => if r = id then some ⟨z, n, some (b, base)⟩ else ρ r) (h.put id x) ∧ Goes w w' T (fun a => T a ∨ a = b) ρ (fun r => if r = id then some ⟨z, n, some (b, base)⟩ else ρ r) := by
  have more : ∀ r p, ρ r = some p → (if r = id then some ⟨z, n, some (b, base)⟩ else ρ r) = some p := by
    intro r p hp
    split
    · rename_i hr
      subst hr
      rw [k.dom _ hid] at hp
      cases hp
    · exact hp
  have less : ∀ a, a < w.heap.size → (T a ∨ a = b) → T a := fun a ha ht => ht.elim (fun h => h) fun e => by omega
  refine ⟨⟨k.keeps.trans (ho.keeps fun _ _ => False) (fun _ _ _ h => h.elim), ?_, ?_, ?_, ?_, ?_, ?_, ?_, ?_, k.t0lt, fun r hr y hy => by
    simp only [Heap.put] at hy
    split at hy
    · rename_i e
      subst e
      have := k.lp r hr
      rw [k.dom r hid] at this
      cases this
    · exact k.la r hr y hy, fun p hp => (k.tab p hp).mono (ho.same T) less fun _ _ h => h⟩, ho.same T, less, more⟩
  · rintro a (ha | rfl)
    · exact Nat.lt_of_lt_of_le (k.tlt a ha) ho.size
    · exact hb'
  · intro r y hy
    simp only [Heap.put] at hy
    split at hy
    · rename_i hr
      subst hr
      cases hy
      exact hx
    · rename_i hr
      exact (k.rows r y hy).mono (ho.same T) less more fun p b base hp hl hlv => ⟨ho.block b (k.tlt b ((k.rows r y hy).inT hlv p b base hp hl)), .inl ((k.rows r y hy).inT hlv p b base hp hl)⟩
  · intro r hr
    simp only [Heap.put] at hr
    split at hr
    · cases hr
    · rename_i hne
      simp only [hne, if_false]
      exact k.dom r hr
  · intro r r' y y' hne hy hy' hl hl' p p' c base c' base' hp hp' hc hc'
    simp only [Heap.put] at hy hy'
    by_cases h1 : r = id
    · by_cases h2 : r' = id
      · exact absurd (h1.trans h2.symm) hne
      · rw [if_pos h1] at hp
        cases hp
        cases hc
        rw [if_neg h2] at hp' hy'
        have := k.tlt c' ((k.rows r' y' hy').inT hl' p' c' base' hp' hc')
        omega
    · by_cases h2 : r' = id
      · rw [if_pos h2] at hp'
        cases hp'
        cases hc'
        rw [if_neg h1] at hp hy
        have := k.tlt c ((k.rows r y hy).inT hl p c base hp hc)
        omega
      · rw [if_neg h1] at hp hy
        rw [if_neg h2] at hp' hy'
        exact k.sep r r' y y' hne hy hy' hl hl' p p' c base c' base' hp hp' hc hc'
  · intro r y p c base hy hl hp hc
    simp only [Heap.put] at hy
    by_cases h1 : r = id
    · rw [if_pos h1] at hp
      cases hp
      cases hc
      have := k.keeps.size
      exact .inl (by omega)
    · rw [if_neg h1] at hp hy
      exact k.wr r y p c base hy hl hp hc
  · intro a ha hn
    rcases k.t0 a ha hn with h1 | ⟨r, hr, hx⟩
    · exact .inl (.inl h1)
    · refine .inr ⟨r, hr, fun x hx' => ?_⟩
      simp only [Heap.put] at hx'
      split at hx'
      · rename_i e
        subst e
        have := k.lp r hr
        rw [k.dom r hid] at this
        cases this
      · exact hx x hx'
  · intro r hr
    exact more _ _ (k.lp r hr)
  · intro r y p c base hr hy hl hp hc
    simp only [Heap.put] at hy
    by_cases h1 : r = id
    · rw [if_pos h1] at hp
      cases hp
      cases hc
      have h2 := k.keeps.size
      exact .inl (by omega)
    · rw [if_neg h1] at hp hy
      exact k.own r y p c base hr hy hl hp hc
theorem WInv.new (k : WInv f w T ρ h) {w' : World} (ho : Old w w') {id : Nat} (hid : h id = none) {x : Row} {z n base : Nat} (hsz : w.heap.size < w'.heap.size)
    {b : Nat} (hb : w.heap.size ≤ b) (hb' : b < w'.heap.size)
    (hx : ∀ T' ρ', T' b → (∀ a, a < w.heap.size → T' a → T a) → (∀ r p, ρ r = some p → ρ' r = some p) → ρ' id = some ⟨z, n, some (b, base)⟩ → RowOk w' T' ρ' id x) :
    WInv f w' (fun a => T a ∨ a = b) (fun r => if r = id then some ⟨z, n, some (b, base)⟩ else ρ r) (h.put id x) ∧ Goes w w' T (fun a => T a ∨ a = b) ρ (fun r => if r = id then some ⟨z, n, some (b, base)⟩ else ρ r) := by
  refine k.new' ho hid hsz hb hb' (hx _ _ (.inr rfl) (fun a ha ht => ht.elim (fun h => h) fun e => by omega) (fun r p hp => ?_) (if_pos rfl))
  show (if r = id then some (⟨z, n, some (b, base)⟩ : Pl) else ρ r) = some p
  split
  · rename_i hr
    subst hr
    rw [k.dom _ hid] at hp
    cases hp
  · exact hp
end
end Go.Pe
set_option linter.unusedVariables false
set_option linter.unusedSimpArgs false
namespace Go.Pe
open Go
def rowBlk (h : Heap) (ρ : Rho) (r b : Nat) : Prop := ∃ x p base, h r = some x ∧ x.live = true ∧ ρ r = some p ∧ p.loc = some (b, base)
theorem freeze_live {x : Row} : x.freeze.live = false := by cases x <;> rfl
section
variable {f : Fr} {w : World} {T : Nat → Prop} {ρ : Rho} {h : Heap}
theorem WInv.freeze1 (k : WInv f w T ρ h) (r : Nat) :
    WInv f w (fun b => T b ∧ ¬ rowBlk h ρ r b) ρ (fun q => if q = r then (h q).map Row.freeze else h q) ∧ Goes w w T (fun b => T b ∧ ¬ rowBlk h ρ r b) ρ ρ := by
  have less : ∀ b, b < w.heap.size → (T b ∧ ¬ rowBlk h ρ r b) → T b := fun b _ hb => hb.1
  have hmap : ∀ q x, (if q = r then (h q).map Row.freeze else h q) = some x → (q ≠ r ∧ h q = some x) ∨ (q = r ∧ ∃ y, h r = some y ∧ x = y.freeze) := by
    intro q x hx
    split at hx
    · rename_i hq
      subst hq
      cases hy : h q with
      | none => rw [hy] at hx; cases hx
      | some y => rw [hy] at hx; exact .inr ⟨rfl, y, rfl, (Option.some.inj hx).symm⟩
    · rename_i hq
      exact .inl ⟨hq, hx⟩
  have hlive : ∀ q x, (if q = r then (h q).map Row.freeze else h q) = some x → x.live = true → q ≠ r ∧ h q = some x := by
    intro q x hx hl
    rcases hmap q x hx with h1 | ⟨_, y, _, rfl⟩
    · exact h1
    · rw [freeze_live] at hl
      cases hl
  refine ⟨⟨k.keeps, fun b hb => k.tlt b hb.1, ?_, ?_, ?_, ?_, ?_, k.lp, ?_, k.t0lt, fun q hq x hx => by
    rcases hmap q x hx with ⟨_, h1⟩ | ⟨_, y, _, rfl⟩
    · exact k.la q hq x h1
    · cases y <;> rfl, fun p hp => (k.tab p hp).mono (Same.refl _ _) less fun _ _ h => h⟩, Same.refl _ _, less, fun _ _ h => h⟩
  · intro q x hx
    rcases hmap q x hx with ⟨hq, hy⟩ | ⟨rfl, y, hy, rfl⟩
    · refine (k.rows q x hy).mono (Same.refl _ _) less (fun _ _ h => h) fun p b base hp hl hlv => ⟨rfl, (k.rows q x hy).inT hlv p b base hp hl, ?_⟩
      rintro ⟨z, p', base', hz, hzl, hp', hl'⟩
      exact k.sep q r x z hq hy hz hlv hzl p p' b base b base' hp hp' hl hl' rfl
    · have hR : ∀ av v, Rv w T Rho.none av v → Rv w (fun b => T b ∧ ¬ rowBlk h ρ q b) Rho.none av v := fun av v hh => hh.mono (Same.refl _ _) less fun _ _ h => h
      have hR' : ∀ av v, Rv w T ρ av v → Rv w (fun b => T b ∧ ¬ rowBlk h ρ q b) ρ av v := fun av v hh => hh.mono (Same.refl _ _) less fun _ _ h => h
      have ok := k.rows q y hy
      cases y with
      | sl ap z es =>
        rcases ok with ⟨h1, h2, h3⟩ | ⟨b, base, cur, e, h1, h2, h3, h4, h5, h6⟩
        · exact .inl ⟨h1, h3⟩
        · exact .inr ⟨b, base, h1, fun hh => hh.2 ⟨_, _, _, hy, rfl, h1, rfl⟩, lt_of_cells h3, h6.mono (fun _ => rfl) hR⟩
      | st cs =>
        obtain ⟨b, base, cur, e, h1, h2, h3, h4, h5⟩ := ok
        exact ⟨b, base, h1, fun hh => hh.2 ⟨_, _, _, hy, rfl, h1, rfl⟩, lt_of_cells h3, h5.mono (fun _ => rfl) hR'⟩
      | fsl z es => exact ok.mono (Same.refl _ _) less (fun _ _ h => h) fun _ _ _ _ _ h => by cases h
      | fst cs => exact ok.mono (Same.refl _ _) less (fun _ _ h => h) fun _ _ _ _ _ h => by cases h
      | dead => trivial
  · intro q hq
    split at hq
    · rename_i e
      subst e
      cases hy : h q with
      | none => exact k.dom q hy
      | some y => rw [hy] at hq; cases hq
    · exact k.dom q hq
  · intro q q' x x' hne hx hx' hl hl'
    obtain ⟨_, h1⟩ := hlive q x hx hl
    obtain ⟨_, h2⟩ := hlive q' x' hx' hl'
    exact k.sep q q' x x' hne h1 h2 hl hl'
  · intro q x p b base hx hl
    obtain ⟨_, h1⟩ := hlive q x hx hl
    exact k.wr q x p b base h1 hl
  · intro b hb hn
    rcases k.t0 b hb hn with h1 | ⟨q, hq, hx⟩
    · by_cases hr : rowBlk h ρ r b
      · obtain ⟨x, p, base, hx, hl, hp, hloc⟩ := hr
        by_cases hm : r ∈ f.lids
        · refine .inr ⟨r, hm, fun y hy => ?_⟩
          rcases hmap r y hy with ⟨h2, _⟩ | ⟨_, y', _, rfl⟩
          · exact absurd rfl h2
          · exact freeze_live
        · exact (k.own r x p b base hm hx hl hp hloc).elim (fun h => absurd (k.t0lt b hb) (Nat.not_lt.2 h)) fun h => absurd h hn
      · exact .inl ⟨h1, hr⟩
    · refine .inr ⟨q, hq, fun y hy => ?_⟩
      rcases hmap q y hy with ⟨_, h2⟩ | ⟨_, y', _, rfl⟩
      · exact hx y h2
      · exact freeze_live
  · intro q x p b base hq hx hl
    obtain ⟨_, h1⟩ := hlive q x hx hl
    exact k.own q x p b base hq h1 hl
theorem freeze_none {rs : List Nat} {q : Nat} : (h.freeze rs) q = none ↔ h q = none := by
  induction rs with
  | nil => exact Iff.rfl
  | cons r rs ih =>
    simp only [Heap.freeze]
    split
    · simp only [Option.map_eq_none_iff, ih]
    · exact ih
theorem freeze_live' {rs : List Nat} {q : Nat} {x : Row} (hx : (h.freeze rs) q = some x) (hl : x.live = true) : h q = some x ∧ q ∉ rs := by
  induction rs generalizing x with
  | nil => exact ⟨hx, by simp⟩
  | cons r rs ih =>
    simp only [Heap.freeze] at hx
    split at hx
    · cases hy : h.freeze rs q with
      | none => rw [hy] at hx; cases hx
      | some y =>
        rw [hy] at hx
        cases hx
        rw [freeze_live] at hl
        cases hl
    · rename_i hne
      obtain ⟨h1, h2⟩ := ih hx hl
      exact ⟨h1, by simp [hne, h2]⟩
theorem WInv.freeze (k : WInv f w T ρ h) (rs : List Nat) : ∃ T', WInv f w T' ρ (h.freeze rs) ∧ Goes w w T T' ρ ρ ∧ (∀ r ∈ rs, ∀ b, rowBlk h ρ r b → ¬ T' b) ∧ ∀ b, T b → T' b ∨ ∃ r ∈ rs, rowBlk h ρ r b := by
  induction rs with
  | nil => exact ⟨T, k, Goes.refl _ _ _, fun r hr => (by cases hr), fun b hb => .inl hb⟩
  | cons r rs ih =>
    obtain ⟨T1, k1, g1, h1, h1'⟩ := ih
    obtain ⟨k2, g2⟩ := k1.freeze1 r
    refine ⟨_, k2, g1.trans g2, fun q hq b hb => ?_, fun b hb => ?_⟩
    rotate_left
    · rcases h1' b hb with h2 | ⟨q, hq, hqb⟩
      · by_cases hr : rowBlk (h.freeze rs) ρ r b
        · obtain ⟨x, p, base, hx, hl, hp, hloc⟩ := hr
          exact .inr ⟨r, List.mem_cons_self, x, p, base, (freeze_live' hx hl).1, hl, hp, hloc⟩
        · exact .inl ⟨h2, hr⟩
      · exact .inr ⟨q, List.mem_cons_of_mem _ hq, hqb⟩
    rcases List.mem_cons.1 hq with rfl | hq
    · rintro ⟨t1, t2⟩
      obtain ⟨x, p, base, hx, hl, hp, hloc⟩ := hb
      cases hy : h.freeze rs q with
      | none => rw [freeze_none] at hy; rw [hx] at hy; cases hy
      | some y =>
        by_cases hyl : y.live = true
        · exact t2 ⟨y, p, base, hy, hyl, hp, hloc⟩
        · -- it was frozen before
          have hmem : q ∈ rs := by
            by_cases hm : q ∈ rs
            · exact hm
            · have : ∀ rs : List Nat, q ∉ rs → h.freeze rs q = h q := by
                intro rs
                induction rs with
                | nil => intro _; rfl
                | cons a rs ih =>
                  intro hm
                  simp only [Heap.freeze]
                  rw [if_neg (fun e => hm (by rw [e]; exact List.mem_cons_self))]
                  exact ih fun hh => hm (List.mem_cons_of_mem _ hh)
              rw [this rs hm, hx] at hy
              cases hy
              exact absurd hl hyl
          exact h1 q hmem b ⟨x, p, base, hx, hl, hp, hloc⟩ t1
    · exact fun ht => h1 q hq b hb ht.1
end
theorem getD_drop_take {α : Type} (es : List α) (o n j : Nat) (d : α) (hj : j < n) : ((es.drop o).take n).getD j d = es.getD (o + j) d := by
  simp only [List.getD_eq_getElem?_getD]
  rw [List.getElem?_take_of_lt hj, List.getElem?_drop]
theorem getD_map_lt {α β : Type} (f : α → β) (l : List α) (j : Nat) (d : β) (d' : α) (hj : j < l.length) : (l.map f).getD j d = f (l.getD j d') := by
  simp only [List.getD_eq_getElem?_getD, List.getElem?_map, List.getElem?_eq_getElem hj]
  rfl
section
variable {w : World} {T T' : Nat → Prop} {ρ : Rho} {h : Heap}
theorem Rv.less {av : AV} {v : Value} (k : Rv w T ρ av v) (hT : ∀ b, b < w.heap.size → T' b → T b) : Rv w T' ρ av v := k.mono (Same.refl _ _) hT fun _ _ h => h
theorem Rv.any {av : AV} {v : Value} (k : Rv w T Rho.none av v) : Rv w T ρ av v := k.mono (Same.refl _ _) (fun _ _ h => h) fun _ _ h => by cases h
theorem tell_win {b base z : Nat} {es : List (List AV)} {o n cap : Nat} (hT : ¬ T' b) (hb : b < w.heap.size) (hless : ∀ b, b < w.heap.size → T' b → T b) (hr : RowAt w b base z es (Rv w T Rho.none)) (hn : o + n ≤ es.length) (hc : n ≤ cap) (hm : cap ≤ maxLen) :
    Rv w T' Rho.none (.l z ((es.drop o).take n)) (.slice (some ⟨b, base + o * z, none⟩) n cap) := by
  have hl : ((es.drop o).take n).length = n := by rw [List.length_take, List.length_drop]; omega
  have key : ∀ j c, base + o * z + j * z + c = base + (o + j) * z + c := by intro j c; rw [Nat.add_mul]; omega
  have := Rv.l (w := w) (T := T') (ρ := Rho.none) (z := z) (es := (es.drop o).take n) (b := b) (base := base + o * z) (cap := cap) (fun j c => (w.cell? ⟨b, base + o * z + j * z + c, none⟩).getD undef) hT hb (by rw [hl]; exact hc) hm
    (fun j hj => by
      rw [hl] at hj
      rw [getD_drop_take _ _ _ _ _ hj]
      exact hr.len _ (by omega))
    (fun j c hj hc => by
      rw [hl] at hj
      obtain ⟨v, h1, h2, h3⟩ := hr.cell (o + j) c (by omega) hc
      rw [key, h1]
      exact ⟨rfl, h2⟩)
    (fun j c hj hc => by
      rw [hl] at hj
      obtain ⟨v, h1, h2, h3⟩ := hr.cell (o + j) c (by omega) hc
      rw [getD_drop_take _ _ _ _ _ hj, key, h1]
      exact h3.less hless)
  rw [hl] at this
  exact this
theorem tell0_none {av : AV} {v : Value} (k : Rv w T Rho.none av v) : Rv w T Rho.none (tell0 h av) v := by
  cases k with
  | ns => exact .lnil0
  | sl hr => cases hr
  | slz hr => cases hr
  | slnil hr => cases hr
  | p hr => cases hr
  | junk => exact .junk
  | b => exact .b
  | i => exact .i
  | s => exact .s
  | np => exact .np
  | lnil ha hm => exact .lnil ha hm
  | l g hT hb hc hm hz hcell hv => exact .l g hT hb hc hm hz hcell hv
  | tp g hT hb hcell hv => exact .tp g hT hb hcell hv
  | agg vs hl h1 hv => exact .agg vs hl h1 hv
  | tup vs hl hv => exact .tup vs hl hv
theorem tell0_rv (hrows : ∀ r x, h r = some x → RowOk w T ρ r x) (hless : ∀ b, b < w.heap.size → T' b → T b) {av : AV} {v : Value} (k : Rv w T ρ av v) (hr : ∀ r ∈ ref0 av, ∀ b, rowBlk h ρ r b → ¬ T' b) :
    (∀ r e o, av ≠ .p r e o) → (∀ cs, av ≠ .agg cs) → (∀ cs, av ≠ .tup cs) → Rv w T' Rho.none (tell0 h av) v := by
  intro n1 n2 n3
  cases k with
  | ns => exact .lnil0
  | p => exact absurd rfl (n1 _ _ _)
  | agg => exact absurd rfl (n2 _)
  | tup => exact absurd rfl (n3 _)
  | junk => exact .junk
  | b => exact .b
  | i => exact .i
  | s => exact .s
  | np => exact .np
  | lnil ha hm => exact .lnil ha hm
  | l g hT hb hc hm hz hcell hv => exact (Rv.l g hT hb hc hm hz hcell hv : Rv w T Rho.none _ _).less hless
  | tp g hT hb hcell hv => exact (Rv.tp g hT hb hcell hv : Rv w T Rho.none _ _).less hless
  | @sl _ r z o n m b base cap h1 hn hc hm hs =>
    simp only [tell0]
    cases hx : h r with
    | none => exact .junk
    | some x =>
      have ok := hrows r x hx
      cases x with
      | sl ap z' es =>
        rcases ok with ⟨_, _, h3⟩ | ⟨b', base', cur, e, h3, h4, h5, h6, h7, h8⟩
        · rw [h1] at h3; cases h3
        · rw [h1] at h3
          cases h3
          exact tell_win (hr r List.mem_cons_self b ⟨_, _, _, hx, rfl, h1, rfl⟩) (lt_of_cells h5) hless h8 hn hc hm
      | fsl z' es =>
        rcases ok with ⟨_, h3⟩ | ⟨b', base', h3, h4, h5, h6⟩
        · rw [h1] at h3; cases h3
        · rw [h1] at h3
          cases h3
          exact tell_win (fun ht => h4 (hless b h5 ht)) h5 hless h6 hn hc hm
      | st cs => exact .junk
      | fst cs => exact .junk
      | dead => exact .junk
  | @slz _ r z o m b base off h1 hn =>
    simp only [tell0]
    cases hx : h r with
    | none => exact .junk
    | some x =>
      have ok := hrows r x hx
      have mk : ∀ es : List (List AV), ¬ T' b → b < w.heap.size → Rv w T' Rho.none (.l z ((es.drop o).take 0)) (.slice (some ⟨b, off, none⟩) 0 0) := by
        intro es ht hb
        rw [List.take_zero]
        exact Rv.l (es := []) (fun _ _ => undef) ht hb (Nat.zero_le _) (Nat.zero_le _) (fun j hj => by cases hj) (fun j c hj => by cases hj) (fun j c hj => by cases hj)
      cases x with
      | sl ap z' es =>
        rcases ok with ⟨_, _, h3⟩ | ⟨b', base', cur, e, h3, h4, h5, h6, h7, h8⟩
        · rw [h1] at h3; cases h3
        · rw [h1] at h3
          cases h3
          exact mk es (hr r List.mem_cons_self b ⟨_, _, _, hx, rfl, h1, rfl⟩) (lt_of_cells h5)
      | fsl z' es =>
        rcases ok with ⟨_, h3⟩ | ⟨b', base', h3, h4, h5, h6⟩
        · rw [h1] at h3; cases h3
        · rw [h1] at h3
          cases h3
          exact mk es (fun ht => h4 (hless b h5 ht)) h5
      | st cs => exact .junk
      | fst cs => exact .junk
      | dead => exact .junk
  | @slnil _ r z h1 =>
    simp only [tell0]
    cases hx : h r with
    | none => exact .junk
    | some x =>
      cases x with
      | sl ap z' es => simp only [Option.bind_some, Row.win, List.drop_zero, List.take_zero]; exact .lnil0
      | fsl z' es => simp only [Option.bind_some, Row.win, List.drop_zero, List.take_zero]; exact .lnil0
      | st cs => exact .junk
      | fst cs => exact .junk
      | dead => exact .junk
end
end Go.Pe
set_option linter.unusedVariables false
set_option linter.unusedSimpArgs false
namespace Go.Pe
open Go
section
variable {w : World} {T T' : Nat → Prop} {ρ : Rho} {h : Heap}
theorem tell_cells {b base : Nat} {cs : List AV} {o : Nat} (hT : ¬ T' b) (hb : b < w.heap.size)
    (hc : ∀ c, c < cs.length → ∃ v, w.cell? ⟨b, base + c, none⟩ = some v ∧ v.oneCell' = true ∧ Rv w T' Rho.none (tell0 h (cs.getD c .junk)) v) :
    Rv w T' Rho.none (.tp (cs.map (tell0 h)) o) (.pointer (some ⟨b, base + o, none⟩)) := by
  refine Rv.tp (fun c => (w.cell? ⟨b, base + c, none⟩).getD undef) hT hb (fun c h1 => ?_) (fun c h1 => ?_)
  · rw [List.length_map] at h1
    obtain ⟨v, h2, h3, h4⟩ := hc c h1
    rw [h2]
    exact ⟨rfl, h3⟩
  · rw [List.length_map] at h1
    obtain ⟨v, h2, h3, h4⟩ := hc c h1
    rw [getD_map_lt (tell0 h) cs c .junk .junk h1, h2]
    exact h4
theorem tell0_cell (hrows : ∀ r x, h r = some x → RowOk w T ρ r x) (hless : ∀ b, b < w.heap.size → T' b → T b) {av : AV} {v : Value} (h1 : v.oneCell' = true) (k : Rv w T ρ av v) (hr : ∀ r ∈ ref0 av, ∀ b, rowBlk h ρ r b → ¬ T' b) : Rv w T' Rho.none (tell0 h av) v := by
  cases k with
  | p => exact .junk
  | agg vs hl => cases h1
  | tup vs hl => cases h1
  | junk => exact .junk
  | b => exact .b
  | i => exact .i
  | s => exact .s
  | np => exact .np
  | ns => exact .lnil0
  | lnil ha hm => exact .lnil ha hm
  | l g hT hb hc hm hz hcell hv => exact (Rv.l g hT hb hc hm hz hcell hv : Rv w T Rho.none _ _).less hless
  | tp g hT hb hcell hv => exact (Rv.tp g hT hb hcell hv : Rv w T Rho.none _ _).less hless
  | sl hr' hn hc hm hs => exact tell0_rv hrows hless (.sl hr' hn hc hm hs) hr (by intros; simp) (by intros; simp) (by intros; simp)
  | slz hr' hn => exact tell0_rv hrows hless (.slz hr' hn) hr (by intros; simp) (by intros; simp) (by intros; simp)
  | slnil hr' => exact tell0_rv hrows hless (.slnil hr') hr (by intros; simp) (by intros; simp) (by intros; simp)
theorem tellC_rv (hrows : ∀ r x, h r = some x → RowOk w T ρ r x) (hless : ∀ b, b < w.heap.size → T' b → T b) {av : AV} {v : Value} (k : Rv w T ρ av v) (hr : ∀ r ∈ refC h av, ∀ b, rowBlk h ρ r b → ¬ T' b) (n2 : ∀ cs, av ≠ .agg cs) (n3 : ∀ cs, av ≠ .tup cs) :
    Rv w T' Rho.none (tellC h av) v := by
  cases k with
  | @p _ r e o z m b base h1 =>
    simp only [tellC]
    cases hx : h r with
    | none => exact .junk
    | some x =>
      have ok := hrows r x hx
      have hblk : x.live = true → ¬ T' b := fun hl => hr r List.mem_cons_self b ⟨x, _, _, hx, hl, h1, rfl⟩
      have hsl : ∀ z' (es : List (List AV)) cs, es[e]? = some cs → z' = z → RowAt w b base z' es (Rv w T Rho.none) → ¬ T' b → b < w.heap.size → Rv w T' Rho.none (.tp (cs.map (tell0 h)) o) (.pointer (some ⟨b, base + e * z + o, none⟩)) := by
        intro z' es cs he hz hra ht hb
        subst hz
        have hlt : e < es.length := by
          rcases Nat.lt_or_ge e es.length with h2 | h2
          · exact h2
          · rw [List.getElem?_eq_none h2] at he; cases he
        have hcs : es.getD e [] = cs := by rw [List.getD_eq_getElem?_getD, he]; rfl
        refine tell_cells ht hb fun c hc => ?_
        have hlen := hra.len e hlt
        rw [hcs] at hlen
        obtain ⟨v, h2, h3, h4⟩ := hra.cell e c hlt (by omega)
        rw [hcs] at h4
        exact ⟨v, h2, h3, tell0_none (h4.less hless)⟩
      have hst : ∀ cs, e = 0 → RowAt w b base cs.length [cs] (Rv w T ρ) → (∀ r' ∈ cs.flatMap ref0, ∀ b, rowBlk h ρ r' b → ¬ T' b) → ¬ T' b → b < w.heap.size → Rv w T' Rho.none (.tp (cs.map (tell0 h)) o) (.pointer (some ⟨b, base + e * z + o, none⟩)) := by
        intro cs he hra hrr ht hb
        subst he
        rw [Nat.zero_mul, Nat.add_zero]
        refine tell_cells ht hb fun c hc => ?_
        obtain ⟨v, h2, h3, h4⟩ := hra.cell 0 c (by simp) hc
        rw [Nat.zero_mul, Nat.add_zero] at h2
        refine ⟨v, h2, h3, tell0_cell hrows hless h3 h4 fun r' hr' => hrr r' ?_⟩
        rw [List.mem_flatMap]
        refine ⟨_, ?_, hr'⟩
        show cs.getD c .junk ∈ cs
        rw [List.getD_eq_getElem?_getD, List.getElem?_eq_getElem hc]
        exact List.getElem_mem hc
      cases x with
      | sl ap z' es =>
        simp only [Option.bind_some, Row.at]
        cases he : es[e]? with
        | none => exact .junk
        | some cs =>
          rcases ok with ⟨h2, _, _⟩ | ⟨b', base', cur, e', h3, h4, h5, h6, h7, h8⟩
          · subst h2; cases he
          · rw [h1] at h3
            cases h3
            exact hsl z es cs he rfl h8 (hblk rfl) (lt_of_cells h5)
      | fsl z' es =>
        simp only [Option.bind_some, Row.at]
        cases he : es[e]? with
        | none => exact .junk
        | some cs =>
          rcases ok with ⟨h2, _⟩ | ⟨b', base', h3, h4, h5, h6⟩
          · subst h2; cases he
          · rw [h1] at h3
            cases h3
            exact hsl z es cs he rfl h6 (fun ht => h4 (hless b h5 ht)) h5
      | st cs =>
        simp only [Option.bind_some, Row.at]
        by_cases he : e = 0
        · rw [if_pos he]
          obtain ⟨b', base', cur, e', h3, h4, h5, h6, h7⟩ := ok
          rw [h1] at h3
          cases h3
          refine hst cs he h7 (fun r' hr' => hr r' ?_) (hblk rfl) (lt_of_cells h5)
          simp only [refC, hx, Option.bind_some, Row.at, if_pos he]
          exact List.mem_cons_of_mem _ hr'
        · rw [if_neg he]; exact .junk
      | fst cs =>
        simp only [Option.bind_some, Row.at]
        by_cases he : e = 0
        · rw [if_pos he]
          obtain ⟨b', base', h3, h4, h5, h6⟩ := ok
          rw [h1] at h3
          cases h3
          refine hst cs he h6 (fun r' hr' => hr r' ?_) (fun ht => h4 (hless b h5 ht)) h5
          simp only [refC, hx, Option.bind_some, Row.at, if_pos he]
          exact List.mem_cons_of_mem _ hr'
        · rw [if_neg he]; exact .junk
      | dead => exact .junk
  | agg => exact absurd rfl (n2 _)
  | tup => exact absurd rfl (n3 _)
  | junk => exact .junk
  | b => exact .b
  | i => exact .i
  | s => exact .s
  | np => exact .np
  | ns => exact .lnil0
  | lnil ha hm => exact .lnil ha hm
  | l g hT hb hc hm hz hcell hv => exact (Rv.l g hT hb hc hm hz hcell hv : Rv w T Rho.none _ _).less hless
  | tp g hT hb hcell hv => exact (Rv.tp g hT hb hcell hv : Rv w T Rho.none _ _).less hless
  | sl hr' hn hc hm hs => exact tell0_rv hrows hless (.sl hr' hn hc hm hs) hr (by intros; simp) (by intros; simp) (by intros; simp)
  | slz hr' hn => exact tell0_rv hrows hless (.slz hr' hn) hr (by intros; simp) (by intros; simp) (by intros; simp)
  | slnil hr' => exact tell0_rv hrows hless (.slnil hr') hr (by intros; simp) (by intros; simp) (by intros; simp)
theorem getD_mem {α : Type} {l : List α} {c : Nat} (d : α) (hc : c < l.length) : l.getD c d ∈ l := by
  rw [List.getD_eq_getElem?_getD, List.getElem?_eq_getElem hc]
  exact List.getElem_mem hc
theorem one_of_cell {av : AV} {v : Value} (k : Rv w T ρ av v) (h1 : v.oneCell' = true) : (∀ cs, av ≠ .agg cs) ∧ (∀ cs, av ≠ .tup cs) := by
  refine ⟨?_, ?_⟩ <;> (intro cs e; subst e; cases k; cases h1)
theorem tell1_rv (hrows : ∀ r x, h r = some x → RowOk w T ρ r x) (hless : ∀ b, b < w.heap.size → T' b → T b) {av : AV} {v : Value} (k : Rv w T ρ av v) (hr : ∀ r ∈ ref1 h av, ∀ b, rowBlk h ρ r b → ¬ T' b) :
    Rv w T' Rho.none (tell1 h av) v := by
  cases k with
  | @agg _ cs vs hl h1 hv =>
    simp only [tell1]
    refine .agg vs (by rw [List.length_map]; exact hl) (fun c hc => h1 c (by rwa [List.length_map] at hc)) fun c hc => ?_
    rw [List.length_map] at hc
    rw [getD_map_lt (tellC h) cs c .junk .junk hc]
    refine tellC_rv hrows hless (hv c hc) (fun r hr' => hr r ?_) (one_of_cell (hv c hc) (h1 c hc)).1 (one_of_cell (hv c hc) (h1 c hc)).2
    exact List.mem_flatMap.2 ⟨_, getD_mem _ hc, hr'⟩
  | tup => exact .junk
  | junk => exact .junk
  | b => exact .b
  | i => exact .i
  | s => exact .s
  | np => exact .np
  | ns => exact .lnil0
  | lnil ha hm => exact .lnil ha hm
  | l g hT hb hc hm hz hcell hv => exact (Rv.l g hT hb hc hm hz hcell hv : Rv w T Rho.none _ _).less hless
  | tp g hT hb hcell hv => exact (Rv.tp g hT hb hcell hv : Rv w T Rho.none _ _).less hless
  | sl hr' hn hc hm hs => exact tellC_rv hrows hless (.sl hr' hn hc hm hs) hr (by intros; simp) (by intros; simp)
  | slz hr' hn => exact tellC_rv hrows hless (.slz hr' hn) hr (by intros; simp) (by intros; simp)
  | slnil hr' => exact tellC_rv hrows hless (.slnil hr') hr (by intros; simp) (by intros; simp)
  | p hr' => exact tellC_rv hrows hless (.p hr') hr (by intros; simp) (by intros; simp)
theorem tell_rv (hrows : ∀ r x, h r = some x → RowOk w T ρ r x) (hless : ∀ b, b < w.heap.size → T' b → T b) {av : AV} {v : Value} (k : Rv w T ρ av v) (hr : ∀ r ∈ ref h av, ∀ b, rowBlk h ρ r b → ¬ T' b) :
    Rv w T' Rho.none (tell h av) v := by
  cases k with
  | @tup _ cs vs hl hv =>
    simp only [tell]
    refine .tup vs (by rw [List.length_map]; exact hl) fun c hc => ?_
    rw [List.length_map] at hc
    rw [getD_map_lt (tell1 h) cs c .junk .junk hc]
    exact tell1_rv hrows hless (hv c hc) fun r hr' => hr r (List.mem_flatMap.2 ⟨_, getD_mem _ hc, hr'⟩)
  | agg vs hl h1 hv => exact tell1_rv hrows hless (.agg vs hl h1 hv) hr
  | junk => exact .junk
  | b => exact .b
  | i => exact .i
  | s => exact .s
  | np => exact .np
  | ns => exact .lnil0
  | lnil ha hm => exact .lnil ha hm
  | l g hT hb hc hm hz hcell hv => exact (Rv.l g hT hb hc hm hz hcell hv : Rv w T Rho.none _ _).less hless
  | tp g hT hb hcell hv => exact (Rv.tp g hT hb hcell hv : Rv w T Rho.none _ _).less hless
  | sl hr' hn hc hm hs => exact tell1_rv hrows hless (.sl hr' hn hc hm hs) hr
  | slz hr' hn => exact tell1_rv hrows hless (.slz hr' hn) hr
  | slnil hr' => exact tell1_rv hrows hless (.slnil hr') hr
  | p hr' => exact tell1_rv hrows hless (.p hr') hr
end
end Go.Pe
set_option linter.unusedVariables false
set_option linter.unusedSimpArgs false
namespace Go.Pe
open Go
def mv1 : Value → AV → Bool
  | .bool a, .b b => a == b
  | .int k n, .i k' n' => k == k' && n == n'
  | .string s, .s s' => decide (s = s')
  | .slice none 0 0, .ns _ => true
  | .pointer none, .np => true
  | _, _ => false
def mvs : List Value → List AV → Bool
  | [], [] => true
  | v :: vs, c :: cs => mv1 v c && mvs vs cs
  | _, _ => false
def mv : Value → AV → Bool
  | .agg vs, .agg cs => mvs vs.toList cs
  | v, c => mv1 v c
section
variable {w : World} {T : Nat → Prop} {ρ : Rho}
theorem mv1_rv {v : Value} {c : AV} (h : mv1 v c = true) : Rv w T ρ c v ∧ v.oneCell' = true := by
  unfold mv1 at h
  split at h
  · rw [beq_iff_eq] at h; subst h; exact ⟨.b, rfl⟩
  · simp only [Bool.and_eq_true, beq_iff_eq] at h; obtain ⟨rfl, rfl⟩ := h; exact ⟨.i, rfl⟩
  · simp only [decide_eq_true_eq] at h; subst h; exact ⟨.s, rfl⟩
  · exact ⟨.ns, rfl⟩
  · exact ⟨.np, rfl⟩
  · cases h
theorem mvs_rv : ∀ {vs : List Value} {cs : List AV}, mvs vs cs = true → vs.length = cs.length ∧ ∀ c, c < cs.length → Rv w T ρ (cs.getD c .junk) (vs.getD c undef) ∧ (vs.getD c undef).oneCell' = true
  | [], [], _ => ⟨rfl, fun c hc => by cases hc⟩
  | v :: vs, c :: cs, h => by
    simp only [mvs, Bool.and_eq_true] at h
    obtain ⟨h1, h2⟩ := mvs_rv h.2
    refine ⟨by simp [h1], fun i hi => ?_⟩
    cases i with
    | zero => exact mv1_rv h.1
    | succ i => exact h2 i (by simpa using hi)
  | [], _ :: _, h => by simp [mvs] at h
  | _ :: _, [], h => by simp [mvs] at h
theorem toList_getD (vs : Array Value) (c : Nat) : vs.getD c undef = vs.toList.getD c undef := by simp [List.getD_eq_getElem?_getD]
theorem mv_rv {v : Value} {c : AV} (h : mv v c = true) : Rv w T ρ c v := by
  unfold mv at h
  split at h
  · rename_i vs cs
    obtain ⟨h1, h2⟩ := mvs_rv (w := w) (T := T) (ρ := ρ) h
    refine .agg vs (by rw [← h1]; simp) (fun c hc => ?_) fun c hc => ?_
    · rw [toList_getD]; exact (h2 c hc).2
    · rw [toList_getD]; exact (h2 c hc).1
  · exact (mv1_rv h).1
end
def ma (tabs : List (Nat × List AV)) : Operand → At → Bool
  | .tmp t, .t s => t == s
  | .const v, .c a => mv v a
  | .global g, .c (.tp cs 0) => tabs.any fun p => p.1 == g && p.2.length == cs.length && mtab p.2 cs
  | _, _ => false
where
  mtab : List AV → List AV → Bool
  | [], [] => true
  | .i k n :: xs, .i k' n' :: ys => k == k' && n == n' && mtab xs ys
  | _, _ => false
theorem mtab_eq : ∀ {xs ys : List AV}, ma.mtab xs ys = true → xs = ys
  | [], [], _ => rfl
  | x :: xs, y :: ys, h => by
    unfold ma.mtab at h
    split at h
    · rename_i h1 h2; cases h1
    · rename_i k n xs' k' n' ys' h1 h2
      cases h1; cases h2
      simp only [Bool.and_eq_true, beq_iff_eq] at h
      obtain ⟨⟨rfl, rfl⟩, h3⟩ := h
      rw [mtab_eq h3]
    · cases h
  | [], _ :: _, h => by simp [ma.mtab] at h
  | _ :: _, [], h => by simp [ma.mtab] at h
def Env (w : World) (T : Nat → Prop) (ρ : Rho) (e : Nat → AV) (a : Act) : Prop := ∀ t, Rv w T ρ (e t) (a.tmps.getD t undef)
theorem Env.goes {w w' : World} {T T' : Nat → Prop} {ρ ρ' : Rho} {e : Nat → AV} {a : Act} (h : Env w T ρ e a) (g : Goes w w' T T' ρ ρ') : Env w' T' ρ' e a := fun t => g.rv (h t)
theorem ma_rv {f : Fr} {w : World} {T : Nat → Prop} {ρ : Rho} {h : Heap} (k : WInv f w T ρ h) {e : Nat → AV} {a : Act} (he : Env w T ρ e a) {x : Operand} {y : At} (hm : ma f.tabs x y = true) : Rv w T ρ (y.ev e) (a.eval x) := by
  unfold ma at hm
  split at hm
  · rw [beq_iff_eq] at hm; subst hm; exact he _
  · exact mv_rv hm
  · rename_i g cs
    rw [List.any_eq_true] at hm
    obtain ⟨p, hp, hq⟩ := hm
    simp only [Bool.and_eq_true, beq_iff_eq] at hq
    obtain ⟨⟨rfl, _⟩, h2⟩ := hq
    rw [← mtab_eq h2]
    exact (k.tab p hp).any
  · cases hm
def szT (P : Program) (t : TypeId) : Option Nat := (P.info? t).map (·.size)
section
variable {P : Program} {w : World}
theorem run_typeInfo {t : TypeId} {i : TypeInfo} (h : P.info? t = some i) : (typeInfo t).run P w = .ok i w := by simp [typeInfo, h]
theorem run_sizeOf' {t : TypeId} {n : Nat} (h : szT P t = some n) : (sizeOf t).run P w = .ok n w := by
  unfold szT at h
  cases hi : P.info? t with
  | none => rw [hi] at h; cases h
  | some i => rw [hi] at h; cases h; simp [sizeOf, run_typeInfo hi]
theorem run_zeroValue {t : TypeId} {i : TypeInfo} {z : Value} (h : P.info? t = some i) (hz : i.zero = some z) : (zeroValue t).run P w = .ok z w := by simp [zeroValue, run_typeInfo h, hz]
end
def Gives (P : Program) (o : Oper) (a : Act) (w : World) (v : Value) : Prop := (execOp a.eval o).run P w = .ok (.value v) w
section
variable {P : Program} {f : Fr} {w : World} {T : Nat → Prop} {ρ : Rho} {h : Heap} {e : Nat → AV} {a : Act} {o : Oper}
theorem op_move (k : WInv f w T ρ h) (he : Env w T ρ e a) {x : Operand} {y : At} (ho : o.op = .move x ∨ o.op = .assign x) (hm : ma f.tabs x y = true) : ∃ v, Gives P o a w v ∧ Rv w T ρ (y.ev e) v := by
  refine ⟨a.eval x, ?_, ma_rv k he hm⟩
  rcases ho with ho | ho <;> simp [Gives, execOp, ho]
theorem inv_b {q : Bool} {v : Value} (k : Rv w T ρ (.b q) v) : v = .bool q := by cases k; rfl
theorem inv_i {q : IntKind} {n : Int} {v : Value} (k : Rv w T ρ (.i q n) v) : v = .int q n := by cases k; rfl
theorem inv_s {s : ByteArray} {v : Value} (k : Rv w T ρ (.s s) v) : v = .string s := by cases k; rfl
theorem op_pick (k : WInv f w T ρ h) (he : Env w T ρ e a) {x y z : Operand} {x' y' z' : At} {av : AV} {h' : Heap} (call : Call) (ho : o.op = .pick x y z) (h1 : ma f.tabs x x' = true) (h2 : ma f.tabs y y' = true) (h3 : ma f.tabs z z' = true)
    (hv : PO.ev call (.pick x' y' z') e h = some (av, h')) : h' = h ∧ ∃ v, Gives P o a w v ∧ Rv w T ρ av v := by
  have r1 := ma_rv k he h1
  have r2 := ma_rv k he h2
  have r3 := ma_rv k he h3
  simp only [PO.ev] at hv
  split at hv
  · rename_i q hq
    rw [hq] at r1
    cases hv
    refine ⟨rfl, (if q then a.eval y else a.eval z), ?_, ?_⟩
    · simp only [Gives, execOp, ho, inv_b r1, asBool]
      cases q <;> simp
    · cases q
      · exact r3
      · exact r2
  · cases hv
theorem op_not (k : WInv f w T ρ h) (he : Env w T ρ e a) {x : Operand} {x' : At} {t : TypeId} {av : AV} {h' : Heap} (call : Call) (ho : o.op = .unOp .not t x) (h1 : ma f.tabs x x' = true)
    (hv : PO.ev call (.not x') e h = some (av, h')) : h' = h ∧ ∃ v, Gives P o a w v ∧ Rv w T ρ av v := by
  have r1 := ma_rv k he h1
  simp only [PO.ev] at hv
  split at hv
  · rename_i q hq
    rw [hq] at r1
    cases hv
    exact ⟨rfl, .bool (!q), by simp [Gives, execOp, ho, inv_b r1, Op.unary], .b⟩
  · cases hv
theorem op_neg (k : WInv f w T ρ h) (he : Env w T ρ e a) {x : Operand} {x' : At} {t : TypeId} {av : AV} {h' : Heap} (call : Call) (ho : o.op = .unOp .neg t x) (h1 : ma f.tabs x x' = true)
    (hv : PO.ev call (.neg x') e h = some (av, h')) : h' = h ∧ ∃ v, Gives P o a w v ∧ Rv w T ρ av v := by
  have r1 := ma_rv k he h1
  simp only [PO.ev] at hv
  split at hv
  · rename_i q n hq
    rw [hq] at r1
    cases hv
    exact ⟨rfl, .int q (q.wrap (0 - n)), by simp [Gives, execOp, ho, inv_i r1, Op.unary, Op.intArith], .i⟩
  · cases hv
theorem op_conv (k : WInv f w T ρ h) (he : Env w T ρ e a) {x : Operand} {x' : At} {s d : TypeId} {q q' : IntKind} {av : AV} {h' : Heap} (call : Call) (ho : o.op = .convert s d x) (hs : P.underlying s = some (.int q')) (hd : P.underlying d = some (.int q)) (h1 : ma f.tabs x x' = true)
    (hv : PO.ev call (.conv q x') e h = some (av, h')) : h' = h ∧ ∃ v, Gives P o a w v ∧ Rv w T ρ av v := by
  have r1 := ma_rv k he h1
  simp only [PO.ev] at hv
  split at hv
  · rename_i q'' n hq
    rw [hq] at r1
    cases hv
    exact ⟨rfl, .int q (q.wrap n), by simp [Gives, execOp, ho, inv_i r1, convert, run_underlying hs, run_underlying hd, Conv.intToInt], .i⟩
  · cases hv
theorem eqG (op : BinOp) (t : TypeId) (x y : Operand) (q : IntKind) (n : Int) (v : Value) : eqGuard op t x y (.int q n) v = pure () := by cases op <;> rfl
theorem bits_def (op : BinOp) (k : IntKind) (x y : Int) (h : op = .and ∨ op = .or ∨ op = .xor) : (Op.intBits op k x y).run P w = .ok (.int k (Go.bits op k x y)) w := by
  rcases h with rfl | rfl | rfl <;> simp [Op.intBits, Go.bits]
theorem run_binI {op : BinOp} {q : IntKind} {x y : Int} {t : TypeId} {av : AV} (hv : binI op q x y = some av) (hop : op ≠ .shl ∧ op ≠ .shr) : ∃ v, (binOp op t (.int q x) (.int q y)).run P w = .ok v w ∧ Rv w T ρ av v := by
  cases op <;> simp only [binI] at hv <;> try (cases hv)
  case add => exact ⟨_, by simp [binOp, Op.intArith], .i⟩
  case sub => exact ⟨_, by simp [binOp, Op.intArith], .i⟩
  case mul => exact ⟨_, by simp [binOp, Op.intArith], .i⟩
  case quo =>
    split at hv
    · cases hv
    · rename_i hy
      cases hv
      exact ⟨_, by simp [binOp, Op.intDiv, hy], .i⟩
  case rem =>
    split at hv
    · cases hv
    · rename_i hy
      cases hv
      exact ⟨_, by simp [binOp, Op.intDiv, hy], .i⟩
  case and => exact ⟨_, by simp only [binOp, if_false, ne_eq, not_true_eq_false]; exact bits_def _ _ _ _ (by simp), .i⟩
  case or => exact ⟨_, by simp only [binOp, if_false, ne_eq, not_true_eq_false]; exact bits_def _ _ _ _ (by simp), .i⟩
  case xor => exact ⟨_, by simp only [binOp, if_false, ne_eq, not_true_eq_false]; exact bits_def _ _ _ _ (by simp), .i⟩
  case eql => exact ⟨.bool (decide (x = y)), by simp [binOp, Op.intCmp]; rfl, .b⟩
  case neq => exact ⟨.bool (!decide (x = y)), by simp [binOp, Op.intCmp, bne]; rfl, .b⟩
  case lss => exact ⟨_, by simp [binOp, Op.intCmp], .b⟩
  case leq => exact ⟨_, by simp [binOp, Op.intCmp], .b⟩
  case gtr => exact ⟨_, by simp [binOp, Op.intCmp], .b⟩
  case geq => exact ⟨_, by simp [binOp, Op.intCmp], .b⟩
theorem run_shI {op : BinOp} {q q' : IntKind} {x y : Int} {t : TypeId} {av : AV} (hv : shI op q x y = some av) (hop : op = .shl ∨ op = .shr) : ∃ v, (binOp op t (.int q x) (.int q' y)).run P w = .ok v w ∧ Rv w T ρ av v := by
  unfold shI at hv
  split at hv
  · cases hv
  · rename_i hy
    rcases hop with rfl | rfl
    · cases hv
      exact ⟨_, by simp [binOp, Op.shift, hy], .i⟩
    · cases hv
      exact ⟨_, by simp [binOp, Op.shift, hy], .i⟩
theorem beqL (x y : List UInt8) : (x == y) = decide (x = y) := by by_cases h : x = y <;> simp [h]
theorem op_bin (k : WInv f w T ρ h) (he : Env w T ρ e a) {op : BinOp} {x y : Operand} {x' y' : At} {t t' : TypeId} {av : AV} {h' : Heap} (call : Call) (ho : o.op = .binOp op t x y t') (h1 : ma f.tabs x x' = true) (h2 : ma f.tabs y y' = true)
    (hv : PO.ev call (.bin op x' y') e h = some (av, h')) : h' = h ∧ ∃ v, Gives P o a w v ∧ Rv w T ρ av v := by
  have r1 := ma_rv k he h1
  have r2 := ma_rv k he h2
  simp only [PO.ev, Option.map_eq_some_iff] at hv
  obtain ⟨c, hc, hcv⟩ := hv
  cases hcv
  refine ⟨rfl, ?_⟩
  have fin : ∀ v u1 u2, a.eval x = u1 → a.eval y = u2 → (eqGuard op t x y u1 u2 = pure ()) → (binOp op t u1 u2).run P w = .ok v w → Gives P o a w v := by
    intro v u1 u2 e1 e2 hg hr
    simp only [Gives, execOp, ho, e1, e2, hg, Sem.run_bind, Sem.run_pure, Result.andThen_ok, hr]
  unfold binV at hc
  split at hc
  · rename_i q n q' m hx hy
    rw [hx] at r1
    rw [hy] at r2
    have e1 := inv_i r1
    have e2 := inv_i r2
    split at hc
    · obtain ⟨v, h3, h4⟩ := run_shI (P := P) (w := w) (T := T) (ρ := ρ) (q' := q') (t := t) hc (by simp)
      exact ⟨v, fin _ _ _ e1 e2 rfl h3, h4⟩
    · obtain ⟨v, h3, h4⟩ := run_shI (P := P) (w := w) (T := T) (ρ := ρ) (q' := q') (t := t) hc (by simp)
      exact ⟨v, fin _ _ _ e1 e2 rfl h3, h4⟩
    · rename_i n1 n2
      split at hc
      · rename_i hqq
        subst hqq
        obtain ⟨v, h3, h4⟩ := run_binI (P := P) (w := w) (T := T) (ρ := ρ) (t := t) hc ⟨fun e => n1 e, fun e => n2 e⟩
        exact ⟨v, fin _ _ _ e1 e2 (eqG ..) h3, h4⟩
      · cases hc
  · rename_i p q hx hy
    rw [hx] at r1
    rw [hy] at r2
    have e1 := inv_s r1
    have e2 := inv_s r2
    split at hc
    · cases hc
      exact ⟨_, fin _ _ _ e1 e2 rfl (by simp [binOp, Op.stringOp, beqL]), .b⟩
    · cases hc
      exact ⟨_, fin _ _ _ e1 e2 rfl (by simp [binOp, Op.stringOp, beqL]), .b⟩
    · split at hc
      · rename_i hsz
        cases hc
        exact ⟨_, fin _ _ _ e1 e2 rfl (by simp only [binOp, Op.stringOp]; rw [if_neg (by rw [IntKind.max_i64]; omega)]; rfl), .s⟩
      · cases hc
    · cases hc
  · cases hc
theorem op_eqb (k : WInv f w T ρ h) (he : Env w T ρ e a) {neg : Bool} {x y : Operand} {x' y' : At} {t t' : TypeId} {av : AV} {h' : Heap} (call : Call) (ho : o.op = .binOp (if neg then .neq else .eql) t x y t') (ht : P.underlying t = some .bool) (h1 : ma f.tabs x x' = true) (h2 : ma f.tabs y y' = true)
    (hv : PO.ev call (.eqb neg x' y') e h = some (av, h')) : h' = h ∧ ∃ v, Gives P o a w v ∧ Rv w T ρ av v := by
  have r1 := ma_rv k he h1
  have r2 := ma_rv k he h2
  simp only [PO.ev, Option.map_eq_some_iff] at hv
  obtain ⟨c, hc, hcv⟩ := hv
  cases hcv
  refine ⟨rfl, ?_⟩
  unfold eqbV at hc
  split at hc
  · rename_i p q hx hy
    rw [hx] at r1
    rw [hy] at r2
    cases hc
    cases neg
    · exact ⟨.bool (p == q), by simp only [Gives, execOp, ho, inv_b r1, inv_b r2, Bool.false_eq_true, if_false]; simp [eqGuard, run_eql_bool w t p q ht], .b⟩
    · exact ⟨.bool (!(p == q)), by simp only [Gives, execOp, ho, inv_b r1, inv_b r2, if_true]; simp [eqGuard, binOp, run_equal_bool w t p q ht], .b⟩
  · cases hc
end
end Go.Pe
set_option linter.unusedVariables false
set_option linter.unusedSimpArgs false
namespace Go.Pe
open Go
def aggT (P : Program) (t : TypeId) : Option Bool := (P.underlying t).map fun d => match d with
  | .struct _ | .array _ _ => true
  | _ => false
section
variable {P : Program} {f : Fr} {w : World} {T : Nat → Prop} {ρ : Rho} {h : Heap} {e : Nat → AV} {a : Act} {o : Oper}
theorem ptr_cells (k : WInv f w T ρ h) {x : AV} {v : Value} (r : Rv w T ρ x v) {cs : List AV} {c : Nat} (hp : ptrAt h x = some (cs, c)) :
    ∃ b base, v = .pointer (some ⟨b, base + c, none⟩) ∧ ∀ i, i < cs.length → ∃ u, w.cell? ⟨b, base + i, none⟩ = some u ∧ u.oneCell' = true ∧ Rv w T ρ (cs.getD i .junk) u := by
  cases r with
  | @tp _ cs' o' b base g hT hb hcell hv =>
    simp only [ptrAt, Option.some.injEq, Prod.mk.injEq] at hp
    obtain ⟨rfl, rfl⟩ := hp
    exact ⟨b, base, rfl, fun i hi => ⟨g i, (hcell i hi).1, (hcell i hi).2, (hv i hi).any⟩⟩
  | @p _ r e' o' z m b base h1 =>
    simp only [ptrAt, Option.map_eq_some_iff, Option.bind_eq_some_iff] at hp
    obtain ⟨cs', ⟨row, hrow, hat⟩, hq⟩ := hp
    cases hq
    have ok := k.rows r row hrow
    have hsl : ∀ (es : List (List AV)), es[e']? = some cs → RowAt w b base z es (Rv w T Rho.none) → ∀ i, i < cs.length → ∃ u, w.cell? ⟨b, base + e' * z + i, none⟩ = some u ∧ u.oneCell' = true ∧ Rv w T ρ (cs.getD i .junk) u := by
      intro es he hra i hi
      have hlt : e' < es.length := by
        rcases Nat.lt_or_ge e' es.length with h2 | h2
        · exact h2
        · rw [List.getElem?_eq_none h2] at he; cases he
      have hcs : es.getD e' [] = cs := by rw [List.getD_eq_getElem?_getD, he]; rfl
      have hlen := hra.len e' hlt
      rw [hcs] at hlen
      obtain ⟨u, h2, h3, h4⟩ := hra.cell e' i hlt (by omega)
      rw [hcs] at h4
      exact ⟨u, h2, h3, h4.any⟩
    have hst : ∀ cs, e' = 0 → RowAt w b base cs.length [cs] (Rv w T ρ) → ∀ i, i < cs.length → ∃ u, w.cell? ⟨b, base + e' * z + i, none⟩ = some u ∧ u.oneCell' = true ∧ Rv w T ρ (cs.getD i .junk) u := by
      intro cs he hra i hi
      subst he
      obtain ⟨u, h2, h3, h4⟩ := hra.cell 0 i (by simp) hi
      refine ⟨u, ?_, h3, h4⟩
      rw [Nat.zero_mul, Nat.add_zero] at h2 ⊢
      exact h2
    refine ⟨b, base + e' * z, rfl, ?_⟩
    cases row with
    | sl ap z' es =>
      rcases ok with ⟨h2, _, _⟩ | ⟨b', base', cur, e'', h3, h4, h5, h6, h7, h8⟩
      · subst h2; cases hat
      · rw [h1] at h3
        cases h3
        exact hsl es hat h8
    | fsl z' es =>
      rcases ok with ⟨h2, _⟩ | ⟨b', base', h3, h4, h5, h6⟩
      · subst h2; cases hat
      · rw [h1] at h3
        cases h3
        exact hsl es hat h6
    | st cs' =>
      obtain ⟨b', base', cur, e'', h3, h4, h5, h6, h7⟩ := ok
      rw [h1] at h3
      cases h3
      simp only [Row.at] at hat
      split at hat
      · rename_i he
        cases hat
        exact hst cs he h7
      · cases hat
    | fst cs' =>
      obtain ⟨b', base', h3, h4, h5, h6⟩ := ok
      rw [h1] at h3
      cases h3
      simp only [Row.at] at hat
      split at hat
      · rename_i he
        cases hat
        exact hst cs he h6
      · cases hat
    | dead => cases hat
  | _ => simp [ptrAt] at hp
theorem ldC_agg {sz c : Nat} {cs : List AV} {av : AV} (h : ldC true sz c cs = some av) : av = .agg ((cs.drop c).take sz) ∧ c + sz ≤ cs.length := by
  unfold ldC at h
  simp only [if_true] at h
  split at h
  · rename_i h1
    cases h
    obtain ⟨rfl, rfl⟩ := h1
    simp
  · split at h
    · rename_i h1
      cases h
      exact ⟨rfl, h1⟩
    · cases h
theorem load_var {t : TypeId} {sz b base c : Nat} {ag : Bool} {cs : List AV} {av : AV} (hag : aggT P t = some ag) (hsz : szT P t = some sz)
    (hc : ∀ i, i < cs.length → ∃ u, w.cell? ⟨b, base + i, none⟩ = some u ∧ u.oneCell' = true ∧ Rv w T ρ (cs.getD i .junk) u) (hv : ldC ag sz c cs = some av) :
    ∃ v, (loadVar t ⟨b, base + c, none⟩).run P w = .ok v w ∧ Rv w T ρ av v ∧ (ag = false → v.oneCell' = true) := by
  unfold aggT at hag
  cases hu : P.underlying t with
  | none => rw [hu] at hag; cases hag
  | some d =>
    rw [hu] at hag
    cases ag with
    | true =>
      obtain ⟨rfl, hle⟩ := ldC_agg hv
      have hd : d.isRow = true := by cases d <;> simp_all [TypeDesc.isRow]
      have hr : w.rangeAt b (base + c) ((List.range sz).map fun i => (w.cell? ⟨b, base + c + i, none⟩).getD undef) := by
        intro j v hj
        rw [List.getElem?_map] at hj
        rcases Nat.lt_or_ge j sz with h1 | h1
        · obtain ⟨u, h2, h3, h4⟩ := hc (c + j) (by omega)
          rw [List.getElem?_range h1] at hj
          simp only [Option.map_some, Option.some.injEq] at hj
          rw [← Nat.add_assoc] at h2
          rw [h2] at hj
          rw [h2, ← hj]
          rfl
        · rw [List.getElem?_eq_none (by simpa using h1)] at hj
          cases hj
      refine ⟨_, run_loadVar_mid w b (base + c) t _ d hr hu hd (by rw [List.length_map, List.length_range]; exact hsz), ?_, fun h => by cases h⟩
      have hl : ((cs.drop c).take sz).length = sz := by rw [List.length_take, List.length_drop]; omega
      refine .agg _ (by rw [hl]; simp) (fun i hi => ?_) fun i hi => ?_
      all_goals
        rw [hl] at hi
        obtain ⟨u, h2, h3, h4⟩ := hc (c + i) (by omega)
        rw [← Nat.add_assoc] at h2
        have e1 : (((List.range sz).map fun i => (w.cell? ⟨b, base + c + i, none⟩).getD undef).toArray).getD i undef = u := by
          simp [List.getElem?_range hi, h2]
        rw [e1]
      · exact h3
      · rw [show ((cs.drop c).take sz).getD i .junk = cs.getD (c + i) .junk by
          simp only [List.getD_eq_getElem?_getD]
          rw [List.getElem?_take_of_lt hi, List.getElem?_drop]]
        exact h4
    | false =>
      have hd : (isAgg t).run P w = .ok false w := by
        unfold isAgg
        rw [Sem.run_bind, run_underlying hu w]
        cases d <;> simp_all
      simp only [ldC, Bool.false_eq_true, if_false] at hv
      have hlt : c < cs.length := by
        rcases Nat.lt_or_ge c cs.length with h2 | h2
        · exact h2
        · rw [List.getElem?_eq_none h2] at hv; cases hv
      obtain ⟨u, h2, h3, h4⟩ := hc c hlt
      have : cs.getD c .junk = av := by rw [List.getD_eq_getElem?_getD, hv]; rfl
      rw [this] at h4
      exact ⟨u, by simp [loadVar, hd, h2], h4, fun _ => h3⟩
theorem op_ld (k : WInv f w T ρ h) (he : Env w T ρ e a) {x : Operand} {x' : At} {t : TypeId} {ag : Bool} {sz : Nat} {av : AV} {h' : Heap} (call : Call) (ho : o.op = .load t x) (hag : aggT P t = some ag) (hsz : szT P t = some sz) (h1 : ma f.tabs x x' = true)
    (hv : PO.ev call (.ld ag sz x') e h = some (av, h')) : h' = h ∧ ∃ v, Gives P o a w v ∧ Rv w T ρ av v := by
  have r1 := ma_rv k he h1
  simp only [PO.ev, ldV, Option.map_eq_some_iff, Option.bind_eq_some_iff] at hv
  obtain ⟨c, ⟨⟨cs, i⟩, hp, hc⟩, hcv⟩ := hv
  cases hcv
  obtain ⟨b, base, hx, hcell⟩ := ptr_cells k r1 hp
  obtain ⟨v, h2, h3, _⟩ := load_var hag hsz hcell hc
  exact ⟨rfl, v, by simp [Gives, execOp, ho, hx, Instr.loadAt, Instr.sureAddr, h2], h3⟩
theorem inv_p {r q c : Nat} {v : Value} (k : Rv w T ρ (.p r q c) v) : ∃ p, v = .pointer (some p) := by cases k; exact ⟨_, rfl⟩
theorem inv_tp {cs : List AV} {c : Nat} {v : Value} (k : Rv w T ρ (.tp cs c) v) : ∃ p, v = .pointer (some p) := by cases k; exact ⟨_, rfl⟩
theorem op_nck (k : WInv f w T ρ h) (he : Env w T ρ e a) {x : Operand} {x' : At} {av : AV} {h' : Heap} (call : Call) (ho : o.op = .nilCheck x) (h1 : ma f.tabs x x' = true)
    (hv : PO.ev call (.nck x') e h = some (av, h')) : h' = h ∧ ∃ v, Gives P o a w v ∧ Rv w T ρ av v := by
  have r1 := ma_rv k he h1
  simp only [PO.ev] at hv
  split at hv
  · rename_i r q c hq
    cases hv
    rw [hq] at r1
    obtain ⟨p, hp⟩ := inv_p r1
    exact ⟨rfl, a.eval x, by simp [Gives, execOp, ho, hp], r1⟩
  · rename_i cs c hq
    cases hv
    rw [hq] at r1
    obtain ⟨p, hp⟩ := inv_tp r1
    exact ⟨rfl, a.eval x, by simp [Gives, execOp, ho, hp], r1⟩
  · cases hv
theorem fld_p {r q c d : Nat} {v : Value} (k : Rv w T ρ (.p r q c) v) : ∃ b i, v = .pointer (some ⟨b, i, none⟩) ∧ Rv w T ρ (.p r q (c + d)) (.pointer (some ⟨b, i + d, none⟩)) := by
  cases k with
  | p h1 => exact ⟨_, _, rfl, by rw [Nat.add_assoc]; exact .p h1⟩
theorem fld_tp {cs : List AV} {c d : Nat} {v : Value} (k : Rv w T ρ (.tp cs c) v) : ∃ b i, v = .pointer (some ⟨b, i, none⟩) ∧ Rv w T ρ (.tp cs (c + d)) (.pointer (some ⟨b, i + d, none⟩)) := by
  cases k with
  | tp g hT hb hcell hv => exact ⟨_, _, rfl, by rw [Nat.add_assoc]; exact .tp g hT hb hcell hv⟩
theorem op_fld (k : WInv f w T ρ h) (he : Env w T ρ e a) {x : Operand} {x' : At} {t : TypeId} {i d n : Nat} {fs : Array Field} {fl : Field} {av : AV} {h' : Heap} (call : Call) (ho : o.op = .fieldAddr t x i) (hu : P.underlying t = some (.struct fs)) (hf : fs[i]? = some fl) (hd : fl.offset = d) (hn : szT P fl.type = some (n + 1)) (h1 : ma f.tabs x x' = true)
    (hv : PO.ev call (.fld d x') e h = some (av, h')) : h' = h ∧ ∃ v, Gives P o a w v ∧ Rv w T ρ av v := by
  have r1 := ma_rv k he h1
  have fin : ∀ b j, a.eval x = .pointer (some ⟨b, j, none⟩) → Gives P o a w (.pointer (some ⟨b, j + d, none⟩)) := by
    intro b j hx
    simp only [Gives, execOp, ho, hx, Instr.fieldAt, Sem.run_bind, run_underlying hu w, Result.andThen_ok, hf, Instr.sureAddr, Sem.run_pure, fieldPlace, run_sizeOf' hn, Nat.add_one_ne_zero, if_false, add_at, hd]
  simp only [PO.ev] at hv
  split at hv
  · rename_i r q c hq
    cases hv
    rw [hq] at r1
    obtain ⟨b, j, hx, h2⟩ := fld_p (d := d) r1
    exact ⟨rfl, _, fin b j hx, h2⟩
  · rename_i cs c hq
    cases hv
    rw [hq] at r1
    obtain ⟨b, j, hx, h2⟩ := fld_tp (d := d) r1
    exact ⟨rfl, _, fin b j hx, h2⟩
  · cases hv
theorem part_rv {t : TypeId} {sz c : Nat} {ag : Bool} {cs : List AV} {vs : Array Value} {av : AV} (hag : aggT P t = some ag) (hsz : szT P t = some sz) (hl : vs.size = cs.length) (h1 : ∀ i, i < cs.length → (vs.getD i undef).oneCell' = true)
    (hr : ∀ i, i < cs.length → Rv w T ρ (cs.getD i .junk) (vs.getD i undef)) (hv : ldC ag sz c cs = some av) : ∃ v, (part t vs c).run P w = .ok v w ∧ Rv w T ρ av v := by
  unfold aggT at hag
  cases hu : P.underlying t with
  | none => rw [hu] at hag; cases hag
  | some d =>
    rw [hu] at hag
    have hd : (isAgg t).run P w = .ok ag w := by
      unfold isAgg
      rw [Sem.run_bind, run_underlying hu w]
      cases d <;> simp_all
    cases ag with
    | true =>
      obtain ⟨rfl, hle⟩ := ldC_agg hv
      refine ⟨.agg (vs.extract c (c + sz)), ?_, ?_⟩
      · simp only [part, Sem.run_bind, hd, Result.andThen_ok, if_true, run_sizeOf' hsz, Sem.run_pure]
      · have hll : ((cs.drop c).take sz).length = sz := by rw [List.length_take, List.length_drop]; omega
        have hg : ∀ i, i < sz → (vs.extract c (c + sz)).getD i undef = vs.getD (c + i) undef := fun i hi => by
          have hlt : c + i < vs.size := by omega
          simp [Array.getD_eq_getD_getElem?, Array.getElem?_extract, show i < min (c + sz) vs.size - c by omega, Array.getElem?_eq_getElem hlt]
        refine .agg _ (by rw [hll, Array.size_extract]; omega) (fun i hi => ?_) fun i hi => ?_
        · rw [hll] at hi
          rw [hg i hi]
          exact h1 _ (by omega)
        · rw [hll] at hi
          rw [hg i hi, show ((cs.drop c).take sz).getD i .junk = cs.getD (c + i) .junk by
            simp only [List.getD_eq_getElem?_getD]
            rw [List.getElem?_take_of_lt hi, List.getElem?_drop]]
          exact hr _ (by omega)
    | false =>
      simp only [ldC, Bool.false_eq_true, if_false] at hv
      have hlt : c < cs.length := by
        rcases Nat.lt_or_ge c cs.length with h2 | h2
        · exact h2
        · rw [List.getElem?_eq_none h2] at hv; cases hv
      have h3 := hr c hlt
      have : cs.getD c .junk = av := by rw [List.getD_eq_getElem?_getD, hv]; rfl
      rw [this] at h3
      have h4 : vs[c]? = some (vs.getD c undef) := by
        have : c < vs.size := by omega
        simp [this]
      refine ⟨_, ?_, h3⟩
      simp only [part, Sem.run_bind, hd, Result.andThen_ok, Bool.false_eq_true, if_false, h4, Sem.run_pure]
theorem op_fpt (k : WInv f w T ρ h) (he : Env w T ρ e a) {x : Operand} {x' : At} {t : TypeId} {i d sz : Nat} {ag : Bool} {fs : Array Field} {fl : Field} {av : AV} {h' : Heap} (call : Call) (ho : o.op = .field t x i) (hu : P.underlying t = some (.struct fs)) (hf : fs[i]? = some fl) (hd : fl.offset = d) (hsz : szT P fl.type = some sz) (hag : aggT P fl.type = some ag) (h1 : ma f.tabs x x' = true)
    (hv : PO.ev call (.fpt ag sz d x') e h = some (av, h')) : h' = h ∧ ∃ v, Gives P o a w v ∧ Rv w T ρ av v := by
  have r1 := ma_rv k he h1
  simp only [PO.ev] at hv
  split at hv
  · rename_i cs hq
    simp only [Option.map_eq_some_iff] at hv
    obtain ⟨c, hc, hcv⟩ := hv
    cases hcv
    rw [hq] at r1
    generalize hx : a.eval x = v at r1
    cases r1 with
    | agg us hl hone hu2 =>
      obtain ⟨v, h2, h3⟩ := part_rv hag hsz hl hone hu2 hc
      refine ⟨rfl, v, ?_, h3⟩
      simp only [Gives, execOp, ho, hx, Instr.field, Sem.run_bind, run_underlying hu w, Result.andThen_ok, hf, asAgg, Sem.run_pure, hd, h2]
  · cases hv
theorem intV_i {x : AV} {n : Int} {v : Value} (hi : intV x = some n) (k : Rv w T ρ x v) : ∃ q, v = .int q n := by
  unfold intV at hi
  split at hi
  · cases hi
    exact ⟨_, inv_i k⟩
  · cases hi
theorem op_idx (k : WInv f w T ρ h) (he : Env w T ρ e a) {x y : Operand} {x' y' : At} {t el : TypeId} {z : Nat} {av : AV} {h' : Heap} (call : Call) (ho : o.op = .indexAddr t x y) (hu : P.underlying t = some (.slice el)) (hz : szT P el = some z) (h1 : ma f.tabs x x' = true) (h2 : ma f.tabs y y' = true)
    (hv : PO.ev call (.idx z x' y') e h = some (av, h')) : h' = h ∧ ∃ v, Gives P o a w v ∧ Rv w T ρ av v := by
  have r1 := ma_rv k he h1
  have r2 := ma_rv k he h2
  simp only [PO.ev, Option.bind_eq_some_iff, Option.map_eq_some_iff] at hv
  obtain ⟨j, hj, c, hc, hcv⟩ := hv
  cases hcv
  obtain ⟨q, hy⟩ := intV_i hj r2
  have fin : ∀ b i n cap, a.eval x = .slice (some ⟨b, i, none⟩) n cap → 0 ≤ j → j < (n : Int) → Gives P o a w (.pointer (some ⟨b, i + j.toNat * z, none⟩)) := by
    intro b i n cap hx h3 h4
    simp only [Gives, execOp, ho, hx, hy, Instr.indexAt, asIntOf, Sem.run_bind, run_underlying hu w, Result.andThen_ok, Sem.run_pure, run_sizeOf' hz, add_at]
    rw [if_pos ⟨h3, h4⟩]
    simp only [Sem.run_bind, run_sizeOf' hz, Result.andThen_ok, Sem.run_pure, add_at]
  refine ⟨rfl, ?_⟩
  unfold idxV at hc
  split at hc
  · rename_i r z' ofs n hq
    split at hc
    · rename_i hcond
      obtain ⟨rfl, h3, h4⟩ := hcond
      cases hc
      rw [hq] at r1
      generalize hx : a.eval x = v at r1
      cases r1 with
      | @sl _ _ _ _ _ m b base cap hr hn hcap hm hs =>
        refine ⟨_, fin b _ n cap hx h3 h4, ?_⟩
        have := Rv.p (w := w) (T := T) (ρ := ρ) (e := ofs + j.toNat) (o := 0) hr
        rw [Nat.add_zero, Nat.add_mul, ← Nat.add_assoc] at this
        exact this
      | slz => omega
      | slnil => omega
    · cases hc
  · rename_i z' es hq
    split at hc
    · rename_i hcond
      obtain ⟨rfl, h3, h4⟩ := hcond
      cases hc
      rw [hq] at r1
      generalize hx : a.eval x = v at r1
      cases r1 with
      | lnil => simp at h4; omega
      | @l _ _ _ b base cap g hT hb hcap hm hz' hcell hv =>
        have hlt : j.toNat < es.length := by omega
        refine ⟨_, fin b base es.length cap hx h3 h4, ?_⟩
        have hlen := hz' _ hlt
        have := Rv.tp (w := w) (T := T) (ρ := ρ) (cs := es.getD j.toNat []) (o := 0) (b := b) (base := base + j.toNat * z') (fun c => g j.toNat c) hT hb (fun c hc => by rw [hlen] at hc; exact hcell _ c hlt hc) (fun c hc => by rw [hlen] at hc; exact hv _ c hlt hc)
        rw [Nat.add_zero] at this
        exact this
    · cases hc
  · cases hc
theorem op_idxa (k : WInv f w T ρ h) (he : Env w T ρ e a) {x y : Operand} {x' y' : At} {t el : TypeId} {n z : Nat} {av : AV} {h' : Heap} (call : Call) (ho : o.op = .indexAddr t x y) (hu : P.underlying t = some (.array n el)) (hz : szT P el = some z) (h1 : ma f.tabs x x' = true) (h2 : ma f.tabs y y' = true)
    (hv : PO.ev call (.idxa n z x' y') e h = some (av, h')) : h' = h ∧ ∃ v, Gives P o a w v ∧ Rv w T ρ av v := by
  have r1 := ma_rv k he h1
  have r2 := ma_rv k he h2
  simp only [PO.ev] at hv
  have fin : ∀ b i j, intV (y'.ev e) = some j → a.eval x = .pointer (some ⟨b, i, none⟩) → 0 ≤ j → j < (n : Int) → Gives P o a w (.pointer (some ⟨b, i + j.toNat * z, none⟩)) := by
    intro b i j hj hx h3 h4
    obtain ⟨q, hy⟩ := intV_i hj r2
    simp only [Gives, execOp, ho, hx, hy, Instr.indexAt, Instr.sureAddr, asIntOf, Sem.run_bind, run_underlying hu w, Result.andThen_ok, Sem.run_pure, run_sizeOf' hz, add_at]
    rw [if_pos ⟨h3, h4⟩]
    simp only [Sem.run_bind, run_sizeOf' hz, Result.andThen_ok, Sem.run_pure, add_at]
  split at hv
  · rename_i j r q c hj hq
    split at hv
    · rename_i hcond
      cases hv
      rw [hq] at r1
      obtain ⟨b, i, hx, h3⟩ := fld_p (d := j.toNat * z) r1
      exact ⟨rfl, _, fin b i j hj hx hcond.1 hcond.2, h3⟩
    · cases hv
  · rename_i j cs c hj hq
    split at hv
    · rename_i hcond
      cases hv
      rw [hq] at r1
      obtain ⟨b, i, hx, h3⟩ := fld_tp (d := j.toNat * z) r1
      exact ⟨rfl, _, fin b i j hj hx hcond.1 hcond.2, h3⟩
    · cases hv
  · cases hv
theorem op_ext (k : WInv f w T ρ h) (he : Env w T ρ e a) {x : Operand} {x' : At} {n : Nat} {av : AV} {h' : Heap} (call : Call) (ho : o.op = .extract x n) (h1 : ma f.tabs x x' = true)
    (hv : PO.ev call (.ext n x') e h = some (av, h')) : h' = h ∧ ∃ v, Gives P o a w v ∧ Rv w T ρ av v := by
  have r1 := ma_rv k he h1
  simp only [PO.ev] at hv
  split at hv
  · rename_i vs hq
    simp only [Option.map_eq_some_iff] at hv
    obtain ⟨c, hc, hcv⟩ := hv
    cases hcv
    rw [hq] at r1
    generalize hx : a.eval x = v at r1
    cases r1 with
    | tup us hl hu =>
      have hlt : n < vs.length := by
        rcases Nat.lt_or_ge n vs.length with h2 | h2
        · exact h2
        · rw [List.getElem?_eq_none h2] at hc; cases hc
      have h2 := hu n hlt
      rw [show vs.getD n .junk = av by rw [List.getD_eq_getElem?_getD, hc]; rfl] at h2
      refine ⟨rfl, us.getD n undef, ?_, h2⟩
      have h3 : us[n]? = some (us.getD n undef) := by
        have : n < us.size := by omega
        simp [this]
      simp only [Gives, execOp, ho, hx, Instr.extract, h3, Sem.run_bind, Sem.run_pure, Result.andThen_ok]
  · cases hv
theorem op_len (k : WInv f w T ρ h) (he : Env w T ρ e a) {x : Operand} {x' : At} {c : Go.Call} {t el : TypeId} {av : AV} {h' : Heap} (call : Call) (ho : o.op = .call c) (hc : c.callee = .builtin .len) (hx : c.args = #[x]) (ht : c.argTypes = #[t]) (hu : P.underlying t = some (.slice el)) (h1 : ma f.tabs x x' = true)
    (hv : PO.ev call (.len x') e h = some (av, h')) : h' = h ∧ ∃ v, Gives P o a w v ∧ Rv w T ρ av v := by
  have r1 := ma_rv k he h1
  simp only [PO.ev, Option.map_eq_some_iff] at hv
  obtain ⟨n, hn, hcv⟩ := hv
  cases hcv
  have fin : ∀ b cap, a.eval x = .slice b n cap → Gives P o a w (.int .i64 (n : Int)) := by
    intro b cap hxv
    simp [Gives, execOp, ho, resolve, hc, hx, ht, invoke, builtin, Builtin.len_, run_underlying hu, hxv, goInt]
  refine ⟨rfl, _, ?_, .i⟩
  unfold lenV at hn
  generalize hxv : a.eval x = v at r1
  split at hn
  · rename_i hq
    rw [hq] at r1
    cases hn
    cases r1 with
    | sl => exact fin _ _ hxv
    | slz => exact fin _ _ hxv
    | slnil => exact fin _ _ hxv
  · rename_i hq
    rw [hq] at r1
    cases hn
    cases r1 with
    | lnil => exact fin _ _ hxv
    | l => exact fin _ _ hxv
  · rename_i hq
    rw [hq] at r1
    cases hn
    cases r1
    exact fin _ _ hxv
  · cases hn
theorem op_slen (k : WInv f w T ρ h) (he : Env w T ρ e a) {x : Operand} {x' : At} {c : Go.Call} {t : TypeId} {av : AV} {h' : Heap} (call : Call) (ho : o.op = .call c) (hc : c.callee = .builtin .len) (hx : c.args = #[x]) (ht : c.argTypes = #[t]) (hu : P.underlying t = some .string) (h1 : ma f.tabs x x' = true)
    (hv : PO.ev call (.slen x') e h = some (av, h')) : h' = h ∧ ∃ v, Gives P o a w v ∧ Rv w T ρ av v := by
  have r1 := ma_rv k he h1
  simp only [PO.ev] at hv
  split at hv
  · rename_i s hq
    cases hv
    rw [hq] at r1
    refine ⟨rfl, .int .i64 (s.size : Int), ?_, .i⟩
    simp [Gives, execOp, ho, resolve, hc, hx, ht, invoke, builtin, Builtin.len_, run_underlying hu, inv_s r1, goInt]
  · cases hv
theorem op_min (k : WInv f w T ρ h) (he : Env w T ρ e a) {x y : Operand} {x' y' : At} {c : Go.Call} {av : AV} {h' : Heap} (call : Call) (ho : o.op = .call c) (hc : c.callee = .builtin .min) (hx : c.args = #[x, y]) (h1 : ma f.tabs x x' = true) (h2 : ma f.tabs y y' = true)
    (hv : PO.ev call (.min x' y') e h = some (av, h')) : h' = h ∧ ∃ v, Gives P o a w v ∧ Rv w T ρ av v := by
  have r1 := ma_rv k he h1
  have r2 := ma_rv k he h2
  simp only [PO.ev] at hv
  split at hv
  · rename_i q n q' m hq hq'
    cases hv
    rw [hq] at r1
    rw [hq'] at r2
    exact ⟨rfl, .int q (if m < n then m else n), by simp [Gives, execOp, ho, resolve, hc, hx, invoke, builtin, Builtin.min_, Builtin.min2, inv_i r1, inv_i r2], .i⟩
  · cases hv
theorem op_max (k : WInv f w T ρ h) (he : Env w T ρ e a) {x y : Operand} {x' y' : At} {c : Go.Call} {av : AV} {h' : Heap} (call : Call) (ho : o.op = .call c) (hc : c.callee = .builtin .max) (hx : c.args = #[x, y]) (h1 : ma f.tabs x x' = true) (h2 : ma f.tabs y y' = true)
    (hv : PO.ev call (.max x' y') e h = some (av, h')) : h' = h ∧ ∃ v, Gives P o a w v ∧ Rv w T ρ av v := by
  have r1 := ma_rv k he h1
  have r2 := ma_rv k he h2
  simp only [PO.ev] at hv
  split at hv
  · rename_i q n q' m hq hq'
    cases hv
    rw [hq] at r1
    rw [hq'] at r2
    exact ⟨rfl, .int q (if m > n then m else n), by simp [Gives, execOp, ho, resolve, hc, hx, invoke, builtin, Builtin.max_, Builtin.max2, inv_i r1, inv_i r2], .i⟩
  · cases hv
theorem op_sidx (k : WInv f w T ρ h) (he : Env w T ρ e a) {x y : Operand} {x' y' : At} {t : TypeId} {av : AV} {h' : Heap} (call : Call) (ho : o.op = .index t x y) (hu : P.underlying t = some .string) (h1 : ma f.tabs x x' = true) (h2 : ma f.tabs y y' = true)
    (hv : PO.ev call (.sidx x' y') e h = some (av, h')) : h' = h ∧ ∃ v, Gives P o a w v ∧ Rv w T ρ av v := by
  have r1 := ma_rv k he h1
  have r2 := ma_rv k he h2
  simp only [PO.ev] at hv
  split at hv
  · rename_i s j hq hj
    split at hv
    · rename_i hcond
      cases hv
      rw [hq] at r1
      obtain ⟨q, hy⟩ := intV_i hj r2
      refine ⟨rfl, .int .u8 _, ?_, .i⟩
      have hg : s[j.toNat]? = some (s[j.toNat]'hcond.2) := getElem?_pos s j.toNat hcond.2
      simp only [Gives, execOp, ho, Instr.index, hy, asIntOf, inv_s r1, Sem.run_bind, Sem.run_pure, Result.andThen_ok, run_underlying hu w, if_pos hcond.1, hg]
    · cases hv
  · cases hv
def mo2 (tabs : List (Nat × List AV)) : Option Operand → Option At → Bool
  | none, none => true
  | some x, some y => ma tabs x y
  | _, _ => false
theorem run_bounds {isS : Bool} {len cap : Nat} {lo hi mx : Option Value} {l u m : Int} (hl : (lo = none ∧ l = 0) ∨ ∃ q, lo = some (.int q l)) (hu : (hi = none ∧ mx = none ∧ u = len) ∨ ∃ q, hi = some (.int q u)) (hm : (mx = none ∧ m = cap) ∨ ∃ q, mx = some (.int q m))
    (h0 : 0 ≤ l) (h1 : l ≤ u) (h2 : u ≤ m) (h3 : m ≤ (cap : Int)) : (Instr.sliceBounds isS len cap lo hi mx).run P w = .ok (l.toNat, u.toNat, m.toNat) w := by
  have e1 : (m.toNat : Int) = m := Int.toNat_of_nonneg (by omega)
  have e2 : (u.toNat : Int) = u := Int.toNat_of_nonneg (by omega)
  have p1 : 0 ≤ m := by omega
  have p2 : 0 ≤ u := by omega
  rcases hl with ⟨rfl, rfl⟩ | ⟨q, rfl⟩ <;> rcases hm with ⟨rfl, rfl⟩ | ⟨q', rfl⟩ <;> rcases hu with ⟨rfl, h9, rfl⟩ | ⟨q'', rfl⟩ <;> first
    | (cases h9; done)
    | simp [Instr.sliceBounds, Instr.sliceBound, asIntOf, *]
theorem opt_l (k : WInv f w T ρ h) (he : Env w T ρ e a) {lo : Option Operand} {lo' : Option At} {d l : Int} (hm : mo2 f.tabs lo lo' = true) (hl : optI e (some d) lo' = some l) : (lo.map a.eval = none ∧ lo = none ∧ l = d) ∨ ∃ q, lo.map a.eval = some (.int q l) := by
  cases lo with
  | none =>
    cases lo' with
    | none => simp only [optI, Option.some.injEq] at hl; exact .inl ⟨rfl, rfl, hl.symm⟩
    | some y => cases hm
  | some x =>
    cases lo' with
    | none => cases hm
    | some y =>
      obtain ⟨q, hq⟩ := intV_i hl (ma_rv k he hm)
      exact .inr ⟨q, by simp [hq]⟩
theorem op_cut (k : WInv f w T ρ h) (he : Env w T ρ e a) {x : Operand} {x' : At} {lo hi mx : Option Operand} {lo' hi' mx' : Option At} {t el : TypeId} {z : Nat} {av : AV} {h' : Heap} (call : Call) (ho : o.op = .slice t x lo hi mx) (hu : P.underlying t = some (.slice el)) (hz : szT P el = some z)
    (h1 : ma f.tabs x x' = true) (hlo : mo2 f.tabs lo lo' = true) (hhi : mo2 f.tabs hi hi' = true) (hmx : mo2 f.tabs mx mx' = true) (hmh : mx = none ∨ ∃ y, hi = some y)
    (hv : PO.ev call (.cut z x' lo' hi' mx') e h = some (av, h')) : h' = h ∧ ∃ v, Gives P o a w v ∧ Rv w T ρ av v := by
  have r1 := ma_rv k he h1
  simp only [PO.ev, Option.bind_eq_some_iff] at hv
  obtain ⟨l, hl, u, hu', m, hm, hv⟩ := hv
  split at hv
  rotate_left
  · cases hv
  rename_i hmu
  subst hmu
  simp only [Option.map_eq_some_iff] at hv
  obtain ⟨c, hc, hcv⟩ := hv
  cases hcv
  refine ⟨rfl, ?_⟩
  have hL : (lo.map a.eval = none ∧ l = 0) ∨ ∃ q, lo.map a.eval = some (.int q l) := by
    rcases opt_l k he hlo hl with ⟨h2, _, h3⟩ | h2
    · exact .inl ⟨h2, h3⟩
    · exact .inr h2
  have fin : ∀ (ad : Option Addr) (n cap : Nat), a.eval x = .slice ad n cap → lenV (x'.ev e) = some n → n ≤ cap → 0 ≤ l → l ≤ m → m ≤ (n : Int) →
      ∃ mm : Nat, m.toNat ≤ mm ∧ mm ≤ cap ∧ Gives P o a w (.slice (if mm = l.toNat then ad else ad.map (·.add (l.toNat * z))) (m.toNat - l.toNat) (mm - l.toNat)) := by
    intro ad n cap hx hlen hnc g0 g1 g2
    have hU : (hi.map a.eval = none ∧ mx.map a.eval = none ∧ m = n) ∨ ∃ q, hi.map a.eval = some (.int q m) := by
      rw [hlen] at hu'
      rcases opt_l k he hhi hu' with ⟨h2, h3, h4⟩ | h2
      · rcases hmh with rfl | ⟨y, hy⟩
        · exact .inl ⟨h2, rfl, h4⟩
        · rw [h3] at hy; cases hy
      · exact .inr h2
    have hM : ∃ mm : Int, ((mx.map a.eval = none ∧ mm = cap) ∨ ∃ q, mx.map a.eval = some (.int q mm)) ∧ m ≤ mm ∧ mm ≤ (cap : Int) := by
      rcases opt_l k he hmx hm with ⟨h2, _, _⟩ | h2
      · exact ⟨cap, .inl ⟨h2, rfl⟩, by omega, by omega⟩
      · exact ⟨m, .inr h2, by omega, by omega⟩
    obtain ⟨mm, hM, g3, g4⟩ := hM
    have hb := run_bounds (P := P) (w := w) (isS := true) hL hU hM g0 g1 g3 g4
    refine ⟨mm.toNat, by omega, by omega, ?_⟩
    simp only [Gives, execOp, ho, hx, Instr.sliceAt, Instr.slice, Sem.run_bind, run_underlying hu w, Result.andThen_ok, hb, run_sizeOf' hz, Sem.run_pure]
  unfold cutV at hc
  split at hc
  · rename_i r z' ofs n hq
    split at hc
    · rename_i hcond
      obtain ⟨rfl, g0, g1, g2⟩ := hcond
      cases hc
      have hlen : lenV (x'.ev e) = some n := by rw [hq]; rfl
      rw [hq] at r1
      generalize hx : a.eval x = v at r1
      cases r1 with
      | @sl _ _ _ _ _ mx b base cap hr hn hcap hm hs =>
        obtain ⟨mm, g3, g4, hg⟩ := fin _ n cap hx hlen hcap g0 g1 g2
        refine ⟨_, hg, ?_⟩
        split
        · rename_i hml
          have e1 : m.toNat - l.toNat = 0 := by omega
          have e2 : mm - l.toNat = 0 := by omega
          rw [e1, e2]
          exact .slz hr (by omega)
        · obtain ⟨cur, e', fr, hb, hsz⟩ := hs
          simp only [Option.map_some, add_at]
          have := Rv.sl (w := w) (T := T) (ρ := ρ) (o := ofs + l.toNat) (n := m.toNat - l.toNat) (cap := mm - l.toNat) hr (by omega) (by omega) (by omega) ⟨cur, e', fr, hb, Nat.le_trans (Nat.add_le_add_left (Nat.mul_le_mul_right _ (by omega)) _) hsz⟩
          rw [Nat.add_mul, ← Nat.add_assoc] at this
          exact this
      | @slz _ _ _ _ mx b base off hr hn =>
        obtain ⟨mm, g3, g4, hg⟩ := fin _ 0 0 hx hlen (Nat.le_refl _) g0 g1 g2
        refine ⟨_, hg, ?_⟩
        have e0 : l.toNat = 0 := by omega
        have e1 : m.toNat - l.toNat = 0 := by omega
        have e2 : mm = 0 := by omega
        rw [e1, e2, e0]
        exact .slz hr (by omega)
      | slnil hr =>
        obtain ⟨mm, g3, g4, hg⟩ := fin _ 0 0 hx hlen (Nat.le_refl _) g0 g1 g2
        refine ⟨_, hg, ?_⟩
        have e0 : l.toNat = 0 := by omega
        have e1 : m.toNat - l.toNat = 0 := by omega
        have e2 : mm = 0 := by omega
        rw [e1, e2, e0]
        exact .slnil hr
    · cases hc
  · rename_i z' es hq
    split at hc
    · rename_i hcond
      obtain ⟨rfl, g0, g1, g2⟩ := hcond
      cases hc
      have hlen : lenV (x'.ev e) = some es.length := by rw [hq]; rfl
      rw [hq] at r1
      generalize hx : a.eval x = v at r1
      cases r1 with
      | @lnil _ _ ad cap ha hm =>
        obtain ⟨mm, g3, g4, hg⟩ := fin _ 0 _ hx hlen (Nat.zero_le _) g0 g1 g2
        refine ⟨_, hg, ?_⟩
        have e0 : l.toNat = 0 := by simp at g2; omega
        have e1 : m.toNat - l.toNat = 0 := by simp at g2; omega
        rw [e1, e0]
        refine .lnil (fun hn => ?_) (by omega)
        have : ad = none := by
          split at hn
          · exact hn
          · simpa using hn
        have := ha this
        omega
      | @l _ _ _ b base cap g hT hb hcap hm hz' hcell hv =>
        obtain ⟨mm, g3, g4, hg⟩ := fin _ es.length cap hx hlen hcap g0 g1 g2
        refine ⟨_, hg, ?_⟩
        have hlen2 : ((es.drop l.toNat).take (m.toNat - l.toNat)).length = m.toNat - l.toNat := by rw [List.length_take, List.length_drop]; omega
        split
        · rename_i hml
          have e1 : m.toNat - l.toNat = 0 := by omega
          have e2 : mm - l.toNat = 0 := by omega
          rw [e1, e2, List.take_zero]
          exact Rv.l (es := []) (fun _ _ => undef) hT hb (Nat.zero_le _) (Nat.zero_le _) (fun j hj => by cases hj) (fun j c hj => by cases hj) (fun j c hj => by cases hj)
        · simp only [Option.map_some, add_at]
          have key : ∀ j c, base + l.toNat * z' + j * z' + c = base + (l.toNat + j) * z' + c := by intro j c; rw [Nat.add_mul]; omega
          have := Rv.l (w := w) (T := T) (ρ := ρ) (z := z') (es := (es.drop l.toNat).take (m.toNat - l.toNat)) (b := b) (base := base + l.toNat * z') (cap := mm - l.toNat) (fun j c => g (l.toNat + j) c) hT hb (by rw [hlen2]; omega) (by omega)
            (fun j hj => by rw [hlen2] at hj; rw [getD_drop_take _ _ _ _ _ hj]; exact hz' _ (by omega))
            (fun j c hj hc => by rw [hlen2] at hj; rw [key]; exact hcell _ c (by omega) hc)
            (fun j c hj hc => by rw [hlen2] at hj; rw [getD_drop_take _ _ _ _ _ hj]; exact hv _ c (by omega) hc)
          rw [hlen2] at this
          exact this
    · cases hc
  · rename_i z' hq
    split at hc
    · rename_i hcond
      obtain ⟨rfl, rfl⟩ := hcond
      cases hc
      have hlen : lenV (x'.ev e) = some 0 := by rw [hq]; rfl
      rw [hq] at r1
      generalize hx : a.eval x = v at r1
      cases r1
      obtain ⟨mm, g3, g4, hg⟩ := fin _ 0 0 hx hlen (Nat.le_refl _) (Int.le_refl _) (Int.le_refl _) (Int.le_refl _)
      refine ⟨_, hg, ?_⟩
      have e2 : mm = 0 := by omega
      rw [e2]
      exact .ns
    · cases hc
  · cases hc
end
end Go.Pe
