/- Part 2 of the texts of WholeCounts: words, the machine's side of functions (written by a program), plain lemmas. -/
import Derived.Test.YtkhclncjncdfaaaBWholeCounts1
import Derived.KernelRfl
import Derived.Below
import Derived.Deep.MidRow
import Derived.Laws.IdiomCopy
import Derived.Laws.AppendOwn
import Derived.Laws.MakeOwn
import Derived.Laws.Slices
import Derived.Great.BuildSlice
set_option linter.unusedVariables false
set_option linter.unusedSimpArgs false
set_option linter.unusedSimpArgs false
set_option linter.unusedVariables false
open Go
namespace Go.Pe
theorem getD_rep (n j : Nat) : (List.replicate n (0 : Int)).getD j 0 = 0 := by
  rw [List.getD_eq_getElem?_getD]
  by_cases h : j < n <;> simp [List.getElem?_replicate, h]
theorem mul_l1 {a b : List Int} (ha : Dg.Dig 4294967296 a) (hb : Dg.Dig 4294967296 b) (hl : a.length + b.length ≤ 35184372088832) {i : Nat} (hi : i < a.length) (out : List Int) : ∀ (e m : Nat) (o : List Int) (c : Int), m + e = b.length → o.length = a.length + b.length → Dg.Dig 4294967296 o → 0 ≤ c → c ≤ 4294967295 → (∀ j, i + b.length ≤ j → o.getD j 0 = 0) →
    Dg.vl 4294967296 o + c * 4294967296 ^ (i + m) = Dg.vl 4294967296 out + a.getD i 0 * Dg.vl 4294967296 (b.take m) * 4294967296 ^ i →
    ∃ o' c', LP FF [(5, 1), (1, 0), (6, 0), (7, 0), (8, 0), (21, 0), (22, 0), (23, 0), (28, 0), (29, 0), (30, 0)] [(5, 1), (1, 0), (6, 0), (8, 0), (21, 0), (22, 0), (23, 0)] b77_1 [.own true 1 (o.map u), (AV.l 1 (List.map u b)), (AV.i .i64 ((i : Int))), (AV.i .u64 (a.getD i 0)), (AV.i .u64 c), (AV.l 1 (List.map u a)), (AV.i .i64 ((a.length : Int))), (AV.i .i64 ((i : Int))), (AV.l 1 (List.map u b)), (AV.i .i64 ((b.length : Int))), (AV.i .i64 ((m : Int)))] = some (.exit 2, [.own true 1 (o'.map u), (AV.l 1 (List.map u b)), (AV.i .i64 ((i : Int))), (AV.i .u64 (c')), (AV.l 1 (List.map u a)), (AV.i .i64 ((a.length : Int))), (AV.i .i64 ((i : Int)))]) ∧
      o'.length = a.length + b.length ∧ Dg.Dig 4294967296 o' ∧ 0 ≤ c' ∧ c' ≤ 4294967295 ∧ (∀ j, i + b.length ≤ j → o'.getD j 0 = 0) ∧ Dg.vl 4294967296 o' + c' * 4294967296 ^ (i + b.length) = Dg.vl 4294967296 out + a.getD i 0 * Dg.vl 4294967296 b * 4294967296 ^ i := by
  have gi := ha.getD (by decide) i
  intro e
  induction e with
  | zero =>
    intro m o c hm ho2 hd2 hc0 hc1 hz2 hv2
    have hmb : m = b.length := by omega
    subst hmb
    rw [List.take_length] at hv2
    refine ⟨o, c, ?_, ho2, hd2, hc0, hc1, hz2, hv2⟩
    rw [LP_go FF b77_1.eq_1]
    simp only [RB, un, St.none, Nat.reduceEqDiff, Nat.reduceAdd, Nat.reduceMul, Nat.reduceLeDiff, Nat.reduceLT, Int.reduceLT, Int.reduceLE, Int.reduceEq, Int.reduceToNat, Int.reduceSub, Int.reduceNeg, Int.reduceAdd, ↓reduceIte, reduceCtorEq, ite_self, eq_self, if_true, if_false, pack, pid, parN, List.not_mem_nil, List.mem_cons, lid, chkK, apartV, List.map_nil, List.flatMap_nil, List.append_nil, List.nil_append, List.drop_zero, List.length_set, List.length_replicate, List.length_append, List.take_length, List.take_zero, List.drop_length, Option.isNone_none, Heap.none]
    simp (disch := omega) only [if_pos, if_neg, List.take_length, take_set_len, take_set2_len, take_rep_len, take_snoc_len, take_app_len]
  | succ e ih2 =>
    intro m o c hm ho2 hd2 hc0 hc1 hz2 hv2
    have gm := hb.getD (by decide) m
    have go := hd2.getD (by decide) (i + m)
    have hx := mul_bound gi.1 (show a.getD i 0 ≤ 4294967295 by omega) gm.1 (show b.getD m 0 ≤ 4294967295 by omega)
    have ht : c + (o.getD (i + m) 0 + a.getD i 0 * b.getD m 0) = c + o.getD (i + m) 0 + a.getD i 0 * b.getD m 0 := by omega
    have h9 := ih2 (m + 1) (o.set (i + m) ((c + (o.getD (i + m) 0 + a.getD i 0 * b.getD m 0)) % 4294967296)) ((c + (o.getD (i + m) 0 + a.getD i 0 * b.getD m 0)) / 4294967296) (by omega) (by rw [List.length_set]; exact ho2) (hd2.set _ (by omega) (by omega)) (by omega) (by omega) (zero_set _ (by omega) hz2) (by
      have := mul_step (B := 4294967296) (x := a.getD i 0 * b.getD m 0) (show i + m < o.length by omega) hv2 (t := c + o.getD (i + m) 0 + a.getD i 0 * b.getD m 0) rfl
      rw [ht, show i + (m + 1) = i + m + 1 by omega, this, Dg.vl_take_succ, Int.pow_add]
      grind)
    have e1 : IntKind.i64.wrap ((i : Int) + (m : Int)) = ((i + m : Nat) : Int) := w64add (by omega)
    have e2 : IntKind.i64.wrap ((m : Int) + 1) = ((m + 1 : Nat) : Int) := w64succ (by omega)
    have e3 : IntKind.u64.wrap (a.getD i 0 * b.getD m 0) = a.getD i 0 * b.getD m 0 := u64w (by omega) (by omega)
    have e4 : IntKind.u64.wrap (o.getD (i + m) 0 + a.getD i 0 * b.getD m 0) = o.getD (i + m) 0 + a.getD i 0 * b.getD m 0 := u64w (by omega) (by omega)
    have e5 : IntKind.u64.wrap (c + (o.getD (i + m) 0 + a.getD i 0 * b.getD m 0)) = c + (o.getD (i + m) 0 + a.getD i 0 * b.getD m 0) := u64w (by omega) (by omega)
    have e6 := and32 (x := c + (o.getD (i + m) 0 + a.getD i 0 * b.getD m 0)) (by omega) (by omega)
    have e7 := shr32 (x := c + (o.getD (i + m) 0 + a.getD i 0 * b.getD m 0)) (by omega)
    rw [LP_go FF b77_1.eq_1]
    simp only [RB, un, St.none, Nat.reduceEqDiff, Nat.reduceAdd, Nat.reduceMul, Nat.reduceLeDiff, Nat.reduceLT, Int.reduceLT, Int.reduceLE, Int.reduceEq, Int.reduceToNat, Int.reduceSub, Int.reduceNeg, Int.reduceAdd, ↓reduceIte, reduceCtorEq, ite_self, eq_self, if_true, if_false, pack, pid, parN, List.not_mem_nil, List.mem_cons, lid, chkK, apartV, List.map_nil, List.flatMap_nil, List.append_nil, List.nil_append, List.drop_zero, List.length_set, List.length_replicate, List.length_append, List.take_length, List.take_zero, List.drop_length, Option.isNone_none, Heap.none, e1, e2, e3, e4, e5, e6, e7]
    simp (disch := omega) only [if_pos, if_neg, List.take_length, take_set_len, take_set2_len, take_rep_len, take_snoc_len, take_app_len]
    exact h9
theorem mul_l0 {a b : List Int} (ha : Dg.Dig 4294967296 a) (hb : Dg.Dig 4294967296 b) (hl : a.length + b.length ≤ 35184372088832) :
    ∀ (d i : Nat) (out : List Int), i + d = a.length → out.length = a.length + b.length → Dg.Dig 4294967296 out → Dg.vl 4294967296 out = Dg.vl 4294967296 (a.take i) * Dg.vl 4294967296 b → (∀ j, i + b.length ≤ j → out.getD j 0 = 0) →
    ∃ o, LP FF [(5, 1), (1, 0), (21, 0), (22, 0), (23, 0)] [(5, 0)] b77_0 [.own true 1 (out.map u), (AV.l 1 (List.map u b)), (AV.l 1 (List.map u a)), (AV.i .i64 ((a.length : Int))), (AV.i .i64 ((i : Int)))] = some (.exit 0, [(AV.l 1 (List.map u o))]) ∧ Dg.Dig 4294967296 o ∧ o.length = a.length + b.length ∧ Dg.vl 4294967296 o = Dg.vl 4294967296 a * Dg.vl 4294967296 b := by
  intro d
  induction d with
  | zero =>
    intro i out hi ho hd hv hz
    rw [List.take_of_length_le (by omega)] at hv
    refine ⟨out, ?_, hd, ho, hv⟩
    rw [LP_go FF b77_0.eq_1]
    simp only [RB, un, St.none, Nat.reduceEqDiff, Nat.reduceAdd, Nat.reduceMul, Nat.reduceLeDiff, Nat.reduceLT, Int.reduceLT, Int.reduceLE, Int.reduceEq, Int.reduceToNat, Int.reduceSub, Int.reduceNeg, Int.reduceAdd, ↓reduceIte, reduceCtorEq, ite_self, eq_self, if_true, if_false, pack, pid, parN, List.not_mem_nil, List.mem_cons, lid, chkK, apartV, List.map_nil, List.flatMap_nil, List.append_nil, List.nil_append, List.drop_zero, List.length_set, List.length_replicate, List.length_append, List.take_length, List.take_zero, List.drop_length, Option.isNone_none, Heap.none]
    simp (disch := omega) only [if_pos, if_neg, List.take_length, take_set_len, take_set2_len, take_rep_len, take_snoc_len, take_app_len]
  | succ d ih =>
    intro i out hi ho hd hv hz
    obtain ⟨o, c, h1, h2, h3, h4, h5, h6, h7⟩ := mul_l1 ha hb hl (show i < a.length by omega) out b.length 0 out 0 (by omega) ho hd (by omega) (by omega) hz (by simp [Dg.vl])
    have h9 := ih (i + 1) (o.set (i + b.length) c) (by omega) (by rw [List.length_set]; exact h2) (h3.set _ h4 (by omega)) (by
      rw [Dg.vl_set _ _ _ _ (by omega), h6 _ (Nat.le_refl _), Int.sub_zero, h7, hv, Dg.vl_take_succ]
      grind) (fun j hj => zero_set c (q := i + b.length + 1) (by omega) (fun j hj => h6 j (by omega)) j (by omega))
    have e1 : IntKind.i64.wrap ((i : Int) + (b.length : Int)) = ((i + b.length : Nat) : Int) := w64add (by omega)
    have e2 : IntKind.i64.wrap ((i : Int) + 1) = ((i + 1 : Nat) : Int) := w64succ (by omega)
    rw [Int.ofNat_zero] at h1
    rw [LP_go FF b77_0.eq_1]
    simp only [RB, un, St.none, Nat.reduceEqDiff, Nat.reduceAdd, Nat.reduceMul, Nat.reduceLeDiff, Nat.reduceLT, Int.reduceLT, Int.reduceLE, Int.reduceEq, Int.reduceToNat, Int.reduceSub, Int.reduceNeg, Int.reduceAdd, ↓reduceIte, reduceCtorEq, ite_self, eq_self, if_true, if_false, pack, pid, parN, List.not_mem_nil, List.mem_cons, lid, chkK, apartV, List.map_nil, List.flatMap_nil, List.append_nil, List.nil_append, List.drop_zero, List.length_set, List.length_replicate, List.length_append, List.take_length, List.take_zero, List.drop_length, Option.isNone_none, Heap.none]
    simp (disch := omega) only [if_pos, if_neg, List.take_length, take_set_len, take_set2_len, take_rep_len, take_snoc_len, take_app_len, h1]
    simp only [RB, un, St.none, Nat.reduceEqDiff, Nat.reduceAdd, Nat.reduceMul, Nat.reduceLeDiff, Nat.reduceLT, Int.reduceLT, Int.reduceLE, Int.reduceEq, Int.reduceToNat, Int.reduceSub, Int.reduceNeg, Int.reduceAdd, ↓reduceIte, reduceCtorEq, ite_self, eq_self, if_true, if_false, pack, pid, parN, List.not_mem_nil, List.mem_cons, lid, chkK, apartV, List.map_nil, List.flatMap_nil, List.append_nil, List.nil_append, List.drop_zero, List.length_set, List.length_replicate, List.length_append, List.take_length, List.take_zero, List.drop_length, Option.isNone_none, Heap.none, e1, e2]
    simp (disch := omega) only [if_pos, if_neg, List.take_length, take_set_len, take_set2_len, take_rep_len, take_snoc_len, take_app_len]
    exact h9
theorem mul_c {a b : List Int} (ha : U a) (hb : U b) (hl : a.length + b.length ≤ 35184372088832) : R FF 77 [(AV.l 1 (List.map u a)), (AV.l 1 (List.map u b))] = some (AV.l 1 (List.map u (D (W a * W b)))) := by
  have g1 : (D (W a)).length ≤ a.length := L_W a
  have g2 : (D (W b)).length ≤ b.length := L_W b
  obtain ⟨o, h1, h2, h3, h4⟩ := mul_l0 (D_dig (W a)) (D_dig (W b)) (by omega) (D (W a)).length 0 (List.replicate ((D (W a)).length + (D (W b)).length) 0) (by omega) (by rw [List.length_replicate]) (Dg.Dig.replicate (by decide) _) (by rw [Dg.vl_replicate_zero]; simp [Dg.vl]) (fun j _ => getD_rep _ j)
  have h5 := trim_c h2 (by omega) (n := W a * W b) (by rw [h4, D_vl, D_vl]; exact (Int.natCast_mul _ _).symm)
  have e1 : IntKind.i64.wrap (((D (W a)).length : Int) + ((D (W b)).length : Int)) = (((D (W a)).length + (D (W b)).length : Nat) : Int) := w64add (by omega)
  rw [Int.ofNat_zero] at h1
  rw [R_go FF F77 c77.eq_1]
  simp only [RB, un, St.none, Nat.reduceEqDiff, Nat.reduceAdd, Nat.reduceMul, Nat.reduceLeDiff, Nat.reduceLT, Int.reduceLT, Int.reduceLE, Int.reduceEq, Int.reduceToNat, Int.reduceSub, Int.reduceNeg, Int.reduceAdd, ↓reduceIte, reduceCtorEq, ite_self, eq_self, if_true, if_false, pack, pid, parN, List.not_mem_nil, List.mem_cons, lid, chkK, apartV, List.map_nil, List.flatMap_nil, List.append_nil, List.nil_append, List.drop_zero, List.length_set, List.length_replicate, List.length_append, List.take_length, List.take_zero, List.drop_length, Option.isNone_none, Heap.none, clean_c ha (by omega), clean_c hb (by omega), e1]
  simp (disch := omega) only [if_pos, if_neg, List.take_length, take_set_len, take_set2_len, take_rep_len, take_snoc_len, take_app_len, h1]
  simp only [RB, un, St.none, Nat.reduceEqDiff, Nat.reduceAdd, Nat.reduceMul, Nat.reduceLeDiff, Nat.reduceLT, Int.reduceLT, Int.reduceLE, Int.reduceEq, Int.reduceToNat, Int.reduceSub, Int.reduceNeg, Int.reduceAdd, ↓reduceIte, reduceCtorEq, ite_self, eq_self, if_true, if_false, pack, pid, parN, List.not_mem_nil, List.mem_cons, lid, chkK, apartV, List.map_nil, List.flatMap_nil, List.append_nil, List.nil_append, List.drop_zero, List.length_set, List.length_replicate, List.length_append, List.take_length, List.take_zero, List.drop_length, Option.isNone_none, Heap.none, h5]
theorem mul_D {m n : Nat} (hl : L m + L n ≤ 35184372088832) : R FF 77 [(AV.l 1 (List.map u (D m))), (AV.l 1 (List.map u (D n)))] = some (AV.l 1 (List.map u (D (m * n)))) := by
  have := mul_c (D_U m) (D_U n) hl
  rwa [W_D, W_D] at this
end Go.Pe
set_option linter.unusedSimpArgs false
set_option linter.unusedVariables false
open Go
namespace Go.Pe
theorem shl32 {x : Int} (h0 : 0 ≤ x) (h1 : x ≤ 4294967295) : IntKind.u64.wrap (x * 2 ^ Nat.min 32 IntKind.u64.bits) = x * 4294967296 := by
  rw [show Nat.min 32 IntKind.u64.bits = 32 by decide, show (2 : Int) ^ 32 = 4294967296 by decide]; exact u64w (by omega) (by omega)
theorem small_div {a : List Int} (ha : Dg.Dig 4294967296 a) (hl : a.length ≤ 35184372088832) {d : Int} (hd0 : 0 < d) (hd1 : d ≤ 4294967295) {q r : Nat} (hq : Dg.vl 4294967296 a = q * d + r) (hr : (r : Int) < d) :
    ∀ (n : Nat) (out : List Int) (c : Int), n ≤ a.length → out.length = a.length → Dg.Dig 4294967296 out → 0 ≤ c → c < d → Dg.vl 4294967296 (out.drop n) * d + c = Dg.vl 4294967296 (a.drop n) →
    ∃ o, LP FF [(6, 1), (0, 0), (1, 0), (7, 0), (8, 0)] [(6, 0), (7, 0)] b130_0 [.own true 1 (out.map u), (AV.l 1 (List.map u a)), (AV.i .u64 d), (AV.i .u64 c), (AV.i .i64 ((n : Int) - 1))] = some (.exit 0, [(AV.l 1 (List.map u o)), (AV.i .u64 ((r : Int)))]) ∧ Dg.Dig 4294967296 o ∧ o.length = a.length ∧ Dg.vl 4294967296 o = q := by
  intro n
  induction n with
  | zero =>
    intro out c hn ho hd hc0 hc1 hv
    rw [List.drop_zero, List.drop_zero, hq] at hv
    have h1 : Dg.vl 4294967296 out = q := by
      have e1 : (Dg.vl 4294967296 out - q) * d = r - c := by grind
      rcases Int.lt_trichotomy (Dg.vl 4294967296 out - q) 0 with h | h | h
      · have : (Dg.vl 4294967296 out - q) * d ≤ -1 * d := Int.mul_le_mul_of_nonneg_right (by omega) (by omega)
        omega
      · omega
      · have : 1 * d ≤ (Dg.vl 4294967296 out - q) * d := Int.mul_le_mul_of_nonneg_right (by omega) (by omega)
        omega
    have h2 : c = r := by rw [h1] at hv; omega
    refine ⟨out, ?_, hd, ho, h1⟩
    rw [← h2]
    rw [LP_go FF b130_0.eq_1]
    simp only [RB, un, St.none, Nat.reduceEqDiff, Nat.reduceAdd, Nat.reduceMul, Nat.reduceLeDiff, Nat.reduceLT, Int.reduceLT, Int.reduceLE, Int.reduceEq, Int.reduceToNat, Int.reduceSub, Int.reduceNeg, Int.reduceAdd, ↓reduceIte, reduceCtorEq, ite_self, eq_self, if_true, if_false, pack, pid, parN, List.not_mem_nil, List.mem_cons, lid, chkK, apartV, List.map_nil, List.flatMap_nil, List.append_nil, List.nil_append, List.drop_zero, List.length_set, List.length_replicate, List.length_append, List.take_length, List.take_zero, List.drop_length, Option.isNone_none, Heap.none]
    try simp (disch := omega) only [if_pos, if_neg, List.take_length, take_set_len, take_set2_len, take_rep_len, take_snoc_len, take_app_len]
  | succ n ih =>
    intro out c hn ho hd hc0 hc1 hv
    have e0 : ((n + 1 : Nat) : Int) - 1 = (n : Int) := by omega
    have ga := ha.getD (by decide) n
    have t0 : 0 ≤ c * 4294967296 + a.getD n 0 := by omega
    have q0 : (c * 4294967296 + a.getD n 0) / d < 4294967296 := by
      apply Int.ediv_lt_of_lt_mul hd0
      have : (c + 1) * 4294967296 ≤ d * 4294967296 := Int.mul_le_mul_of_nonneg_right (by omega) (by omega)
      omega
    have q1 : 0 ≤ (c * 4294967296 + a.getD n 0) / d := Int.ediv_nonneg t0 (by omega)
    have r0 := Int.emod_nonneg (c * 4294967296 + a.getD n 0) (show d ≠ 0 by omega)
    have r1 := Int.emod_lt_of_pos (c * 4294967296 + a.getD n 0) hd0
    have hqr := Int.mul_ediv_add_emod (c * 4294967296 + a.getD n 0) d
    have h9 := ih (out.set n ((c * 4294967296 + a.getD n 0) / d)) ((c * 4294967296 + a.getD n 0) % d) (by omega) (by rw [List.length_set]; exact ho) (hd.set _ q1 q0) r0 r1 (by
      rw [Dg.vl_drop_succ, Dg.vl_drop_succ 4294967296 a, Dg.vl_drop_set _ _ _ _ _ (Nat.lt_succ_self _), Dg.getD_set _ _ _ _ (by omega), if_pos rfl, ← hv]
      grind)
    have e1 := shl32 (x := c) hc0 (by omega)
    have e2 := or32 (x := c) (y := a.getD n 0) hc0 (by omega) (by omega) (by omega)
    have e3 : IntKind.u64.wrap (Int.tdiv (c * 4294967296 + a.getD n 0) d) = (c * 4294967296 + a.getD n 0) / d := by rw [tdiv_pos t0]; exact u64w q1 (by omega)
    have e4 : Int.tmod (c * 4294967296 + a.getD n 0) d = (c * 4294967296 + a.getD n 0) % d := tmod_pos t0
    have e5 : IntKind.i64.wrap ((n : Int) - 1) = (n : Int) - 1 := w64 (by omega) (by omega)
    rw [LP_go FF b130_0.eq_1]
    simp only [RB, un, St.none, Nat.reduceEqDiff, Nat.reduceAdd, Nat.reduceMul, Nat.reduceLeDiff, Nat.reduceLT, Int.reduceLT, Int.reduceLE, Int.reduceEq, Int.reduceToNat, Int.reduceSub, Int.reduceNeg, Int.reduceAdd, ↓reduceIte, reduceCtorEq, ite_self, eq_self, if_true, if_false, pack, pid, parN, List.not_mem_nil, List.mem_cons, lid, chkK, apartV, List.map_nil, List.flatMap_nil, List.append_nil, List.nil_append, List.drop_zero, List.length_set, List.length_replicate, List.length_append, List.take_length, List.take_zero, List.drop_length, Option.isNone_none, Heap.none, e0, e1, e2, e3, e4, e5]
    simp (disch := omega) only [if_pos, if_neg, List.take_length, take_set_len, take_set2_len, take_rep_len, take_snoc_len, take_app_len]
    exact h9
theorem small_D {m d : Nat} (hd0 : 0 < d) (hd1 : d ≤ 4294967295) (hl : L m ≤ 35184372088832) : R FF 130 [(AV.l 1 (List.map u (D m))), (AV.i .u64 ((d : Int)))] = some (.tup [(AV.l 1 (List.map u (D (m / d)))), (AV.i .u64 (((m % d : Nat) : Int)))]) := by
  have hl' : (D m).length ≤ 35184372088832 := hl
  have hm := Nat.mod_lt m hd0
  have hq : Dg.vl 4294967296 (D m) = ((m / d : Nat) : Int) * (d : Int) + ((m % d : Nat) : Int) := by
    rw [D_vl]
    have := Nat.div_add_mod m d
    rw [Nat.mul_comm] at this
    exact_mod_cast this.symm
  obtain ⟨o, h1, h2, h3, h4⟩ := small_div (D_dig m) hl' (d := (d : Int)) (by omega) (by omega) hq (by omega) (D m).length (List.replicate (D m).length 0) 0 (Nat.le_refl _) (by rw [List.length_replicate]) (Dg.Dig.replicate (by decide) _) (by omega) (by omega) (by
    rw [List.drop_length, List.drop_of_length_le (by rw [List.length_replicate]; omega)]
    simp [Dg.vl])
  have e1 : IntKind.i64.wrap (((D m).length : Int) - 1) = ((D m).length : Int) - 1 := w64 (by omega) (by omega)
  rw [R_go FF F130 c130.eq_1]
  simp only [RB, un, St.none, Nat.reduceEqDiff, Nat.reduceAdd, Nat.reduceMul, Nat.reduceLeDiff, Nat.reduceLT, Int.reduceLT, Int.reduceLE, Int.reduceEq, Int.reduceToNat, Int.reduceSub, Int.reduceNeg, Int.reduceAdd, ↓reduceIte, reduceCtorEq, ite_self, eq_self, if_true, if_false, pack, pid, parN, List.not_mem_nil, List.mem_cons, lid, chkK, apartV, List.map_nil, List.flatMap_nil, List.append_nil, List.nil_append, List.drop_zero, List.length_set, List.length_replicate, List.length_append, List.take_length, List.take_zero, List.drop_length, Option.isNone_none, Heap.none, e1]
  simp (disch := omega) only [if_pos, if_neg, List.take_length, take_set_len, take_set2_len, take_rep_len, take_snoc_len, take_app_len, h1]
  simp only [RB, un, St.none, Nat.reduceEqDiff, Nat.reduceAdd, Nat.reduceMul, Nat.reduceLeDiff, Nat.reduceLT, Int.reduceLT, Int.reduceLE, Int.reduceEq, Int.reduceToNat, Int.reduceSub, Int.reduceNeg, Int.reduceAdd, ↓reduceIte, reduceCtorEq, ite_self, eq_self, if_true, if_false, pack, pid, parN, List.not_mem_nil, List.mem_cons, lid, chkK, apartV, List.map_nil, List.flatMap_nil, List.append_nil, List.nil_append, List.drop_zero, List.length_set, List.length_replicate, List.length_append, List.take_length, List.take_zero, List.drop_length, Option.isNone_none, Heap.none, trim_c h2 (by omega) h4]
theorem bits_or_comm (k : IntKind) (x y : Int) : Go.bits .or k x y = Go.bits .or k y x := by simp [Go.bits, BitVec.or_comm]
theorem shift_parts (x s : Nat) (hs : s < 32) : (x * 2 ^ s) % 4294967296 = (x % 2 ^ (32 - s)) * 2 ^ s ∧ (x * 2 ^ s) / 4294967296 = x / 2 ^ (32 - s) := by
  have e : 4294967296 = 2 ^ (32 - s) * 2 ^ s := by rw [← Nat.pow_add, Nat.sub_add_cancel (by omega)]
  constructor
  · rw [e, Nat.mul_mod_mul_right]
  · rw [e, Nat.mul_div_mul_right _ _ (Nat.two_pow_pos s)]
theorem trimw_l0 {l : List Int} (hd : Dg.Dig 4294967296 l) (hl : l.length ≤ 35184372088832) : ∀ n : Nat, n ≤ l.length →
    ∃ m, m ≤ n ∧ l.take m = D (Dg.vl 4294967296 (l.take n)).toNat ∧ LP FF [(200000, 2), (0, 1), (3, 0)] [(200000, 2), (0, 1), (3, 0)] b285_0 [.own false 1 (l.map u), .sl 200000 1 0 l.length, (AV.i .i64 ((n : Int)))] = some (.exit 0, [.own false 1 (l.map u), .sl 200000 1 0 l.length, (AV.i .i64 ((m : Int)))]) := by
  intro n
  induction n with
  | zero =>
    intro _
    refine ⟨0, Nat.le_refl _, by simp only [List.take_zero, Dg.vl, Int.toNat_zero, D_zero], ?_⟩
    rw [LP_go FF b285_0.eq_1]
    simp only [RB, un, St.none, Nat.reduceEqDiff, Nat.reduceAdd, Nat.reduceMul, Nat.reduceLeDiff, Nat.reduceLT, Int.reduceLT, Int.reduceLE, Int.reduceEq, Int.reduceToNat, Int.reduceSub, Int.reduceNeg, Int.reduceAdd, ↓reduceIte, reduceCtorEq, ite_self, eq_self, if_true, if_false, pack, pid, parN, List.not_mem_nil, List.mem_cons, lid, chkK, apartV, List.map_nil, List.flatMap_nil, List.append_nil, List.nil_append, List.drop_zero, List.length_set, List.length_replicate, List.length_append, List.take_length, List.take_zero, List.drop_length, Option.isNone_none, Heap.none]
  | succ n ih =>
    intro hn
    have e : IntKind.i64.wrap (((n + 1 : Nat) : Int) - 1) = (n : Int) := by rw [w64 (by omega) (by omega)]; omega
    rw [LP_go FF b285_0.eq_1]
    simp only [RB, un, St.none, Nat.reduceEqDiff, Nat.reduceAdd, Nat.reduceMul, Nat.reduceLeDiff, Nat.reduceLT, Int.reduceLT, Int.reduceLE, Int.reduceEq, Int.reduceToNat, Int.reduceSub, Int.reduceNeg, Int.reduceAdd, ↓reduceIte, reduceCtorEq, ite_self, eq_self, if_true, if_false, pack, pid, parN, List.not_mem_nil, List.mem_cons, lid, chkK, apartV, List.map_nil, List.flatMap_nil, List.append_nil, List.nil_append, List.drop_zero, List.length_set, List.length_replicate, List.length_append, List.take_length, List.take_zero, List.drop_length, Option.isNone_none, Heap.none, e]
    rw [if_pos (by omega)]
    by_cases h : l.getD n 0 = 0
    · obtain ⟨m, hm, h1, h2⟩ := ih (by omega)
      refine ⟨m, by omega, ?_, ?_⟩
      · rw [h1, Dg.vl_take_succ, h]; simp
      · simp (disch := omega) only [if_pos, if_neg, List.take_length, take_set_len, take_set2_len, take_rep_len, take_snoc_len, take_app_len]
        exact h2
    · refine ⟨n + 1, Nat.le_refl _, ?_, ?_⟩
      · have hdd := hd.take (n + 1)
        refine D_of hdd (top_take (by omega) h) ?_
        have := Dg.vl_nonneg hdd (by decide)
        omega
      · simp (disch := omega) only [if_pos, if_neg, List.take_length, take_set_len, take_set2_len, take_rep_len, take_snoc_len, take_app_len]
theorem trimw_c {l : List Int} (hd : Dg.Dig 4294967296 l) (hl : l.length ≤ 35184372088832) {n : Nat} (hv : Dg.vl 4294967296 l = n) (hn : n ≠ 0) :
    R FF 285 [.own false 1 (l.map u)] = some (.back (.sl 200000 1 0 (L n)) [.own false 1 (l.map u)]) ∧ 0 < L n ∧ l.take (L n) = D n ∧ L n ≤ l.length := by
  obtain ⟨m, hm, h1, h2⟩ := trimw_l0 hd hl l.length (Nat.le_refl _)
  rw [List.take_length, hv, Int.toNat_natCast] at h1
  have hL : L n = m := by
    show (D n).length = m
    rw [← h1, List.length_take]
    omega
  have h0 : m ≠ 0 := fun h => hn (D_nil.1 (List.eq_nil_of_length_eq_zero (hL.trans h)))
  rw [hL]
  refine ⟨?_, by omega, h1, by omega⟩
  rw [R_go FF F285 c285.eq_1]
  simp only [RB, un, St.none, Nat.reduceEqDiff, Nat.reduceAdd, Nat.reduceMul, Nat.reduceLeDiff, Nat.reduceLT, Int.reduceLT, Int.reduceLE, Int.reduceEq, Int.reduceToNat, Int.reduceSub, Int.reduceNeg, Int.reduceAdd, ↓reduceIte, reduceCtorEq, ite_self, eq_self, if_true, if_false, pack, pid, parN, List.not_mem_nil, List.mem_cons, lid, chkK, apartV, List.map_nil, List.flatMap_nil, List.append_nil, List.nil_append, List.drop_zero, List.length_set, List.length_replicate, List.length_append, List.take_length, List.take_zero, List.drop_length, Option.isNone_none, Heap.none, h2]
  rw [if_neg (by omega), if_pos (by omega)]
theorem shl_l0 {a : List Int} (ha : Dg.Dig 4294967296 a) {w s : Nat} (hs : s < 32) (hl : a.length + w + 1 ≤ 35184372088832) {n : Nat} (hn : Dg.vl 4294967296 a * 2 ^ s * 4294967296 ^ w = n) :
    ∀ (d i : Nat) (out : List Int), i + d = a.length → out.length = a.length + w + 1 → Dg.Dig 4294967296 out → Dg.vl 4294967296 out = Dg.vl 4294967296 (a.take i) * 2 ^ s * 4294967296 ^ w → out.getD (i + w) 0 < 2 ^ s → (∀ j, i + w < j → out.getD j 0 = 0) →
    ∃ o, LP FF [(7, 1), (5, 0), (6, 0), (20, 0), (21, 0), (22, 0)] [(7, 1)] b111_0 [.own true 1 (out.map u), (AV.i .i64 ((w : Int))), (AV.i .i64 ((s : Int))), (AV.l 1 (List.map u a)), (AV.i .i64 ((a.length : Int))), (AV.i .i64 ((i : Int)))] = some (.exit 0, [.own true 1 (o.map u)]) ∧ Dg.Dig 4294967296 o ∧ o.length = a.length + w + 1 ∧ Dg.vl 4294967296 o = n := by
  intro d
  induction d with
  | zero =>
    intro i out hi ho hd hv hp hz
    refine ⟨out, ?_, hd, ho, ?_⟩
    · rw [LP_go FF b111_0.eq_1]
      simp only [RB, un, St.none, Nat.reduceEqDiff, Nat.reduceAdd, Nat.reduceMul, Nat.reduceLeDiff, Nat.reduceLT, Int.reduceLT, Int.reduceLE, Int.reduceEq, Int.reduceToNat, Int.reduceSub, Int.reduceNeg, Int.reduceAdd, ↓reduceIte, reduceCtorEq, ite_self, eq_self, if_true, if_false, pack, pid, parN, List.not_mem_nil, List.mem_cons, lid, chkK, apartV, List.map_nil, List.flatMap_nil, List.append_nil, List.nil_append, List.drop_zero, List.length_set, List.length_replicate, List.length_append, List.take_length, List.take_zero, List.drop_length, Option.isNone_none, Heap.none]
      simp (disch := omega) only [if_pos, if_neg, List.take_length, take_set_len, take_set2_len, take_rep_len, take_snoc_len, take_app_len]
    rw [hv, List.take_of_length_le (by omega), hn]
  | succ d ih =>
    intro i out hi ho hd hv hp hz
    have ga := ha.getD (by decide) i
    have go := hd.getD (by decide) (i + w)
    obtain ⟨x, hx⟩ := Int.eq_ofNat_of_zero_le ga.1
    obtain ⟨y, hy⟩ := Int.eq_ofNat_of_zero_le go.1
    have hxlt : x < 4294967296 := by omega
    have hylt : y < 2 ^ s := by rw [hy] at hp; exact_mod_cast hp
    obtain ⟨p1, p2⟩ := shift_parts x s hs
    have hps : 2 ^ s ≤ 2 ^ 31 := Nat.pow_le_pow_right (by decide) (by omega)
    have hxs : x * 2 ^ s ≤ 4294967295 * 2 ^ 31 := Nat.mul_le_mul (by omega) hps
    have hsp := Nat.two_pow_pos s
    have hhi : x * 2 ^ s / 4294967296 < 2 ^ s := by
      rw [Nat.div_lt_iff_lt_mul (by decide), Nat.mul_comm (2 ^ s)]
      exact (Nat.mul_lt_mul_right hsp).2 hxlt
    have hlo : y + x * 2 ^ s % 4294967296 < 4294967296 := by
      rw [p1]
      have h1 : x % 2 ^ (32 - s) + 1 ≤ 2 ^ (32 - s) := Nat.mod_lt _ (Nat.two_pow_pos _)
      have h2 := Nat.mul_le_mul_right (2 ^ s) h1
      rw [← Nat.pow_add, Nat.sub_add_cancel (by omega), Nat.add_mul] at h2
      omega
    have hsh : IntKind.u64.wrap ((x : Int) * 2 ^ Nat.min s IntKind.u64.bits) = ((x * 2 ^ s : Nat) : Int) := by
      rw [show Nat.min s IntKind.u64.bits = s from Nat.min_eq_left (by simp [IntKind.bits]; omega)]
      rw [show (x : Int) * 2 ^ s = ((x * 2 ^ s : Nat) : Int) by rw [Int.natCast_mul, Int.natCast_pow]; rfl]
      rw [u64w (by omega) (by omega)]
    have hor : Go.bits .or .u64 (y : Int) ((x * 2 ^ s % 4294967296 : Nat) : Int) = ((y + x * 2 ^ s % 4294967296 : Nat) : Int) := by
      rw [bits_or_comm, bits_join .u64 64 (by decide) u64_id s _ _ (by omega) ?_ (by omega) (by omega) (by exact_mod_cast hylt) (by omega)]
      · omega
      · rw [p1]
        exact_mod_cast Nat.mul_mod_left _ _
    have hand : Go.bits .and .u64 ((x * 2 ^ s : Nat) : Int) 4294967295 = ((x * 2 ^ s % 4294967296 : Nat) : Int) := by rw [and32 (by omega) (by omega)]; omega
    have hdv := shr32 (x := ((x * 2 ^ s : Nat) : Int)) (by omega)
    rw [show ((x * 2 ^ s : Nat) : Int) / 4294967296 = ((x * 2 ^ s / 4294967296 : Nat) : Int) by omega] at hdv
    have e1 : IntKind.i64.wrap ((i : Int) + (w : Int)) = ((i + w : Nat) : Int) := w64add (by omega)
    have e2 : IntKind.i64.wrap (((i + w : Nat) : Int) + 1) = ((i + w + 1 : Nat) : Int) := w64succ (by omega)
    have e3 : IntKind.i64.wrap ((i : Int) + 1) = ((i + 1 : Nat) : Int) := w64succ (by omega)
    have ho1 : (out.set (i + w) ((y + x * 2 ^ s % 4294967296 : Nat) : Int)).length = a.length + w + 1 := by rw [List.length_set]; exact ho
    have hz1 : (out.set (i + w) ((y + x * 2 ^ s % 4294967296 : Nat) : Int)).getD (i + w + 1) 0 = 0 := by
      rw [Dg.getD_set _ _ _ _ (by omega), if_neg (by omega)]
      exact hz _ (by omega)
    have h9 := ih (i + 1) ((out.set (i + w) ((y + x * 2 ^ s % 4294967296 : Nat) : Int)).set (i + w + 1) ((x * 2 ^ s / 4294967296 : Nat) : Int)) (by omega) (by rw [List.length_set]; exact ho1) ((hd.set _ (by omega) (by omega)).set _ (by omega) (by omega)) ?_ ?_ ?_
    rotate_left
    · rw [Dg.vl_set _ _ _ _ (by omega), hz1, Dg.vl_set _ _ _ _ (by omega), hv, hy, Dg.vl_take_succ, hx]
      have h := Nat.mod_add_div (x * 2 ^ s) 4294967296
      have h' : ((x * 2 ^ s % 4294967296 : Nat) : Int) + 4294967296 * ((x * 2 ^ s / 4294967296 : Nat) : Int) = (x : Int) * 2 ^ s := by
        have e : (x : Int) * 2 ^ s = ((x * 2 ^ s : Nat) : Int) := by rw [Int.natCast_mul, Int.natCast_pow]; rfl
        rw [e]
        omega
      rw [Int.natCast_add, Int.pow_succ, Int.pow_add]
      grind
    · rw [show i + 1 + w = i + w + 1 by omega, Dg.getD_set _ _ _ _ (by omega), if_pos rfl]
      exact_mod_cast hhi
    · intro j hj
      rw [Dg.getD_set _ _ _ _ (by omega), if_neg (by omega), Dg.getD_set _ _ _ _ (by omega), if_neg (by omega)]
      exact hz j (by omega)
    rw [LP_go FF b111_0.eq_1]
    simp only [RB, un, St.none, Nat.reduceEqDiff, Nat.reduceAdd, Nat.reduceMul, Nat.reduceLeDiff, Nat.reduceLT, Int.reduceLT, Int.reduceLE, Int.reduceEq, Int.reduceToNat, Int.reduceSub, Int.reduceNeg, Int.reduceAdd, ↓reduceIte, reduceCtorEq, ite_self, eq_self, if_true, if_false, pack, pid, parN, List.not_mem_nil, List.mem_cons, lid, chkK, apartV, List.map_nil, List.flatMap_nil, List.append_nil, List.nil_append, List.drop_zero, List.length_set, List.length_replicate, List.length_append, List.take_length, List.take_zero, List.drop_length, Option.isNone_none, Heap.none, e1, e2, e3, hx, hsh, hand, hdv, hy, hor]
    simp (disch := omega) only [if_pos, if_neg, List.take_length, take_set_len, take_set2_len, take_rep_len, take_snoc_len, take_app_len]
    exact h9
theorem shl_D {m n : Nat} (hm : m ≠ 0) (hl : L m + n / 32 + 1 ≤ 35184372088832) (hn : n ≤ 9223372036854775807) : R FF 111 [(AV.l 1 (List.map u (D m))), (AV.i .i64 ((n : Int)))] = some (.own true 1 ((D (m * 2 ^ n)).map u)) := by
  have hl' : (D m).length + n / 32 + 1 ≤ 35184372088832 := hl
  have e1 : IntKind.i64.wrap (Int.tdiv (n : Int) 32) = ((n / 32 : Nat) : Int) := by rw [tdiv_pos (by omega), w64 (by omega) (by omega)]; omega
  have e2 : Int.tmod (n : Int) 32 = ((n % 32 : Nat) : Int) := by rw [tmod_pos (by omega)]; omega
  have e3 : IntKind.i64.wrap (((D m).length : Int) + ((n / 32 : Nat) : Int)) = (((D m).length + n / 32 : Nat) : Int) := w64add (by omega)
  have e4 : IntKind.i64.wrap ((((D m).length + n / 32 : Nat) : Int) + 1) = (((D m).length + n / 32 + 1 : Nat) : Int) := w64succ (by omega)
  obtain ⟨o, h1, h2, h3, h4⟩ := shl_l0 (D_dig m) (Nat.mod_lt n (by decide)) hl' (n := m * 2 ^ n) (by
    rw [D_vl]
    have e : m * 2 ^ (n % 32) * 4294967296 ^ (n / 32) = m * 2 ^ n := by
      rw [show (4294967296 : Nat) = 2 ^ 32 from rfl, ← Nat.pow_mul, Nat.mul_assoc, ← Nat.pow_add, show n % 32 + 32 * (n / 32) = n by omega]
    rw [← e]
    simp only [Int.natCast_mul, Int.natCast_pow]
    rfl) (D m).length 0 (List.replicate ((D m).length + n / 32 + 1) 0) (by omega) (by rw [List.length_replicate]) (Dg.Dig.replicate (by decide) _) (by rw [Dg.vl_replicate_zero]; simp [Dg.vl]) (by rw [getD_rep]; exact Int.pow_pos (by decide)) (fun j _ => getD_rep _ j)
  rw [Int.ofNat_zero] at h1
  obtain ⟨t1, t0, t2, t3⟩ := trimw_c h2 (by omega) h4 (Nat.mul_ne_zero hm (Nat.ne_of_gt (Nat.two_pow_pos n)))
  rw [R_go FF F111 c111.eq_1]
  simp only [RB, un, St.none, Nat.reduceEqDiff, Nat.reduceAdd, Nat.reduceMul, Nat.reduceLeDiff, Nat.reduceLT, Int.reduceLT, Int.reduceLE, Int.reduceEq, Int.reduceToNat, Int.reduceSub, Int.reduceNeg, Int.reduceAdd, ↓reduceIte, reduceCtorEq, ite_self, eq_self, if_true, if_false, pack, pid, parN, List.not_mem_nil, List.mem_cons, lid, chkK, apartV, List.map_nil, List.flatMap_nil, List.append_nil, List.nil_append, List.drop_zero, List.length_set, List.length_replicate, List.length_append, List.take_length, List.take_zero, List.drop_length, Option.isNone_none, Heap.none, e1, e2, e3, e4]
  simp (disch := omega) only [if_pos, if_neg, List.take_length, take_set_len, take_set2_len, take_rep_len, take_snoc_len, take_app_len, h1]
  simp only [RB, un, St.none, Nat.reduceEqDiff, Nat.reduceAdd, Nat.reduceMul, Nat.reduceLeDiff, Nat.reduceLT, Int.reduceLT, Int.reduceLE, Int.reduceEq, Int.reduceToNat, Int.reduceSub, Int.reduceNeg, Int.reduceAdd, ↓reduceIte, reduceCtorEq, ite_self, eq_self, if_true, if_false, pack, pid, parN, List.not_mem_nil, List.mem_cons, lid, chkK, apartV, List.map_nil, List.flatMap_nil, List.append_nil, List.nil_append, List.drop_zero, List.length_set, List.length_replicate, List.length_append, List.take_length, List.take_zero, List.drop_length, Option.isNone_none, Heap.none, t1, aliases, t0]
  rw [t2]
theorem vl_drop_D (m w : Nat) : Dg.vl 4294967296 ((D m).drop w) = ((m / 4294967296 ^ w : Nat) : Int) := by
  have h := Dg.vl_take_drop 4294967296 (D m) w
  rw [D_vl] at h
  have h0 := Dg.vl_nonneg ((D_dig m).take w) (by decide)
  have h1 := Dg.vl_lt ((D_dig m).take w) (by decide)
  have h2 := Dg.vl_nonneg ((D_dig m).drop w) (by decide)
  have h3 : 4294967296 ^ ((D m).take w).length ≤ 4294967296 ^ w := Nat.pow_le_pow_right (by decide) (by rw [List.length_take]; omega)
  obtain ⟨x, hx⟩ := Int.eq_ofNat_of_zero_le h0
  obtain ⟨y, hy⟩ := Int.eq_ofNat_of_zero_le h2
  rw [hx, hy] at h
  rw [hx] at h1
  have e : ∀ k : Nat, (4294967296 : Int) ^ k = ((4294967296 ^ k : Nat) : Int) := fun k => by rw [Int.natCast_pow]; rfl
  rw [e, ← Int.natCast_mul, ← Int.natCast_add] at h
  rw [e] at h1
  have h4 : m = x + 4294967296 ^ w * y := Int.ofNat_inj.1 h
  have h5 : x < 4294967296 ^ w := Nat.lt_of_lt_of_le (Int.ofNat_lt.1 h1) h3
  rw [hy, h4, Nat.add_mul_div_left _ _ (Nat.pow_pos (by decide)), Nat.div_eq_of_lt h5, Nat.zero_add]
theorem shr_parts (x u v s : Nat) (hs : s < 32) (hu : u < 4294967296) : (u + 4294967296 * x) / 2 ^ s = (u + 4294967296 * (x % 2 ^ s)) / 2 ^ s + 4294967296 * (x / 2 ^ s) ∧ (u + 4294967296 * (x % 2 ^ s)) / 2 ^ s < 4294967296 := by
  have hp := Nat.two_pow_pos s
  constructor
  · have h := Nat.mod_add_div x (2 ^ s)
    have e : u + 4294967296 * x = u + 4294967296 * (x % 2 ^ s) + 2 ^ s * (4294967296 * (x / 2 ^ s)) := by
      have : 4294967296 * x = 4294967296 * (x % 2 ^ s) + 4294967296 * (2 ^ s * (x / 2 ^ s)) := by rw [← Nat.mul_add, h]
      rw [this, Nat.mul_left_comm]
      omega
    rw [e, Nat.add_mul_div_left _ _ hp]
  · rw [Nat.div_lt_iff_lt_mul hp]
    have h1 : x % 2 ^ s + 1 ≤ 2 ^ s := Nat.mod_lt _ hp
    have h2 := Nat.mul_le_mul_left 4294967296 h1
    omega
theorem mod_pow_limb (x s : Nat) (u : Nat) (hs : s < 32) : (u + 4294967296 * x) % 2 ^ s = u % 2 ^ s := by
  have e : 4294967296 = 2 ^ s * 2 ^ (32 - s) := by rw [← Nat.pow_add, Nat.add_sub_cancel' (by omega)]
  rw [e, Nat.mul_assoc, Nat.add_mul_mod_self_left]
theorem and_part {t r c : Nat} (h : t = r + 4294967296 * c) (hr : r < 4294967296) (ht : t ≤ 18446744073709551615) : Go.bits .and .u64 (t : Int) 4294967295 = (r : Int) := by
  rw [and32 (by omega) (by omega)]
  omega
theorem shr_l0 {m : Nat} (hl : (D m).length ≤ 35184372088832) {w s : Nat} (hs : s < 32) (hw : w < (D m).length) :
    ∀ (d i : Nat) (out : List Int), i + d = (D m).length - w → out.length = (D m).length - w → Dg.Dig 4294967296 out → Dg.vl 4294967296 (out.take i) + 4294967296 ^ i * ((m / 4294967296 ^ (w + i) / 2 ^ s : Nat) : Int) = ((m / 4294967296 ^ w / 2 ^ s : Nat) : Int) →
    ∃ o, LP FF [(7, 1), (0, 0), (5, 0), (6, 0), (23, 0), (24, 0)] [(7, 0)] b109_0 [.own true 1 (out.map u), (AV.l 1 (List.map u (D m))), (AV.i .i64 ((w : Int))), (AV.i .i64 ((s : Int))), (AV.i .i64 ((out.length : Int))), (AV.i .i64 ((i : Int)))] = some (.exit 0, [(AV.l 1 (List.map u o))]) ∧ Dg.Dig 4294967296 o ∧ o.length = (D m).length - w ∧ Dg.vl 4294967296 o = ((m / 4294967296 ^ w / 2 ^ s : Nat) : Int) := by
  intro d
  induction d with
  | zero =>
    intro i out hi ho hd hv
    refine ⟨out, ?_, hd, ho, ?_⟩
    · rw [LP_go FF b109_0.eq_1]
      simp only [RB, un, St.none, Nat.reduceEqDiff, Nat.reduceAdd, Nat.reduceMul, Nat.reduceLeDiff, Nat.reduceLT, Int.reduceLT, Int.reduceLE, Int.reduceEq, Int.reduceToNat, Int.reduceSub, Int.reduceNeg, Int.reduceAdd, ↓reduceIte, reduceCtorEq, ite_self, eq_self, if_true, if_false, pack, pid, parN, List.not_mem_nil, List.mem_cons, lid, chkK, apartV, List.map_nil, List.flatMap_nil, List.append_nil, List.nil_append, List.drop_zero, List.length_set, List.length_replicate, List.length_append, List.take_length, List.take_zero, List.drop_length, Option.isNone_none, Heap.none]
      simp (disch := omega) only [if_pos, if_neg, List.take_length, take_set_len, take_set2_len, take_rep_len, take_snoc_len, take_app_len]
    have h0 : m / 4294967296 ^ (w + i) = 0 := by
      apply Nat.div_eq_of_lt
      have := L_lt m
      rwa [show w + i = L m by unfold L; omega]
    rw [h0, Nat.zero_div, List.take_of_length_le (by omega)] at hv
    simpa using hv
  | succ d ih =>
    intro i out hi ho hd hv
    have g1 := D_get m (i + w)
    have g2 := D_get m (i + w + 1)
    obtain ⟨u, hu⟩ := Int.eq_ofNat_of_zero_le g1.1
    obtain ⟨v, hv1⟩ := Int.eq_ofNat_of_zero_le g2.1
    have hul : u < 4294967296 := by omega
    have hvl : v < 4294967296 := by omega
    have hd1 : m / 4294967296 ^ (w + i) = u + 4294967296 * (m / 4294967296 ^ (w + i + 1)) := by
      have h1 := Dg.vl_drop_succ 4294967296 (D m) (i + w)
      rw [vl_drop_D, vl_drop_D, hu] at h1
      rw [show w + i = i + w by omega]
      omega
    have hd2 : m / 4294967296 ^ (w + i + 1) = v + 4294967296 * (m / 4294967296 ^ (w + i + 2)) := by
      have h1 := Dg.vl_drop_succ 4294967296 (D m) (i + w + 1)
      rw [vl_drop_D, vl_drop_D, hv1] at h1
      rw [show w + i + 1 = i + w + 1 by omega, show w + i + 2 = i + w + 1 + 1 by omega]
      omega
    have hmod : m / 4294967296 ^ (w + i + 1) % 2 ^ s = v % 2 ^ s := by rw [hd2, mod_pow_limb _ _ _ hs]
    obtain ⟨q1, q2⟩ := shr_parts (m / 4294967296 ^ (w + i + 1)) u 0 s hs hul
    obtain ⟨q3, q4⟩ := shr_parts v u 0 s hs hul
    rw [hmod] at q1 q2
    have hsh : ((v : Int) * 4294967296 + u).fdiv (2 ^ Nat.min s IntKind.u64.bits) = (((u + 4294967296 * v) / 2 ^ s : Nat) : Int) := by
      rw [show Nat.min s IntKind.u64.bits = s from Nat.min_eq_left (by simp [IntKind.bits]; omega), Int.fdiv_eq_ediv_of_nonneg _ (Int.le_of_lt (Int.pow_pos (by decide))), Int.natCast_ediv, Int.natCast_pow]
      congr 1
      omega
    have hle : (u + 4294967296 * v) / 2 ^ s ≤ u + 4294967296 * v := Nat.div_le_self _ _
    have hand : Go.bits .and .u64 (((u + 4294967296 * v) / 2 ^ s : Nat) : Int) 4294967295 = (((u + 4294967296 * (v % 2 ^ s)) / 2 ^ s : Nat) : Int) :=
      and_part q3 q4 (Nat.le_trans hle (by omega))
    have e1 : IntKind.i64.wrap ((i : Int) + (w : Int)) = ((i + w : Nat) : Int) := w64add (by omega)
    have e2 : IntKind.i64.wrap (((i + w : Nat) : Int) + 1) = ((i + w + 1 : Nat) : Int) := w64succ (by omega)
    have e3 : IntKind.i64.wrap ((i : Int) + 1) = ((i + 1 : Nat) : Int) := w64succ (by omega)
    have e4 := shl32 (x := (v : Int)) (by omega) (by omega)
    have e5 := or32 (x := (v : Int)) (y := (u : Int)) (by omega) (by omega) (by omega) (by omega)
    rw [LP_go FF b109_0.eq_1]
    simp only [RB, un, St.none, Nat.reduceEqDiff, Nat.reduceAdd, Nat.reduceMul, Nat.reduceLeDiff, Nat.reduceLT, Int.reduceLT, Int.reduceLE, Int.reduceEq, Int.reduceToNat, Int.reduceSub, Int.reduceNeg, Int.reduceAdd, ↓reduceIte, reduceCtorEq, ite_self, eq_self, if_true, if_false, pack, pid, parN, List.not_mem_nil, List.mem_cons, lid, chkK, apartV, List.map_nil, List.flatMap_nil, List.append_nil, List.nil_append, List.drop_zero, List.length_set, List.length_replicate, List.length_append, List.take_length, List.take_zero, List.drop_length, Option.isNone_none, Heap.none, e1, e2, e3, limb_c, hu, hv1, e4, e5, hsh, hand]
    clear hsh hand hle q3 q4 hmod hd2 e1 e2 e4 e5
    generalize (u + 4294967296 * (v % 2 ^ s)) / 2 ^ s = r at *
    have h9 := ih (i + 1) (out.set i (r : Int)) (by omega) (by rw [List.length_set]; exact ho) (hd.set _ (by omega) (by omega)) (by
      rw [set_take _ (by omega), vl_snoc, List.length_take, Nat.min_eq_left (by omega), ← hv, hd1, q1, Int.pow_succ, Int.natCast_add, Int.natCast_mul]
      rw [show w + (i + 1) = w + i + 1 by omega]
      grind)
    rw [List.length_set] at h9
    simp (disch := omega) only [if_pos, if_neg, List.take_length, take_set_len, take_set2_len, take_rep_len, take_snoc_len, take_app_len]
    exact h9
theorem shr_D {m n : Nat} (hl : L m ≤ 35184372088832) (hn : n ≤ 9223372036854775807) : R FF 109 [(AV.l 1 (List.map u (D m))), (AV.i .i64 ((n : Int)))] = some (AV.l 1 (List.map u (D (m / 2 ^ n)))) := by
  have hl' : (D m).length ≤ 35184372088832 := hl
  have e : m / 2 ^ n = m / 4294967296 ^ (n / 32) / 2 ^ (n % 32) := by
    rw [Nat.div_div_eq_div_mul, show (4294967296 : Nat) = 2 ^ 32 from rfl, ← Nat.pow_mul, ← Nat.pow_add, show 32 * (n / 32) + n % 32 = n by omega]
  have e1 : IntKind.i64.wrap (Int.tdiv (n : Int) 32) = ((n / 32 : Nat) : Int) := by rw [tdiv_pos (by omega), w64 (by omega) (by omega)]; omega
  have e2 : Int.tmod (n : Int) 32 = ((n % 32 : Nat) : Int) := by rw [tmod_pos (by omega)]; omega
  by_cases h : n / 32 ≥ (D m).length
  · have : m / 4294967296 ^ (n / 32) = 0 := by
      apply Nat.div_eq_of_lt
      exact Nat.lt_of_lt_of_le (L_lt m) (Nat.pow_le_pow_right (by decide) h)
    rw [R_go FF F109 c109.eq_1]
    simp only [RB, un, St.none, Nat.reduceEqDiff, Nat.reduceAdd, Nat.reduceMul, Nat.reduceLeDiff, Nat.reduceLT, Int.reduceLT, Int.reduceLE, Int.reduceEq, Int.reduceToNat, Int.reduceSub, Int.reduceNeg, Int.reduceAdd, ↓reduceIte, reduceCtorEq, ite_self, eq_self, if_true, if_false, pack, pid, parN, List.not_mem_nil, List.mem_cons, lid, chkK, apartV, List.map_nil, List.flatMap_nil, List.append_nil, List.nil_append, List.drop_zero, List.length_set, List.length_replicate, List.length_append, List.take_length, List.take_zero, List.drop_length, Option.isNone_none, Heap.none, e1, e2]
    simp (disch := omega) only [if_pos, if_neg, List.take_length, take_set_len, take_set2_len, take_rep_len, take_snoc_len, take_app_len]
    rw [e, this, Nat.zero_div, D_zero]
    rfl
  · have e4 : IntKind.i64.wrap (((D m).length : Int) - ((n / 32 : Nat) : Int)) = (((D m).length - n / 32 : Nat) : Int) := by rw [w64 (by omega) (by omega)]; omega
    obtain ⟨o, h1, h2, h3, h4⟩ := shr_l0 hl' (Nat.mod_lt n (by decide)) (show n / 32 < (D m).length by omega) ((D m).length - n / 32) 0 (List.replicate ((D m).length - n / 32) 0) (by omega) (by rw [List.length_replicate]) (Dg.Dig.replicate (by decide) _) (by simp [Dg.vl])
    rw [Int.ofNat_zero, List.length_replicate] at h1
    rw [R_go FF F109 c109.eq_1]
    simp only [RB, un, St.none, Nat.reduceEqDiff, Nat.reduceAdd, Nat.reduceMul, Nat.reduceLeDiff, Nat.reduceLT, Int.reduceLT, Int.reduceLE, Int.reduceEq, Int.reduceToNat, Int.reduceSub, Int.reduceNeg, Int.reduceAdd, ↓reduceIte, reduceCtorEq, ite_self, eq_self, if_true, if_false, pack, pid, parN, List.not_mem_nil, List.mem_cons, lid, chkK, apartV, List.map_nil, List.flatMap_nil, List.append_nil, List.nil_append, List.drop_zero, List.length_set, List.length_replicate, List.length_append, List.take_length, List.take_zero, List.drop_length, Option.isNone_none, Heap.none, e1, e2, e4]
    simp (disch := omega) only [if_pos, if_neg, List.take_length, take_set_len, take_set2_len, take_rep_len, take_snoc_len, take_app_len, h1]
    simp only [RB, un, St.none, Nat.reduceEqDiff, Nat.reduceAdd, Nat.reduceMul, Nat.reduceLeDiff, Nat.reduceLT, Int.reduceLT, Int.reduceLE, Int.reduceEq, Int.reduceToNat, Int.reduceSub, Int.reduceNeg, Int.reduceAdd, ↓reduceIte, reduceCtorEq, ite_self, eq_self, if_true, if_false, pack, pid, parN, List.not_mem_nil, List.mem_cons, lid, chkK, apartV, List.map_nil, List.flatMap_nil, List.append_nil, List.nil_append, List.drop_zero, List.length_set, List.length_replicate, List.length_append, List.take_length, List.take_zero, List.drop_length, Option.isNone_none, Heap.none, trim_c h2 (by omega) h4]
    rw [e]
end Go.Pe
set_option linter.unusedSimpArgs false
set_option linter.unusedVariables false
open Go
namespace Dg
theorem pow_mono {B : Int} (hB : 1 ≤ B) {m n : Nat} (h : m ≤ n) : B ^ m ≤ B ^ n := by
  obtain ⟨d, rfl⟩ := Nat.exists_eq_add_of_le h
  rw [Int.pow_add]
  have h1 : 0 < B ^ m := Int.pow_pos (by omega)
  have h2 : 1 ≤ B ^ d := by
    have : 0 < B ^ d := Int.pow_pos (by omega)
    omega
  have := Int.mul_le_mul_of_nonneg_left h2 (Int.le_of_lt h1)
  omega
end Dg
namespace Go.Pe
theorem take_l0 {uu v : List Int} (hu : Dg.Dig 4294967296 uu) (hv : Dg.Dig 4294967296 v) (hl : uu.length ≤ 35184372088832) (hlv : v.length < uu.length) {g : Int} (hg0 : 0 ≤ g) (hg1 : g ≤ 4294967295) :
    ∀ (d i : Nat) (out : List Int) (c e : Int), i + d = uu.length → out.length = uu.length → Dg.Dig 4294967296 out → 0 ≤ c → c ≤ 4294967295 → (i = uu.length → c = 0) → 0 ≤ e → e ≤ 1 → (∀ j, i ≤ j → out.getD j 0 = uu.getD j 0) →
    Dg.vl 4294967296 (out.take i) = Dg.vl 4294967296 (uu.take i) - g * Dg.vl 4294967296 (v.take i) + (c + e) * 4294967296 ^ i →
    ∃ o e', LP FF [(200000, 2), (0, 1), (1, 0), (2, 0), (7, 0), (8, 0), (12, 0), (13, 0)] [(200000, 2), (0, 1), (8, 0)] b140_0 [.own false 1 (out.map u), .sl 200000 1 0 out.length, (AV.l 1 (List.map u v)), (AV.i .u64 g), (AV.i .u64 c), (AV.i .u64 e), (AV.i .i64 ((uu.length : Int))), (AV.i .i64 ((i : Int)))] = some (.exit 0, [.own false 1 (o.map u), .sl 200000 1 0 o.length, (AV.i .u64 (e'))]) ∧
      o.length = uu.length ∧ Dg.Dig 4294967296 o ∧ 0 ≤ e' ∧ e' ≤ 1 ∧ Dg.vl 4294967296 o = Dg.vl 4294967296 uu - g * Dg.vl 4294967296 v + e' * 4294967296 ^ uu.length := by
  intro d
  induction d with
  | zero =>
    intro i out c e hi ho hd hc0 hc1 hc9 he0 he1 hsame hval
    have hc := hc9 (by omega)
    subst hc
    refine ⟨out, e, ?_, ho, hd, he0, he1, ?_⟩
    · rw [LP_go FF b140_0.eq_1]
      simp only [RB, un, St.none, Nat.reduceEqDiff, Nat.reduceAdd, Nat.reduceMul, Nat.reduceLeDiff, Nat.reduceLT, Int.reduceLT, Int.reduceLE, Int.reduceEq, Int.reduceToNat, Int.reduceSub, Int.reduceNeg, Int.reduceAdd, ↓reduceIte, reduceCtorEq, ite_self, eq_self, if_true, if_false, pack, pid, parN, List.not_mem_nil, List.mem_cons, lid, chkK, apartV, List.map_nil, List.flatMap_nil, List.append_nil, List.nil_append, List.drop_zero, List.length_set, List.length_replicate, List.length_append, List.take_length, List.take_zero, List.drop_length, Option.isNone_none, Heap.none]
      simp (disch := omega) only [if_pos, if_neg, List.take_length, take_set_len, take_set2_len, take_rep_len, take_snoc_len, take_app_len]
    rw [List.take_of_length_le (by omega), List.take_of_length_le (by omega), List.take_of_length_le (by omega), show i = uu.length by omega] at hval
    rw [hval, Int.zero_add]
  | succ d ih =>
    intro i out c e hi ho hd hc0 hc1 hc9 he0 he1 hsame hval
    have gu := hu.getD (by decide) i
    have gv := hv.getD (by decide) i
    have hs := hsame i (Nat.le_refl _)
    have hx := mul_bound hg0 hg1 gv.1 (show v.getD i 0 ≤ 4294967295 by omega)
    have hx2 : g * v.getD i 0 ≤ 4294967295 * 4294967295 := hx.2
    have e1 : IntKind.u64.wrap (g * v.getD i 0) = g * v.getD i 0 := u64w hx.1 (by omega)
    have e2 : IntKind.u64.wrap (c + g * v.getD i 0) = c + g * v.getD i 0 := u64w (by omega) (by omega)
    have e3 := and32 (x := c + g * v.getD i 0) (by omega) (by omega)
    have e4 := shr32 (x := c + g * v.getD i 0) (by omega)
    have e5 : IntKind.u64.wrap (4294967296 + uu.getD i 0) = 4294967296 + uu.getD i 0 := u64w (by omega) (by omega)
    have e6 : IntKind.u64.wrap (4294967296 + uu.getD i 0 - (c + g * v.getD i 0) % 4294967296) = 4294967296 + uu.getD i 0 - (c + g * v.getD i 0) % 4294967296 := u64w (by omega) (by omega)
    have e7 : IntKind.u64.wrap (4294967296 + uu.getD i 0 - (c + g * v.getD i 0) % 4294967296 - e) = 4294967296 + uu.getD i 0 - (c + g * v.getD i 0) % 4294967296 - e := u64w (by omega) (by omega)
    have e8 := and32 (x := 4294967296 + uu.getD i 0 - (c + g * v.getD i 0) % 4294967296 - e) (by omega) (by omega)
    have e9 := shr32 (x := 4294967296 + uu.getD i 0 - (c + g * v.getD i 0) % 4294967296 - e) (by omega)
    have e10 : IntKind.u64.wrap (1 - (4294967296 + uu.getD i 0 - (c + g * v.getD i 0) % 4294967296 - e) / 4294967296) = 1 - (4294967296 + uu.getD i 0 - (c + g * v.getD i 0) % 4294967296 - e) / 4294967296 := u64w (by omega) (by omega)
    have e11 : IntKind.i64.wrap ((i : Int) + 1) = ((i + 1 : Nat) : Int) := w64succ (by omega)
    rw [LP_go FF b140_0.eq_1]
    simp only [RB, un, St.none, Nat.reduceEqDiff, Nat.reduceAdd, Nat.reduceMul, Nat.reduceLeDiff, Nat.reduceLT, Int.reduceLT, Int.reduceLE, Int.reduceEq, Int.reduceToNat, Int.reduceSub, Int.reduceNeg, Int.reduceAdd, ↓reduceIte, reduceCtorEq, ite_self, eq_self, if_true, if_false, pack, pid, parN, List.not_mem_nil, List.mem_cons, lid, chkK, apartV, List.map_nil, List.flatMap_nil, List.append_nil, List.nil_append, List.drop_zero, List.length_set, List.length_replicate, List.length_append, List.take_length, List.take_zero, List.drop_length, Option.isNone_none, Heap.none, limb_c, hs, e1, e2, e3, e4, e5, e6, e7, e8, e9, e10, e11]
    simp (disch := omega) only [if_pos, if_neg, List.take_length, take_set_len, take_set2_len, take_rep_len, take_snoc_len, take_app_len]
    clear e1 e2 e3 e4 e5 e6 e7 e8 e9 e10 e11
    generalize hp : g * v.getD i 0 = p at *
    have hcz : i + 1 = uu.length → (c + p) / 4294967296 = 0 := by
      intro h1
      have h2 := getD_beyond (l := v) (i := i) (by omega)
      rw [h2, Int.mul_zero] at hp
      omega
    have h9 := ih (i + 1) (out.set i ((4294967296 + uu.getD i 0 - (c + p) % 4294967296 - e) % 4294967296)) ((c + p) / 4294967296) (1 - (4294967296 + uu.getD i 0 - (c + p) % 4294967296 - e) / 4294967296) (by omega) (by rw [List.length_set]; exact ho) (hd.set _ (by omega) (by omega)) (by omega) (by omega) hcz (by omega) (by omega) (by
      intro j hj
      rw [Dg.getD_set _ _ _ _ (by omega), if_neg (by omega)]
      exact hsame j (by omega)) (by
      rw [set_take _ (by omega), vl_snoc, List.length_take, Nat.min_eq_left (by omega), hval, Dg.vl_take_succ, Dg.vl_take_succ, Int.pow_succ]
      have h1 := Int.mul_ediv_add_emod (c + p) 4294967296
      have h2 := Int.mul_ediv_add_emod (4294967296 + uu.getD i 0 - (c + p) % 4294967296 - e) 4294967296
      generalize (4294967296 + uu.getD i 0 - (c + p) % 4294967296 - e) / 4294967296 = y at *
      generalize (4294967296 + uu.getD i 0 - (c + p) % 4294967296 - e) % 4294967296 = z at *
      generalize (c + p) / 4294967296 = cq at *
      generalize (c + p) % 4294967296 = cr at *
      rw [Int.mul_add, ← Int.mul_assoc g, hp]
      grind)
    rw [List.length_set] at h9
    exact h9
theorem take_c {uu v : List Int} (hu : Dg.Dig 4294967296 uu) (hv : Dg.Dig 4294967296 v) (hl : uu.length ≤ 35184372088832) (hlv : v.length < uu.length) {g : Int} (hg0 : 0 ≤ g) (hg1 : g ≤ 4294967295) :
    ∃ (out : List Int) (c : Int), R FF 140 [.own false 1 (uu.map u), (AV.l 1 (List.map u v)), (AV.i .u64 g)] = some (.back ((AV.b (decide (c = 1)))) [.own false 1 (out.map u)]) ∧ out.length = uu.length ∧ Dg.Dig 4294967296 out ∧ 0 ≤ c ∧ c ≤ 1 ∧ Dg.vl 4294967296 out = Dg.vl 4294967296 uu - g * Dg.vl 4294967296 v + c * 4294967296 ^ uu.length := by
  obtain ⟨o, c, h1, h2, h3, h4, h5, h6⟩ := take_l0 hu hv hl hlv hg0 hg1 uu.length 0 uu 0 0 (by omega) rfl hu (by omega) (by omega) (by omega) (by omega) (by omega) (fun j _ => rfl) (by simp [Dg.vl])
  refine ⟨o, c, ?_, h2, h3, h4, h5, h6⟩
  rw [Int.ofNat_zero] at h1
  rw [R_go FF F140 c140.eq_1]
  simp only [RB, un, St.none, Nat.reduceEqDiff, Nat.reduceAdd, Nat.reduceMul, Nat.reduceLeDiff, Nat.reduceLT, Int.reduceLT, Int.reduceLE, Int.reduceEq, Int.reduceToNat, Int.reduceSub, Int.reduceNeg, Int.reduceAdd, ↓reduceIte, reduceCtorEq, ite_self, eq_self, if_true, if_false, pack, pid, parN, List.not_mem_nil, List.mem_cons, lid, chkK, apartV, List.map_nil, List.flatMap_nil, List.append_nil, List.nil_append, List.drop_zero, List.length_set, List.length_replicate, List.length_append, List.take_length, List.take_zero, List.drop_length, Option.isNone_none, Heap.none, h1]
theorem give_l0 {uu v : List Int} (hu : Dg.Dig 4294967296 uu) (hv : Dg.Dig 4294967296 v) (hl : uu.length ≤ 35184372088832) :
    ∀ (d i : Nat) (out : List Int) (c : Int), i + d = uu.length → out.length = uu.length → Dg.Dig 4294967296 out → 0 ≤ c → c ≤ 1 → (∀ j, i ≤ j → out.getD j 0 = uu.getD j 0) →
    Dg.vl 4294967296 (out.take i) + c * 4294967296 ^ i = Dg.vl 4294967296 (uu.take i) + Dg.vl 4294967296 (v.take i) →
    ∃ o c', LP FF [(200000, 2), (0, 1), (1, 0), (4, 0), (7, 0), (8, 0)] [(200000, 2), (0, 1)] b141_0 [.own false 1 (out.map u), .sl 200000 1 0 out.length, (AV.l 1 (List.map u v)), (AV.i .u64 c), (AV.i .i64 ((uu.length : Int))), (AV.i .i64 ((i : Int)))] = some (.exit 0, [.own false 1 (o.map u), .sl 200000 1 0 o.length]) ∧
      o.length = uu.length ∧ Dg.Dig 4294967296 o ∧ 0 ≤ c' ∧ c' ≤ 1 ∧ Dg.vl 4294967296 o + c' * 4294967296 ^ uu.length = Dg.vl 4294967296 uu + Dg.vl 4294967296 (v.take uu.length) := by
  intro d
  induction d with
  | zero =>
    intro i out c hi ho hd hc0 hc1 hsame hval
    refine ⟨out, c, ?_, ho, hd, hc0, hc1, ?_⟩
    · rw [LP_go FF b141_0.eq_1]
      simp only [RB, un, St.none, Nat.reduceEqDiff, Nat.reduceAdd, Nat.reduceMul, Nat.reduceLeDiff, Nat.reduceLT, Int.reduceLT, Int.reduceLE, Int.reduceEq, Int.reduceToNat, Int.reduceSub, Int.reduceNeg, Int.reduceAdd, ↓reduceIte, reduceCtorEq, ite_self, eq_self, if_true, if_false, pack, pid, parN, List.not_mem_nil, List.mem_cons, lid, chkK, apartV, List.map_nil, List.flatMap_nil, List.append_nil, List.nil_append, List.drop_zero, List.length_set, List.length_replicate, List.length_append, List.take_length, List.take_zero, List.drop_length, Option.isNone_none, Heap.none]
      simp (disch := omega) only [if_pos, if_neg, List.take_length, take_set_len, take_set2_len, take_rep_len, take_snoc_len, take_app_len]
    rw [List.take_of_length_le (by omega), List.take_of_length_le (l := uu) (by omega), show i = uu.length by omega] at hval
    exact hval
  | succ d ih =>
    intro i out c hi ho hd hc0 hc1 hsame hval
    have gu := hu.getD (by decide) i
    have gv := hv.getD (by decide) i
    have hs := hsame i (Nat.le_refl _)
    have e1 : IntKind.u64.wrap (uu.getD i 0 + v.getD i 0) = uu.getD i 0 + v.getD i 0 := u64w (by omega) (by omega)
    have e2 : IntKind.u64.wrap (c + (uu.getD i 0 + v.getD i 0)) = c + (uu.getD i 0 + v.getD i 0) := u64w (by omega) (by omega)
    have e3 := and32 (x := c + (uu.getD i 0 + v.getD i 0)) (by omega) (by omega)
    have e4 := shr32 (x := c + (uu.getD i 0 + v.getD i 0)) (by omega)
    have e5 : IntKind.i64.wrap ((i : Int) + 1) = ((i + 1 : Nat) : Int) := w64succ (by omega)
    have h9 := ih (i + 1) (out.set i ((c + (uu.getD i 0 + v.getD i 0)) % 4294967296)) ((c + (uu.getD i 0 + v.getD i 0)) / 4294967296) (by omega) (by rw [List.length_set]; exact ho) (hd.set _ (by omega) (by omega)) (by omega) (by omega) (by
      intro j hj
      rw [Dg.getD_set _ _ _ _ (by omega), if_neg (by omega)]
      exact hsame j (by omega)) (by
      rw [set_take _ (by omega), vl_snoc, List.length_take, Nat.min_eq_left (by omega), Dg.vl_take_succ, Dg.vl_take_succ, Int.pow_succ]
      have h1 := Int.mul_ediv_add_emod (c + (uu.getD i 0 + v.getD i 0)) 4294967296
      grind)
    rw [List.length_set] at h9
    rw [LP_go FF b141_0.eq_1]
    simp only [RB, un, St.none, Nat.reduceEqDiff, Nat.reduceAdd, Nat.reduceMul, Nat.reduceLeDiff, Nat.reduceLT, Int.reduceLT, Int.reduceLE, Int.reduceEq, Int.reduceToNat, Int.reduceSub, Int.reduceNeg, Int.reduceAdd, ↓reduceIte, reduceCtorEq, ite_self, eq_self, if_true, if_false, pack, pid, parN, List.not_mem_nil, List.mem_cons, lid, chkK, apartV, List.map_nil, List.flatMap_nil, List.append_nil, List.nil_append, List.drop_zero, List.length_set, List.length_replicate, List.length_append, List.take_length, List.take_zero, List.drop_length, Option.isNone_none, Heap.none, limb_c, hs, e1, e2, e3, e4, e5]
    simp (disch := omega) only [if_pos, if_neg, List.take_length, take_set_len, take_set2_len, take_rep_len, take_snoc_len, take_app_len]
    exact h9
theorem give_c {uu v : List Int} (hu : Dg.Dig 4294967296 uu) (hv : Dg.Dig 4294967296 v) (hl : uu.length ≤ 35184372088832) :
    ∃ (out : List Int) (c : Int), R FF 141 [.own false 1 (uu.map u), (AV.l 1 (List.map u v))] = some (.back (.tup []) [.own false 1 (out.map u)]) ∧ out.length = uu.length ∧ Dg.Dig 4294967296 out ∧ 0 ≤ c ∧ c ≤ 1 ∧ Dg.vl 4294967296 out + c * 4294967296 ^ uu.length = Dg.vl 4294967296 uu + Dg.vl 4294967296 (v.take uu.length) := by
  obtain ⟨o, c, h1, h2, h3, h4, h5, h6⟩ := give_l0 hu hv hl uu.length 0 uu 0 (by omega) rfl hu (by omega) (by omega) (fun j _ => rfl) (by simp [Dg.vl])
  refine ⟨o, c, ?_, h2, h3, h4, h5, h6⟩
  rw [Int.ofNat_zero] at h1
  rw [R_go FF F141 c141.eq_1]
  simp only [RB, un, St.none, Nat.reduceEqDiff, Nat.reduceAdd, Nat.reduceMul, Nat.reduceLeDiff, Nat.reduceLT, Int.reduceLT, Int.reduceLE, Int.reduceEq, Int.reduceToNat, Int.reduceSub, Int.reduceNeg, Int.reduceAdd, ↓reduceIte, reduceCtorEq, ite_self, eq_self, if_true, if_false, pack, pid, parN, List.not_mem_nil, List.mem_cons, lid, chkK, apartV, List.map_nil, List.flatMap_nil, List.append_nil, List.nil_append, List.drop_zero, List.length_set, List.length_replicate, List.length_append, List.take_length, List.take_zero, List.drop_length, Option.isNone_none, Heap.none, h1]
end Go.Pe
set_option linter.unusedSimpArgs false
set_option linter.unusedVariables false
open Go
namespace Go.Pe
theorem knuth_gt {g U3 P Ul V2 Vl : Int} (hg : 0 ≤ g) (hP : 0 < P) (hUl : Ul < P) (hVl : 0 ≤ Vl) (h : U3 < g * V2) : U3 * P + Ul < g * (V2 * P + Vl) := by
  have h1 : (U3 + 1) * P ≤ g * V2 * P := Int.mul_le_mul_of_nonneg_right (by omega) (by omega)
  have h2 : 0 ≤ g * Vl := Int.mul_nonneg hg hVl
  grind
theorem knuth_le {g U3 P Ul V2 Vl B : Int} (hg : 1 ≤ g) (hgB : g ≤ B) (hP : 0 < P) (hUl : 0 ≤ Ul) (hVl0 : 0 ≤ Vl) (hVl : Vl < P) (hB : B ≤ V2) (h : g * V2 ≤ U3) : (g - 1) * (V2 * P + Vl) ≤ U3 * P + Ul := by
  have h1 : g * V2 * P ≤ U3 * P := Int.mul_le_mul_of_nonneg_right h (by omega)
  have h2 : (g - 1) * Vl ≤ (g - 1) * P := Int.mul_le_mul_of_nonneg_left (by omega) (by omega)
  have h3 : g * P ≤ V2 * P := Int.mul_le_mul_of_nonneg_right (by omega) (by omega)
  grind
theorem vl_three {l : List Int} {p : Nat} (h : l.length = p + 3) : Dg.vl 4294967296 l = (l.getD (p + 2) 0 * 4294967296 * 4294967296 + l.getD (p + 1) 0 * 4294967296 + l.getD p 0) * 4294967296 ^ p + Dg.vl 4294967296 (l.take p) := by
  have h1 : l.take (p + 3) = l := List.take_of_length_le (by omega)
  conv => lhs; rw [← h1]
  rw [Dg.vl_take_succ, Dg.vl_take_succ, Dg.vl_take_succ, Int.pow_succ, Int.pow_succ]
  grind
theorem vl_two {l : List Int} {p : Nat} (h : l.length = p + 2) : Dg.vl 4294967296 l = (l.getD (p + 1) 0 * 4294967296 + l.getD p 0) * 4294967296 ^ p + Dg.vl 4294967296 (l.take p) := by
  have h1 : l.take (p + 2) = l := List.take_of_length_le (by omega)
  conv => lhs; rw [← h1]
  rw [Dg.vl_take_succ, Dg.vl_take_succ, Int.pow_succ]
  grind
theorem digit_loop {uu v : List Int} (hu : Dg.Dig 4294967296 uu) (hv : Dg.Dig 4294967296 v) {p : Nat} (hul : uu.length = p + 3) (hvl : v.length = p + 2) (hl : uu.length ≤ 35184372088832) (hn : 2147483648 ≤ v.getD (p + 1) 0) {q : Int} (hq0 : 0 ≤ q) (hq1 : q ≤ 4294967295)
    (hq : 0 ≤ Dg.vl 4294967296 uu - q * Dg.vl 4294967296 v) (hq2 : Dg.vl 4294967296 uu - q * Dg.vl 4294967296 v < Dg.vl 4294967296 v) : ∀ (d : Nat) (g s : Int), g.toNat ≤ d → q ≤ g → g * v.getD (p + 1) 0 + s = uu.getD (p + 2) 0 * 4294967296 + uu.getD (p + 1) 0 → 0 ≤ s → s < 4294967296 → g ≤ 4294967297 →
    ∃ g', LP FF [(200000, 2), (0, 1), (1, 0), (5, 0), (7, 0), (8, 0)] [(200000, 2), (0, 1), (1, 0), (7, 0)] b138_0 [.own false 1 (uu.map u), .sl 200000 1 0 uu.length, (AV.l 1 (List.map u v)), (AV.i .i64 (((p + 2 : Nat) : Int))), (AV.i .u64 g), (AV.i .u64 s)] = some (.exit 0, [.own false 1 (uu.map u), .sl 200000 1 0 uu.length, (AV.l 1 (List.map u v)), (AV.i .u64 (g'))]) ∧ 0 ≤ g' ∧ g' ≤ 4294967295 ∧ (g' = q ∨ g' = q + 1) := by
  have gu0 := hu.getD (by decide) p
  have gu1 := hu.getD (by decide) (p + 1)
  have gu2 := hu.getD (by decide) (p + 2)
  have gv0 := hv.getD (by decide) p
  have gv1 := hv.getD (by decide) (p + 1)
  have hU := vl_three hul
  have hV := vl_two hvl
  have l0 := Dg.vl_nonneg (hu.take p) (by decide)
  have l1 := Dg.vl_lt (hu.take p) (by decide)
  have m0 := Dg.vl_nonneg (hv.take p) (by decide)
  have m1 := Dg.vl_lt (hv.take p) (by decide)
  rw [List.length_take, Nat.min_eq_left (by omega)] at l1 m1
  have hP : 0 < (4294967296 : Int) ^ p := Int.pow_pos (by decide)
  have e1 : IntKind.i64.wrap (((p + 2 : Nat) : Int) - 2) = (p : Int) := by rw [w64 (by omega) (by omega)]; omega
  have e2 : IntKind.i64.wrap (((p + 2 : Nat) : Int) - 1) = ((p + 1 : Nat) : Int) := by rw [w64 (by omega) (by omega)]; omega
  intro d
  induction d with
  | zero =>
    intro g s hd hqg hgs hs0 hs1 hg
    have hg0 : g = 0 := by omega
    subst hg0
    have e3 : IntKind.u64.wrap (0 * v.getD p 0) = 0 := by rw [Int.zero_mul]; exact u64w (by omega) (by omega)
    have e4 := shl32 (x := s) hs0 (by omega)
    have e5 := or32 (x := s) (y := uu.getD p 0) hs0 (by omega) (by omega) (by omega)
    refine ⟨0, ?_, by omega, by omega, .inl (by omega)⟩
    rw [LP_go FF b138_0.eq_1]
    simp only [RB, un, St.none, Nat.reduceEqDiff, Nat.reduceAdd, Nat.reduceMul, Nat.reduceLeDiff, Nat.reduceLT, Int.reduceLT, Int.reduceLE, Int.reduceEq, Int.reduceToNat, Int.reduceSub, Int.reduceNeg, Int.reduceAdd, ↓reduceIte, reduceCtorEq, ite_self, eq_self, if_true, if_false, pack, pid, parN, List.not_mem_nil, List.mem_cons, lid, chkK, apartV, List.map_nil, List.flatMap_nil, List.append_nil, List.nil_append, List.drop_zero, List.length_set, List.length_replicate, List.length_append, List.take_length, List.take_zero, List.drop_length, Option.isNone_none, Heap.none, e1, e2, e3, e4, e5]
    simp (disch := omega) only [if_pos, if_neg, List.take_length, take_set_len, take_set2_len, take_rep_len, take_snoc_len, take_app_len]
  | succ d ih =>
    intro g s hd hqg hgs hs0 hs1 hg
    have hg0 : 0 ≤ g := by omega
    have e4 := shl32 (x := s) hs0 (by omega)
    have e5 := or32 (x := s) (y := uu.getD p 0) hs0 (by omega) (by omega) (by omega)
    have hgv : 0 ≤ g * v.getD p 0 ∧ g * v.getD p 0 ≤ 4294967297 * 4294967295 :=
      ⟨Int.mul_nonneg hg0 (by omega), Int.le_trans (Int.mul_le_mul_of_nonneg_right hg (by omega)) (Int.mul_le_mul_of_nonneg_left (by omega) (by decide))⟩
    have hgv' : g * v.getD p 0 ≤ 18446744073709551615 := Int.le_trans hgv.2 (by decide)
    have e3 : IntKind.u64.wrap (g * v.getD p 0) = g * v.getD p 0 := u64w hgv.1 hgv'
    have e6 : IntKind.u64.wrap (s + v.getD (p + 1) 0) = s + v.getD (p + 1) 0 := u64w (by omega) (by omega)
    rw [LP_go FF b138_0.eq_1]
    simp only [RB, un, St.none, Nat.reduceEqDiff, Nat.reduceAdd, Nat.reduceMul, Nat.reduceLeDiff, Nat.reduceLT, Int.reduceLT, Int.reduceLE, Int.reduceEq, Int.reduceToNat, Int.reduceSub, Int.reduceNeg, Int.reduceAdd, ↓reduceIte, reduceCtorEq, ite_self, eq_self, if_true, if_false, pack, pid, parN, List.not_mem_nil, List.mem_cons, lid, chkK, apartV, List.map_nil, List.flatMap_nil, List.append_nil, List.nil_append, List.drop_zero, List.length_set, List.length_replicate, List.length_append, List.take_length, List.take_zero, List.drop_length, Option.isNone_none, Heap.none, e1, e2, e3, e4, e5, e6]
    have c1 : (p : Int) < (v.length : Int) := by omega
    have c2 : (p : Int) < (uu.length : Int) := by omega
    have c3 : p < uu.length := by omega
    have c4 : ((p + 1 : Nat) : Int) < (v.length : Int) := by omega
    rw [if_pos (fun _ => ⟨Int.natCast_nonneg p, c1⟩), if_pos (fun _ => ⟨Int.natCast_nonneg p, c2⟩), if_pos (fun _ => c3), if_pos (fun _ => ⟨Int.natCast_nonneg _, c4⟩)]
    clear e1 e2 e3 e4 e5 e6 c1 c2 c3 c4
    have hv0 := Dg.vl_nonneg hv (by decide)
    generalize h_u2 : uu.getD (p + 2) 0 = u2 at *
    generalize h_u1 : uu.getD (p + 1) 0 = u1 at *
    generalize h_u0 : uu.getD p 0 = u0 at *
    generalize h_v1 : v.getD (p + 1) 0 = v1 at *
    generalize h_v0 : v.getD p 0 = v0 at *
    generalize h_UL : Dg.vl 4294967296 (uu.take p) = UL at *
    generalize h_VL : Dg.vl 4294967296 (v.take p) = VL at *
    generalize h_P : (4294967296 : Int) ^ p = P at *
    have htop : u2 * 4294967296 + u1 ≤ v1 * 4294967296 + 4294967295 := by
      have hlt : Dg.vl 4294967296 uu < 4294967296 * Dg.vl 4294967296 v := by
        have : (q + 1) * Dg.vl 4294967296 v ≤ 4294967296 * Dg.vl 4294967296 v := Int.mul_le_mul_of_nonneg_right (by omega) (by
          rw [hV]
          have : 0 ≤ (v1 * 4294967296 + v0) * P := Int.mul_nonneg (by omega) (by omega)
          omega)
        rw [Int.add_mul] at this
        omega
      rw [hU, hV] at hlt
      apply Classical.byContradiction
      intro hc
      have h1 : (v1 + 1) * 4294967296 ≤ u2 * 4294967296 + u1 := by omega
      have h2 : (v1 + 1) * 4294967296 * 4294967296 * P ≤ (u2 * 4294967296 * 4294967296 + u1 * 4294967296 + u0) * P := Int.mul_le_mul_of_nonneg_right (by omega) (by omega)
      have h3 : (v1 * 4294967296 + v0 + 1) * P ≤ (v1 + 1) * 4294967296 * P := Int.mul_le_mul_of_nonneg_right (by omega) (by omega)
      grind
    by_cases hgo : 4294967296 ≤ g ∨ s * 4294967296 + u0 < g * v0
    · rw [if_pos hgo]
      have hlt : q < g := by
        rcases hgo with h | hgt
        · omega
        · have h4 : u2 * 4294967296 * 4294967296 + u1 * 4294967296 + u0 < g * (v1 * 4294967296 + v0) := by
            have h2 : g * (v1 * 4294967296 + v0) = g * v1 * 4294967296 + g * v0 := by grind
            rw [h2]
            generalize g * v1 = X at *
            omega
          have h5 := knuth_gt (Ul := UL) (Vl := VL) hg0 hP l1 m0 h4
          rw [← hU, ← hV] at h5
          apply Classical.byContradiction
          intro hc
          have : g * Dg.vl 4294967296 v ≤ q * Dg.vl 4294967296 v := Int.mul_le_mul_of_nonneg_right (by omega) hv0
          omega
      have hw3 : IntKind.u64.wrap (g - 1) = g - 1 := u64w (by omega) (by omega)
      have hgs2 : (g - 1) * v1 + (s + v1) = u2 * 4294967296 + u1 := by rw [← hgs]; grind
      rw [hw3]
      by_cases hbr : 4294967296 ≤ s + v1
      · rw [if_pos hbr]
        have hgB : g - 1 ≤ 4294967295 := by
          apply Classical.byContradiction
          intro hc
          have : 4294967296 * v1 ≤ (g - 1) * v1 := Int.mul_le_mul_of_nonneg_right (by omega) (by omega)
          omega
        refine ⟨g - 1, rfl, by omega, hgB, ?_⟩
        have hle : (g - 1) * (v1 * 4294967296 + v0) ≤ u2 * 4294967296 * 4294967296 + u1 * 4294967296 + u0 := by
          have h1 : (g - 1) * v0 ≤ 4294967295 * 4294967295 := Int.le_trans (Int.mul_le_mul_of_nonneg_right hgB (by omega)) (Int.mul_le_mul_of_nonneg_left (by omega) (by decide))
          have h2 : (g - 1) * (v1 * 4294967296 + v0) = (g - 1) * v1 * 4294967296 + (g - 1) * v0 := by grind
          rw [h2]
          generalize (g - 1) * v1 = X at *
          generalize (g - 1) * v0 = Y at *
          omega
        rcases Int.lt_or_le 0 (g - 1) with h0 | h0
        · have h5 := knuth_le (g := g - 1) (U3 := u2 * 4294967296 * 4294967296 + u1 * 4294967296 + u0) (P := P) (Ul := UL) (V2 := v1 * 4294967296 + v0) (Vl := VL) (B := 4294967296) (by omega) (by omega) hP l0 m0 m1 (by omega) hle
          rw [← hU, ← hV] at h5
          rcases Int.lt_or_le (g - 1) (q + 2) with h6 | h6
          · omega
          · have : (q + 1) * Dg.vl 4294967296 v ≤ (g - 1 - 1) * Dg.vl 4294967296 v := Int.mul_le_mul_of_nonneg_right (by omega) hv0
            rw [Int.add_mul] at this
            omega
        · omega
      · rw [if_neg hbr]
        exact ih (g - 1) (s + v1) (by omega) (by omega) hgs2 (by omega) (by omega) (by omega)
    · rw [if_neg hgo]
      have hg5 : g ≤ 4294967295 := by omega
      have hgt : g * v0 ≤ s * 4294967296 + u0 := by
        apply Classical.byContradiction
        intro hc
        exact hgo (.inr (by omega))
      refine ⟨g, rfl, hg0, hg5, ?_⟩
      have hle : g * (v1 * 4294967296 + v0) ≤ u2 * 4294967296 * 4294967296 + u1 * 4294967296 + u0 := by
        have h2 : g * (v1 * 4294967296 + v0) = g * v1 * 4294967296 + g * v0 := by grind
        rw [h2]
        generalize g * v1 = X at *
        omega
      rcases Int.lt_or_le 0 g with h0 | h0
      · have h5 := knuth_le (g := g) (U3 := u2 * 4294967296 * 4294967296 + u1 * 4294967296 + u0) (P := P) (Ul := UL) (V2 := v1 * 4294967296 + v0) (Vl := VL) (B := 4294967296) (by omega) (by omega) hP l0 m0 m1 (by omega) hle
        rw [← hU, ← hV] at h5
        rcases Int.lt_or_le g (q + 2) with h6 | h6
        · omega
        · have : (q + 1) * Dg.vl 4294967296 v ≤ (g - 1) * Dg.vl 4294967296 v := Int.mul_le_mul_of_nonneg_right (by omega) hv0
          rw [Int.add_mul] at this
          omega
      · omega
theorem digit_first {uu v : List Int} (hu : Dg.Dig 4294967296 uu) (hv : Dg.Dig 4294967296 v) {p : Nat} (hul : uu.length = p + 3) (hvl : v.length = p + 2) (hn : 2147483648 ≤ v.getD (p + 1) 0) {q : Int} (hq0 : 0 ≤ q) (hq1 : q ≤ 4294967295)
    (hq : 0 ≤ Dg.vl 4294967296 uu - q * Dg.vl 4294967296 v) (hq2 : Dg.vl 4294967296 uu - q * Dg.vl 4294967296 v < Dg.vl 4294967296 v) :
    q ≤ (uu.getD (p + 2) 0 * 4294967296 + uu.getD (p + 1) 0) / v.getD (p + 1) 0 ∧ uu.getD (p + 2) 0 * 4294967296 + uu.getD (p + 1) 0 ≤ v.getD (p + 1) 0 * 4294967296 + 4294967295 := by
  have gu0 := hu.getD (by decide) p
  have gu1 := hu.getD (by decide) (p + 1)
  have gu2 := hu.getD (by decide) (p + 2)
  have gv0 := hv.getD (by decide) p
  have gv1 := hv.getD (by decide) (p + 1)
  have hU := vl_three hul
  have hV := vl_two hvl
  have l0 := Dg.vl_nonneg (hu.take p) (by decide)
  have l1 := Dg.vl_lt (hu.take p) (by decide)
  have m0 := Dg.vl_nonneg (hv.take p) (by decide)
  have m1 := Dg.vl_lt (hv.take p) (by decide)
  rw [List.length_take, Nat.min_eq_left (by omega)] at l1 m1
  have hP : 0 < (4294967296 : Int) ^ p := Int.pow_pos (by decide)
  have hqr := Int.mul_ediv_add_emod (uu.getD (p + 2) 0 * 4294967296 + uu.getD (p + 1) 0) (v.getD (p + 1) 0)
  have r1 := Int.emod_lt_of_pos (uu.getD (p + 2) 0 * 4294967296 + uu.getD (p + 1) 0) (show 0 < v.getD (p + 1) 0 by omega)
  generalize h_u2 : uu.getD (p + 2) 0 = u2 at *
  generalize h_u1 : uu.getD (p + 1) 0 = u1 at *
  generalize h_u0 : uu.getD p 0 = u0 at *
  generalize h_v1 : v.getD (p + 1) 0 = v1 at *
  generalize h_v0 : v.getD p 0 = v0 at *
  generalize h_UL : Dg.vl 4294967296 (uu.take p) = UL at *
  generalize h_VL : Dg.vl 4294967296 (v.take p) = VL at *
  generalize h_P : (4294967296 : Int) ^ p = P at *
  refine ⟨?_, ?_⟩
  rotate_left
  · skip
    have htop : u2 * 4294967296 + u1 ≤ v1 * 4294967296 + 4294967295 := by
      have hlt : Dg.vl 4294967296 uu < 4294967296 * Dg.vl 4294967296 v := by
        have : (q + 1) * Dg.vl 4294967296 v ≤ 4294967296 * Dg.vl 4294967296 v := Int.mul_le_mul_of_nonneg_right (by omega) (by
          rw [hV]
          have : 0 ≤ (v1 * 4294967296 + v0) * P := Int.mul_nonneg (by omega) (by omega)
          omega)
        rw [Int.add_mul] at this
        omega
      rw [hU, hV] at hlt
      apply Classical.byContradiction
      intro hc
      have h1 : (v1 + 1) * 4294967296 ≤ u2 * 4294967296 + u1 := by omega
      have h2 : (v1 + 1) * 4294967296 * 4294967296 * P ≤ (u2 * 4294967296 * 4294967296 + u1 * 4294967296 + u0) * P := Int.mul_le_mul_of_nonneg_right (by omega) (by omega)
      have h3 : (v1 * 4294967296 + v0 + 1) * P ≤ (v1 + 1) * 4294967296 * P := Int.mul_le_mul_of_nonneg_right (by omega) (by omega)
      grind
    exact htop
  · apply Classical.byContradiction
    intro hc
    have h1 : ((u2 * 4294967296 + u1) / v1 + 1) * v1 ≤ q * v1 := Int.mul_le_mul_of_nonneg_right (by omega) (by omega)
    have h2 : u2 * 4294967296 + u1 + 1 ≤ q * v1 := by
      rw [Int.add_mul, Int.mul_comm _ v1] at h1
      omega
    have h3 : u2 * 4294967296 * 4294967296 + u1 * 4294967296 + u0 < q * (v1 * 4294967296 + v0) := by
      have h4 : 0 ≤ q * v0 := Int.mul_nonneg hq0 (by omega)
      have h5 : q * (v1 * 4294967296 + v0) = q * v1 * 4294967296 + q * v0 := by grind
      rw [h5]
      omega
    have h6 := knuth_gt (Ul := UL) (Vl := VL) hq0 hP l1 m0 h3
    rw [← hU, ← hV] at h6
    omega
theorem digit_c {uu v : List Int} (hu : Dg.Dig 4294967296 uu) (hv : Dg.Dig 4294967296 v) {p : Nat} (hul : uu.length = p + 3) (hvl : v.length = p + 2) (hl : uu.length ≤ 35184372088832) (hn : 2147483648 ≤ v.getD (p + 1) 0) {q : Int} (hq0 : 0 ≤ q) (hq1 : q ≤ 4294967295)
    (hq : 0 ≤ Dg.vl 4294967296 uu - q * Dg.vl 4294967296 v) (hq2 : Dg.vl 4294967296 uu - q * Dg.vl 4294967296 v < Dg.vl 4294967296 v) :
    ∃ r : List Int, R FF 138 [.own false 1 (uu.map u), (AV.l 1 (List.map u v))] = some (.back (AV.i .u64 q) [.own false 1 (r.map u)]) ∧ r.length = uu.length ∧ Dg.Dig 4294967296 r ∧ Dg.vl 4294967296 r = Dg.vl 4294967296 uu - q * Dg.vl 4294967296 v := by
  have gu0 := hu.getD (by decide) p
  have gu1 := hu.getD (by decide) (p + 1)
  have gu2 := hu.getD (by decide) (p + 2)
  have gv0 := hv.getD (by decide) p
  have gv1 := hv.getD (by decide) (p + 1)
  have t0 : 0 ≤ uu.getD (p + 2) 0 * 4294967296 + uu.getD (p + 1) 0 := by omega
  have d0 : 0 ≤ (uu.getD (p + 2) 0 * 4294967296 + uu.getD (p + 1) 0) / v.getD (p + 1) 0 := Int.ediv_nonneg t0 (by omega)
  have r0 := Int.emod_nonneg (uu.getD (p + 2) 0 * 4294967296 + uu.getD (p + 1) 0) (show v.getD (p + 1) 0 ≠ 0 by omega)
  have r1 := Int.emod_lt_of_pos (uu.getD (p + 2) 0 * 4294967296 + uu.getD (p + 1) 0) (show 0 < v.getD (p + 1) 0 by omega)
  have hqr := Int.mul_ediv_add_emod (uu.getD (p + 2) 0 * 4294967296 + uu.getD (p + 1) 0) (v.getD (p + 1) 0)
  have hfirst : q ≤ (uu.getD (p + 2) 0 * 4294967296 + uu.getD (p + 1) 0) / v.getD (p + 1) 0 ∧ uu.getD (p + 2) 0 * 4294967296 + uu.getD (p + 1) 0 ≤ v.getD (p + 1) 0 * 4294967296 + 4294967295 := digit_first hu hv hul hvl hn hq0 hq1 hq hq2
  have d1 : (uu.getD (p + 2) 0 * 4294967296 + uu.getD (p + 1) 0) / v.getD (p + 1) 0 ≤ 4294967297 := by
    have : (uu.getD (p + 2) 0 * 4294967296 + uu.getD (p + 1) 0) / v.getD (p + 1) 0 < 4294967298 := by
      apply Int.ediv_lt_of_lt_mul (by omega)
      omega
    omega
  obtain ⟨g, hloop, hg0, hg1, hgq⟩ := digit_loop hu hv hul hvl hl hn hq0 hq1 hq hq2 _ _ _ (Nat.le_refl _) hfirst.1 (by rw [Int.mul_comm]; exact hqr) r0 (by omega) d1
  obtain ⟨o, c, htake, ho, hd, hc0, hc1, hval⟩ := take_c hu hv hl (by omega) hg0 hg1
  have o0 := Dg.vl_nonneg hd (by decide)
  have o1 := Dg.vl_lt hd (by decide)
  rw [ho] at o1
  have v0 := Dg.vl_nonneg hv (by decide)
  have v1 := Dg.vl_lt hv (by decide)
  have v2 : (4294967296 : Int) ^ v.length ≤ 4294967296 ^ uu.length := Dg.pow_mono (by decide) (by omega)
  have e0 : (v.length : Int) = ((p + 2 : Nat) : Int) := by rw [hvl]
  have e2 : IntKind.i64.wrap (((p + 2 : Nat) : Int) - 1) = ((p + 1 : Nat) : Int) := by rw [w64 (by omega) (by omega)]; omega
  have e4 := shl32 (x := uu.getD (p + 2) 0) (by omega) (by omega)
  have e5 := or32 (x := uu.getD (p + 2) 0) (y := uu.getD (p + 1) 0) (by omega) (by omega) (by omega) (by omega)
  have e6 : IntKind.u64.wrap (Int.tdiv (uu.getD (p + 2) 0 * 4294967296 + uu.getD (p + 1) 0) (v.getD (p + 1) 0)) = (uu.getD (p + 2) 0 * 4294967296 + uu.getD (p + 1) 0) / v.getD (p + 1) 0 := by rw [tdiv_pos t0]; exact u64w d0 (by omega)
  have e7 : Int.tmod (uu.getD (p + 2) 0 * 4294967296 + uu.getD (p + 1) 0) (v.getD (p + 1) 0) = (uu.getD (p + 2) 0 * 4294967296 + uu.getD (p + 1) 0) % v.getD (p + 1) 0 := tmod_pos t0
  have c1 : ((p + 1 : Nat) : Int) < ((p + 2 : Nat) : Int) := by omega
  have c2 : ((p + 2 : Nat) : Int) < (uu.length : Int) := by omega
  have c3 : ((p + 1 : Nat) : Int) < (uu.length : Int) := by omega
  have c4 : p + 2 < uu.length := by omega
  have c5 : p + 1 < uu.length := by omega
  have c6 : ¬ v.getD (p + 1) 0 = 0 := by omega
  rw [R_go FF F138 c138.eq_1]
  simp only [RB, un, St.none, Nat.reduceEqDiff, Nat.reduceAdd, Nat.reduceMul, Nat.reduceLeDiff, Nat.reduceLT, Int.reduceLT, Int.reduceLE, Int.reduceEq, Int.reduceToNat, Int.reduceSub, Int.reduceNeg, Int.reduceAdd, ↓reduceIte, reduceCtorEq, ite_self, eq_self, if_true, if_false, pack, pid, parN, List.not_mem_nil, List.mem_cons, lid, chkK, apartV, List.map_nil, List.flatMap_nil, List.append_nil, List.nil_append, List.drop_zero, List.length_set, List.length_replicate, List.length_append, List.take_length, List.take_zero, List.drop_length, Option.isNone_none, Heap.none, e0, e2, e4, e5, e6, e7, hloop, htake]
  rw [if_pos ⟨Int.natCast_nonneg _, c2⟩, if_pos c4, if_pos ⟨Int.natCast_nonneg _, c3⟩, if_pos c5, if_pos ⟨Int.natCast_nonneg _, c1⟩, if_neg c6, if_pos ⟨Int.natCast_nonneg _, c1⟩, if_neg c6]
  have hto : List.take uu.length o = o := by rw [← ho, List.take_length]
  simp only [RB, un, St.none, Nat.reduceEqDiff, Nat.reduceAdd, Nat.reduceMul, Nat.reduceLeDiff, Nat.reduceLT, Int.reduceLT, Int.reduceLE, Int.reduceEq, Int.reduceToNat, Int.reduceSub, Int.reduceNeg, Int.reduceAdd, ↓reduceIte, reduceCtorEq, ite_self, eq_self, if_true, if_false, pack, pid, parN, List.not_mem_nil, List.mem_cons, lid, chkK, apartV, List.map_nil, List.flatMap_nil, List.append_nil, List.nil_append, List.drop_zero, List.length_set, List.length_replicate, List.length_append, List.take_length, List.take_zero, List.drop_length, Option.isNone_none, Heap.none, htake, hto]
  rw [if_pos ho]
  rcases hgq with rfl | rfl
  · have hc : c = 0 := by
      rcases (show c = 0 ∨ c = 1 by omega) with h | h
      · exact h
      · subst h
        omega
    subst hc
    exact ⟨o, by rw [if_neg (by decide)], ho, hd, by omega⟩
  · have hc : c = 1 := by
      rcases (show c = 0 ∨ c = 1 by omega) with h | h
      · subst h
        rw [Int.add_mul] at hval
        omega
      · exact h
    subst hc
    rw [Int.add_mul, Int.one_mul, Int.one_mul] at hval
    obtain ⟨r, c', hgive, h1, h2, h3, h4, h5⟩ := give_c hd hv (by omega)
    have a0 := Dg.vl_nonneg h2 (by decide)
    have a1 := Dg.vl_lt h2 (by decide)
    rw [h1, ho] at a1
    rw [List.take_of_length_le (by omega), hval, ho] at h5
    have hc' : c' = 1 := by
      rcases (show c' = 0 ∨ c' = 1 by omega) with h | h
      · subst h
        omega
      · exact h
    subst hc'
    have hw : IntKind.u64.wrap (q + 1 - 1) = q := by rw [u64w (by omega) (by omega)]; omega
    have htr : List.take uu.length r = r := by rw [← ho, ← h1, List.take_length]
    refine ⟨r, ?_, h1.trans ho, h2, by omega⟩
    rw [if_pos rfl]
    simp only [RB, un, St.none, Nat.reduceEqDiff, Nat.reduceAdd, Nat.reduceMul, Nat.reduceLeDiff, Nat.reduceLT, Int.reduceLT, Int.reduceLE, Int.reduceEq, Int.reduceToNat, Int.reduceSub, Int.reduceNeg, Int.reduceAdd, ↓reduceIte, reduceCtorEq, ite_self, eq_self, if_true, if_false, pack, pid, parN, List.not_mem_nil, List.mem_cons, lid, chkK, apartV, List.map_nil, List.flatMap_nil, List.append_nil, List.nil_append, List.drop_zero, List.length_set, List.length_replicate, List.length_append, List.take_length, List.take_zero, List.drop_length, Option.isNone_none, Heap.none, hgive, hw, htr]
    rw [if_pos (h1.trans ho), List.drop_of_length_le (by omega), List.append_nil]
end Go.Pe
set_option linter.unusedSimpArgs false
set_option linter.unusedVariables false
open Go
namespace Go.Pe
theorem len8_all : ∀ i : Fin 256, i.val = 0 ∨ ((1 ≤ bt len8 (i.val : Int) ∧ bt len8 (i.val : Int) ≤ 8) ∧ 2 ^ ((bt len8 (i.val : Int)).toNat - 1) ≤ i.val ∧ i.val < 2 ^ (bt len8 (i.val : Int)).toNat) := by decide +kernel
theorem len8_c {i : Int} (h0 : 0 < i) (h1 : i < 256) : ∃ m : Nat, bt len8 i = (m : Int) ∧ 1 ≤ m ∧ m ≤ 8 ∧ ((2 ^ (m - 1) : Nat) : Int) ≤ i ∧ i < ((2 ^ m : Nat) : Int) := by
  obtain ⟨n, rfl⟩ := Int.eq_ofNat_of_zero_le (Int.le_of_lt h0)
  have h9 := len8_all ⟨n, by omega⟩
  simp only at h9
  generalize bt len8 (n : Int) = b at *
  rcases h9 with h | ⟨⟨h2, h3⟩, h4, h5⟩
  · omega
  · exact ⟨b.toNat, by omega, by omega, by omega, Int.ofNat_le.2 h4, Int.ofNat_lt.2 h5⟩
theorem fd16 {x : Int} (h : 0 ≤ x) : x.fdiv (2 ^ Nat.min 16 IntKind.u32.bits) = x / 65536 := by
  rw [show Nat.min 16 IntKind.u32.bits = 16 by decide, Int.fdiv_eq_ediv_of_nonneg _ (by decide)]; rfl
theorem fd8 {x : Int} (h : 0 ≤ x) : x.fdiv (2 ^ Nat.min 8 IntKind.u32.bits) = x / 256 := by
  rw [show Nat.min 8 IntKind.u32.bits = 8 by decide, Int.fdiv_eq_ediv_of_nonneg _ (by decide)]; rfl
theorem u8w {x : Int} (h0 : 0 ≤ x) (h1 : x ≤ 255) : IntKind.u8.wrap x = x := by
  simp only [IntKind.wrap, IntKind.bits, IntKind.signed]
  simp
  omega
theorem len8_size : (len8.size : Int) = 256 := by decide +kernel
theorem len32_c {x : Int} (h0 : 0 < x) (h1 : x < 4294967296) {y : Int} {k m : Nat} (hy : (16777216 ≤ x ∧ y = x / 16777216 ∧ k = 24) ∨ (65536 ≤ x ∧ x < 16777216 ∧ y = x / 65536 ∧ k = 16) ∨ (256 ≤ x ∧ x < 65536 ∧ y = x / 256 ∧ k = 8) ∨ (x < 256 ∧ y = x ∧ k = 0)) (hm : bt len8 y = (m : Int)) (m8 : m ≤ 8) :
    R FF 139 [.i .u32 x] = some (AV.i .i64 (((k + m : Nat) : Int))) := by
  have w24 : IntKind.i64.wrap (16 + 8) = 24 := w64 (by omega) (by omega)
  have w8 : IntKind.i64.wrap (0 + 8) = 8 := w64 (by omega) (by omega)
  have wm : IntKind.i64.wrap (m : Int) = m := w64 (by omega) (by omega)
  rw [R_go FF F139 c139.eq_1]
  simp only [RB, un, St.none, Nat.reduceEqDiff, Nat.reduceAdd, Nat.reduceMul, Nat.reduceLeDiff, Nat.reduceLT, Int.reduceLT, Int.reduceLE, Int.reduceEq, Int.reduceToNat, Int.reduceSub, Int.reduceNeg, Int.reduceAdd, ↓reduceIte, reduceCtorEq, ite_self, eq_self, if_true, if_false, pack, pid, parN, List.not_mem_nil, List.mem_cons, lid, chkK, apartV, List.map_nil, List.flatMap_nil, List.append_nil, List.nil_append, List.drop_zero, List.length_set, List.length_replicate, List.length_append, List.take_length, List.take_zero, List.drop_length, Option.isNone_none, Heap.none, fd16 (Int.le_of_lt h0), len8_size]
  rcases hy with ⟨c1, rfl, rfl⟩ | ⟨c1, c2, rfl, rfl⟩ | ⟨c1, c2, rfl, rfl⟩ | ⟨c1, hyx, rfl⟩
  · have a1 : 65536 ≤ x := by omega
    have a2 : 256 ≤ x / 65536 := by omega
    have a3 : x / 65536 / 256 = x / 16777216 := by omega
    simp only [a1, a2, if_true, fd8 (show 0 ≤ x / 65536 by omega), a3, u8w (show 0 ≤ x / 16777216 by omega) (by omega), hm, w24, wm]
    rw [if_pos (by omega), w64 (by omega) (by omega)]
    first | rfl | (congr 2; done) | (congr 2; omega)
  · have a1 : 65536 ≤ x := by omega
    have a2 : ¬ 256 ≤ x / 65536 := by omega
    simp only [a1, a2, if_true, if_false, u8w (show 0 ≤ x / 65536 by omega) (by omega), hm, wm]
    rw [if_pos (by omega), w64 (by omega) (by omega)]
    first | rfl | (congr 2; done) | (congr 2; omega)
  · have a1 : ¬ 65536 ≤ x := by omega
    simp only [a1, c1, if_true, if_false, fd8 (show 0 ≤ x by omega), u8w (show 0 ≤ x / 256 by omega) (by omega), hm, w8, wm]
    rw [if_pos (by omega), w64 (by omega) (by omega)]
    first | rfl | (congr 2; done) | (congr 2; omega)
  · rw [hyx] at hm
    have a1 : ¬ 65536 ≤ x := by omega
    have a2 : ¬ 256 ≤ x := by omega
    simp only [a1, a2, if_true, if_false, u8w (show 0 ≤ x by omega) (by omega), hm, wm]
    rw [if_pos (by omega), w64 (by omega) (by omega)]
    first | rfl | (congr 2; done) | (congr 2; omega)
theorem lz32 {x : Int} (h0 : 0 < x) (h1 : x < 4294967296) : ∃ s : Nat, s ≤ 31 ∧ R FF 137 [.i .u32 x] = some (AV.i .i64 ((s : Int))) ∧ 2147483648 ≤ x * 2 ^ s ∧ x * 2 ^ s < 4294967296 := by
  rcases (show 16777216 ≤ x ∨ (65536 ≤ x ∧ x < 16777216) ∨ (256 ≤ x ∧ x < 65536) ∨ x < 256 by omega) with c | c | c | c
  · obtain ⟨m, hm, m1, m8, hlo, hhi⟩ := len8_c (i := x / 16777216) (by omega) (by omega)
    refine ⟨8 - m, by omega, ?_, ?_⟩
    · have h := len32_c h0 h1 (y := x / 16777216) (k := 24) (.inl ⟨c, rfl, rfl⟩) hm m8
      rw [R_go FF F137 c137.eq_1]
      have e : IntKind.i64.wrap (32 - ((24 + m : Nat) : Int)) = ((8 - m : Nat) : Int) := by rw [w64 (by omega) (by omega)]; omega
      simp only [RB, un, St.none, Nat.reduceEqDiff, Nat.reduceAdd, Nat.reduceMul, Nat.reduceLeDiff, Nat.reduceLT, Int.reduceLT, Int.reduceLE, Int.reduceEq, Int.reduceToNat, Int.reduceSub, Int.reduceNeg, Int.reduceAdd, ↓reduceIte, reduceCtorEq, ite_self, eq_self, if_true, if_false, pack, pid, parN, List.not_mem_nil, List.mem_cons, lid, chkK, apartV, List.map_nil, List.flatMap_nil, List.append_nil, List.nil_append, List.drop_zero, List.length_set, List.length_replicate, List.length_append, List.take_length, List.take_zero, List.drop_length, Option.isNone_none, Heap.none, h, e]
    · rcases (show m = 1 ∨ m = 2 ∨ m = 3 ∨ m = 4 ∨ m = 5 ∨ m = 6 ∨ m = 7 ∨ m = 8 by omega) with rfl | rfl | rfl | rfl | rfl | rfl | rfl | rfl <;> simp only [Nat.reducePow, Nat.reduceSub, Int.reducePow] at * <;> omega
  · obtain ⟨m, hm, m1, m8, hlo, hhi⟩ := len8_c (i := x / 65536) (by omega) (by omega)
    refine ⟨16 - m, by omega, ?_, ?_⟩
    · have h := len32_c h0 h1 (y := x / 65536) (k := 16) (.inr (.inl ⟨c.1, c.2, rfl, rfl⟩)) hm m8
      rw [R_go FF F137 c137.eq_1]
      have e : IntKind.i64.wrap (32 - ((16 + m : Nat) : Int)) = ((16 - m : Nat) : Int) := by rw [w64 (by omega) (by omega)]; omega
      simp only [RB, un, St.none, Nat.reduceEqDiff, Nat.reduceAdd, Nat.reduceMul, Nat.reduceLeDiff, Nat.reduceLT, Int.reduceLT, Int.reduceLE, Int.reduceEq, Int.reduceToNat, Int.reduceSub, Int.reduceNeg, Int.reduceAdd, ↓reduceIte, reduceCtorEq, ite_self, eq_self, if_true, if_false, pack, pid, parN, List.not_mem_nil, List.mem_cons, lid, chkK, apartV, List.map_nil, List.flatMap_nil, List.append_nil, List.nil_append, List.drop_zero, List.length_set, List.length_replicate, List.length_append, List.take_length, List.take_zero, List.drop_length, Option.isNone_none, Heap.none, h, e]
    · rcases (show m = 1 ∨ m = 2 ∨ m = 3 ∨ m = 4 ∨ m = 5 ∨ m = 6 ∨ m = 7 ∨ m = 8 by omega) with rfl | rfl | rfl | rfl | rfl | rfl | rfl | rfl <;> simp only [Nat.reducePow, Nat.reduceSub, Int.reducePow] at * <;> omega
  · obtain ⟨m, hm, m1, m8, hlo, hhi⟩ := len8_c (i := x / 256) (by omega) (by omega)
    refine ⟨24 - m, by omega, ?_, ?_⟩
    · have h := len32_c h0 h1 (y := x / 256) (k := 8) (.inr (.inr (.inl ⟨c.1, c.2, rfl, rfl⟩))) hm m8
      rw [R_go FF F137 c137.eq_1]
      have e : IntKind.i64.wrap (32 - ((8 + m : Nat) : Int)) = ((24 - m : Nat) : Int) := by rw [w64 (by omega) (by omega)]; omega
      simp only [RB, un, St.none, Nat.reduceEqDiff, Nat.reduceAdd, Nat.reduceMul, Nat.reduceLeDiff, Nat.reduceLT, Int.reduceLT, Int.reduceLE, Int.reduceEq, Int.reduceToNat, Int.reduceSub, Int.reduceNeg, Int.reduceAdd, ↓reduceIte, reduceCtorEq, ite_self, eq_self, if_true, if_false, pack, pid, parN, List.not_mem_nil, List.mem_cons, lid, chkK, apartV, List.map_nil, List.flatMap_nil, List.append_nil, List.nil_append, List.drop_zero, List.length_set, List.length_replicate, List.length_append, List.take_length, List.take_zero, List.drop_length, Option.isNone_none, Heap.none, h, e]
    · rcases (show m = 1 ∨ m = 2 ∨ m = 3 ∨ m = 4 ∨ m = 5 ∨ m = 6 ∨ m = 7 ∨ m = 8 by omega) with rfl | rfl | rfl | rfl | rfl | rfl | rfl | rfl <;> simp only [Nat.reducePow, Nat.reduceSub, Int.reducePow] at * <;> omega
  · obtain ⟨m, hm, m1, m8, hlo, hhi⟩ := len8_c (i := x) (by omega) (by omega)
    refine ⟨32 - m, by omega, ?_, ?_⟩
    · have h := len32_c h0 h1 (y := x) (k := 0) (.inr (.inr (.inr ⟨c, rfl, rfl⟩))) hm m8
      rw [R_go FF F137 c137.eq_1]
      have e : IntKind.i64.wrap (32 - (m : Int)) = ((32 - m : Nat) : Int) := by rw [w64 (by omega) (by omega)]; omega
      rw [Nat.zero_add] at h
      simp only [RB, un, St.none, Nat.reduceEqDiff, Nat.reduceAdd, Nat.reduceMul, Nat.reduceLeDiff, Nat.reduceLT, Int.reduceLT, Int.reduceLE, Int.reduceEq, Int.reduceToNat, Int.reduceSub, Int.reduceNeg, Int.reduceAdd, ↓reduceIte, reduceCtorEq, ite_self, eq_self, if_true, if_false, pack, pid, parN, List.not_mem_nil, List.mem_cons, lid, chkK, apartV, List.map_nil, List.flatMap_nil, List.append_nil, List.nil_append, List.drop_zero, List.length_set, List.length_replicate, List.length_append, List.take_length, List.take_zero, List.drop_length, Option.isNone_none, Heap.none, h, e]
    · rcases (show m = 1 ∨ m = 2 ∨ m = 3 ∨ m = 4 ∨ m = 5 ∨ m = 6 ∨ m = 7 ∨ m = 8 by omega) with rfl | rfl | rfl | rfl | rfl | rfl | rfl | rfl <;> simp only [Nat.reducePow, Nat.reduceSub, Int.reducePow] at * <;> omega
end Go.Pe
set_option linter.unusedSimpArgs false
set_option linter.unusedVariables false
open Go
namespace Go.Pe
theorem vl_all_zero {B : Int} {l : List Int} (h : ∀ j, l.getD j 0 = 0) : Dg.vl B l = 0 := by
  induction l with
  | nil => rfl
  | cons x r ih =>
    have h0 := h 0
    simp at h0
    rw [Dg.vl, h0, ih (fun j => by simpa using h (j + 1))]
    simp
theorem getD_drop (l : List Int) (c j : Nat) : (l.drop c).getD j 0 = l.getD (c + j) 0 := by rw [List.getD_eq_getElem?_getD, List.getElem?_drop, ← List.getD_eq_getElem?_getD]
theorem vl_zero_from {B : Int} {l : List Int} {c : Nat} (h : ∀ j, c ≤ j → l.getD j 0 = 0) : Dg.vl B (l.drop c) = 0 := vl_all_zero fun j => by rw [getD_drop]; exact h _ (by omega)
theorem vl_take_zero {B : Int} {l : List Int} {c : Nat} (h : ∀ j, c ≤ j → l.getD j 0 = 0) : Dg.vl B (l.take c) = Dg.vl B l := by
  rw [Dg.vl_take_drop B l c, vl_zero_from h]
  simp
theorem getD_top {n p : Nat} (h : L n = p + 1) : (D n).getD p 0 = ((n / 4294967296 ^ p : Nat) : Int) := by
  have h1 := vl_drop_D n p
  rw [Dg.vl_drop_succ, List.drop_of_length_le (by show L n ≤ p + 1; omega)] at h1
  simpa [Dg.vl] using h1
theorem long_l0 {v : List Int} (hv : Dg.Dig 4294967296 v) {p m s : Nat} (hvl : v.length = p + 2) (hn : 2147483648 ≤ v.getD (p + 1) 0) (hs : s ≤ 31) (hl : m + p + 2 ≤ 17592186044416) {Q R : Nat} (hR : (R * 2 ^ s : Nat) < Dg.vl 4294967296 v) :
    ∀ (t : Nat) (uu q : List Int), t ≤ m → uu.length = m + p + 2 → q.length = m → Dg.Dig 4294967296 uu → Dg.Dig 4294967296 q → Dg.vl 4294967296 (uu.drop t) < Dg.vl 4294967296 v → (∀ j, t + (p + 2) ≤ j → uu.getD j 0 = 0) →
    Dg.vl 4294967296 (q.drop t) * Dg.vl 4294967296 v * 4294967296 ^ t + Dg.vl 4294967296 uu = (Q : Int) * Dg.vl 4294967296 v + (R * 2 ^ s : Nat) →
    ∃ uf qf, LP FF [(8, 1), (10, 1), (6, 0), (7, 0), (9, 0), (11, 0)] [(6, 0), (8, 0), (10, 0)] b131_0 [.own true 1 (uu.map u), .own true 1 (q.map u), (AV.i .i64 ((s : Int))), (AV.l 1 (List.map u v)), (AV.i .i64 (((p + 2 : Nat) : Int))), (AV.i .i64 ((t : Int) - 1))] = some (.exit 0, [(AV.i .i64 ((s : Int))), (AV.l 1 (List.map u uf)), (AV.l 1 (List.map u qf))]) ∧ Dg.Dig 4294967296 uf ∧ Dg.Dig 4294967296 qf ∧ uf.length = m + p + 2 ∧ qf.length = m ∧ Dg.vl 4294967296 qf = Q ∧ Dg.vl 4294967296 uf = (R * 2 ^ s : Nat) := by
  intro t
  have v0 := Dg.vl_nonneg hv (by decide)
  have v1 := Dg.vl_lt hv (by decide)
  induction t with
  | zero =>
    intro uu q ht hul hql hu hq hlt hz hval
    rw [List.drop_zero] at hlt
    rw [List.drop_zero, Int.pow_zero, Int.mul_one] at hval
    have u0 := Dg.vl_nonneg hu (by decide)
    have hQ : Dg.vl 4294967296 q = Q := by
      rcases Int.lt_trichotomy (Dg.vl 4294967296 q) Q with h | h | h
      · have : (Dg.vl 4294967296 q + 1) * Dg.vl 4294967296 v ≤ Q * Dg.vl 4294967296 v := Int.mul_le_mul_of_nonneg_right (by omega) v0
        rw [Int.add_mul] at this
        omega
      · exact h
      · have : ((Q : Int) + 1) * Dg.vl 4294967296 v ≤ Dg.vl 4294967296 q * Dg.vl 4294967296 v := Int.mul_le_mul_of_nonneg_right (by omega) v0
        rw [Int.add_mul] at this
        omega
    rw [hQ] at hval
    refine ⟨uu, q, ?_, hu, hq, hul, hql, hQ, by omega⟩
    rw [LP_go FF b131_0.eq_1]
    simp only [RB, un, St.none, Nat.reduceEqDiff, Nat.reduceAdd, Nat.reduceMul, Nat.reduceLeDiff, Nat.reduceLT, Int.reduceLT, Int.reduceLE, Int.reduceEq, Int.reduceToNat, Int.reduceSub, Int.reduceNeg, Int.reduceAdd, ↓reduceIte, reduceCtorEq, ite_self, eq_self, if_true, if_false, pack, pid, parN, List.not_mem_nil, List.mem_cons, lid, chkK, apartV, List.map_nil, List.flatMap_nil, List.append_nil, List.nil_append, List.drop_zero, List.length_set, List.length_replicate, List.length_append, List.take_length, List.take_zero, List.drop_length, Option.isNone_none, Heap.none]
  | succ t ih =>
    intro uu q ht hul hql hu hq hlt hz hval
    -- the window
    have e0 : ((t + 1 : Nat) : Int) - 1 = (t : Int) := by omega
    have hwl : ((uu.drop t).take (p + 3)).length = p + 3 := by rw [List.length_take, List.length_drop]; omega
    have hwd : Dg.Dig 4294967296 ((uu.drop t).take (p + 3)) := (hu.drop _).take _
    have hz' : ∀ j, t + (p + 3) ≤ j → uu.getD j 0 = 0 := fun j hj => hz j (by omega)
    have hwv : Dg.vl 4294967296 ((uu.drop t).take (p + 3)) = Dg.vl 4294967296 (uu.drop t) := vl_take_zero fun j hj => by rw [getD_drop]; exact hz' _ (by omega)
    have hstep := Dg.vl_drop_succ 4294967296 uu t
    have gu := hu.getD (by decide) t
    have d1 := Dg.vl_nonneg (hu.drop (t + 1)) (by decide)
    have hW0 : 0 ≤ Dg.vl 4294967296 (uu.drop t) := Dg.vl_nonneg (hu.drop t) (by decide)
    have hWlt : Dg.vl 4294967296 (uu.drop t) < 4294967296 * Dg.vl 4294967296 v := by omega
    have hvpos : 0 < Dg.vl 4294967296 v := by omega
    have q0 : 0 ≤ Dg.vl 4294967296 (uu.drop t) / Dg.vl 4294967296 v := Int.ediv_nonneg hW0 v0
    have q1 : Dg.vl 4294967296 (uu.drop t) / Dg.vl 4294967296 v < 4294967296 := Int.ediv_lt_of_lt_mul hvpos hWlt
    have r0 := Int.emod_nonneg (Dg.vl 4294967296 (uu.drop t)) (show Dg.vl 4294967296 v ≠ 0 by omega)
    have r1 := Int.emod_lt_of_pos (Dg.vl 4294967296 (uu.drop t)) hvpos
    have hqr := Int.mul_ediv_add_emod (Dg.vl 4294967296 (uu.drop t)) (Dg.vl 4294967296 v)
    generalize hqd : Dg.vl 4294967296 (uu.drop t) / Dg.vl 4294967296 v = qd at *
    have hcomm : qd * Dg.vl 4294967296 v = Dg.vl 4294967296 v * qd := Int.mul_comm _ _
    obtain ⟨r, hr1, hr2, hr3, hr4⟩ := digit_c hwd hv hwl hvl (by omega) hn (q := qd) q0 (by omega) (by rw [hwv]; omega) (by rw [hwv]; omega)
    rw [hwv] at hr4
    have hrl : r.length = p + 3 := by omega
    -- the new row
    have ht1 : (uu.take t).length = t := by rw [List.length_take]; omega
    have hnl : (uu.take t ++ r ++ uu.drop (t + (p + 3))).length = m + p + 2 := by
      rw [List.length_append, List.length_append, ht1, List.length_drop]
      omega
    have hnd : (uu.take t ++ r ++ uu.drop (t + (p + 3))).drop t = r ++ uu.drop (t + (p + 3)) := by
      rw [List.append_assoc, List.drop_append_of_le_length (by omega), List.drop_of_length_le (by omega), List.nil_append]
    have hrv : Dg.vl 4294967296 (r ++ uu.drop (t + (p + 3))) = Dg.vl 4294967296 r := by
      rw [Dg.vl_append, vl_zero_from hz']
      simp
    have hnv : Dg.vl 4294967296 (uu.take t ++ r ++ uu.drop (t + (p + 3))) = Dg.vl 4294967296 uu - qd * Dg.vl 4294967296 v * 4294967296 ^ t := by
      rw [List.append_assoc, Dg.vl_append, hrv, ht1, hr4, Dg.vl_take_drop 4294967296 uu t]
      grind
    have h9 := ih (uu.take t ++ r ++ uu.drop (t + (p + 3))) (q.set t qd) (by omega) hnl (by rw [List.length_set]; exact hql) (((hu.take t).append hr3).append (hu.drop _)) (hq.set _ q0 q1) ?_ ?_ ?_
    rotate_left
    · rw [hnd, hrv, hr4]
      omega
    · intro j hj
      rw [List.append_assoc, List.getD_eq_getElem?_getD, List.getElem?_append_right (by omega), ht1, ← List.getD_eq_getElem?_getD]
      by_cases hjt : j = t + (p + 2)
      · subst hjt
        rw [List.getD_eq_getElem?_getD, List.getElem?_append_left (by omega), ← List.getD_eq_getElem?_getD, show t + (p + 2) - t = p + 2 by omega]
        -- the rest is below the divisor, so its top limb is 0
        have g := hr3.getD (by decide) (p + 2)
        have h3 : r.take (p + 3) = r := List.take_of_length_le (by omega)
        have h4 := Dg.vl_take_succ 4294967296 r (p + 2)
        rw [h3] at h4
        have h5 := Dg.vl_nonneg (hr3.take (p + 2)) (by decide)
        rw [hvl] at v1
        apply Classical.byContradiction
        intro hc
        have h6 : 1 * 4294967296 ^ (p + 2) ≤ r.getD (p + 2) 0 * 4294967296 ^ (p + 2) := Int.mul_le_mul_of_nonneg_right (by omega) (Int.le_of_lt (Int.pow_pos (by decide)))
        omega
      · rw [List.getD_eq_getElem?_getD, List.getElem?_append_right (by omega), ← List.getD_eq_getElem?_getD, getD_drop]
        exact hz' _ (by omega)
    · rw [hnv, Dg.vl_drop_succ, Dg.vl_drop_set _ _ _ _ _ (Nat.lt_succ_self _), Dg.getD_set _ _ _ _ (by omega), if_pos rfl, ← hval, Int.pow_succ]
      grind
    obtain ⟨uf, qf, h10, h11⟩ := h9
    refine ⟨uf, qf, ?_, h11⟩
    have e1 : IntKind.i64.wrap ((t : Int) + ((p + 2 : Nat) : Int)) = ((t + (p + 2) : Nat) : Int) := w64add (by omega)
    have e2 : IntKind.i64.wrap (((t + (p + 2) : Nat) : Int) + 1) = ((t + (p + 2) + 1 : Nat) : Int) := w64succ (by omega)
    have e3 : IntKind.i64.wrap ((t : Int) - 1) = (t : Int) - 1 := w64 (by omega) (by omega)
    have e4 : t + (p + 2) + 1 - t = p + 3 := by omega
    clear hz hz' hwl hwd hwv hstep hqr hcomm hr4 hnd hrv hnv hval hqd r0 r1 v0 v1 d1 gu hW0 hWlt hvpos
    rw [LP_go FF b131_0.eq_1]
    simp only [RB, un, St.none, Nat.reduceEqDiff, Nat.reduceAdd, Nat.reduceMul, Nat.reduceLeDiff, Nat.reduceLT, Int.reduceLT, Int.reduceLE, Int.reduceEq, Int.reduceToNat, Int.reduceSub, Int.reduceNeg, Int.reduceAdd, ↓reduceIte, reduceCtorEq, ite_self, eq_self, if_true, if_false, pack, pid, parN, List.not_mem_nil, List.mem_cons, lid, chkK, apartV, List.map_nil, List.flatMap_nil, List.append_nil, List.nil_append, List.drop_zero, List.length_set, List.length_replicate, List.length_append, List.take_length, List.take_zero, List.drop_length, Option.isNone_none, Heap.none, e0, e1, e2, e3, e4, hr1]
    have hk : List.take uu.length (uu.take t ++ r ++ uu.drop (t + (p + 3))) = uu.take t ++ r ++ uu.drop (t + (p + 3)) := List.take_of_length_le (by omega)
    simp (disch := omega) only [if_pos, if_neg, List.take_length, take_set_len, take_set2_len, take_rep_len, take_snoc_len, take_app_len, hk]
    exact h10
theorem long_D {a b : Nat} (hb : 4294967296 ≤ b) (hab : b ≤ a) (hl : L a ≤ 4398046511104) : R FF 131 [(AV.l 1 (List.map u (D a))), (AV.l 1 (List.map u (D b)))] = some (.tup [(AV.l 1 (List.map u (D (a / b)))), (AV.l 1 (List.map u (D (a % b))))]) := by
  obtain ⟨p, hp⟩ : ∃ p, L b = p + 2 := by
    refine ⟨L b - 2, ?_⟩
    have h1 := L_lt b
    have h2 : ¬ L b ≤ 1 := fun h => by
      have h3 : 4294967296 ^ L b ≤ 4294967296 ^ 1 := Nat.pow_le_pow_right (by decide) h
      rw [Nat.pow_one] at h3
      omega
    omega
  obtain ⟨m, hm⟩ : ∃ m, L a + 1 = m + p + 2 := ⟨L a + 1 - (p + 2), by have := L_mono hab; omega⟩
  have hbl := L_lt b
  have hal := L_lt a
  have hT := getD_top hp
  have hT1 := D_get b (p + 1)
  have hT2 : (D b).getD (p + 1) 0 ≠ 0 := by
    have := D_top b (by rw [Ne, D_nil]; omega)
    rwa [show (D b).length - 1 = p + 1 by show L b - 1 = p + 1; omega] at this
  obtain ⟨s, hs, hz, hlo, hhi⟩ := lz32 (x := (D b).getD (p + 1) 0) (by omega) (by omega)
  have hT3 : b / 4294967296 ^ (p + 1) * 2 ^ s < 4294967296 := by
    rw [hT] at hhi
    exact Int.ofNat_lt.1 (by rw [Int.natCast_mul, Int.natCast_pow]; exact hhi)
  have hT4 : 2147483648 ≤ b / 4294967296 ^ (p + 1) * 2 ^ s := by
    rw [hT] at hlo
    exact Int.ofNat_le.1 (by rw [Int.natCast_mul, Int.natCast_pow]; exact hlo)
  have hP : 0 < 4294967296 ^ (p + 1) := Nat.pow_pos (by decide)
  have h2s : 2 ^ s * 2 ^ (32 - s) = 4294967296 := by rw [← Nat.pow_add, show s + (32 - s) = 32 by omega]
  have h2p := Nat.two_pow_pos s
  -- the divisor, shifted: as long, its top bit set
  have hb1 : b * 2 ^ s < 4294967296 ^ (p + 2) := by
    have e1 : b / 4294967296 ^ (p + 1) < 2 ^ (32 - s) := by
      have h3 : b / 4294967296 ^ (p + 1) * 2 ^ s < 2 ^ (32 - s) * 2 ^ s := by rw [Nat.mul_comm (2 ^ (32 - s)), h2s]; exact hT3
      exact Nat.lt_of_mul_lt_mul_right h3
    have e2 : b < 2 ^ (32 - s) * 4294967296 ^ (p + 1) := (Nat.div_lt_iff_lt_mul hP).1 e1
    calc b * 2 ^ s < 2 ^ (32 - s) * 4294967296 ^ (p + 1) * 2 ^ s := Nat.mul_lt_mul_of_pos_right e2 h2p
      _ = (2 ^ s * 2 ^ (32 - s)) * 4294967296 ^ (p + 1) := by rw [Nat.mul_right_comm, Nat.mul_comm (2 ^ (32 - s))]
      _ = 4294967296 ^ (p + 2) := by rw [h2s, Nat.pow_succ _ (p + 1), Nat.mul_comm]
  have hbs : b ≤ b * 2 ^ s := Nat.le_mul_of_pos_right _ h2p
  have hvL : L (b * 2 ^ s) = p + 2 := by
    have := L_mono hbs
    have := L_le hb1
    omega
  have hvT : 2147483648 ≤ b * 2 ^ s / 4294967296 ^ (p + 1) := by
    rw [Nat.le_div_iff_mul_le hP]
    calc 2147483648 * 4294967296 ^ (p + 1) ≤ (b / 4294967296 ^ (p + 1) * 2 ^ s) * 4294967296 ^ (p + 1) := Nat.mul_le_mul_right _ hT4
      _ = (b / 4294967296 ^ (p + 1) * 4294967296 ^ (p + 1)) * 2 ^ s := Nat.mul_right_comm _ _ _
      _ ≤ b * 2 ^ s := Nat.mul_le_mul_right _ (Nat.div_mul_le_self _ _)
  have hvB : 2147483648 * 4294967296 ^ (p + 1) ≤ b * 2 ^ s := (Nat.le_div_iff_mul_le hP).1 hvT
  -- the dividend, shifted
  have has : a ≤ a * 2 ^ s := Nat.le_mul_of_pos_right _ h2p
  have h231 : 2 ^ s ≤ 2147483648 := Nat.pow_le_pow_right (by decide) hs
  have ha1 : a * 2 ^ s < 2147483648 * 4294967296 ^ L a := by
    calc a * 2 ^ s < 4294967296 ^ L a * 2 ^ s := Nat.mul_lt_mul_of_pos_right hal h2p
      _ ≤ 4294967296 ^ L a * 2147483648 := Nat.mul_le_mul_left _ h231
      _ = _ := Nat.mul_comm _ _
  have huL : L (a * 2 ^ s) ≤ L a + 1 := L_le (by
    rw [Nat.pow_succ, Nat.mul_comm (4294967296 ^ L a)]
    refine Nat.lt_of_lt_of_le ha1 ?_
    exact Nat.mul_le_mul_right _ (by decide))
  have huL2 := L_mono has
  have hul : ((D (a * 2 ^ s) ++ [0, 0]).take (L a + 1)).length = m + p + 2 := by
    rw [List.length_take, List.length_append]
    show min (L a + 1) (L (a * 2 ^ s) + 2) = _
    omega
  have hu0 : ∀ j, L a + 1 ≤ j → (D (a * 2 ^ s) ++ [0, 0]).getD j 0 = 0 := fun j hj => by
    rw [List.getD_eq_getElem?_getD, List.getElem?_append_right (by show L _ ≤ j; omega), ← List.getD_eq_getElem?_getD]
    exact getD_rep 2 _
  have hDz : Dg.Dig 4294967296 ([0, 0] : List Int) := Dg.Dig.replicate (by decide) 2
  have hud : Dg.Dig 4294967296 ((D (a * 2 ^ s) ++ [0, 0]).take (L a + 1)) := ((D_dig _).append hDz).take _
  have huv : Dg.vl 4294967296 ((D (a * 2 ^ s) ++ [0, 0]).take (L a + 1)) = ((a * 2 ^ s : Nat) : Int) := by
    rw [vl_take_zero hu0, Dg.vl_append, D_vl, show Dg.vl 4294967296 [0, 0] = 0 from rfl, Int.mul_zero, Int.add_zero]
  have hmt : Dg.vl 4294967296 (((D (a * 2 ^ s) ++ [0, 0]).take (L a + 1)).drop m) < ((b * 2 ^ s : Nat) : Int) := by
    have e1 := Dg.vl_take_drop 4294967296 ((D (a * 2 ^ s) ++ [0, 0]).take (L a + 1)) m
    have e2 := Dg.vl_nonneg (hud.take m) (by decide)
    rw [huv] at e1
    have e3 : a * 2 ^ s < b * 2 ^ s * 4294967296 ^ m := by
      refine Nat.lt_of_lt_of_le ha1 ?_
      rw [show L a = p + 1 + m by omega, Nat.pow_add, ← Nat.mul_assoc]
      exact Nat.mul_le_mul_right _ hvB
    have e4 : ((a * 2 ^ s : Nat) : Int) < ((b * 2 ^ s : Nat) : Int) * 4294967296 ^ m := by
      rw [show (4294967296 : Int) ^ m = ((4294967296 ^ m : Nat) : Int) by rw [Int.natCast_pow]; rfl, ← Int.natCast_mul]
      exact Int.ofNat_lt.2 e3
    apply Classical.byContradiction
    intro hc
    have hPm : (0 : Int) ≤ 4294967296 ^ m := Int.le_of_lt (Int.pow_pos (by decide))
    have e5 := Int.mul_le_mul_of_nonneg_right (Int.not_lt.1 hc) hPm
    rw [Int.mul_comm (4294967296 ^ m)] at e1
    generalize (4294967296 : Int) ^ m = Z at *
    omega
  have hR : (((a % b) * 2 ^ s : Nat) : Int) < ((b * 2 ^ s : Nat) : Int) := Int.ofNat_lt.2 (Nat.mul_lt_mul_of_pos_right (Nat.mod_lt _ (by omega)) h2p)
  obtain ⟨uf, qf, hmain, huf, hqf, hufl, hqfl, hqfv, hufv⟩ := long_l0 (D_dig (b * 2 ^ s)) (p := p) (m := m) (s := s) hvL (by rw [getD_top hvL]; exact Int.ofNat_le.2 hvT) hs (by omega) (Q := a / b) (R := a % b) (by rw [D_vl]; exact hR) m _ (List.replicate m 0) (Nat.le_refl _) hul List.length_replicate hud (Dg.Dig.replicate (by decide) m) (by rw [D_vl]; exact hmt)
    (fun j hj => getD_beyond (by rw [hul]; omega)) (by
      rw [List.drop_of_length_le (by rw [List.length_replicate]; exact Nat.le_refl _), huv, D_vl, Dg.vl_nil, Int.zero_mul, Int.zero_mul, Int.zero_add, ← Int.natCast_mul, ← Int.natCast_add]
      refine congrArg _ ?_
      rw [← Nat.mul_assoc, ← Nat.add_mul, Nat.mul_comm (a / b), Nat.div_add_mod])
  have hbL : (D b).length = p + 2 := hp
  have haL : (D a).length = m + p + 1 := by show L a = _; omega
  have hvl : (D (b * 2 ^ s)).length = p + 2 := hvL
  have hal' : (D (a * 2 ^ s)).length ≤ m + p + 2 := by show L (a * 2 ^ s) ≤ _; omega
  have hal2 : m + p + 2 ≤ (D (a * 2 ^ s)).length + 2 := by show _ ≤ L (a * 2 ^ s) + 2; omega
  have hLR : L (a % b * 2 ^ s) ≤ 35184372088832 := by
    have h1 : L (a % b * 2 ^ s) ≤ L (b * 2 ^ s) := L_mono (Nat.le_of_lt (Int.ofNat_lt.1 hR))
    omega
  have t1 := trim_c hqf (by omega) hqfv
  have t2 := trim_c huf (by omega) hufv
  have t3 := shr_D hLR (n := s) (by omega)
  rw [Nat.mul_div_cancel _ h2p] at t3
  have s1 := shl_D (m := b) (n := s) (by omega) (by omega) (by omega)
  have s2 := shl_D (m := a) (n := s) (by omega) (by omega) (by omega)
  have e1 : IntKind.i64.wrap (((p + 2 : Nat) : Int) - 1) = ((p + 1 : Nat) : Int) := by rw [w64 (by omega) (by omega)]; omega
  have e2 : IntKind.i64.wrap (((m + p + 1 : Nat) : Int) + 1) = ((m + p + 2 : Nat) : Int) := by rw [w64succ (by omega)]
  have e3 : IntKind.u32.wrap ((D b).getD (p + 1) 0) = (D b).getD (p + 1) 0 := by
    rw [show IntKind.u32.wrap ((D b).getD (p + 1) 0) = (D b).getD (p + 1) 0 % 4294967296 by simp [IntKind.wrap, IntKind.bits, IntKind.signed]]
    omega
  have e4 : IntKind.i64.wrap (((m + p + 2 : Nat) : Int) - ((p + 2 : Nat) : Int)) = (m : Int) := by rw [w64 (by omega) (by omega)]; omega
  have e5 : IntKind.i64.wrap ((m : Int) - 1) = (m : Int) - 1 := w64 (by omega) (by omega)
  clear hb1 hbs hvT hvB has ha1 hR hmt huv hu0 hhi hlo hT3 hT4 hT h2s hal hbl hP hT2
  rw [R_go FF F131 c131.eq_1]
  rw [show L a + 1 = m + p + 2 by omega] at hmain
  have e6 : List.map u (D (a * 2 ^ s)) ++ [u 0, u 0] = List.map u (D (a * 2 ^ s) ++ [0, 0]) := by rw [List.map_append]; rfl
  have hLL : (D (a * 2 ^ s)).length ≤ 17592186044416 := by show L _ ≤ _; omega
  simp only [RB, un, St.none, Nat.reduceEqDiff, Nat.reduceAdd, Nat.reduceMul, Nat.reduceLeDiff, Nat.reduceLT, Int.reduceLT, Int.reduceLE, Int.reduceEq, Int.reduceToNat, Int.reduceSub, Int.reduceNeg, Int.reduceAdd, ↓reduceIte, reduceCtorEq, ite_self, eq_self, if_true, if_false, pack, pid, parN, List.not_mem_nil, List.mem_cons, lid, chkK, apartV, List.map_nil, List.flatMap_nil, List.append_nil, List.nil_append, List.drop_zero, List.length_set, List.length_replicate, List.length_append, List.take_length, List.take_zero, List.drop_length, Option.isNone_none, Heap.none, hbL, haL, e1, e2, e3, hz, s1, s2, hvl, e4, e5, e6]
  clear h231 h2p hT1 huL2 hLR hvL hp hz s1 s2 huL hufv hqfv hud hDz
  rw [if_pos (by omega), if_pos (by omega), if_pos (by omega), if_pos (by omega)]
  have e7 : List.take (p + 2) (D (b * 2 ^ s)) = D (b * 2 ^ s) := by rw [← hvl, List.take_length]
  simp (disch := omega) only [if_pos, if_neg, List.take_length, take_set_len, take_set2_len, take_rep_len, take_snoc_len, take_app_len, e7]
  rw [hmain]
  simp only [RB, un, St.none, Nat.reduceEqDiff, Nat.reduceAdd, Nat.reduceMul, Nat.reduceLeDiff, Nat.reduceLT, Int.reduceLT, Int.reduceLE, Int.reduceEq, Int.reduceToNat, Int.reduceSub, Int.reduceNeg, Int.reduceAdd, ↓reduceIte, reduceCtorEq, ite_self, eq_self, if_true, if_false, pack, pid, parN, List.not_mem_nil, List.mem_cons, lid, chkK, apartV, List.map_nil, List.flatMap_nil, List.append_nil, List.nil_append, List.drop_zero, List.length_set, List.length_replicate, List.length_append, List.take_length, List.take_zero, List.drop_length, Option.isNone_none, Heap.none, t1, t2, t3]
theorem divmod_c {x y : List Int} (hx : U x) (hy : U y) (hla : x.length ≤ 4398046511104) (hlb : y.length ≤ 4398046511104) : R FF 115 [(AV.l 1 (List.map u x)), (AV.l 1 (List.map u y))] = some (if W y = 0 then .tup [.l 1 [], .l 1 [], (AV.i .i64 2)] else .tup [(AV.l 1 (List.map u (D (W x / W y)))), (AV.l 1 (List.map u (D (W x % W y)))), (AV.i .i64 0)]) := by
  have h1 := clean_c hx (by omega)
  have h2 := clean_c hy (by omega)
  have hl := L_W x
  have hl2 := L_W y
  generalize W x = a at *
  generalize W y = b at *
  have hlen : (D b).length = L b := rfl
  by_cases h0 : b = 0
  · subst h0
    rw [if_pos rfl]
    rw [R_go FF F115 c115.eq_1]
    simp only [RB, un, St.none, Nat.reduceEqDiff, Nat.reduceAdd, Nat.reduceMul, Nat.reduceLeDiff, Nat.reduceLT, Int.reduceLT, Int.reduceLE, Int.reduceEq, Int.reduceToNat, Int.reduceSub, Int.reduceNeg, Int.reduceAdd, ↓reduceIte, reduceCtorEq, ite_self, eq_self, if_true, if_false, pack, pid, parN, List.not_mem_nil, List.mem_cons, lid, chkK, apartV, List.map_nil, List.flatMap_nil, List.append_nil, List.nil_append, List.drop_zero, List.length_set, List.length_replicate, List.length_append, List.take_length, List.take_zero, List.drop_length, Option.isNone_none, Heap.none, h1, h2, D_zero, List.length_nil]
  rw [if_neg h0]
  have hL0 : L b ≠ 0 := fun h => h0 (D_nil.1 (List.eq_nil_of_length_eq_zero h))
  have ho := order_c (m := a) (n := b) (by omega) (by omega)
  have hL1 : ¬ (L b : Int) = 0 := by omega
  by_cases hlt : a < b
  · have hc : cmp a b < 0 := cmp_lt_iff.2 (by omega)
    rw [R_go FF F115 c115.eq_1]
    simp only [RB, un, St.none, Nat.reduceEqDiff, Nat.reduceAdd, Nat.reduceMul, Nat.reduceLeDiff, Nat.reduceLT, Int.reduceLT, Int.reduceLE, Int.reduceEq, Int.reduceToNat, Int.reduceSub, Int.reduceNeg, Int.reduceAdd, ↓reduceIte, reduceCtorEq, ite_self, eq_self, if_true, if_false, pack, pid, parN, List.not_mem_nil, List.mem_cons, lid, chkK, apartV, List.map_nil, List.flatMap_nil, List.append_nil, List.nil_append, List.drop_zero, List.length_set, List.length_replicate, List.length_append, List.take_length, List.take_zero, List.drop_length, Option.isNone_none, Heap.none, h1, h2, hlen, hL1, ho, hc]
    rw [Nat.div_eq_of_lt hlt, Nat.mod_eq_of_lt hlt, D_zero]
    rfl
  have hc : ¬ cmp a b < 0 := fun h => hlt (by have := cmp_lt_iff.1 h; omega)
  by_cases hs : b < 4294967296
  · have hb := D_small h0 hs
    have h3 : (L b : Int) = 1 := by show ((D b).length : Int) = 1; rw [hb]; rfl
    have h4 := small_D (m := a) (d := b) (by omega) (by omega) (by omega)
    have h5 := Nat.mod_lt a (show 0 < b by omega)
    have h6 := of_c (x := ((a % b : Nat) : Int)) (by omega) (by omega) (n := a % b) rfl
    rw [R_go FF F115 c115.eq_1]
    have h7 : (D b).getD 0 0 = (b : Int) := by rw [hb]; rfl
    simp only [RB, un, St.none, Nat.reduceEqDiff, Nat.reduceAdd, Nat.reduceMul, Nat.reduceLeDiff, Nat.reduceLT, Int.reduceLT, Int.reduceLE, Int.reduceEq, Int.reduceToNat, Int.reduceSub, Int.reduceNeg, Int.reduceAdd, ↓reduceIte, reduceCtorEq, ite_self, eq_self, if_true, if_false, pack, pid, parN, List.not_mem_nil, List.mem_cons, lid, chkK, apartV, List.map_nil, List.flatMap_nil, List.append_nil, List.nil_append, List.drop_zero, List.length_set, List.length_replicate, List.length_append, List.take_length, List.take_zero, List.drop_length, Option.isNone_none, Heap.none, h1, h2, hlen, h3, ho, hc, h7, h4, h6]
  · have h3 : ¬ (L b : Int) = 1 := fun h => by
      have := L_lt b
      rw [show L b = 1 by omega, Nat.pow_one] at this
      omega
    have h4 := long_D (a := a) (b := b) (by omega) (by omega) (by omega)
    rw [R_go FF F115 c115.eq_1]
    simp only [RB, un, St.none, Nat.reduceEqDiff, Nat.reduceAdd, Nat.reduceMul, Nat.reduceLeDiff, Nat.reduceLT, Int.reduceLT, Int.reduceLE, Int.reduceEq, Int.reduceToNat, Int.reduceSub, Int.reduceNeg, Int.reduceAdd, ↓reduceIte, reduceCtorEq, ite_self, eq_self, if_true, if_false, pack, pid, parN, List.not_mem_nil, List.mem_cons, lid, chkK, apartV, List.map_nil, List.flatMap_nil, List.append_nil, List.nil_append, List.drop_zero, List.length_set, List.length_replicate, List.length_append, List.take_length, List.take_zero, List.drop_length, Option.isNone_none, Heap.none, h1, h2, hlen, hL1, ho, hc, h3, h4]
end Go.Pe
set_option linter.unusedSimpArgs false
set_option linter.unusedVariables false
open Go
namespace Go.Pe
theorem right_iff {l : List Int} (hu : U l) : l = D (W l) ↔ (∀ x ∈ l, x ≤ 4294967295) ∧ (l.length = 0 ∨ l.getD (l.length - 1) 0 ≠ 0) := by
  constructor
  · intro h
    refine ⟨fun x hx => ?_, ?_⟩
    · rw [h] at hx
      have := D_dig (W l) x hx
      omega
    · by_cases h0 : l.length = 0
      · exact .inl h0
      · right
        have ht := D_top (W l)
        rw [← h] at ht
        exact ht (fun e => h0 (by rw [e]; rfl))
  · rintro ⟨h1, h2⟩
    have hd : Dg.Dig 4294967296 l := fun x hx => ⟨(hu x hx).1, by have := h1 x hx; omega⟩
    refine D_of hd (fun hne => ?_) (W_dig hd).symm
    rcases h2 with h2 | h2
    · exact absurd (List.eq_nil_of_length_eq_zero h2) hne
    · exact h2
theorem rright_l0 {l : List Int} (hu : U l) (hl : l.length ≤ 35184372088832) : ∀ (d i : Nat), i + d = l.length → (∀ j, j < i → l.getD j 0 ≤ 4294967295) →
    ∃ ex v, LP FF [(0, 0), (3, 0)] [(0, 0), (2, 0)] b91_0 [(AV.l 1 (List.map u l)), (AV.i .i64 ((i : Int)))] = some (ex, [(AV.l 1 (List.map u l)), v]) ∧ (ex = .exit 0 ∧ (∀ x ∈ l, x ≤ 4294967295) ∨ ex = .ret ∧ v = .b false ∧ ¬ ∀ x ∈ l, x ≤ 4294967295) := by
  intro d
  induction d with
  | zero =>
    intro i hi hz
    refine ⟨.exit 0, .junk, ?_, .inl ⟨rfl, fun x hx => ?_⟩⟩
    · rw [LP_go FF b91_0.eq_1]
      simp only [RB, un, St.none, Nat.reduceEqDiff, Nat.reduceAdd, Nat.reduceMul, Nat.reduceLeDiff, Nat.reduceLT, Int.reduceLT, Int.reduceLE, Int.reduceEq, Int.reduceToNat, Int.reduceSub, Int.reduceNeg, Int.reduceAdd, ↓reduceIte, reduceCtorEq, ite_self, eq_self, if_true, if_false, pack, pid, parN, List.not_mem_nil, List.mem_cons, lid, chkK, apartV, List.map_nil, List.flatMap_nil, List.append_nil, List.nil_append, List.drop_zero, List.length_set, List.length_replicate, List.length_append, List.take_length, List.take_zero, List.drop_length, Option.isNone_none, Heap.none]
      simp (disch := omega) only [if_pos, if_neg, List.take_length, take_set_len, take_set2_len, take_rep_len, take_snoc_len, take_app_len]
    · obtain ⟨j, hj, rfl⟩ := List.getElem_of_mem hx
      have := hz j (by omega)
      rwa [List.getD_eq_getElem?_getD, List.getElem?_eq_getElem hj] at this
  | succ d ih =>
    intro i hi hz
    have g := U_get hu i
    have e1 : IntKind.i64.wrap ((i : Int) + 1) = ((i + 1 : Nat) : Int) := w64succ (by omega)
    by_cases h : l.getD i 0 ≤ 4294967295
    · obtain ⟨ex, v, h1, h2⟩ := ih (i + 1) (by omega) fun j hj => by
        rcases Nat.lt_or_ge j i with h3 | h3
        · exact hz j h3
        · rw [show j = i by omega]; exact h
      refine ⟨ex, v, ?_, h2⟩
      have h3 : ¬ 4294967295 < l.getD i 0 := by omega
      rw [LP_go FF b91_0.eq_1]
      simp only [RB, un, St.none, Nat.reduceEqDiff, Nat.reduceAdd, Nat.reduceMul, Nat.reduceLeDiff, Nat.reduceLT, Int.reduceLT, Int.reduceLE, Int.reduceEq, Int.reduceToNat, Int.reduceSub, Int.reduceNeg, Int.reduceAdd, ↓reduceIte, reduceCtorEq, ite_self, eq_self, if_true, if_false, pack, pid, parN, List.not_mem_nil, List.mem_cons, lid, chkK, apartV, List.map_nil, List.flatMap_nil, List.append_nil, List.nil_append, List.drop_zero, List.length_set, List.length_replicate, List.length_append, List.take_length, List.take_zero, List.drop_length, Option.isNone_none, Heap.none, e1, h3]
      simp (disch := omega) only [if_pos, if_neg, List.take_length, take_set_len, take_set2_len, take_rep_len, take_snoc_len, take_app_len]
      exact h1
    · refine ⟨.ret, .b false, ?_, .inr ⟨rfl, rfl, fun hh => h (hh _ ?_)⟩⟩
      · have h3 : 4294967295 < l.getD i 0 := by omega
        rw [LP_go FF b91_0.eq_1]
        simp only [RB, un, St.none, Nat.reduceEqDiff, Nat.reduceAdd, Nat.reduceMul, Nat.reduceLeDiff, Nat.reduceLT, Int.reduceLT, Int.reduceLE, Int.reduceEq, Int.reduceToNat, Int.reduceSub, Int.reduceNeg, Int.reduceAdd, ↓reduceIte, reduceCtorEq, ite_self, eq_self, if_true, if_false, pack, pid, parN, List.not_mem_nil, List.mem_cons, lid, chkK, apartV, List.map_nil, List.flatMap_nil, List.append_nil, List.nil_append, List.drop_zero, List.length_set, List.length_replicate, List.length_append, List.take_length, List.take_zero, List.drop_length, Option.isNone_none, Heap.none, h3]
        simp (disch := omega) only [if_pos, if_neg, List.take_length, take_set_len, take_set2_len, take_rep_len, take_snoc_len, take_app_len]
      · rw [List.getD_eq_getElem?_getD, List.getElem?_eq_getElem (by omega)]
        exact List.getElem_mem _
theorem rright_c {l : List Int} (hu : U l) (hl : l.length ≤ 35184372088832) : R FF 91 [(AV.l 1 (List.map u l))] = some (.b (decide (l = D (W l)))) := by
  obtain ⟨ex, v, h1, h2⟩ := rright_l0 hu hl l.length 0 (by omega) (fun j hj => by omega)
  rw [Int.ofNat_zero] at h1
  have hr := right_iff hu
  rcases h2 with ⟨rfl, h2⟩ | ⟨rfl, rfl, h2⟩
  · by_cases h0 : l.length = 0
    · have h3 : l = D (W l) := hr.2 ⟨h2, .inl h0⟩
      have h4 : decide (l = D (W l)) = true := decide_eq_true h3
      have h5 : (l.length : Int) = 0 := by omega
      rw [h4]
      try rw [h5] at h1
      rw [R_go FF F91 c91.eq_1]
      simp only [RB, un, St.none, Nat.reduceEqDiff, Nat.reduceAdd, Nat.reduceMul, Nat.reduceLeDiff, Nat.reduceLT, Int.reduceLT, Int.reduceLE, Int.reduceEq, Int.reduceToNat, Int.reduceSub, Int.reduceNeg, Int.reduceAdd, ↓reduceIte, reduceCtorEq, ite_self, eq_self, if_true, if_false, pack, pid, parN, List.not_mem_nil, List.mem_cons, lid, chkK, apartV, List.map_nil, List.flatMap_nil, List.append_nil, List.nil_append, List.drop_zero, List.length_set, List.length_replicate, List.length_append, List.take_length, List.take_zero, List.drop_length, Option.isNone_none, Heap.none, h1, h5]
    · have h5 : ¬ (l.length : Int) = 0 := by omega
      have e1 : IntKind.i64.wrap ((l.length : Int) - 1) = ((l.length - 1 : Nat) : Int) := by rw [w64 (by omega) (by omega)]; omega
      have h6 : (l = D (W l)) ↔ l.getD (l.length - 1) 0 ≠ 0 := by
        rw [hr]
        exact ⟨fun h => h.2.resolve_left h0, fun h => ⟨h2, .inr h⟩⟩
      rw [R_go FF F91 c91.eq_1]
      simp only [RB, un, St.none, Nat.reduceEqDiff, Nat.reduceAdd, Nat.reduceMul, Nat.reduceLeDiff, Nat.reduceLT, Int.reduceLT, Int.reduceLE, Int.reduceEq, Int.reduceToNat, Int.reduceSub, Int.reduceNeg, Int.reduceAdd, ↓reduceIte, reduceCtorEq, ite_self, eq_self, if_true, if_false, pack, pid, parN, List.not_mem_nil, List.mem_cons, lid, chkK, apartV, List.map_nil, List.flatMap_nil, List.append_nil, List.nil_append, List.drop_zero, List.length_set, List.length_replicate, List.length_append, List.take_length, List.take_zero, List.drop_length, Option.isNone_none, Heap.none, h1, h5, e1]
      simp (disch := omega) only [if_pos, if_neg, List.take_length, take_set_len, take_set2_len, take_rep_len, take_snoc_len, take_app_len]
      have h8 : decide (l = D (W l)) = !decide (l.getD (l.length - 1) 0 = 0) := by
        by_cases h7 : l.getD (l.length - 1) 0 = 0
        · rw [decide_eq_false fun h => h6.1 h h7, decide_eq_true h7]; rfl
        · rw [decide_eq_true (h6.2 h7), decide_eq_false h7]; rfl
      rw [h8]
  · have h3 : ¬ l = D (W l) := fun h => h2 (hr.1 h).1
    have h4 : decide (l = D (W l)) = false := decide_eq_false h3
    rw [h4]
    rw [R_go FF F91 c91.eq_1]
    simp only [RB, un, St.none, Nat.reduceEqDiff, Nat.reduceAdd, Nat.reduceMul, Nat.reduceLeDiff, Nat.reduceLT, Int.reduceLT, Int.reduceLE, Int.reduceEq, Int.reduceToNat, Int.reduceSub, Int.reduceNeg, Int.reduceAdd, ↓reduceIte, reduceCtorEq, ite_self, eq_self, if_true, if_false, pack, pid, parN, List.not_mem_nil, List.mem_cons, lid, chkK, apartV, List.map_nil, List.flatMap_nil, List.append_nil, List.nil_append, List.drop_zero, List.length_set, List.length_replicate, List.length_append, List.take_length, List.take_zero, List.drop_length, Option.isNone_none, Heap.none, h1]
end Go.Pe
set_option linter.unusedSimpArgs false
set_option linter.unusedVariables false
open Go
namespace Go.Pe
def ng (n : Int) : Bool := decide (n < 0)
def sv (q : Bool) (k : Nat) : Int := if q then -(k : Int) else (k : Int)
def wv (q : Bool) (l : List Int) : Int := sv q (W l)
theorem sv_abs (q : Bool) (k : Nat) : (sv q k).natAbs = k := by unfold sv; cases q <;> simp
theorem sv_ng (q : Bool) (k : Nat) : ng (sv q k) = (q && decide (0 < k)) := by
  unfold sv ng
  cases q
  · simp
  · by_cases h : 0 < k
    · simp [h]
    · have : k = 0 := by omega
      subst this
      simp
theorem sv_self (n : Int) : sv (ng n) n.natAbs = n := by
  unfold sv ng
  by_cases h : n < 0
  · simp [h]; omega
  · simp [h]; omega
theorem wv_ci (n : Int) : wv (ng n) (D n.natAbs) = n := by unfold wv; rw [W_D, sv_self]
theorem ng_true {n : Int} : ng n = true ↔ n < 0 := by unfold ng; simp
theorem ng_false {n : Int} : ng n = false ↔ 0 ≤ n := by unfold ng; simp
theorem L_pos {k : Nat} : (0 < (L k : Int)) ↔ 0 < k := by
  have : L k = 0 ↔ k = 0 := by
    show (D k).length = 0 ↔ _
    rw [List.length_eq_zero_iff, D_nil]
  omega
theorem sign_c (q : Bool) (k : Nat) : R FF 92 [.b q, (AV.l 1 (List.map u (D k)))] = some (AV.agg [AV.b (ng (sv q k)), (AV.l 1 (List.map u (D (Int.natAbs (sv q k)))))]) := by
  have h1 : (D k).length = L k := rfl
  rw [sv_abs, sv_ng]
  cases q
  · rw [R_go FF F92 c92.eq_1]
    simp only [RB, un, St.none, Nat.reduceEqDiff, Nat.reduceAdd, Nat.reduceMul, Nat.reduceLeDiff, Nat.reduceLT, Int.reduceLT, Int.reduceLE, Int.reduceEq, Int.reduceToNat, Int.reduceSub, Int.reduceNeg, Int.reduceAdd, ↓reduceIte, reduceCtorEq, ite_self, eq_self, if_true, if_false, pack, pid, parN, List.not_mem_nil, List.mem_cons, lid, chkK, apartV, List.map_nil, List.flatMap_nil, List.append_nil, List.nil_append, List.drop_zero, List.length_set, List.length_replicate, List.length_append, List.take_length, List.take_zero, List.drop_length, Option.isNone_none, Heap.none]
  · have h2 : decide (0 < (L k : Int)) = decide (0 < k) := decide_eq_decide.2 L_pos
    rw [R_go FF F92 c92.eq_1]
    simp only [RB, un, St.none, Nat.reduceEqDiff, Nat.reduceAdd, Nat.reduceMul, Nat.reduceLeDiff, Nat.reduceLT, Int.reduceLT, Int.reduceLE, Int.reduceEq, Int.reduceToNat, Int.reduceSub, Int.reduceNeg, Int.reduceAdd, ↓reduceIte, reduceCtorEq, ite_self, eq_self, if_true, if_false, pack, pid, parN, List.not_mem_nil, List.mem_cons, lid, chkK, apartV, List.map_nil, List.flatMap_nil, List.append_nil, List.nil_append, List.drop_zero, List.length_set, List.length_replicate, List.length_append, List.take_length, List.take_zero, List.drop_length, Option.isNone_none, Heap.none, h1, h2]
end Go.Pe
set_option linter.unusedSimpArgs false
set_option linter.unusedVariables false
open Go
namespace Go.Pe
theorem sv_xor_mul (a b : Int) : sv (ng a != ng b) (a.natAbs * b.natAbs) = a * b := by
  rw [← Int.natAbs_mul]
  have h := sv_self (a * b)
  cases ha : ng a <;> cases hb : ng b <;> (first | rw [ng_true] at ha | rw [ng_false] at ha) <;> (first | rw [ng_true] at hb | rw [ng_false] at hb) <;> unfold sv <;> simp
  · have := Int.mul_nonneg ha hb
    omega
  · have := Int.mul_nonneg ha (show 0 ≤ -b by omega)
    rw [Int.mul_neg] at this
    omega
  · have := Int.mul_nonneg (show 0 ≤ -a by omega) hb
    rw [Int.neg_mul] at this
    omega
  · have := Int.mul_nonneg (show 0 ≤ -a by omega) (show 0 ≤ -b by omega)
    rw [Int.neg_mul_neg] at this
    omega
theorem rmake_c (q : Bool) (k : Nat) : R FF 39 [.b q, (AV.l 1 (List.map n64 (E k)))] = some (AV.agg [AV.b (ng (sv q k)), (AV.l 1 (List.map n64 (E (Int.natAbs (sv q k)))))]) := by
  have h1 : (E k).length = LE k := rfl
  have h2 : decide (0 < (LE k : Int)) = decide (0 < k) := by
    refine decide_eq_decide.2 ?_
    have : LE k = 0 ↔ k = 0 := by
      show (E k).length = 0 ↔ _
      rw [List.length_eq_zero_iff, E_nil]
    omega
  rw [sv_abs, sv_ng]
  cases q
  · rw [R_go FF F39 c39.eq_1]
    simp only [RB, un, St.none, Nat.reduceEqDiff, Nat.reduceAdd, Nat.reduceMul, Nat.reduceLeDiff, Nat.reduceLT, Int.reduceLT, Int.reduceLE, Int.reduceEq, Int.reduceToNat, Int.reduceSub, Int.reduceNeg, Int.reduceAdd, ↓reduceIte, reduceCtorEq, ite_self, eq_self, if_true, if_false, pack, pid, parN, List.not_mem_nil, List.mem_cons, lid, chkK, apartV, List.map_nil, List.flatMap_nil, List.append_nil, List.nil_append, List.drop_zero, List.length_set, List.length_replicate, List.length_append, List.take_length, List.take_zero, List.drop_length, Option.isNone_none, Heap.none]
  · rw [R_go FF F39 c39.eq_1]
    simp only [RB, un, St.none, Nat.reduceEqDiff, Nat.reduceAdd, Nat.reduceMul, Nat.reduceLeDiff, Nat.reduceLT, Int.reduceLT, Int.reduceLE, Int.reduceEq, Int.reduceToNat, Int.reduceSub, Int.reduceNeg, Int.reduceAdd, ↓reduceIte, reduceCtorEq, ite_self, eq_self, if_true, if_false, pack, pid, parN, List.not_mem_nil, List.mem_cons, lid, chkK, apartV, List.map_nil, List.flatMap_nil, List.append_nil, List.nil_append, List.drop_zero, List.length_set, List.length_replicate, List.length_append, List.take_length, List.take_zero, List.drop_length, Option.isNone_none, Heap.none, h1, h2]
theorem rsmall_c {x : Int} (h0 : -9223372036854775808 ≤ x) (h1 : x ≤ 9223372036854775807) : R FF 258 [(AV.i .i64 x)] = some (AV.agg [AV.b (ng x), (AV.l 1 (List.map n64 (E (Int.natAbs x))))]) := by
  by_cases hx : x < 0
  · have e1 : IntKind.i64.wrap (x + 1) = x + 1 := w64 (by omega) (by omega)
    have e2 : IntKind.i64.wrap (0 - (x + 1)) = ((x.natAbs - 1 : Nat) : Int) := by rw [w64 (by omega) (by omega)]; omega
    have s1 := small_c (x := ((x.natAbs - 1 : Nat) : Int)) (n := x.natAbs - 1) rfl (by omega)
    have s2 := small_c (x := 1) (n := 1) rfl (by omega)
    have b1 := LE_u64 (n := x.natAbs - 1) (by omega)
    have b2 := LE_u64 (n := 1) (by omega)
    have s3 := plus_c (x := x.natAbs - 1) (y := 1) (by omega) (by omega)
    rw [show x.natAbs - 1 + 1 = x.natAbs by omega] at s3
    have s4 := rmake_c true x.natAbs
    rw [show sv true x.natAbs = x by unfold sv; simp; omega] at s4
    rw [R_go FF F258 c258.eq_1]
    simp only [RB, un, St.none, Nat.reduceEqDiff, Nat.reduceAdd, Nat.reduceMul, Nat.reduceLeDiff, Nat.reduceLT, Int.reduceLT, Int.reduceLE, Int.reduceEq, Int.reduceToNat, Int.reduceSub, Int.reduceNeg, Int.reduceAdd, ↓reduceIte, reduceCtorEq, ite_self, eq_self, if_true, if_false, pack, pid, parN, List.not_mem_nil, List.mem_cons, lid, chkK, apartV, List.map_nil, List.flatMap_nil, List.append_nil, List.nil_append, List.drop_zero, List.length_set, List.length_replicate, List.length_append, List.take_length, List.take_zero, List.drop_length, Option.isNone_none, Heap.none, hx, e1, e2, s1, s2, s3, s4]
  · have s1 := small_c (x := x) (n := x.natAbs) (by omega) (by omega)
    have s4 := rmake_c false x.natAbs
    rw [show sv false x.natAbs = x by unfold sv; simp; omega] at s4
    rw [R_go FF F258 c258.eq_1]
    simp only [RB, un, St.none, Nat.reduceEqDiff, Nat.reduceAdd, Nat.reduceMul, Nat.reduceLeDiff, Nat.reduceLT, Int.reduceLT, Int.reduceLE, Int.reduceEq, Int.reduceToNat, Int.reduceSub, Int.reduceNeg, Int.reduceAdd, ↓reduceIte, reduceCtorEq, ite_self, eq_self, if_true, if_false, pack, pid, parN, List.not_mem_nil, List.mem_cons, lid, chkK, apartV, List.map_nil, List.flatMap_nil, List.append_nil, List.nil_append, List.drop_zero, List.length_set, List.length_replicate, List.length_append, List.take_length, List.take_zero, List.drop_length, Option.isNone_none, Heap.none, hx, s1, s4]
theorem rfrom_c {q : Bool} {l : List Int} (hu : U l) (hl : l.length ≤ 1000000000000) : R FF 38 [(AV.agg [AV.b q, (AV.l 1 (List.map u l))])] = some (AV.agg [AV.b (ng (wv q l)), (AV.l 1 (List.map n64 (E (Int.natAbs (wv q l)))))]) := by
  have h1 := from_c hu hl
  have h2 := rmake_c q (W l)
  rw [R_go FF F38 c38.eq_1]
  simp only [RB, un, St.none, Nat.reduceEqDiff, Nat.reduceAdd, Nat.reduceMul, Nat.reduceLeDiff, Nat.reduceLT, Int.reduceLT, Int.reduceLE, Int.reduceEq, Int.reduceToNat, Int.reduceSub, Int.reduceNeg, Int.reduceAdd, ↓reduceIte, reduceCtorEq, ite_self, eq_self, if_true, if_false, pack, pid, parN, List.not_mem_nil, List.mem_cons, lid, chkK, apartV, List.map_nil, List.flatMap_nil, List.append_nil, List.nil_append, List.drop_zero, List.length_set, List.length_replicate, List.length_append, List.take_length, List.take_zero, List.drop_length, Option.isNone_none, Heap.none, h1, h2]
  rfl
theorem rord_c {a b : Int} (ha : LE a.natAbs ≤ 35184372088832) (hb : LE b.natAbs ≤ 35184372088832) : R FF 47 [(AV.agg [AV.b (ng a), (AV.l 1 (List.map n64 (E (Int.natAbs a))))]), (AV.agg [AV.b (ng b), (AV.l 1 (List.map n64 (E (Int.natAbs b))))])] = some (AV.i .i64 (cmp a b)) := by
  have c1 := rorder_c ha hb
  have c2 := rorder_c hb ha
  cases ha : ng a <;> cases hb : ng b <;> (first | rw [ng_true] at ha | rw [ng_false] at ha) <;> (first | rw [ng_true] at hb | rw [ng_false] at hb)
  · rw [show ((a.natAbs : Nat) : Int) = a by omega, show ((b.natAbs : Nat) : Int) = b by omega] at c1
    rw [R_go FF F47 c47.eq_1]
    simp only [RB, un, St.none, Nat.reduceEqDiff, Nat.reduceAdd, Nat.reduceMul, Nat.reduceLeDiff, Nat.reduceLT, Int.reduceLT, Int.reduceLE, Int.reduceEq, Int.reduceToNat, Int.reduceSub, Int.reduceNeg, Int.reduceAdd, ↓reduceIte, reduceCtorEq, ite_self, eq_self, if_true, if_false, pack, pid, parN, List.not_mem_nil, List.mem_cons, lid, chkK, apartV, List.map_nil, List.flatMap_nil, List.append_nil, List.nil_append, List.drop_zero, List.length_set, List.length_replicate, List.length_append, List.take_length, List.take_zero, List.drop_length, Option.isNone_none, Heap.none, c1]
  · rw [cmp_gt (by omega)]
    rw [R_go FF F47 c47.eq_1]
    simp only [RB, un, St.none, Nat.reduceEqDiff, Nat.reduceAdd, Nat.reduceMul, Nat.reduceLeDiff, Nat.reduceLT, Int.reduceLT, Int.reduceLE, Int.reduceEq, Int.reduceToNat, Int.reduceSub, Int.reduceNeg, Int.reduceAdd, ↓reduceIte, reduceCtorEq, ite_self, eq_self, if_true, if_false, pack, pid, parN, List.not_mem_nil, List.mem_cons, lid, chkK, apartV, List.map_nil, List.flatMap_nil, List.append_nil, List.nil_append, List.drop_zero, List.length_set, List.length_replicate, List.length_append, List.take_length, List.take_zero, List.drop_length, Option.isNone_none, Heap.none]
  · rw [cmp_lt (by omega)]
    rw [R_go FF F47 c47.eq_1]
    simp only [RB, un, St.none, Nat.reduceEqDiff, Nat.reduceAdd, Nat.reduceMul, Nat.reduceLeDiff, Nat.reduceLT, Int.reduceLT, Int.reduceLE, Int.reduceEq, Int.reduceToNat, Int.reduceSub, Int.reduceNeg, Int.reduceAdd, ↓reduceIte, reduceCtorEq, ite_self, eq_self, if_true, if_false, pack, pid, parN, List.not_mem_nil, List.mem_cons, lid, chkK, apartV, List.map_nil, List.flatMap_nil, List.append_nil, List.nil_append, List.drop_zero, List.length_set, List.length_replicate, List.length_append, List.take_length, List.take_zero, List.drop_length, Option.isNone_none, Heap.none]
  · have e : cmp ((b.natAbs : Nat) : Int) ((a.natAbs : Nat) : Int) = cmp a b := by unfold cmp; split <;> split <;> (try split) <;> (try split) <;> omega
    rw [e] at c2
    rw [R_go FF F47 c47.eq_1]
    simp only [RB, un, St.none, Nat.reduceEqDiff, Nat.reduceAdd, Nat.reduceMul, Nat.reduceLeDiff, Nat.reduceLT, Int.reduceLT, Int.reduceLE, Int.reduceEq, Int.reduceToNat, Int.reduceSub, Int.reduceNeg, Int.reduceAdd, ↓reduceIte, reduceCtorEq, ite_self, eq_self, if_true, if_false, pack, pid, parN, List.not_mem_nil, List.mem_cons, lid, chkK, apartV, List.map_nil, List.flatMap_nil, List.append_nil, List.nil_append, List.drop_zero, List.length_set, List.length_replicate, List.length_append, List.take_length, List.take_zero, List.drop_length, Option.isNone_none, Heap.none, c2]
theorem rtimes_c {a b : Int} (hl : LE a.natAbs + LE b.natAbs ≤ 35184372088832) : R FF 43 [(AV.agg [AV.b (ng a), (AV.l 1 (List.map n64 (E (Int.natAbs a))))]), (AV.agg [AV.b (ng b), (AV.l 1 (List.map n64 (E (Int.natAbs b))))])] = some (AV.agg [AV.b (ng (a * b)), (AV.l 1 (List.map n64 (E (Int.natAbs (a * b)))))]) := by
  have s1 := times_c hl
  have g1 := rmake_c (ng a != ng b) (a.natAbs * b.natAbs)
  rw [sv_xor_mul] at g1
  cases ha : ng a <;> cases hb : ng b <;> rw [ha, hb] at g1 <;> simp only [bne, boolq, Bool.not_true, Bool.not_false] at g1
  all_goals
    rw [R_go FF F43 c43.eq_1]
    simp only [RB, un, St.none, Nat.reduceEqDiff, Nat.reduceAdd, Nat.reduceMul, Nat.reduceLeDiff, Nat.reduceLT, Int.reduceLT, Int.reduceLE, Int.reduceEq, Int.reduceToNat, Int.reduceSub, Int.reduceNeg, Int.reduceAdd, ↓reduceIte, reduceCtorEq, ite_self, eq_self, if_true, if_false, pack, pid, parN, List.not_mem_nil, List.mem_cons, lid, chkK, apartV, List.map_nil, List.flatMap_nil, List.append_nil, List.nil_append, List.drop_zero, List.length_set, List.length_replicate, List.length_append, List.take_length, List.take_zero, List.drop_length, Option.isNone_none, Heap.none, s1, g1]
theorem ris_c {n k : Int} (hn : L n.natAbs ≤ 1000000000000) (hk : LE k.natAbs ≤ 35184372088832) : R FF 44 [(AV.agg [AV.b (ng n), (AV.l 1 (List.map u (D (Int.natAbs n))))]), (AV.agg [AV.b (ng k), (AV.l 1 (List.map n64 (E (Int.natAbs k))))])] = some (.b (decide (n = k))) := by
  have h1 := rright_c (D_U n.natAbs) (show L _ ≤ _ by omega)
  rw [W_D, decide_eq_true rfl] at h1
  have h2 := rfrom_c (q := ng n) (D_U n.natAbs) hn
  rw [wv_ci] at h2
  have h3 := rord_c (a := n) (b := k) (by have := LE_L n.natAbs; omega) hk
  have h4 : decide (cmp n k = 0) = decide (n = k) := decide_eq_decide.2 cmp_eq_iff
  have h5 : (D n.natAbs).length = L n.natAbs := rfl
  by_cases h0 : 0 < (L n.natAbs : Int)
  · rw [R_go FF F44 c44.eq_1]
    simp only [RB, un, St.none, Nat.reduceEqDiff, Nat.reduceAdd, Nat.reduceMul, Nat.reduceLeDiff, Nat.reduceLT, Int.reduceLT, Int.reduceLE, Int.reduceEq, Int.reduceToNat, Int.reduceSub, Int.reduceNeg, Int.reduceAdd, ↓reduceIte, reduceCtorEq, ite_self, eq_self, if_true, if_false, pack, pid, parN, List.not_mem_nil, List.mem_cons, lid, chkK, apartV, List.map_nil, List.flatMap_nil, List.append_nil, List.nil_append, List.drop_zero, List.length_set, List.length_replicate, List.length_append, List.take_length, List.take_zero, List.drop_length, Option.isNone_none, Heap.none, h1, h2, h3, h4, h5, h0]
  · have h6 := L_pos (k := n.natAbs)
    have h7 : n = 0 := by omega
    subst h7
    rw [ng_false.2 (Int.le_refl _)] at h2 h3
    rw [ng_false.2 (Int.le_refl _)]
    rw [R_go FF F44 c44.eq_1]
    simp only [RB, un, St.none, Nat.reduceEqDiff, Nat.reduceAdd, Nat.reduceMul, Nat.reduceLeDiff, Nat.reduceLT, Int.reduceLT, Int.reduceLE, Int.reduceEq, Int.reduceToNat, Int.reduceSub, Int.reduceNeg, Int.reduceAdd, ↓reduceIte, reduceCtorEq, ite_self, eq_self, if_true, if_false, pack, pid, parN, List.not_mem_nil, List.mem_cons, lid, chkK, apartV, List.map_nil, List.flatMap_nil, List.append_nil, List.nil_append, List.drop_zero, List.length_set, List.length_replicate, List.length_append, List.take_length, List.take_zero, List.drop_length, Option.isNone_none, Heap.none, h1, h2, h3, h4, h5, h0]
end Go.Pe
set_option linter.unusedVariables false
namespace Go.Pe
theorem row_rules {α : Type} (f : α → List AV) (d : α) (z : Nat) (hz : ∀ x, (f x).length = z) (ht : ∀ h x, (f x).map (tellC h) = f x) :
    (∀ (l : List α) j, idxV z (.l z (l.map f)) j = if 0 ≤ j ∧ j < (l.length : Int) then some (.tp (f (l.getD j.toNat d)) 0) else none) ∧
    (∀ ap e (l : List α), Row.at e (.sl ap z (l.map f)) = if e < l.length then some (f (l.getD e d)) else none) ∧ (∀ e (l : List α), Row.at e (.fsl z (l.map f)) = if e < l.length then some (f (l.getD e d)) else none) ∧
    (∀ (l : List α) e x, putC z (l.map f) e 0 (f x) = (l.set e x).map f) ∧ (∀ (l : List α) x, l.map f ++ [f x] = (l ++ [x]).map f) := by
  refine ⟨fun l j => idxV_map f d z l j, fun ap e l => at_map f d ap z e l, fun e l => at_map f d true z e l, fun l e x => putC_map f z l e x (hz x), fun l x => by rw [List.map_append]; rfl⟩
end Go.Pe
set_option linter.unusedSimpArgs false
set_option linter.unusedVariables false
open Go
namespace Go.Pe
theorem awake02 : R FF 48 [] = some (.b true) := (R_some FF).2 ⟨60, by kernel_rfl⟩
end Go.Pe
set_option linter.unusedSimpArgs false
set_option linter.unusedVariables false
open Go
namespace Go.Pe
def fct : Nat → Nat
  | 0 => 1
  | n + 1 => fct n * (n + 1)
theorem L_fct : ∀ n, n ≤ 1000000 → L (fct n) ≤ n + 1 := by
  intro n
  induction n with
  | zero => intro _; exact L_le (n := 1) (k := 1) (by decide)
  | succ n ih =>
    intro h
    have h1 := ih (by omega)
    have h2 := L_mul (fct n) (n + 1)
    have h3 : L (n + 1) ≤ 1 := L_le (by omega)
    show L (fct n * (n + 1)) ≤ n + 1 + 1
    omega
def bn : Nat → Nat → Nat
  | _, 0 => 1
  | 0, _ + 1 => 0
  | n + 1, k + 1 => bn n k + bn n (k + 1)
theorem bn_zero (n : Nat) : bn n 0 = 1 := by cases n <;> rfl
theorem bn_big : ∀ n k, n < k → bn n k = 0 := by
  intro n
  induction n with
  | zero => intro k h; cases k with
    | zero => omega
    | succ k => rfl
  | succ n ih => intro k h; cases k with
    | zero => omega
    | succ k => show bn n k + bn n (k + 1) = 0; rw [ih k (by omega), ih (k + 1) (by omega)]
theorem bn_self : ∀ n, bn n n = 1 := by
  intro n
  induction n with
  | zero => rfl
  | succ n ih => show bn n n + bn n (n + 1) = 1; rw [ih, bn_big n (n + 1) (by omega)]
theorem bn_step : ∀ n k, bn n (k + 1) * (k + 1) = bn n k * (n - k) := by
  intro n
  induction n with
  | zero => intro k; rw [bn_big 0 (k + 1) (by omega)]; simp
  | succ n ih =>
    intro k
    by_cases hk : n + 1 ≤ k
    · rw [bn_big (n + 1) (k + 1) (by omega), Nat.sub_eq_zero_of_le hk]; simp
    · have e : bn (n + 1) (k + 1) * (k + 1) = bn n k * (n + 1) := by
        show (bn n k + bn n (k + 1)) * (k + 1) = _
        rw [Nat.add_mul, ih k, ← Nat.mul_add, show k + 1 + (n - k) = n + 1 by omega]
      rw [e]
      cases k with
      | zero => rw [bn_zero, bn_zero]; rfl
      | succ j =>
        show _ = (bn n j + bn n (j + 1)) * (n + 1 - (j + 1))
        have h := ih j
        rw [Nat.add_mul, show n + 1 - (j + 1) = n - j by omega, ← h, ← Nat.mul_add, show j + 1 + (n - j) = n + 1 by omega]
theorem bn_sym : ∀ n k, k ≤ n → bn n (n - k) = bn n k := by
  intro n
  induction n with
  | zero =>
    intro k h
    have : k = 0 := by omega
    subst this
    rfl
  | succ n ih =>
    intro k h
    cases k with
    | zero => rw [Nat.sub_zero, bn_self, bn_zero]
    | succ k =>
      by_cases hk : k = n
      · subst hk; rw [Nat.sub_self, bn_zero, bn_self]
      · obtain ⟨j, hj⟩ : ∃ j, n + 1 - (k + 1) = j + 1 := ⟨n - k - 1, by omega⟩
        rw [hj]
        show bn n j + bn n (j + 1) = bn n k + bn n (k + 1)
        rw [show j = n - (k + 1) by omega, ih (k + 1) (by omega), show n - (k + 1) + 1 = n - k by omega, ih k (by omega), Nat.add_comm]
theorem bn_min (n k : Nat) (h : k ≤ n) : bn n (min k (n - k)) = bn n k := by
  rcases Nat.le_total k (n - k) with h1 | h1
  · rw [Nat.min_eq_left h1]
  · rw [Nat.min_eq_right h1, bn_sym n k h]
theorem bn_le : ∀ n k, bn n k ≤ 2 ^ n := by
  intro n
  induction n with
  | zero => intro k; cases k <;> simp [bn]
  | succ n ih =>
    intro k
    cases k with
    | zero => rw [bn_zero]; exact Nat.one_le_two_pow
    | succ k => show bn n k + bn n (k + 1) ≤ _; have := ih k; have := ih (k + 1); rw [Nat.pow_succ]; omega
theorem bn_L {n k : Nat} (h : n ≤ 60) : L (bn n k) ≤ 2 :=
  L_le (Nat.lt_of_le_of_lt (Nat.le_trans (bn_le n k) (Nat.pow_le_pow_right (by decide) h)) (by decide))
theorem fact_l0 {n : Nat} (hn : n ≤ 60) : ∀ (d i : Nat), i + d = n →
    LP FF [(2, 1), (4, 0), (14, 0), (15, 0)] [(2, 1), (4, 0)] b302_0 [.ownp [.b false, .l 1 []], (AV.l 1 (List.map u (D (fct i)))), (AV.i .i64 ((n : Int))), (AV.i .i64 ((i : Int)))] = some (.exit 0, [.ownp [.b false, .l 1 []], (AV.l 1 (List.map u (D (fct n))))]) := by
  intro d
  induction d with
  | zero =>
    intro i hi
    obtain rfl : i = n := by omega
    have c1 : ¬ (i : Int) < (i : Int) := by omega
    rw [LP_go FF b302_0.eq_1]
    simp only [RB, un, St.none, Nat.reduceEqDiff, Nat.reduceAdd, Nat.reduceMul, Nat.reduceLeDiff, Nat.reduceLT, Int.reduceLT, Int.reduceLE, Int.reduceEq, Int.reduceToNat, Int.reduceSub, Int.reduceNeg, Int.reduceAdd, ↓reduceIte, reduceCtorEq, ite_self, eq_self, if_true, if_false, pack, pid, parN, List.not_mem_nil, List.mem_cons, lid, chkK, apartV, List.map_nil, List.flatMap_nil, List.append_nil, List.nil_append, List.drop_zero, List.length_set, List.length_replicate, List.length_append, List.take_length, List.take_zero, List.drop_length, Option.isNone_none, Heap.none, c1]
  | succ d ih =>
    intro i hi
    have h9 := ih (i + 1) (by omega)
    have c1 : (i : Int) < (n : Int) := by omega
    have e1 : IntKind.i64.wrap ((i : Int) + 1) = ((i + 1 : Nat) : Int) := w64succ (by omega)
    have e2 : IntKind.u64.wrap ((i + 1 : Nat) : Int) = ((i + 1 : Nat) : Int) := u64w (by omega) (by omega)
    have o1 := of_c (x := ((i + 1 : Nat) : Int)) (by omega) (by omega) rfl
    have hL := L_fct i (by omega)
    have h3 : L (i + 1) ≤ 1 := L_le (by omega)
    have m1 := mul_D (m := fct i) (n := i + 1) (by omega)
    rw [LP_go FF b302_0.eq_1]
    simp only [RB, un, St.none, Nat.reduceEqDiff, Nat.reduceAdd, Nat.reduceMul, Nat.reduceLeDiff, Nat.reduceLT, Int.reduceLT, Int.reduceLE, Int.reduceEq, Int.reduceToNat, Int.reduceSub, Int.reduceNeg, Int.reduceAdd, ↓reduceIte, reduceCtorEq, ite_self, eq_self, if_true, if_false, pack, pid, parN, List.not_mem_nil, List.mem_cons, lid, chkK, apartV, List.map_nil, List.flatMap_nil, List.append_nil, List.nil_append, List.drop_zero, List.length_set, List.length_replicate, List.length_append, List.take_length, List.take_zero, List.drop_length, Option.isNone_none, Heap.none, c1, e1, e2, o1, m1]
    exact h9
theorem fact_c {n : Nat} (hn : n ≤ 60) : R FF 302 [(AV.i .i64 ((n : Int)))] = some (.tup [(AV.agg [AV.b (ng ((fct n : Int))), (AV.l 1 (List.map u (D (Int.natAbs ((fct n : Int))))))]), (AV.i .i64 0)]) := by
  have h1 := fact_l0 hn n 0 (by omega)
  have o1 := of_c (x := 1) (by omega) (by omega) (n := 1) rfl
  have s1 := sign_c false (fct n)
  rw [show fct 0 = 1 from rfl, Int.ofNat_zero] at h1
  have c1 : ¬ (n : Int) < 0 := by omega
  have c2 : ¬ 4096 < (n : Int) := by omega
  rw [R_go FF F302 c302.eq_1]
  simp only [RB, un, St.none, Nat.reduceEqDiff, Nat.reduceAdd, Nat.reduceMul, Nat.reduceLeDiff, Nat.reduceLT, Int.reduceLT, Int.reduceLE, Int.reduceEq, Int.reduceToNat, Int.reduceSub, Int.reduceNeg, Int.reduceAdd, ↓reduceIte, reduceCtorEq, ite_self, eq_self, if_true, if_false, pack, pid, parN, List.not_mem_nil, List.mem_cons, lid, chkK, apartV, List.map_nil, List.flatMap_nil, List.append_nil, List.nil_append, List.drop_zero, List.length_set, List.length_replicate, List.length_append, List.take_length, List.take_zero, List.drop_length, Option.isNone_none, Heap.none, c1, c2, o1, h1, s1, sv]
theorem choose_l0 {n m : Nat} (hn : n ≤ 60) (hm : m ≤ n) : ∀ (d i : Nat), i + d = m →
    LP FF [(4, 1), (0, 0), (6, 0), (28, 0), (29, 0)] [(4, 1), (6, 0)] b303_0 [.ownp [.b false, .l 1 []], (AV.i .i64 ((n : Int))), (AV.l 1 (List.map u (D (bn n i)))), (AV.i .i64 ((m : Int))), (AV.i .i64 ((i : Int)))] = some (.exit 0, [.ownp [.b false, .l 1 []], (AV.l 1 (List.map u (D (bn n m))))]) := by
  intro d
  induction d with
  | zero =>
    intro i hi
    obtain rfl : i = m := by omega
    have c1 : ¬ (i : Int) < (i : Int) := by omega
    rw [LP_go FF b303_0.eq_1]
    simp only [RB, un, St.none, Nat.reduceEqDiff, Nat.reduceAdd, Nat.reduceMul, Nat.reduceLeDiff, Nat.reduceLT, Int.reduceLT, Int.reduceLE, Int.reduceEq, Int.reduceToNat, Int.reduceSub, Int.reduceNeg, Int.reduceAdd, ↓reduceIte, reduceCtorEq, ite_self, eq_self, if_true, if_false, pack, pid, parN, List.not_mem_nil, List.mem_cons, lid, chkK, apartV, List.map_nil, List.flatMap_nil, List.append_nil, List.nil_append, List.drop_zero, List.length_set, List.length_replicate, List.length_append, List.take_length, List.take_zero, List.drop_length, Option.isNone_none, Heap.none, c1]
  | succ d ih =>
    intro i hi
    have h9 := ih (i + 1) (by omega)
    have c1 : (i : Int) < (m : Int) := by omega
    have e1 : IntKind.i64.wrap ((i : Int) + 1) = ((i + 1 : Nat) : Int) := w64succ (by omega)
    have e2 : IntKind.u64.wrap ((i + 1 : Nat) : Int) = ((i + 1 : Nat) : Int) := u64w (by omega) (by omega)
    have e3 : IntKind.i64.wrap ((n : Int) - (i : Int)) = ((n - i : Nat) : Int) := by rw [show ((n : Int) - (i : Int)) = ((n - i : Nat) : Int) by omega]; exact w64 (by omega) (by omega)
    have e4 : IntKind.u64.wrap ((n - i : Nat) : Int) = ((n - i : Nat) : Int) := u64w (by omega) (by omega)
    have o1 := of_c (x := ((i + 1 : Nat) : Int)) (by omega) (by omega) rfl
    have o2 := of_c (x := ((n - i : Nat) : Int)) (by omega) (by omega) rfl
    have hL := bn_L (n := n) (k := i) hn
    have h3 : L (i + 1) ≤ 1 := L_le (by omega)
    have h4 : L (n - i) ≤ 1 := L_le (by omega)
    have m1 := mul_D (m := bn n i) (n := n - i) (by omega)
    have b1 := L_mul (bn n i) (n - i)
    have d1 := divmod_c (x := D (bn n i * (n - i))) (y := D (i + 1)) (D_U _) (D_U _) (show L _ ≤ _ by omega) (show L _ ≤ _ by omega)
    rw [W_D, W_D, if_neg (by omega), ← bn_step, Nat.mul_div_cancel _ (by omega), bn_step] at d1
    rw [LP_go FF b303_0.eq_1]
    simp only [RB, un, St.none, Nat.reduceEqDiff, Nat.reduceAdd, Nat.reduceMul, Nat.reduceLeDiff, Nat.reduceLT, Int.reduceLT, Int.reduceLE, Int.reduceEq, Int.reduceToNat, Int.reduceSub, Int.reduceNeg, Int.reduceAdd, ↓reduceIte, reduceCtorEq, ite_self, eq_self, if_true, if_false, pack, pid, parN, List.not_mem_nil, List.mem_cons, lid, chkK, apartV, List.map_nil, List.flatMap_nil, List.append_nil, List.nil_append, List.drop_zero, List.length_set, List.length_replicate, List.length_append, List.take_length, List.take_zero, List.drop_length, Option.isNone_none, Heap.none, c1, e1, e2, e3, e4, o1, o2, m1, d1]
    exact h9
theorem choose_c {n k : Nat} (hn : n ≤ 60) (hk : k ≤ n) : R FF 303 [(AV.i .i64 ((n : Int))), (AV.i .i64 ((k : Int)))] = some (.tup [(AV.agg [AV.b (ng ((bn n k : Int))), (AV.l 1 (List.map u (D (Int.natAbs ((bn n k : Int))))))]), (AV.i .i64 0)]) := by
  have h1 := choose_l0 hn (m := min k (n - k)) (by omega) (min k (n - k)) 0 (by omega)
  have o1 := of_c (x := 1) (by omega) (by omega) (n := 1) rfl
  have s1 := sign_c false (bn n k)
  rw [bn_zero, Int.ofNat_zero, bn_min n k hk] at h1
  have c1 : ¬ (n : Int) < 0 := by omega
  have c2 : ¬ 4096 < (n : Int) := by omega
  have c3 : ¬ (k : Int) < 0 := by omega
  have c4 : ¬ (n : Int) < (k : Int) := by omega
  have e1 : IntKind.i64.wrap ((n : Int) - (k : Int)) = ((n - k : Nat) : Int) := by rw [show ((n : Int) - (k : Int)) = ((n - k : Nat) : Int) by omega]; exact w64 (by omega) (by omega)
  have e2 : (if ((n - k : Nat) : Int) < (k : Int) then ((n - k : Nat) : Int) else (k : Int)) = ((min k (n - k) : Nat) : Int) := by split <;> omega
  rw [R_go FF F303 c303.eq_1]
  simp only [RB, un, St.none, Nat.reduceEqDiff, Nat.reduceAdd, Nat.reduceMul, Nat.reduceLeDiff, Nat.reduceLT, Int.reduceLT, Int.reduceLE, Int.reduceEq, Int.reduceToNat, Int.reduceSub, Int.reduceNeg, Int.reduceAdd, ↓reduceIte, reduceCtorEq, ite_self, eq_self, if_true, if_false, pack, pid, parN, List.not_mem_nil, List.mem_cons, lid, chkK, apartV, List.map_nil, List.flatMap_nil, List.append_nil, List.nil_append, List.drop_zero, List.length_set, List.length_replicate, List.length_append, List.take_length, List.take_zero, List.drop_length, Option.isNone_none, Heap.none, c1, c2, c3, c4, e1, e2, o1, h1, s1, sv]
def eE (x : Nat) : List AV := [(AV.l 1 (List.map n64 (E x)))]
theorem eE_rules : (∀ x, (eE x).length = 1) ∧ (∀ h x, (eE x).map (tellC h) = eE x) ∧ (∀ h x, (eE x).map (tell0 h) = eE x) ∧ (∀ h x, (eE x).flatMap (refC h) = []) ∧ (∀ x, (eE x).flatMap ref0 = []) ∧ (∀ x, ldC false 1 0 (eE x) = some (AV.l 1 (List.map n64 (E x)))) := by
  refine ⟨?_, ?_, ?_, ?_, ?_, ?_⟩ <;> intros <;> rfl
theorem eE_row : type_of% (row_rules eE 0 1 (fun _ => rfl) (fun _ _ => rfl)) := row_rules eE 0 1 (fun _ => rfl) (fun _ _ => rfl)
def brow (i m : Nat) : List Nat := (List.range m).map (bn i)
theorem brow_len (i m : Nat) : (brow i m).length = m := by simp [brow]
theorem brow_succ (i m : Nat) : brow i (m + 1) = brow i m ++ [bn i m] := by simp [brow, List.range_succ]
theorem brow_get (i m k : Nat) (h : k < m) : (brow i m).getD k 0 = bn i k := by simp [brow, List.getD_eq_getElem?_getD, h]
theorem brow_one (i : Nat) : brow i 1 = [1] := by simp [brow, bn_zero]
theorem rchoose_l1 {n i : Nat} {k : Int} (hn : n ≤ 60) (hi : i < n) : ∀ (d j : Nat), j + d = i → 
    LP FF [(7, 1), (0, 0), (1, 0), (5, 0), (6, 0), (8, 0)] [(7, 1), (0, 0), (1, 0), (6, 0)] b304_1 [.own true 1 ((brow (i + 1) (j + 1)).map eE), (AV.i .i64 ((n : Int))), (AV.i .i64 k), .l 1 ((brow i (i + 1)).map eE), (AV.i .i64 ((i : Int))), (AV.i .i64 (((j + 1 : Nat) : Int)))] = some (.exit 2, [.own true 1 ((brow (i + 1) (i + 1)).map eE), (AV.i .i64 ((n : Int))), (AV.i .i64 k), (AV.i .i64 ((i : Int)))]) := by
  intro d
  induction d with
  | zero =>
    intro j hj
    obtain rfl : j = i := by omega
    have c1 : ¬ ((j + 1 : Nat) : Int) < ((j + 1 : Nat) : Int) := by omega
    have t1 : List.take (j + 1) (brow (j + 1) (j + 1)) = brow (j + 1) (j + 1) := List.take_of_length_le (by rw [brow_len]; omega)
    rw [LP_go FF b304_1.eq_1]
    simp only [RB, un, St.none, Nat.reduceEqDiff, Nat.reduceAdd, Nat.reduceMul, Nat.reduceLeDiff, Nat.reduceLT, Int.reduceLT, Int.reduceLE, Int.reduceEq, Int.reduceToNat, Int.reduceSub, Int.reduceNeg, Int.reduceAdd, ↓reduceIte, reduceCtorEq, ite_self, eq_self, if_true, if_false, pack, pid, parN, List.not_mem_nil, List.mem_cons, lid, chkK, apartV, List.map_nil, List.flatMap_nil, List.append_nil, List.nil_append, List.drop_zero, List.length_set, List.length_replicate, List.length_append, List.take_length, List.take_zero, List.drop_length, Option.isNone_none, Heap.none, c1, eE_rules, eE_row, brow_len, t1]
  | succ d ih =>
    intro j hj
    have h9 := ih (j + 1) (by omega)
    have c1 : ((j + 1 : Nat) : Int) < ((i + 1 : Nat) : Int) := by omega
    have e1 : IntKind.i64.wrap (((j + 1 : Nat) : Int) + 1) = ((j + 1 + 1 : Nat) : Int) := w64succ (by omega)
    have e2 : IntKind.i64.wrap (((j + 1 : Nat) : Int) - 1) = (j : Int) := by rw [w64 (by omega) (by omega)]; omega
    have h1 := LE_L (bn i j)
    have h2 := LE_L (bn i (j + 1))
    have h3 := bn_L (n := i) (k := j) (by omega)
    have h4 := bn_L (n := i) (k := j + 1) (by omega)
    have p1 := plus_c (x := bn i j) (y := bn i (j + 1)) (by omega) (by omega)
    have g1 := brow_get i (i + 1) j (by omega)
    have g2 := brow_get i (i + 1) (j + 1) (by omega)
    rw [show bn i j + bn i (j + 1) = bn (i + 1) (j + 1) from rfl] at p1
    rw [brow_succ (i + 1) (j + 1)] at h9
    have t1 : List.take (j + 1) (brow (i + 1) (j + 1)) = brow (i + 1) (j + 1) := List.take_of_length_le (by rw [brow_len]; omega)
    have t2 : List.take (j + 1 + 1) (brow (i + 1) (j + 1) ++ [bn (i + 1) (j + 1)]) = brow (i + 1) (j + 1) ++ [bn (i + 1) (j + 1)] := List.take_of_length_le (by rw [List.length_append, brow_len]; simp)
    have m1 : List.map eE (brow (i + 1) (j + 1)) ++ [[(AV.l 1 (List.map n64 (E (bn (i + 1) (j + 1)))))]] = List.map eE (brow (i + 1) (j + 1) ++ [bn (i + 1) (j + 1)]) := by rw [List.map_append]; rfl
    have c2 : (j : Int) < ((i + 1 : Nat) : Int) := by omega
    have c3 : (j + 1 + 1) * 24 ≤ 140737488355328 := by omega
    rw [LP_go FF b304_1.eq_1]
    simp only [RB, un, St.none, Nat.reduceEqDiff, Nat.reduceAdd, Nat.reduceMul, Nat.reduceLeDiff, Nat.reduceLT, Int.reduceLT, Int.reduceLE, Int.reduceEq, Int.reduceToNat, Int.reduceSub, Int.reduceNeg, Int.reduceAdd, ↓reduceIte, reduceCtorEq, ite_self, eq_self, if_true, if_false, pack, pid, parN, List.not_mem_nil, List.mem_cons, lid, chkK, apartV, List.map_nil, List.flatMap_nil, List.append_nil, List.nil_append, List.drop_zero, List.length_set, List.length_replicate, List.length_append, List.take_length, List.take_zero, List.drop_length, Option.isNone_none, Heap.none, c1, c2, c3, e1, e2, eE_rules, eE_row, brow_len, g1, g2, p1, t1, t2, m1, Int.natCast_nonneg]
    exact h9
theorem rchoose_l0 {n : Nat} {k : Int} (hn : n ≤ 60) : ∀ (d i : Nat), i + d = n →
    LP FF [(0, 0), (1, 0), (5, 0), (6, 0)] [(1, 0), (5, 0)] b304_0 [(AV.i .i64 ((n : Int))), (AV.i .i64 k), .l 1 ((brow i (i + 1)).map eE), (AV.i .i64 ((i : Int)))] = some (.exit 0, [(AV.i .i64 k), .l 1 ((brow n (n + 1)).map eE)]) := by
  intro d
  induction d with
  | zero =>
    intro i hi
    obtain rfl : i = n := by omega
    have c1 : ¬ (i : Int) < (i : Int) := by omega
    rw [LP_go FF b304_0.eq_1]
    simp only [RB, un, St.none, Nat.reduceEqDiff, Nat.reduceAdd, Nat.reduceMul, Nat.reduceLeDiff, Nat.reduceLT, Int.reduceLT, Int.reduceLE, Int.reduceEq, Int.reduceToNat, Int.reduceSub, Int.reduceNeg, Int.reduceAdd, ↓reduceIte, reduceCtorEq, ite_self, eq_self, if_true, if_false, pack, pid, parN, List.not_mem_nil, List.mem_cons, lid, chkK, apartV, List.map_nil, List.flatMap_nil, List.append_nil, List.nil_append, List.drop_zero, List.length_set, List.length_replicate, List.length_append, List.take_length, List.take_zero, List.drop_length, Option.isNone_none, Heap.none, c1]
  | succ d ih =>
    intro i hi
    have h9 := ih (i + 1) (by omega)
    have c1 : (i : Int) < (n : Int) := by omega
    have e1 : IntKind.i64.wrap ((i : Int) + 1) = ((i + 1 : Nat) : Int) := w64succ (by omega)
    have s1 := small_c (x := 1) (n := 1) rfl (by omega)
    have l1 := rchoose_l1 (k := k) hn (show i < n by omega) i 0 (by omega)
    rw [brow_one, show (((0 + 1 : Nat) : Int)) = 1 from rfl] at l1
    rw [brow_succ (i + 1) (i + 1), bn_self] at h9
    change LP FF [(7, 1), (0, 0), (1, 0), (5, 0), (6, 0), (8, 0)] [(7, 1), (0, 0), (1, 0), (6, 0)] b304_1 [.own true 1 [[(AV.l 1 (List.map n64 (E 1)))]], (AV.i .i64 ((n : Int))), (AV.i .i64 k), .l 1 ((brow i (i + 1)).map eE), (AV.i .i64 ((i : Int))), (AV.i .i64 1)] = _ at l1
    have t1 : List.take (i + 1) (brow (i + 1) (i + 1)) = brow (i + 1) (i + 1) := List.take_of_length_le (by rw [brow_len]; omega)
    have t2 : List.take (i + 1 + 1) (brow (i + 1) (i + 1) ++ [1]) = brow (i + 1) (i + 1) ++ [1] := List.take_of_length_le (by rw [List.length_append, brow_len]; simp)
    have m1 : List.map eE (brow (i + 1) (i + 1)) ++ [[(AV.l 1 (List.map n64 (E 1)))]] = List.map eE (brow (i + 1) (i + 1) ++ [1]) := by rw [List.map_append]; rfl
    have c3 : (i + 1 + 1) * 24 ≤ 140737488355328 := by omega
    rw [LP_go FF b304_0.eq_1]
    simp only [RB, un, St.none, Nat.reduceEqDiff, Nat.reduceAdd, Nat.reduceMul, Nat.reduceLeDiff, Nat.reduceLT, Int.reduceLT, Int.reduceLE, Int.reduceEq, Int.reduceToNat, Int.reduceSub, Int.reduceNeg, Int.reduceAdd, ↓reduceIte, reduceCtorEq, ite_self, eq_self, if_true, if_false, pack, pid, parN, List.not_mem_nil, List.mem_cons, lid, chkK, apartV, List.map_nil, List.flatMap_nil, List.append_nil, List.nil_append, List.drop_zero, List.length_set, List.length_replicate, List.length_append, List.take_length, List.take_zero, List.drop_length, Option.isNone_none, Heap.none, c1, e1, s1, l1, eE_rules, eE_row, brow_len, t1, t2, m1, c3]
    exact h9
theorem rchoose_c {n k : Nat} (hn : n ≤ 60) (hk : k ≤ n) : R FF 304 [(AV.i .i64 ((n : Int))), (AV.i .i64 ((k : Int)))] = some (AV.l 1 (List.map n64 (E (bn n k)))) := by
  have h1 := rchoose_l0 (k := (k : Int)) hn n 0 (by omega)
  rw [brow_one, Int.ofNat_zero] at h1
  change LP FF [(0, 0), (1, 0), (5, 0), (6, 0)] [(1, 0), (5, 0)] b304_0 [(AV.i .i64 ((n : Int))), (AV.i .i64 ((k : Int))), .l 1 [[(AV.l 1 (List.map n64 (E 1)))]], (AV.i .i64 0)] = _ at h1
  have s1 := small_c (x := 1) (n := 1) rfl (by omega)
  have c3 : ¬ (k : Int) < 0 := by omega
  have c4 : ¬ (n : Int) < (k : Int) := by omega
  have c5 : (k : Int) < ((n + 1 : Nat) : Int) := by omega
  have g1 := brow_get n (n + 1) k (by omega)
  rw [R_go FF F304 c304.eq_1]
  simp only [RB, un, St.none, Nat.reduceEqDiff, Nat.reduceAdd, Nat.reduceMul, Nat.reduceLeDiff, Nat.reduceLT, Int.reduceLT, Int.reduceLE, Int.reduceEq, Int.reduceToNat, Int.reduceSub, Int.reduceNeg, Int.reduceAdd, ↓reduceIte, reduceCtorEq, ite_self, eq_self, if_true, if_false, pack, pid, parN, List.not_mem_nil, List.mem_cons, lid, chkK, apartV, List.map_nil, List.flatMap_nil, List.append_nil, List.nil_append, List.drop_zero, List.length_set, List.length_replicate, List.length_append, List.take_length, List.take_zero, List.drop_length, Option.isNone_none, Heap.none, c3, c4, c5, s1, h1, eE_rules, eE_row, brow_len, g1, Int.natCast_nonneg]
theorem rchoose_none {n k : Int} (hk : k < 0 ∨ n < k) : R FF 304 [(AV.i .i64 n), (AV.i .i64 k)] = some (AV.l 1 (List.map n64 (E 0))) := by
  by_cases c1 : k < 0
  · rw [R_go FF F304 c304.eq_1]
    simp only [RB, un, St.none, Nat.reduceEqDiff, Nat.reduceAdd, Nat.reduceMul, Nat.reduceLeDiff, Nat.reduceLT, Int.reduceLT, Int.reduceLE, Int.reduceEq, Int.reduceToNat, Int.reduceSub, Int.reduceNeg, Int.reduceAdd, ↓reduceIte, reduceCtorEq, ite_self, eq_self, if_true, if_false, pack, pid, parN, List.not_mem_nil, List.mem_cons, lid, chkK, apartV, List.map_nil, List.flatMap_nil, List.append_nil, List.nil_append, List.drop_zero, List.length_set, List.length_replicate, List.length_append, List.take_length, List.take_zero, List.drop_length, Option.isNone_none, Heap.none, c1, E_zero]
  · have c2 : n < k := by omega
    rw [R_go FF F304 c304.eq_1]
    simp only [RB, un, St.none, Nat.reduceEqDiff, Nat.reduceAdd, Nat.reduceMul, Nat.reduceLeDiff, Nat.reduceLT, Int.reduceLT, Int.reduceLE, Int.reduceEq, Int.reduceToNat, Int.reduceSub, Int.reduceNeg, Int.reduceAdd, ↓reduceIte, reduceCtorEq, ite_self, eq_self, if_true, if_false, pack, pid, parN, List.not_mem_nil, List.mem_cons, lid, chkK, apartV, List.map_nil, List.flatMap_nil, List.append_nil, List.nil_append, List.drop_zero, List.length_set, List.length_replicate, List.length_append, List.take_length, List.take_zero, List.drop_length, Option.isNone_none, Heap.none, c1, c2, E_zero]
theorem choose_none {n k : Int} (h0 : 0 ≤ n) (h1 : n ≤ 4096) (hk : k < 0 ∨ n < k) : R FF 303 [(AV.i .i64 n), (AV.i .i64 k)] = some (.tup [(AV.agg [AV.b (ng ((0 : Int))), (AV.l 1 (List.map u (D (Int.natAbs ((0 : Int))))))]), (AV.i .i64 0)]) := by
  have c3 : ¬ n < 0 := by omega
  have c4 : ¬ 4096 < n := by omega
  rw [ng_false.2 (Int.le_refl _), Int.natAbs_zero, D_zero]
  by_cases c1 : k < 0
  · rw [R_go FF F303 c303.eq_1]
    simp only [RB, un, St.none, Nat.reduceEqDiff, Nat.reduceAdd, Nat.reduceMul, Nat.reduceLeDiff, Nat.reduceLT, Int.reduceLT, Int.reduceLE, Int.reduceEq, Int.reduceToNat, Int.reduceSub, Int.reduceNeg, Int.reduceAdd, ↓reduceIte, reduceCtorEq, ite_self, eq_self, if_true, if_false, pack, pid, parN, List.not_mem_nil, List.mem_cons, lid, chkK, apartV, List.map_nil, List.flatMap_nil, List.append_nil, List.nil_append, List.drop_zero, List.length_set, List.length_replicate, List.length_append, List.take_length, List.take_zero, List.drop_length, Option.isNone_none, Heap.none, c1, c3, c4]
  · have c2 : n < k := by omega
    rw [R_go FF F303 c303.eq_1]
    simp only [RB, un, St.none, Nat.reduceEqDiff, Nat.reduceAdd, Nat.reduceMul, Nat.reduceLeDiff, Nat.reduceLT, Int.reduceLT, Int.reduceLE, Int.reduceEq, Int.reduceToNat, Int.reduceSub, Int.reduceNeg, Int.reduceAdd, ↓reduceIte, reduceCtorEq, ite_self, eq_self, if_true, if_false, pack, pid, parN, List.not_mem_nil, List.mem_cons, lid, chkK, apartV, List.map_nil, List.flatMap_nil, List.append_nil, List.nil_append, List.drop_zero, List.length_set, List.length_replicate, List.length_append, List.take_length, List.take_zero, List.drop_length, Option.isNone_none, Heap.none, c1, c2, c3, c4]
theorem choose_bad {n k : Int} (hn : n < 0 ∨ 4096 < n) : R FF 303 [(AV.i .i64 n), (AV.i .i64 k)] = some (.tup [(AV.agg [AV.b (ng ((0 : Int))), (AV.l 1 (List.map u (D (Int.natAbs ((0 : Int))))))]), (AV.i .i64 8)]) := by
  rw [ng_false.2 (Int.le_refl _), Int.natAbs_zero, D_zero]
  by_cases c1 : n < 0
  · rw [R_go FF F303 c303.eq_1]
    simp only [RB, un, St.none, Nat.reduceEqDiff, Nat.reduceAdd, Nat.reduceMul, Nat.reduceLeDiff, Nat.reduceLT, Int.reduceLT, Int.reduceLE, Int.reduceEq, Int.reduceToNat, Int.reduceSub, Int.reduceNeg, Int.reduceAdd, ↓reduceIte, reduceCtorEq, ite_self, eq_self, if_true, if_false, pack, pid, parN, List.not_mem_nil, List.mem_cons, lid, chkK, apartV, List.map_nil, List.flatMap_nil, List.append_nil, List.nil_append, List.drop_zero, List.length_set, List.length_replicate, List.length_append, List.take_length, List.take_zero, List.drop_length, Option.isNone_none, Heap.none, c1]
  · have c2 : 4096 < n := by omega
    rw [R_go FF F303 c303.eq_1]
    simp only [RB, un, St.none, Nat.reduceEqDiff, Nat.reduceAdd, Nat.reduceMul, Nat.reduceLeDiff, Nat.reduceLT, Int.reduceLT, Int.reduceLE, Int.reduceEq, Int.reduceToNat, Int.reduceSub, Int.reduceNeg, Int.reduceAdd, ↓reduceIte, reduceCtorEq, ite_self, eq_self, if_true, if_false, pack, pid, parN, List.not_mem_nil, List.mem_cons, lid, chkK, apartV, List.map_nil, List.flatMap_nil, List.append_nil, List.nil_append, List.drop_zero, List.length_set, List.length_replicate, List.length_append, List.take_length, List.take_zero, List.drop_length, Option.isNone_none, Heap.none, c1, c2]
theorem fact_bad {n : Int} (hn : n < 0 ∨ 4096 < n) : R FF 302 [(AV.i .i64 n)] = some (.tup [(AV.agg [AV.b (ng ((0 : Int))), (AV.l 1 (List.map u (D (Int.natAbs ((0 : Int))))))]), (AV.i .i64 8)]) := by
  rw [ng_false.2 (Int.le_refl _), Int.natAbs_zero, D_zero]
  by_cases c1 : n < 0
  · rw [R_go FF F302 c302.eq_1]
    simp only [RB, un, St.none, Nat.reduceEqDiff, Nat.reduceAdd, Nat.reduceMul, Nat.reduceLeDiff, Nat.reduceLT, Int.reduceLT, Int.reduceLE, Int.reduceEq, Int.reduceToNat, Int.reduceSub, Int.reduceNeg, Int.reduceAdd, ↓reduceIte, reduceCtorEq, ite_self, eq_self, if_true, if_false, pack, pid, parN, List.not_mem_nil, List.mem_cons, lid, chkK, apartV, List.map_nil, List.flatMap_nil, List.append_nil, List.nil_append, List.drop_zero, List.length_set, List.length_replicate, List.length_append, List.take_length, List.take_zero, List.drop_length, Option.isNone_none, Heap.none, c1]
  · have c2 : 4096 < n := by omega
    rw [R_go FF F302 c302.eq_1]
    simp only [RB, un, St.none, Nat.reduceEqDiff, Nat.reduceAdd, Nat.reduceMul, Nat.reduceLeDiff, Nat.reduceLT, Int.reduceLT, Int.reduceLE, Int.reduceEq, Int.reduceToNat, Int.reduceSub, Int.reduceNeg, Int.reduceAdd, ↓reduceIte, reduceCtorEq, ite_self, eq_self, if_true, if_false, pack, pid, parN, List.not_mem_nil, List.mem_cons, lid, chkK, apartV, List.map_nil, List.flatMap_nil, List.append_nil, List.nil_append, List.drop_zero, List.length_set, List.length_replicate, List.length_append, List.take_length, List.take_zero, List.drop_length, Option.isNone_none, Heap.none, c1, c2]
theorem counts_l0 {n : Nat} {k : Int} {f c : List AV} {e g : Int} (hn : n ≤ 60) : ∀ (d i : Nat), i + d = n →
    LP FF [(9, 1), (0, 0), (1, 0), (5, 0), (6, 0), (7, 0), (8, 0), (10, 0)] [(0, 0), (1, 0), (5, 0), (6, 0), (7, 0), (8, 0), (9, 0)] b291_0 [.ownp [.b (ng (fct i : Int)), (AV.l 1 (List.map n64 (E (fct i))))], (AV.i .i64 ((n : Int))), (AV.i .i64 k), .tp f 0, (AV.i .i64 e), .tp c 0, (AV.i .i64 g), (AV.i .i64 (((i + 1 : Nat) : Int)))] = some (.exit 0, [(AV.i .i64 ((n : Int))), (AV.i .i64 k), .tp f 0, (AV.i .i64 e), .tp c 0, (AV.i .i64 g), .tp [.b (ng (fct n : Int)), (AV.l 1 (List.map n64 (E (fct n))))] 0]) := by
  intro d
  induction d with
  | zero =>
    intro i hi
    obtain rfl : i = n := by omega
    have c1 : ¬ ((i + 1 : Nat) : Int) ≤ (i : Int) := by omega
    rw [LP_go FF b291_0.eq_1]
    simp only [RB, un, St.none, Nat.reduceEqDiff, Nat.reduceAdd, Nat.reduceMul, Nat.reduceLeDiff, Nat.reduceLT, Int.reduceLT, Int.reduceLE, Int.reduceEq, Int.reduceToNat, Int.reduceSub, Int.reduceNeg, Int.reduceAdd, ↓reduceIte, reduceCtorEq, ite_self, eq_self, if_true, if_false, pack, pid, parN, List.not_mem_nil, List.mem_cons, lid, chkK, apartV, List.map_nil, List.flatMap_nil, List.append_nil, List.nil_append, List.drop_zero, List.length_set, List.length_replicate, List.length_append, List.take_length, List.take_zero, List.drop_length, Option.isNone_none, Heap.none, c1]
  | succ d ih =>
    intro i hi
    have h9 := ih (i + 1) (by omega)
    have c1 : ((i + 1 : Nat) : Int) ≤ (n : Int) := by omega
    have e1 : IntKind.i64.wrap (((i + 1 : Nat) : Int) + 1) = ((i + 1 + 1 : Nat) : Int) := w64succ (by omega)
    have s1 := rsmall_c (x := ((i + 1 : Nat) : Int)) (by omega) (by omega)
    have hL := L_fct i (by omega)
    have h3 : L (i + 1) ≤ 1 := L_le (by omega)
    have g1 := LE_L (fct i)
    have g2 := LE_L (i + 1)
    have m1 := rtimes_c (a := (fct i : Int)) (b := ((i + 1 : Nat) : Int)) (by rw [Int.natAbs_natCast, Int.natAbs_natCast]; omega)
    rw [← Int.natCast_mul, show fct i * (i + 1) = fct (i + 1) from rfl] at m1
    simp only [Int.natAbs_natCast] at s1 m1
    rw [LP_go FF b291_0.eq_1]
    simp only [RB, un, St.none, Nat.reduceEqDiff, Nat.reduceAdd, Nat.reduceMul, Nat.reduceLeDiff, Nat.reduceLT, Int.reduceLT, Int.reduceLE, Int.reduceEq, Int.reduceToNat, Int.reduceSub, Int.reduceNeg, Int.reduceAdd, ↓reduceIte, reduceCtorEq, ite_self, eq_self, if_true, if_false, pack, pid, parN, List.not_mem_nil, List.mem_cons, lid, chkK, apartV, List.map_nil, List.flatMap_nil, List.append_nil, List.nil_append, List.drop_zero, List.length_set, List.length_replicate, List.length_append, List.take_length, List.take_zero, List.drop_length, Option.isNone_none, Heap.none, c1, e1, s1, m1]
    exact h9
theorem counts_ok {n : Nat} {k : Int} {a : Int} (hn : n ≤ 60) (ha : L a.natAbs ≤ 2) (h1 : R FF 303 [(AV.i .i64 ((n : Int))), (AV.i .i64 k)] = some (.tup [(AV.agg [AV.b (ng a), (AV.l 1 (List.map u (D (Int.natAbs a))))]), (AV.i .i64 0)])) {b : Nat} (h2 : R FF 304 [(AV.i .i64 ((n : Int))), (AV.i .i64 k)] = some (AV.l 1 (List.map n64 (E b)))) (hb : (b : Int) = a) : R FF 291 [(AV.i .i64 ((n : Int))), (AV.i .i64 k)] = some (.b true) := by
  have f1 := fact_c hn
  have s1 := rsmall_c (x := 1) (by omega) (by omega)
  have l1 := counts_l0 (k := k) (f := [.b (ng (fct n : Int)), (AV.l 1 (List.map u (D (fct n : Int).natAbs)))]) (c := [.b (ng a), (AV.l 1 (List.map u (D a.natAbs)))]) (e := 0) (g := 0) hn n 0 (by omega)
  have c1 : ¬ 60 < (n : Int) := by omega
  have c2 : ¬ (n : Int) < 0 := by omega
  have c3 : ¬ 4096 < (n : Int) := by omega
  have hL := L_fct n (by omega)
  have g1 := LE_L (fct n)
  have g2 := LE_L a.natAbs
  have i1 := ris_c (n := (fct n : Int)) (k := (fct n : Int)) (by rw [Int.natAbs_natCast]; omega) (by rw [Int.natAbs_natCast]; omega)
  have i2 := ris_c (n := a) (k := a) (by omega) (by omega)
  rw [decide_eq_true rfl] at i1 i2
  have m1 := rmake_c false b
  rw [show sv false b = a from by rw [← hb]; rfl] at m1
  change LP FF [(9, 1), (0, 0), (1, 0), (5, 0), (6, 0), (7, 0), (8, 0), (10, 0)] [(0, 0), (1, 0), (5, 0), (6, 0), (7, 0), (8, 0), (9, 0)] b291_0 [.ownp [.b (ng (1 : Int)), (AV.l 1 (List.map n64 (E (1 : Int).natAbs)))], _, _, _, _, _, _, (AV.i .i64 1)] = _ at l1
  simp only [Int.natAbs_natCast] at l1 i1 f1
  rw [R_go FF F291 c291.eq_1]
  simp only [RB, un, St.none, Nat.reduceEqDiff, Nat.reduceAdd, Nat.reduceMul, Nat.reduceLeDiff, Nat.reduceLT, Int.reduceLT, Int.reduceLE, Int.reduceEq, Int.reduceToNat, Int.reduceSub, Int.reduceNeg, Int.reduceAdd, ↓reduceIte, reduceCtorEq, ite_self, eq_self, if_true, if_false, pack, pid, parN, List.not_mem_nil, List.mem_cons, lid, chkK, apartV, List.map_nil, List.flatMap_nil, List.append_nil, List.nil_append, List.drop_zero, List.length_set, List.length_replicate, List.length_append, List.take_length, List.take_zero, List.drop_length, Option.isNone_none, Heap.none, c1, c2, c3, f1, s1, h1, h2, l1, i1, i2, m1, awake02]
theorem law_WholeCounts (n : Int) (hn : -9223372036854775808 ≤ n ∧ n ≤ 9223372036854775807) (k : Int) (hk : -9223372036854775808 ≤ k ∧ k ≤ 9223372036854775807) : R FF 291 [(AV.i .i64 n), (AV.i .i64 k)] = some (.b true) := by
  by_cases h1 : 60 < n ∧ n ≤ 4096
  · obtain ⟨h1, h2⟩ := h1
    rw [R_go FF F291 c291.eq_1]
    simp only [RB, un, St.none, Nat.reduceEqDiff, Nat.reduceAdd, Nat.reduceMul, Nat.reduceLeDiff, Nat.reduceLT, Int.reduceLT, Int.reduceLE, Int.reduceEq, Int.reduceToNat, Int.reduceSub, Int.reduceNeg, Int.reduceAdd, ↓reduceIte, reduceCtorEq, ite_self, eq_self, if_true, if_false, pack, pid, parN, List.not_mem_nil, List.mem_cons, lid, chkK, apartV, List.map_nil, List.flatMap_nil, List.append_nil, List.nil_append, List.drop_zero, List.length_set, List.length_replicate, List.length_append, List.take_length, List.take_zero, List.drop_length, Option.isNone_none, Heap.none, h1, h2, awake02]
  · by_cases h2 : n < 0 ∨ 4096 < n
    · have f1 := fact_bad h2
      have b1 := choose_bad (k := k) h2
      have z1 := rsmall_c (x := 0) (by omega) (by omega)
      have z2 := L_le (n := (0 : Int).natAbs) (k := 0) (by decide)
      have z3 := LE_u64 (n := (0 : Int).natAbs) (by decide)
      have z4 := ris_c (n := 0) (k := 0) (by omega) (by omega)
      rw [decide_eq_true rfl] at z4
      by_cases c1 : n < 0
      · have c2 : ¬ 60 < n := by omega
        rw [R_go FF F291 c291.eq_1]
        simp only [RB, un, St.none, Nat.reduceEqDiff, Nat.reduceAdd, Nat.reduceMul, Nat.reduceLeDiff, Nat.reduceLT, Int.reduceLT, Int.reduceLE, Int.reduceEq, Int.reduceToNat, Int.reduceSub, Int.reduceNeg, Int.reduceAdd, ↓reduceIte, reduceCtorEq, ite_self, eq_self, if_true, if_false, pack, pid, parN, List.not_mem_nil, List.mem_cons, lid, chkK, apartV, List.map_nil, List.flatMap_nil, List.append_nil, List.nil_append, List.drop_zero, List.length_set, List.length_replicate, List.length_append, List.take_length, List.take_zero, List.drop_length, Option.isNone_none, Heap.none, c1, c2, f1, b1, z1, z4, awake02]
      · have c2 : 60 < n := by omega
        have c3 : 4096 < n := by omega
        have c4 : ¬ n ≤ 4096 := by omega
        rw [R_go FF F291 c291.eq_1]
        simp only [RB, un, St.none, Nat.reduceEqDiff, Nat.reduceAdd, Nat.reduceMul, Nat.reduceLeDiff, Nat.reduceLT, Int.reduceLT, Int.reduceLE, Int.reduceEq, Int.reduceToNat, Int.reduceSub, Int.reduceNeg, Int.reduceAdd, ↓reduceIte, reduceCtorEq, ite_self, eq_self, if_true, if_false, pack, pid, parN, List.not_mem_nil, List.mem_cons, lid, chkK, apartV, List.map_nil, List.flatMap_nil, List.append_nil, List.nil_append, List.drop_zero, List.length_set, List.length_replicate, List.length_append, List.take_length, List.take_zero, List.drop_length, Option.isNone_none, Heap.none, c1, c2, c3, c4, f1, b1, z1, z4, awake02]
    · obtain ⟨m, rfl⟩ := Int.eq_ofNat_of_zero_le (show 0 ≤ n by omega)
      by_cases h3 : k < 0 ∨ (m : Int) < k
      · exact counts_ok (a := 0) (b := 0) (by omega) (Nat.le_trans (L_le (n := (0 : Int).natAbs) (k := 0) (by decide)) (by omega)) (choose_none (by omega) (by omega) h3) (rchoose_none h3) rfl
      · obtain ⟨j, rfl⟩ := Int.eq_ofNat_of_zero_le (show 0 ≤ k by omega)
        exact counts_ok (a := (bn m j : Int)) (b := bn m j) (by omega) (by rw [Int.natAbs_natCast]; exact bn_L (by omega)) (choose_c (by omega) (by omega)) (rchoose_c (by omega) (by omega)) rfl
end Go.Pe
set_option linter.unusedVariables false
set_option linter.unusedSimpArgs false
namespace Go.Pe
open Go
structure Pl where
  z : Nat
  n : Nat
  loc : Option (Nat × Nat)
abbrev Rho := Nat → Option Pl
def Rho.none : Rho := fun _ => .none
theorem add_at (b o n : Nat) : (⟨b, o, none⟩ : Addr).add n = ⟨b, o + n, none⟩ := by unfold Addr.add; split <;> simp_all
inductive Rv (w : World) (T : Nat → Prop) : Rho → AV → Value → Prop
  | junk {ρ v} : Rv w T ρ .junk v
  | b {ρ x} : Rv w T ρ (.b x) (.bool x)
  | i {ρ k n} : Rv w T ρ (.i k n) (.int k n)
  | s {ρ x} : Rv w T ρ (.s x) (.string x)
  | np {ρ} : Rv w T ρ .np (.pointer none)
  | ns {ρ z} : Rv w T ρ (.ns z) (.slice none 0 0)
  | lnil {ρ z a cap} (ha : a = none → cap = 0) (hm : cap ≤ maxLen) : Rv w T ρ (.l z []) (.slice a 0 cap)
  | l {ρ z es b base cap} (g : Nat → Nat → Value) (hT : ¬ T b) (hb : b < w.heap.size) (hc : es.length ≤ cap) (hm : cap ≤ maxLen) (hz : ∀ j, j < es.length → (es.getD j []).length = z)
      (hcell : ∀ j c, j < es.length → c < z → w.cell? ⟨b, base + j * z + c, none⟩ = some (g j c) ∧ (g j c).oneCell' = true)
      (hv : ∀ j c, j < es.length → c < z → Rv w T Rho.none ((es.getD j []).getD c .junk) (g j c)) : Rv w T ρ (.l z es) (.slice (some ⟨b, base, none⟩) es.length cap)
  | tp {ρ cs o b base} (g : Nat → Value) (hT : ¬ T b) (hb : b < w.heap.size)
      (hcell : ∀ c, c < cs.length → w.cell? ⟨b, base + c, none⟩ = some (g c) ∧ (g c).oneCell' = true)
      (hv : ∀ c, c < cs.length → Rv w T Rho.none (cs.getD c .junk) (g c)) : Rv w T ρ (.tp cs o) (.pointer (some ⟨b, base + o, none⟩))
  | sl {ρ r z o n m b base cap} (hr : ρ r = some ⟨z, m, some (b, base)⟩) (hn : o + n ≤ m) (hc : n ≤ cap) (hm : cap ≤ maxLen)
      (hs : ∃ cur e fr, w.heap[b]? = some (Obj.cells cur e fr) ∧ base + (o + cap) * z ≤ cur.size) : Rv w T ρ (.sl r z o n) (.slice (some ⟨b, base + o * z, none⟩) n cap)
  | slz {ρ r z o m b base off} (hr : ρ r = some ⟨z, m, some (b, base)⟩) (hn : o ≤ m) : Rv w T ρ (.sl r z o 0) (.slice (some ⟨b, off, none⟩) 0 0)
  | slnil {ρ r z} (hr : ρ r = some ⟨z, 0, none⟩) : Rv w T ρ (.sl r z 0 0) (.slice none 0 0)
  | p {ρ r e o z m b base} (hr : ρ r = some ⟨z, m, some (b, base)⟩) : Rv w T ρ (.p r e o) (.pointer (some ⟨b, base + e * z + o, none⟩))
  | agg {ρ cs} (vs : Array Value) (hl : vs.size = cs.length) (h1 : ∀ c, c < cs.length → (vs.getD c undef).oneCell' = true)
      (hv : ∀ c, c < cs.length → Rv w T ρ (cs.getD c .junk) (vs.getD c undef)) : Rv w T ρ (.agg cs) (.agg vs)
  | tup {ρ cs} (vs : Array Value) (hl : vs.size = cs.length) (hv : ∀ c, c < cs.length → Rv w T ρ (cs.getD c .junk) (vs.getD c undef)) : Rv w T ρ (.tup cs) (.tuple vs)
theorem Rv.lnil0 {w : World} {T : Nat → Prop} {ρ : Rho} {z : Nat} : Rv w T ρ (.l z []) (.slice none 0 0) := .lnil (fun _ => rfl) (Nat.zero_le _)
structure Same (T : Nat → Prop) (w w' : World) : Prop where
  size : w.heap.size ≤ w'.heap.size
  same : ∀ (b : Nat), b < w.heap.size → ¬ T b → w'.heap[b]? = w.heap[b]?
  shape : ∀ (b : Nat) cur e fr, w.heap[b]? = some (Obj.cells cur e fr) → ∃ cur', w'.heap[b]? = some (Obj.cells cur' e fr) ∧ cur'.size = cur.size
theorem Same.refl (T : Nat → Prop) (w : World) : Same T w w := ⟨Nat.le_refl _, fun _ _ _ => rfl, fun _ cur _ _ h => ⟨cur, h, rfl⟩⟩
theorem lt_of_cells {w : World} {b : Nat} {o : Obj} (h : w.heap[b]? = some o) : b < w.heap.size := (Array.getElem?_eq_some_iff.1 h).1
theorem Same.trans {T : Nat → Prop} {w w' w'' : World} (h : Same T w w') (k : Same T w' w'') : Same T w w'' := by
  refine ⟨Nat.le_trans h.size k.size, fun b hb ht => ?_, fun b cur e fr hb => ?_⟩
  · rw [k.same b (Nat.lt_of_lt_of_le hb h.size) ht, h.same b hb ht]
  · obtain ⟨c1, h1, s1⟩ := h.shape b cur e fr hb
    obtain ⟨c2, h2, s2⟩ := k.shape b c1 e fr h1
    exact ⟨c2, h2, s2.trans s1⟩
theorem Same.cell {T : Nat → Prop} {w w' : World} (h : Same T w w') {b o : Nat} (hb : b < w.heap.size) (ht : ¬ T b) : w'.cell? ⟨b, o, none⟩ = w.cell? ⟨b, o, none⟩ := by
  simp only [World.cell?, h.same b hb ht]
theorem Rv.mono {w w' : World} {T T' : Nat → Prop} (hk : Same T w w') (hT : ∀ b, b < w.heap.size → T' b → T b) {ρ : Rho} {av : AV} {v : Value} (h : Rv w T ρ av v) :
    ∀ {ρ' : Rho}, (∀ r p, ρ r = some p → ρ' r = some p) → Rv w' T' ρ' av v := by
  induction h with
  | junk => intro ρ' hρ; exact .junk
  | b => intro ρ' hρ; exact .b
  | i => intro ρ' hρ; exact .i
  | s => intro ρ' hρ; exact .s
  | np => intro ρ' hρ; exact .np
  | ns => intro ρ' hρ; exact .ns
  | lnil ha hm => intro ρ' hρ; exact .lnil ha hm
  | @l ρ z es b base cap g hTb hb hc hm hz hcell hv ih =>
    intro ρ' hρ
    refine .l g (fun h => hTb (hT b hb h)) (Nat.lt_of_lt_of_le hb hk.size) hc hm hz (fun j c hj hc => ?_) (fun j c hj hc => ih j c hj hc fun r p h => h)
    rw [hk.cell hb hTb]
    exact hcell j c hj hc
  | @tp ρ cs o b base g hTb hb hcell hv ih =>
    intro ρ' hρ
    refine .tp g (fun h => hTb (hT b hb h)) (Nat.lt_of_lt_of_le hb hk.size) (fun c hc => ?_) (fun c hc => ih c hc fun r p h => h)
    rw [hk.cell hb hTb]
    exact hcell c hc
  | sl hr hn hc hm hs =>
    intro ρ' hρ
    obtain ⟨cur, e, fr, h1, h2⟩ := hs
    obtain ⟨cur', h3, h4⟩ := hk.shape _ cur e fr h1
    exact .sl (hρ _ _ hr) hn hc hm ⟨cur', e, fr, h3, by rw [h4]; exact h2⟩
  | slz hr hn => intro ρ' hρ; exact .slz (hρ _ _ hr) hn
  | slnil hr => intro ρ' hρ; exact .slnil (hρ _ _ hr)
  | p hr => intro ρ' hρ; exact .p (hρ _ _ hr)
  | agg vs hl h1 hv ih => intro ρ' hρ; exact .agg vs hl h1 fun c hc => ih c hc hρ
  | tup vs hl hv ih => intro ρ' hρ; exact .tup vs hl fun c hc => ih c hc hρ
structure RowAt (w : World) (b base z : Nat) (es : List (List AV)) (R : AV → Value → Prop) : Prop where
  len : ∀ j, j < es.length → (es.getD j []).length = z
  cell : ∀ j c, j < es.length → c < z → ∃ v, w.cell? ⟨b, base + j * z + c, none⟩ = some v ∧ v.oneCell' = true ∧ R ((es.getD j []).getD c .junk) v
def RowOk (w : World) (T : Nat → Prop) (ρ : Rho) (r : Nat) : Row → Prop
  | .sl ap z es => (es = [] ∧ True ∧ ρ r = some ⟨z, 0, none⟩) ∨ ∃ b base cur e, ρ r = some ⟨z, es.length, some (b, base)⟩ ∧ T b ∧ w.heap[b]? = some (Obj.cells cur e (0, 0)) ∧ base + es.length * z ≤ cur.size ∧ (ap = true → base = 0) ∧ RowAt w b base z es (Rv w T Rho.none)
  | .st cs => ∃ b base cur e, ρ r = some ⟨cs.length, 1, some (b, base)⟩ ∧ T b ∧ w.heap[b]? = some (Obj.cells cur e (0, 0)) ∧ base + cs.length ≤ cur.size ∧ RowAt w b base cs.length [cs] (Rv w T ρ)
  | .fsl z es => (es = [] ∧ ρ r = some ⟨z, 0, none⟩) ∨ ∃ b base, ρ r = some ⟨z, es.length, some (b, base)⟩ ∧ ¬ T b ∧ b < w.heap.size ∧ RowAt w b base z es (Rv w T Rho.none)
  | .fst cs => ∃ b base, ρ r = some ⟨cs.length, 1, some (b, base)⟩ ∧ ¬ T b ∧ b < w.heap.size ∧ RowAt w b base cs.length [cs] (Rv w T ρ)
  | .dead => True
theorem RowAt.mono {w w' : World} {b base z : Nat} {es : List (List AV)} {R R' : AV → Value → Prop} (h : RowAt w b base z es R) (hc : ∀ o, w'.cell? ⟨b, o, none⟩ = w.cell? ⟨b, o, none⟩) (hR : ∀ av v, R av v → R' av v) : RowAt w' b base z es R' := by
  refine ⟨h.len, fun j c hj hc' => ?_⟩
  obtain ⟨v, h1, h2, h3⟩ := h.cell j c hj hc'
  exact ⟨v, by rw [hc]; exact h1, h2, hR _ _ h3⟩
end Go.Pe
set_option linter.unusedVariables false
set_option linter.unusedSimpArgs false
namespace Go.Pe
open Go
def Row.live : Row → Bool
  | .sl _ _ _ | .st _ => true
  | _ => false
def Row.isAp : Row → Bool
  | .sl ap _ _ => ap
  | _ => false
structure Keeps (W : Nat → Nat → Prop) (w w' : World) : Prop where
  os : w'.os = w.os
  tape : w'.tape = w.tape
  output : w'.output = w.output
  size : w.heap.size ≤ w'.heap.size
  block : ∀ (b : Nat), b < w.heap.size → w'.heap[b]? = w.heap[b]? ∨ ∃ c c' e fr, w.heap[b]? = some (Obj.cells c e fr) ∧ w'.heap[b]? = some (Obj.cells c' e fr) ∧ c'.size = c.size ∧ ∀ o : Nat, ¬ W b o → c'[o]? = c[o]?
theorem Keeps.refl (W : Nat → Nat → Prop) (w : World) : Keeps W w w := ⟨rfl, rfl, rfl, Nat.le_refl _, fun _ _ => .inl rfl⟩
theorem Keeps.trans {W W' : Nat → Nat → Prop} {w w' w'' : World} (h : Keeps W w w') (k : Keeps W' w' w'') (hW : ∀ b o, b < w.heap.size → W' b o → W b o) : Keeps W w w'' := by
  refine ⟨k.os.trans h.os, k.tape.trans h.tape, k.output.trans h.output, Nat.le_trans h.size k.size, fun b hb => ?_⟩
  rcases h.block b hb with h1 | ⟨c, c', e, fr, h1, h2, h3, h4⟩
  · rcases k.block b (Nat.lt_of_lt_of_le hb h.size) with k1 | ⟨d, d', e', fr', k1, k2, k3, k4⟩
    · exact .inl (k1.trans h1)
    · exact .inr ⟨d, d', e', fr', h1.symm.trans k1, k2, k3, fun o ho => k4 o fun hw => ho (hW b o hb hw)⟩
  · rcases k.block b (Nat.lt_of_lt_of_le hb h.size) with k1 | ⟨d, d', e', fr', k1, k2, k3, k4⟩
    · exact .inr ⟨c, c', e, fr, h1, k1.trans h2, h3, h4⟩
    · rw [h2] at k1
      cases k1
      exact .inr ⟨c, d', _, _, h1, k2, k3.trans h3, fun o ho => (k4 o fun hw => ho (hW b o hb hw)).trans (h4 o ho)⟩
theorem Keeps.same {W : Nat → Nat → Prop} {T : Nat → Prop} {w w' : World} (h : Keeps W w w') (hW : ∀ b o, b < w.heap.size → W b o → T b) : Same T w w' := by
  refine ⟨h.size, fun b hb ht => ?_, fun b cur e fr hb => ?_⟩
  · rcases h.block b hb with h1 | ⟨c, c', e, fr, h1, h2, h3, h4⟩
    · exact h1
    · rw [h1, h2]
      have : c' = c := by
        apply Array.ext_getElem?
        intro o
        exact h4 o fun hw => ht (hW b o hb hw)
      rw [this]
  · rcases h.block b (lt_of_cells hb) with h1 | ⟨c, c', e', fr', h1, h2, h3, h4⟩
    · exact ⟨cur, h1.trans hb, rfl⟩
    · rw [hb] at h1
      cases h1
      exact ⟨c', h2, h3⟩
structure Old (w w' : World) : Prop where
  os : w'.os = w.os
  tape : w'.tape = w.tape
  output : w'.output = w.output
  size : w.heap.size ≤ w'.heap.size
  block : ∀ (b : Nat), b < w.heap.size → w'.heap[b]? = w.heap[b]?
theorem Old.refl (w : World) : Old w w := ⟨rfl, rfl, rfl, Nat.le_refl _, fun _ _ => rfl⟩
theorem Old.keeps {w w' : World} (h : Old w w') (W : Nat → Nat → Prop) : Keeps W w w' := ⟨h.os, h.tape, h.output, h.size, fun b hb => .inl (h.block b hb)⟩
theorem Old.same {w w' : World} (h : Old w w') (T : Nat → Prop) : Same T w w' := (h.keeps fun _ _ => False).same fun _ _ _ h => h.elim
theorem Old.cell {w w' : World} (h : Old w w') {b o : Nat} (hb : b < w.heap.size) : w'.cell? ⟨b, o, none⟩ = w.cell? ⟨b, o, none⟩ := by simp only [World.cell?, h.block b hb]
theorem Old.trans {w w' w'' : World} (h : Old w w') (k : Old w' w'') : Old w w'' := ⟨k.os.trans h.os, k.tape.trans h.tape, k.output.trans h.output, Nat.le_trans h.size k.size, fun b hb => (k.block b (Nat.lt_of_lt_of_le hb h.size)).trans (h.block b hb)⟩
theorem Old.alloc (w : World) (o : Obj) : Old w (w.alloc o) := ⟨rfl, rfl, rfl, by simp, fun b hb => Go.RowKit.Below.heap_alloc w o b hb⟩
theorem Old.drew (w : World) : Old w w.drew := ⟨rfl, rfl, rfl, Nat.le_refl _, fun _ _ => rfl⟩
theorem RowOk.inT {w : World} {T : Nat → Prop} {ρ : Rho} {r : Nat} {x : Row} (h : RowOk w T ρ r x) (hx : x.live = true) : ∀ p b base, ρ r = some p → p.loc = some (b, base) → T b := by
  intro p b base hp hl
  cases x with
  | sl ap z es =>
    rcases h with ⟨_, _, h⟩ | ⟨b', base', cur, e, h, ht, _⟩
    · rw [h] at hp; cases hp; cases hl
    · rw [h] at hp; cases hp; cases hl; exact ht
  | st cs =>
    obtain ⟨b', base', cur, e, h, ht, _⟩ := h
    rw [h] at hp; cases hp; cases hl; exact ht
  | fsl => cases hx
  | fst => cases hx
  | dead => cases hx
theorem RowOk.mono {w w' : World} {T T' : Nat → Prop} {ρ ρ' : Rho} {r : Nat} {x : Row} (h : RowOk w T ρ r x) (hs : Same T w w') (hT : ∀ b, b < w.heap.size → T' b → T b) (hρ : ∀ q p, ρ q = some p → ρ' q = some p)
    (hb : ∀ p b base, ρ r = some p → p.loc = some (b, base) → x.live = true → w'.heap[b]? = w.heap[b]? ∧ T' b) : RowOk w' T' ρ' r x := by
  have hR : ∀ av v, Rv w T Rho.none av v → Rv w' T' Rho.none av v := fun av v h => h.mono hs hT fun _ _ h => h
  have hR' : ∀ av v, Rv w T ρ av v → Rv w' T' ρ' av v := fun av v h => h.mono hs hT hρ
  cases x with
  | sl ap z es =>
    rcases h with ⟨h1, h2, h3⟩ | ⟨b, base, cur, e, h1, h2, h3, h4, h5, h6⟩
    · exact .inl ⟨h1, h2, hρ _ _ h3⟩
    · obtain ⟨k1, k2⟩ := hb _ _ _ h1 rfl rfl
      exact .inr ⟨b, base, cur, e, hρ _ _ h1, k2, k1.trans h3, h4, h5, h6.mono (fun o => by simp only [World.cell?, k1]) hR⟩
  | st cs =>
    obtain ⟨b, base, cur, e, h1, h2, h3, h4, h5⟩ := h
    obtain ⟨k1, k2⟩ := hb _ _ _ h1 rfl rfl
    exact ⟨b, base, cur, e, hρ _ _ h1, k2, k1.trans h3, h4, h5.mono (fun o => by simp only [World.cell?, k1]) hR'⟩
  | fsl z es =>
    rcases h with ⟨h1, h2⟩ | ⟨b, base, h1, h2, h3, h4⟩
    · exact .inl ⟨h1, hρ _ _ h2⟩
    · exact .inr ⟨b, base, hρ _ _ h1, fun h => h2 (hT b h3 h), Nat.lt_of_lt_of_le h3 hs.size, h4.mono (fun o => hs.cell h3 h2) hR⟩
  | fst cs =>
    obtain ⟨b, base, h1, h2, h3, h4⟩ := h
    exact ⟨b, base, hρ _ _ h1, fun h => h2 (hT b h3 h), Nat.lt_of_lt_of_le h3 hs.size, h4.mono (fun o => hs.cell h3 h2) hR'⟩
  | dead => trivial
structure Fr where
  w0 : World
  W0 : Nat → Nat → Prop
  T0 : Nat → Prop
  lids : List Nat
  pl0 : Nat → Pl
  tabs : List (Nat × List AV)
structure WInv (f : Fr) (w : World) (T : Nat → Prop) (ρ : Rho) (h : Heap) : Prop where
  keeps : Keeps f.W0 f.w0 w
  tlt : ∀ b, T b → b < w.heap.size
  rows : ∀ r x, h r = some x → RowOk w T ρ r x
  dom : ∀ r, h r = none → ρ r = none
  sep : ∀ r r' x x', r ≠ r' → h r = some x → h r' = some x' → x.live = true → x'.live = true → ∀ p p' b base b' base', ρ r = some p → ρ r' = some p' → p.loc = some (b, base) → p'.loc = some (b', base') → b ≠ b'
  wr : ∀ r x p b base, h r = some x → x.live = true → ρ r = some p → p.loc = some (b, base) → f.w0.heap.size ≤ b ∨ ((∀ o, base ≤ o → o < base + p.n * p.z → f.W0 b o) ∧ (x.isAp = true → ∀ o, f.W0 b o))
  t0 : ∀ b, f.T0 b → T b ∨ ∃ r ∈ f.lids, ∀ x, h r = some x → x.live = false
  lp : ∀ r ∈ f.lids, ρ r = some (f.pl0 r)
  own : ∀ r x p b base, r ∉ f.lids → h r = some x → x.live = true → ρ r = some p → p.loc = some (b, base) → f.w0.heap.size ≤ b
  t0lt : ∀ b, f.T0 b → b < f.w0.heap.size
  la : ∀ r ∈ f.lids, ∀ x, h r = some x → x.isAp = false
  tab : ∀ p ∈ f.tabs, Rv w T Rho.none (.tp p.2 0) (.pointer (some ⟨p.1, 0, none⟩))
structure Goes (w w' : World) (T T' : Nat → Prop) (ρ ρ' : Rho) : Prop where
  same : Same T w w'
  less : ∀ b, b < w.heap.size → T' b → T b
  more : ∀ r p, ρ r = some p → ρ' r = some p
theorem Goes.refl (w : World) (T : Nat → Prop) (ρ : Rho) : Goes w w T T ρ ρ := ⟨Same.refl _ _, fun _ _ h => h, fun _ _ h => h⟩
theorem Goes.rv {w w' : World} {T T' : Nat → Prop} {ρ ρ' : Rho} (g : Goes w w' T T' ρ ρ') {av : AV} {v : Value} (h : Rv w T ρ av v) : Rv w' T' ρ' av v := h.mono g.same g.less g.more
theorem Goes.rv0 {w w' : World} {T T' : Nat → Prop} {ρ ρ' : Rho} (g : Goes w w' T T' ρ ρ') {av : AV} {v : Value} (h : Rv w T Rho.none av v) : Rv w' T' Rho.none av v := h.mono g.same g.less fun _ _ h => h
theorem Goes.trans {w w' w'' : World} {T T' T'' : Nat → Prop} {ρ ρ' ρ'' : Rho} (h : Goes w w' T T' ρ ρ') (k : Goes w' w'' T' T'' ρ' ρ'') : Goes w w'' T T'' ρ ρ'' := by
  refine ⟨⟨Nat.le_trans h.same.size k.same.size, fun b hb ht => ?_, fun b cur e fr hb => ?_⟩, fun b hb ht => h.less b hb (k.less b (Nat.lt_of_lt_of_le hb h.same.size) ht), fun r p hp => k.more r p (h.more r p hp)⟩
  · rw [k.same.same b (Nat.lt_of_lt_of_le hb h.same.size) (fun h' => ht (h.less b hb h')), h.same.same b hb ht]
  · obtain ⟨c1, h1, s1⟩ := h.same.shape b cur e fr hb
    obtain ⟨c2, h2, s2⟩ := k.same.shape b c1 e fr h1
    exact ⟨c2, h2, s2.trans s1⟩
section
variable {f : Fr} {w : World} {T : Nat → Prop} {ρ : Rho} {h : Heap}
theorem WInv.old (k : WInv f w T ρ h) {w' : World} (ho : Old w w') : WInv f w' T ρ h := by
  refine ⟨k.keeps.trans (ho.keeps fun _ _ => False) (fun _ _ _ h => h.elim), fun b hb => Nat.lt_of_lt_of_le (k.tlt b hb) ho.size, fun r x hx => ?_, k.dom, k.sep, k.wr, k.t0, k.lp, k.own, k.t0lt, k.la, fun p hp => (k.tab p hp).mono (ho.same T) (fun _ _ h => h) fun _ _ h => h⟩
  exact (k.rows r x hx).mono (ho.same T) (fun _ _ h => h) (fun _ _ h => h) fun p b base hp hl hlv => ⟨ho.block b (k.tlt b ((k.rows r x hx).inT hlv p b base hp hl)), (k.rows r x hx).inT hlv p b base hp hl⟩
theorem Goes.old {w' : World} (ho : Old w w') : Goes w w' T T ρ ρ := ⟨ho.same T, fun _ _ h => h, fun _ _ h => h⟩
theorem WInv.new' (k : WInv f w T ρ h) {w' : World} (ho : Old w w') {id : Nat} (hid : h id = none) {x : Row} {z n base : Nat} (hsz : w.heap.size < w'.heap.size)
    {b : Nat} (hb : w.heap.size ≤ b) (hb' : b < w'.heap.size)
    (hx : RowOk w' (fun a => T a ∨ a = b) (fun r => if r = id then some ⟨z, n, some (b, base)⟩ else ρ r) id x) :
    WInv f w' (fun a => T a ∨ a = b) (fun r => if r = id then some ⟨z, n, some (b, base)⟩ else ρ r) (h.put id x) ∧ Goes w w' T (fun a => T a ∨ a = b) ρ (fun r => if r = id then some ⟨z, n, some (b, base)⟩ else ρ r) := by
  have more : ∀ r p, ρ r = some p → (if r = id then some ⟨z, n, some (b, base)⟩ else ρ r) = some p := by
    intro r p hp
    split
    · rename_i hr
      subst hr
      rw [k.dom _ hid] at hp
      cases hp
    · exact hp
  have less : ∀ a, a < w.heap.size → (T a ∨ a = b) → T a := fun a ha ht => ht.elim (fun h => h) fun e => by omega
  refine ⟨⟨k.keeps.trans (ho.keeps fun _ _ => False) (fun _ _ _ h => h.elim), ?_, ?_, ?_, ?_, ?_, ?_, ?_, ?_, k.t0lt, fun r hr y hy => by
    simp only [Heap.put] at hy
    split at hy
    · rename_i e
      subst e
      have := k.lp r hr
      rw [k.dom r hid] at this
      cases this
    · exact k.la r hr y hy, fun p hp => (k.tab p hp).mono (ho.same T) less fun _ _ h => h⟩, ho.same T, less, more⟩
  · rintro a (ha | rfl)
    · exact Nat.lt_of_lt_of_le (k.tlt a ha) ho.size
    · exact hb'
  · intro r y hy
    simp only [Heap.put] at hy
    split at hy
    · rename_i hr
      subst hr
      cases hy
      exact hx
    · rename_i hr
      exact (k.rows r y hy).mono (ho.same T) less more fun p b base hp hl hlv => ⟨ho.block b (k.tlt b ((k.rows r y hy).inT hlv p b base hp hl)), .inl ((k.rows r y hy).inT hlv p b base hp hl)⟩
  · intro r hr
    simp only [Heap.put] at hr
    split at hr
    · cases hr
    · rename_i hne
      simp only [hne, if_false]
      exact k.dom r hr
  · intro r r' y y' hne hy hy' hl hl' p p' c base c' base' hp hp' hc hc'
    simp only [Heap.put] at hy hy'
    by_cases h1 : r = id
    · by_cases h2 : r' = id
      · exact absurd (h1.trans h2.symm) hne
      · rw [if_pos h1] at hp
        cases hp
        cases hc
        rw [if_neg h2] at hp' hy'
        have := k.tlt c' ((k.rows r' y' hy').inT hl' p' c' base' hp' hc')
        omega
    · by_cases h2 : r' = id
      · rw [if_pos h2] at hp'
        cases hp'
        cases hc'
        rw [if_neg h1] at hp hy
        have := k.tlt c ((k.rows r y hy).inT hl p c base hp hc)
        omega
      · rw [if_neg h1] at hp hy
        rw [if_neg h2] at hp' hy'
        exact k.sep r r' y y' hne hy hy' hl hl' p p' c base c' base' hp hp' hc hc'
  · intro r y p c base hy hl hp hc
    simp only [Heap.put] at hy
    by_cases h1 : r = id
    · rw [if_pos h1] at hp
      cases hp
      cases hc
      have := k.keeps.size
      exact .inl (by omega)
    · rw [if_neg h1] at hp hy
      exact k.wr r y p c base hy hl hp hc
  · intro a ha
    rcases k.t0 a ha with h1 | ⟨r, hr, hx⟩
    · exact .inl (.inl h1)
    · refine .inr ⟨r, hr, fun x hx' => ?_⟩
      simp only [Heap.put] at hx'
      split at hx'
      · rename_i e
        subst e
        have := k.lp r hr
        rw [k.dom r hid] at this
        cases this
      · exact hx x hx'
  · intro r hr
    exact more _ _ (k.lp r hr)
  · intro r y p c base hr hy hl hp hc
    simp only [Heap.put] at hy
    by_cases h1 : r = id
    · rw [if_pos h1] at hp
      cases hp
      cases hc
      have h2 := k.keeps.size
      omega
    · rw [if_neg h1] at hp hy
      exact k.own r y p c base hr hy hl hp hc
theorem WInv.new (k : WInv f w T ρ h) {w' : World} (ho : Old w w') {id : Nat} (hid : h id = none) {x : Row} {z n base : Nat} (hsz : w.heap.size < w'.heap.size)
    {b : Nat} (hb : w.heap.size ≤ b) (hb' : b < w'.heap.size)
    (hx : ∀ T' ρ', T' b → (∀ a, a < w.heap.size → T' a → T a) → (∀ r p, ρ r = some p → ρ' r = some p) → ρ' id = some ⟨z, n, some (b, base)⟩ → RowOk w' T' ρ' id x) :
    WInv f w' (fun a => T a ∨ a = b) (fun r => if r = id then some ⟨z, n, some (b, base)⟩ else ρ r) (h.put id x) ∧ Goes w w' T (fun a => T a ∨ a = b) ρ (fun r => if r = id then some ⟨z, n, some (b, base)⟩ else ρ r) := by
  refine k.new' ho hid hsz hb hb' (hx _ _ (.inr rfl) (fun a ha ht => ht.elim (fun h => h) fun e => by omega) (fun r p hp => ?_) (if_pos rfl))
  show (if r = id then some (⟨z, n, some (b, base)⟩ : Pl) else ρ r) = some p
  split
  · rename_i hr
    subst hr
    rw [k.dom _ hid] at hp
    cases hp
  · exact hp
end
end Go.Pe
set_option linter.unusedVariables false
set_option linter.unusedSimpArgs false
namespace Go.Pe
open Go
def rowBlk (h : Heap) (ρ : Rho) (r b : Nat) : Prop := ∃ x p base, h r = some x ∧ x.live = true ∧ ρ r = some p ∧ p.loc = some (b, base)
theorem freeze_live {x : Row} : x.freeze.live = false := by cases x <;> rfl
section
variable {f : Fr} {w : World} {T : Nat → Prop} {ρ : Rho} {h : Heap}
theorem WInv.freeze1 (k : WInv f w T ρ h) (r : Nat) :
    WInv f w (fun b => T b ∧ ¬ rowBlk h ρ r b) ρ (fun q => if q = r then (h q).map Row.freeze else h q) ∧ Goes w w T (fun b => T b ∧ ¬ rowBlk h ρ r b) ρ ρ := by
  have less : ∀ b, b < w.heap.size → (T b ∧ ¬ rowBlk h ρ r b) → T b := fun b _ hb => hb.1
  have hmap : ∀ q x, (if q = r then (h q).map Row.freeze else h q) = some x → (q ≠ r ∧ h q = some x) ∨ (q = r ∧ ∃ y, h r = some y ∧ x = y.freeze) := by
    intro q x hx
    split at hx
    · rename_i hq
      subst hq
      cases hy : h q with
      | none => rw [hy] at hx; cases hx
      | some y => rw [hy] at hx; exact .inr ⟨rfl, y, rfl, (Option.some.inj hx).symm⟩
    · rename_i hq
      exact .inl ⟨hq, hx⟩
  have hlive : ∀ q x, (if q = r then (h q).map Row.freeze else h q) = some x → x.live = true → q ≠ r ∧ h q = some x := by
    intro q x hx hl
    rcases hmap q x hx with h1 | ⟨_, y, _, rfl⟩
    · exact h1
    · rw [freeze_live] at hl
      cases hl
  refine ⟨⟨k.keeps, fun b hb => k.tlt b hb.1, ?_, ?_, ?_, ?_, ?_, k.lp, ?_, k.t0lt, fun q hq x hx => by
    rcases hmap q x hx with ⟨_, h1⟩ | ⟨_, y, _, rfl⟩
    · exact k.la q hq x h1
    · cases y <;> rfl, fun p hp => (k.tab p hp).mono (Same.refl _ _) less fun _ _ h => h⟩, Same.refl _ _, less, fun _ _ h => h⟩
  · intro q x hx
    rcases hmap q x hx with ⟨hq, hy⟩ | ⟨rfl, y, hy, rfl⟩
    · refine (k.rows q x hy).mono (Same.refl _ _) less (fun _ _ h => h) fun p b base hp hl hlv => ⟨rfl, (k.rows q x hy).inT hlv p b base hp hl, ?_⟩
      rintro ⟨z, p', base', hz, hzl, hp', hl'⟩
      exact k.sep q r x z hq hy hz hlv hzl p p' b base b base' hp hp' hl hl' rfl
    · have hR : ∀ av v, Rv w T Rho.none av v → Rv w (fun b => T b ∧ ¬ rowBlk h ρ q b) Rho.none av v := fun av v hh => hh.mono (Same.refl _ _) less fun _ _ h => h
      have hR' : ∀ av v, Rv w T ρ av v → Rv w (fun b => T b ∧ ¬ rowBlk h ρ q b) ρ av v := fun av v hh => hh.mono (Same.refl _ _) less fun _ _ h => h
      have ok := k.rows q y hy
      cases y with
      | sl ap z es =>
        rcases ok with ⟨h1, h2, h3⟩ | ⟨b, base, cur, e, h1, h2, h3, h4, h5, h6⟩
        · exact .inl ⟨h1, h3⟩
        · exact .inr ⟨b, base, h1, fun hh => hh.2 ⟨_, _, _, hy, rfl, h1, rfl⟩, lt_of_cells h3, h6.mono (fun _ => rfl) hR⟩
      | st cs =>
        obtain ⟨b, base, cur, e, h1, h2, h3, h4, h5⟩ := ok
        exact ⟨b, base, h1, fun hh => hh.2 ⟨_, _, _, hy, rfl, h1, rfl⟩, lt_of_cells h3, h5.mono (fun _ => rfl) hR'⟩
      | fsl z es => exact ok.mono (Same.refl _ _) less (fun _ _ h => h) fun _ _ _ _ _ h => by cases h
      | fst cs => exact ok.mono (Same.refl _ _) less (fun _ _ h => h) fun _ _ _ _ _ h => by cases h
      | dead => trivial
  · intro q hq
    split at hq
    · rename_i e
      subst e
      cases hy : h q with
      | none => exact k.dom q hy
      | some y => rw [hy] at hq; cases hq
    · exact k.dom q hq
  · intro q q' x x' hne hx hx' hl hl'
    obtain ⟨_, h1⟩ := hlive q x hx hl
    obtain ⟨_, h2⟩ := hlive q' x' hx' hl'
    exact k.sep q q' x x' hne h1 h2 hl hl'
  · intro q x p b base hx hl
    obtain ⟨_, h1⟩ := hlive q x hx hl
    exact k.wr q x p b base h1 hl
  · intro b hb
    rcases k.t0 b hb with h1 | ⟨q, hq, hx⟩
    · by_cases hr : rowBlk h ρ r b
      · obtain ⟨x, p, base, hx, hl, hp, hloc⟩ := hr
        by_cases hm : r ∈ f.lids
        · refine .inr ⟨r, hm, fun y hy => ?_⟩
          rcases hmap r y hy with ⟨h2, _⟩ | ⟨_, y', _, rfl⟩
          · exact absurd rfl h2
          · exact freeze_live
        · exact absurd (k.t0lt b hb) (Nat.not_lt.2 (k.own r x p b base hm hx hl hp hloc))
      · exact .inl ⟨h1, hr⟩
    · refine .inr ⟨q, hq, fun y hy => ?_⟩
      rcases hmap q y hy with ⟨_, h2⟩ | ⟨_, y', _, rfl⟩
      · exact hx y h2
      · exact freeze_live
  · intro q x p b base hq hx hl
    obtain ⟨_, h1⟩ := hlive q x hx hl
    exact k.own q x p b base hq h1 hl
theorem freeze_none {rs : List Nat} {q : Nat} : (h.freeze rs) q = none ↔ h q = none := by
  induction rs with
  | nil => exact Iff.rfl
  | cons r rs ih =>
    simp only [Heap.freeze]
    split
    · simp only [Option.map_eq_none_iff, ih]
    · exact ih
theorem freeze_live' {rs : List Nat} {q : Nat} {x : Row} (hx : (h.freeze rs) q = some x) (hl : x.live = true) : h q = some x ∧ q ∉ rs := by
  induction rs generalizing x with
  | nil => exact ⟨hx, by simp⟩
  | cons r rs ih =>
    simp only [Heap.freeze] at hx
    split at hx
    · cases hy : h.freeze rs q with
      | none => rw [hy] at hx; cases hx
      | some y =>
        rw [hy] at hx
        cases hx
        rw [freeze_live] at hl
        cases hl
    · rename_i hne
      obtain ⟨h1, h2⟩ := ih hx hl
      exact ⟨h1, by simp [hne, h2]⟩
theorem WInv.freeze (k : WInv f w T ρ h) (rs : List Nat) : ∃ T', WInv f w T' ρ (h.freeze rs) ∧ Goes w w T T' ρ ρ ∧ (∀ r ∈ rs, ∀ b, rowBlk h ρ r b → ¬ T' b) ∧ ∀ b, T b → T' b ∨ ∃ r ∈ rs, rowBlk h ρ r b := by
  induction rs with
  | nil => exact ⟨T, k, Goes.refl _ _ _, fun r hr => (by cases hr), fun b hb => .inl hb⟩
  | cons r rs ih =>
    obtain ⟨T1, k1, g1, h1, h1'⟩ := ih
    obtain ⟨k2, g2⟩ := k1.freeze1 r
    refine ⟨_, k2, g1.trans g2, fun q hq b hb => ?_, fun b hb => ?_⟩
    rotate_left
    · rcases h1' b hb with h2 | ⟨q, hq, hqb⟩
      · by_cases hr : rowBlk (h.freeze rs) ρ r b
        · obtain ⟨x, p, base, hx, hl, hp, hloc⟩ := hr
          exact .inr ⟨r, List.mem_cons_self, x, p, base, (freeze_live' hx hl).1, hl, hp, hloc⟩
        · exact .inl ⟨h2, hr⟩
      · exact .inr ⟨q, List.mem_cons_of_mem _ hq, hqb⟩
    rcases List.mem_cons.1 hq with rfl | hq
    · rintro ⟨t1, t2⟩
      obtain ⟨x, p, base, hx, hl, hp, hloc⟩ := hb
      cases hy : h.freeze rs q with
      | none => rw [freeze_none] at hy; rw [hx] at hy; cases hy
      | some y =>
        by_cases hyl : y.live = true
        · exact t2 ⟨y, p, base, hy, hyl, hp, hloc⟩
        · -- it was frozen before
          have hmem : q ∈ rs := by
            by_cases hm : q ∈ rs
            · exact hm
            · have : ∀ rs : List Nat, q ∉ rs → h.freeze rs q = h q := by
                intro rs
                induction rs with
                | nil => intro _; rfl
                | cons a rs ih =>
                  intro hm
                  simp only [Heap.freeze]
                  rw [if_neg (fun e => hm (by rw [e]; exact List.mem_cons_self))]
                  exact ih fun hh => hm (List.mem_cons_of_mem _ hh)
              rw [this rs hm, hx] at hy
              cases hy
              exact absurd hl hyl
          exact h1 q hmem b ⟨x, p, base, hx, hl, hp, hloc⟩ t1
    · exact fun ht => h1 q hq b hb ht.1
end
theorem getD_drop_take {α : Type} (es : List α) (o n j : Nat) (d : α) (hj : j < n) : ((es.drop o).take n).getD j d = es.getD (o + j) d := by
  simp only [List.getD_eq_getElem?_getD]
  rw [List.getElem?_take_of_lt hj, List.getElem?_drop]
theorem getD_map_lt {α β : Type} (f : α → β) (l : List α) (j : Nat) (d : β) (d' : α) (hj : j < l.length) : (l.map f).getD j d = f (l.getD j d') := by
  simp only [List.getD_eq_getElem?_getD, List.getElem?_map, List.getElem?_eq_getElem hj]
  rfl
section
variable {w : World} {T T' : Nat → Prop} {ρ : Rho} {h : Heap}
theorem Rv.less {av : AV} {v : Value} (k : Rv w T ρ av v) (hT : ∀ b, b < w.heap.size → T' b → T b) : Rv w T' ρ av v := k.mono (Same.refl _ _) hT fun _ _ h => h
theorem Rv.any {av : AV} {v : Value} (k : Rv w T Rho.none av v) : Rv w T ρ av v := k.mono (Same.refl _ _) (fun _ _ h => h) fun _ _ h => by cases h
theorem tell_win {b base z : Nat} {es : List (List AV)} {o n cap : Nat} (hT : ¬ T' b) (hb : b < w.heap.size) (hless : ∀ b, b < w.heap.size → T' b → T b) (hr : RowAt w b base z es (Rv w T Rho.none)) (hn : o + n ≤ es.length) (hc : n ≤ cap) (hm : cap ≤ maxLen) :
    Rv w T' Rho.none (.l z ((es.drop o).take n)) (.slice (some ⟨b, base + o * z, none⟩) n cap) := by
  have hl : ((es.drop o).take n).length = n := by rw [List.length_take, List.length_drop]; omega
  have key : ∀ j c, base + o * z + j * z + c = base + (o + j) * z + c := by intro j c; rw [Nat.add_mul]; omega
  have := Rv.l (w := w) (T := T') (ρ := Rho.none) (z := z) (es := (es.drop o).take n) (b := b) (base := base + o * z) (cap := cap) (fun j c => (w.cell? ⟨b, base + o * z + j * z + c, none⟩).getD undef) hT hb (by rw [hl]; exact hc) hm
    (fun j hj => by
      rw [hl] at hj
      rw [getD_drop_take _ _ _ _ _ hj]
      exact hr.len _ (by omega))
    (fun j c hj hc => by
      rw [hl] at hj
      obtain ⟨v, h1, h2, h3⟩ := hr.cell (o + j) c (by omega) hc
      rw [key, h1]
      exact ⟨rfl, h2⟩)
    (fun j c hj hc => by
      rw [hl] at hj
      obtain ⟨v, h1, h2, h3⟩ := hr.cell (o + j) c (by omega) hc
      rw [getD_drop_take _ _ _ _ _ hj, key, h1]
      exact h3.less hless)
  rw [hl] at this
  exact this
theorem tell0_none {av : AV} {v : Value} (k : Rv w T Rho.none av v) : Rv w T Rho.none (tell0 h av) v := by
  cases k with
  | ns => exact .lnil0
  | sl hr => cases hr
  | slz hr => cases hr
  | slnil hr => cases hr
  | p hr => cases hr
  | junk => exact .junk
  | b => exact .b
  | i => exact .i
  | s => exact .s
  | np => exact .np
  | lnil ha hm => exact .lnil ha hm
  | l g hT hb hc hm hz hcell hv => exact .l g hT hb hc hm hz hcell hv
  | tp g hT hb hcell hv => exact .tp g hT hb hcell hv
  | agg vs hl h1 hv => exact .agg vs hl h1 hv
  | tup vs hl hv => exact .tup vs hl hv
theorem tell0_rv (hrows : ∀ r x, h r = some x → RowOk w T ρ r x) (hless : ∀ b, b < w.heap.size → T' b → T b) {av : AV} {v : Value} (k : Rv w T ρ av v) (hr : ∀ r ∈ ref0 av, ∀ b, rowBlk h ρ r b → ¬ T' b) :
    (∀ r e o, av ≠ .p r e o) → (∀ cs, av ≠ .agg cs) → (∀ cs, av ≠ .tup cs) → Rv w T' Rho.none (tell0 h av) v := by
  intro n1 n2 n3
  cases k with
  | ns => exact .lnil0
  | p => exact absurd rfl (n1 _ _ _)
  | agg => exact absurd rfl (n2 _)
  | tup => exact absurd rfl (n3 _)
  | junk => exact .junk
  | b => exact .b
  | i => exact .i
  | s => exact .s
  | np => exact .np
  | lnil ha hm => exact .lnil ha hm
  | l g hT hb hc hm hz hcell hv => exact (Rv.l g hT hb hc hm hz hcell hv : Rv w T Rho.none _ _).less hless
  | tp g hT hb hcell hv => exact (Rv.tp g hT hb hcell hv : Rv w T Rho.none _ _).less hless
  | @sl _ r z o n m b base cap h1 hn hc hm hs =>
    simp only [tell0]
    cases hx : h r with
    | none => exact .junk
    | some x =>
      have ok := hrows r x hx
      cases x with
      | sl ap z' es =>
        rcases ok with ⟨_, _, h3⟩ | ⟨b', base', cur, e, h3, h4, h5, h6, h7, h8⟩
        · rw [h1] at h3; cases h3
        · rw [h1] at h3
          cases h3
          exact tell_win (hr r List.mem_cons_self b ⟨_, _, _, hx, rfl, h1, rfl⟩) (lt_of_cells h5) hless h8 hn hc hm
      | fsl z' es =>
        rcases ok with ⟨_, h3⟩ | ⟨b', base', h3, h4, h5, h6⟩
        · rw [h1] at h3; cases h3
        · rw [h1] at h3
          cases h3
          exact tell_win (fun ht => h4 (hless b h5 ht)) h5 hless h6 hn hc hm
      | st cs => exact .junk
      | fst cs => exact .junk
      | dead => exact .junk
  | @slz _ r z o m b base off h1 hn =>
    simp only [tell0]
    cases hx : h r with
    | none => exact .junk
    | some x =>
      have ok := hrows r x hx
      have mk : ∀ es : List (List AV), ¬ T' b → b < w.heap.size → Rv w T' Rho.none (.l z ((es.drop o).take 0)) (.slice (some ⟨b, off, none⟩) 0 0) := by
        intro es ht hb
        rw [List.take_zero]
        exact Rv.l (es := []) (fun _ _ => undef) ht hb (Nat.zero_le _) (Nat.zero_le _) (fun j hj => by cases hj) (fun j c hj => by cases hj) (fun j c hj => by cases hj)
      cases x with
      | sl ap z' es =>
        rcases ok with ⟨_, _, h3⟩ | ⟨b', base', cur, e, h3, h4, h5, h6, h7, h8⟩
        · rw [h1] at h3; cases h3
        · rw [h1] at h3
          cases h3
          exact mk es (hr r List.mem_cons_self b ⟨_, _, _, hx, rfl, h1, rfl⟩) (lt_of_cells h5)
      | fsl z' es =>
        rcases ok with ⟨_, h3⟩ | ⟨b', base', h3, h4, h5, h6⟩
        · rw [h1] at h3; cases h3
        · rw [h1] at h3
          cases h3
          exact mk es (fun ht => h4 (hless b h5 ht)) h5
      | st cs => exact .junk
      | fst cs => exact .junk
      | dead => exact .junk
  | @slnil _ r z h1 =>
    simp only [tell0]
    cases hx : h r with
    | none => exact .junk
    | some x =>
      cases x with
      | sl ap z' es => simp only [Option.bind_some, Row.win, List.drop_zero, List.take_zero]; exact .lnil0
      | fsl z' es => simp only [Option.bind_some, Row.win, List.drop_zero, List.take_zero]; exact .lnil0
      | st cs => exact .junk
      | fst cs => exact .junk
      | dead => exact .junk
end
end Go.Pe
set_option linter.unusedVariables false
set_option linter.unusedSimpArgs false
namespace Go.Pe
open Go
section
variable {w : World} {T T' : Nat → Prop} {ρ : Rho} {h : Heap}
theorem tell_cells {b base : Nat} {cs : List AV} {o : Nat} (hT : ¬ T' b) (hb : b < w.heap.size)
    (hc : ∀ c, c < cs.length → ∃ v, w.cell? ⟨b, base + c, none⟩ = some v ∧ v.oneCell' = true ∧ Rv w T' Rho.none (tell0 h (cs.getD c .junk)) v) :
    Rv w T' Rho.none (.tp (cs.map (tell0 h)) o) (.pointer (some ⟨b, base + o, none⟩)) := by
  refine Rv.tp (fun c => (w.cell? ⟨b, base + c, none⟩).getD undef) hT hb (fun c h1 => ?_) (fun c h1 => ?_)
  · rw [List.length_map] at h1
    obtain ⟨v, h2, h3, h4⟩ := hc c h1
    rw [h2]
    exact ⟨rfl, h3⟩
  · rw [List.length_map] at h1
    obtain ⟨v, h2, h3, h4⟩ := hc c h1
    rw [getD_map_lt (tell0 h) cs c .junk .junk h1, h2]
    exact h4
theorem tell0_cell (hrows : ∀ r x, h r = some x → RowOk w T ρ r x) (hless : ∀ b, b < w.heap.size → T' b → T b) {av : AV} {v : Value} (h1 : v.oneCell' = true) (k : Rv w T ρ av v) (hr : ∀ r ∈ ref0 av, ∀ b, rowBlk h ρ r b → ¬ T' b) : Rv w T' Rho.none (tell0 h av) v := by
  cases k with
  | p => exact .junk
  | agg vs hl => cases h1
  | tup vs hl => cases h1
  | junk => exact .junk
  | b => exact .b
  | i => exact .i
  | s => exact .s
  | np => exact .np
  | ns => exact .lnil0
  | lnil ha hm => exact .lnil ha hm
  | l g hT hb hc hm hz hcell hv => exact (Rv.l g hT hb hc hm hz hcell hv : Rv w T Rho.none _ _).less hless
  | tp g hT hb hcell hv => exact (Rv.tp g hT hb hcell hv : Rv w T Rho.none _ _).less hless
  | sl hr' hn hc hm hs => exact tell0_rv hrows hless (.sl hr' hn hc hm hs) hr (by intros; simp) (by intros; simp) (by intros; simp)
  | slz hr' hn => exact tell0_rv hrows hless (.slz hr' hn) hr (by intros; simp) (by intros; simp) (by intros; simp)
  | slnil hr' => exact tell0_rv hrows hless (.slnil hr') hr (by intros; simp) (by intros; simp) (by intros; simp)
theorem tellC_rv (hrows : ∀ r x, h r = some x → RowOk w T ρ r x) (hless : ∀ b, b < w.heap.size → T' b → T b) {av : AV} {v : Value} (k : Rv w T ρ av v) (hr : ∀ r ∈ refC h av, ∀ b, rowBlk h ρ r b → ¬ T' b) (n2 : ∀ cs, av ≠ .agg cs) (n3 : ∀ cs, av ≠ .tup cs) :
    Rv w T' Rho.none (tellC h av) v := by
  cases k with
  | @p _ r e o z m b base h1 =>
    simp only [tellC]
    cases hx : h r with
    | none => exact .junk
    | some x =>
      have ok := hrows r x hx
      have hblk : x.live = true → ¬ T' b := fun hl => hr r List.mem_cons_self b ⟨x, _, _, hx, hl, h1, rfl⟩
      have hsl : ∀ z' (es : List (List AV)) cs, es[e]? = some cs → z' = z → RowAt w b base z' es (Rv w T Rho.none) → ¬ T' b → b < w.heap.size → Rv w T' Rho.none (.tp (cs.map (tell0 h)) o) (.pointer (some ⟨b, base + e * z + o, none⟩)) := by
        intro z' es cs he hz hra ht hb
        subst hz
        have hlt : e < es.length := by
          rcases Nat.lt_or_ge e es.length with h2 | h2
          · exact h2
          · rw [List.getElem?_eq_none h2] at he; cases he
        have hcs : es.getD e [] = cs := by rw [List.getD_eq_getElem?_getD, he]; rfl
        refine tell_cells ht hb fun c hc => ?_
        have hlen := hra.len e hlt
        rw [hcs] at hlen
        obtain ⟨v, h2, h3, h4⟩ := hra.cell e c hlt (by omega)
        rw [hcs] at h4
        exact ⟨v, h2, h3, tell0_none (h4.less hless)⟩
      have hst : ∀ cs, e = 0 → RowAt w b base cs.length [cs] (Rv w T ρ) → (∀ r' ∈ cs.flatMap ref0, ∀ b, rowBlk h ρ r' b → ¬ T' b) → ¬ T' b → b < w.heap.size → Rv w T' Rho.none (.tp (cs.map (tell0 h)) o) (.pointer (some ⟨b, base + e * z + o, none⟩)) := by
        intro cs he hra hrr ht hb
        subst he
        rw [Nat.zero_mul, Nat.add_zero]
        refine tell_cells ht hb fun c hc => ?_
        obtain ⟨v, h2, h3, h4⟩ := hra.cell 0 c (by simp) hc
        rw [Nat.zero_mul, Nat.add_zero] at h2
        refine ⟨v, h2, h3, tell0_cell hrows hless h3 h4 fun r' hr' => hrr r' ?_⟩
        rw [List.mem_flatMap]
        refine ⟨_, ?_, hr'⟩
        show cs.getD c .junk ∈ cs
        rw [List.getD_eq_getElem?_getD, List.getElem?_eq_getElem hc]
        exact List.getElem_mem hc
      cases x with
      | sl ap z' es =>
        simp only [Option.bind_some, Row.at]
        cases he : es[e]? with
        | none => exact .junk
        | some cs =>
          rcases ok with ⟨h2, _, _⟩ | ⟨b', base', cur, e', h3, h4, h5, h6, h7, h8⟩
          · subst h2; cases he
          · rw [h1] at h3
            cases h3
            exact hsl z es cs he rfl h8 (hblk rfl) (lt_of_cells h5)
      | fsl z' es =>
        simp only [Option.bind_some, Row.at]
        cases he : es[e]? with
        | none => exact .junk
        | some cs =>
          rcases ok with ⟨h2, _⟩ | ⟨b', base', h3, h4, h5, h6⟩
          · subst h2; cases he
          · rw [h1] at h3
            cases h3
            exact hsl z es cs he rfl h6 (fun ht => h4 (hless b h5 ht)) h5
      | st cs =>
        simp only [Option.bind_some, Row.at]
        by_cases he : e = 0
        · rw [if_pos he]
          obtain ⟨b', base', cur, e', h3, h4, h5, h6, h7⟩ := ok
          rw [h1] at h3
          cases h3
          refine hst cs he h7 (fun r' hr' => hr r' ?_) (hblk rfl) (lt_of_cells h5)
          simp only [refC, hx, Option.bind_some, Row.at, if_pos he]
          exact List.mem_cons_of_mem _ hr'
        · rw [if_neg he]; exact .junk
      | fst cs =>
        simp only [Option.bind_some, Row.at]
        by_cases he : e = 0
        · rw [if_pos he]
          obtain ⟨b', base', h3, h4, h5, h6⟩ := ok
          rw [h1] at h3
          cases h3
          refine hst cs he h6 (fun r' hr' => hr r' ?_) (fun ht => h4 (hless b h5 ht)) h5
          simp only [refC, hx, Option.bind_some, Row.at, if_pos he]
          exact List.mem_cons_of_mem _ hr'
        · rw [if_neg he]; exact .junk
      | dead => exact .junk
  | agg => exact absurd rfl (n2 _)
  | tup => exact absurd rfl (n3 _)
  | junk => exact .junk
  | b => exact .b
  | i => exact .i
  | s => exact .s
  | np => exact .np
  | ns => exact .lnil0
  | lnil ha hm => exact .lnil ha hm
  | l g hT hb hc hm hz hcell hv => exact (Rv.l g hT hb hc hm hz hcell hv : Rv w T Rho.none _ _).less hless
  | tp g hT hb hcell hv => exact (Rv.tp g hT hb hcell hv : Rv w T Rho.none _ _).less hless
  | sl hr' hn hc hm hs => exact tell0_rv hrows hless (.sl hr' hn hc hm hs) hr (by intros; simp) (by intros; simp) (by intros; simp)
  | slz hr' hn => exact tell0_rv hrows hless (.slz hr' hn) hr (by intros; simp) (by intros; simp) (by intros; simp)
  | slnil hr' => exact tell0_rv hrows hless (.slnil hr') hr (by intros; simp) (by intros; simp) (by intros; simp)
theorem getD_mem {α : Type} {l : List α} {c : Nat} (d : α) (hc : c < l.length) : l.getD c d ∈ l := by
  rw [List.getD_eq_getElem?_getD, List.getElem?_eq_getElem hc]
  exact List.getElem_mem hc
theorem one_of_cell {av : AV} {v : Value} (k : Rv w T ρ av v) (h1 : v.oneCell' = true) : (∀ cs, av ≠ .agg cs) ∧ (∀ cs, av ≠ .tup cs) := by
  refine ⟨?_, ?_⟩ <;> (intro cs e; subst e; cases k; cases h1)
theorem tell1_rv (hrows : ∀ r x, h r = some x → RowOk w T ρ r x) (hless : ∀ b, b < w.heap.size → T' b → T b) {av : AV} {v : Value} (k : Rv w T ρ av v) (hr : ∀ r ∈ ref1 h av, ∀ b, rowBlk h ρ r b → ¬ T' b) :
    Rv w T' Rho.none (tell1 h av) v := by
  cases k with
  | @agg _ cs vs hl h1 hv =>
    simp only [tell1]
    refine .agg vs (by rw [List.length_map]; exact hl) (fun c hc => h1 c (by rwa [List.length_map] at hc)) fun c hc => ?_
    rw [List.length_map] at hc
    rw [getD_map_lt (tellC h) cs c .junk .junk hc]
    refine tellC_rv hrows hless (hv c hc) (fun r hr' => hr r ?_) (one_of_cell (hv c hc) (h1 c hc)).1 (one_of_cell (hv c hc) (h1 c hc)).2
    exact List.mem_flatMap.2 ⟨_, getD_mem _ hc, hr'⟩
  | tup => exact .junk
  | junk => exact .junk
  | b => exact .b
  | i => exact .i
  | s => exact .s
  | np => exact .np
  | ns => exact .lnil0
  | lnil ha hm => exact .lnil ha hm
  | l g hT hb hc hm hz hcell hv => exact (Rv.l g hT hb hc hm hz hcell hv : Rv w T Rho.none _ _).less hless
  | tp g hT hb hcell hv => exact (Rv.tp g hT hb hcell hv : Rv w T Rho.none _ _).less hless
  | sl hr' hn hc hm hs => exact tellC_rv hrows hless (.sl hr' hn hc hm hs) hr (by intros; simp) (by intros; simp)
  | slz hr' hn => exact tellC_rv hrows hless (.slz hr' hn) hr (by intros; simp) (by intros; simp)
  | slnil hr' => exact tellC_rv hrows hless (.slnil hr') hr (by intros; simp) (by intros; simp)
  | p hr' => exact tellC_rv hrows hless (.p hr') hr (by intros; simp) (by intros; simp)
theorem tell_rv (hrows : ∀ r x, h r = some x → RowOk w T ρ r x) (hless : ∀ b, b < w.heap.size → T' b → T b) {av : AV} {v : Value} (k : Rv w T ρ av v) (hr : ∀ r ∈ ref h av, ∀ b, rowBlk h ρ r b → ¬ T' b) :
    Rv w T' Rho.none (tell h av) v := by
  cases k with
  | @tup _ cs vs hl hv =>
    simp only [tell]
    refine .tup vs (by rw [List.length_map]; exact hl) fun c hc => ?_
    rw [List.length_map] at hc
    rw [getD_map_lt (tell1 h) cs c .junk .junk hc]
    exact tell1_rv hrows hless (hv c hc) fun r hr' => hr r (List.mem_flatMap.2 ⟨_, getD_mem _ hc, hr'⟩)
  | agg vs hl h1 hv => exact tell1_rv hrows hless (.agg vs hl h1 hv) hr
  | junk => exact .junk
  | b => exact .b
  | i => exact .i
  | s => exact .s
  | np => exact .np
  | ns => exact .lnil0
  | lnil ha hm => exact .lnil ha hm
  | l g hT hb hc hm hz hcell hv => exact (Rv.l g hT hb hc hm hz hcell hv : Rv w T Rho.none _ _).less hless
  | tp g hT hb hcell hv => exact (Rv.tp g hT hb hcell hv : Rv w T Rho.none _ _).less hless
  | sl hr' hn hc hm hs => exact tell1_rv hrows hless (.sl hr' hn hc hm hs) hr
  | slz hr' hn => exact tell1_rv hrows hless (.slz hr' hn) hr
  | slnil hr' => exact tell1_rv hrows hless (.slnil hr') hr
  | p hr' => exact tell1_rv hrows hless (.p hr') hr
end
end Go.Pe
set_option linter.unusedVariables false
set_option linter.unusedSimpArgs false
namespace Go.Pe
open Go
def mv1 : Value → AV → Bool
  | .bool a, .b b => a == b
  | .int k n, .i k' n' => k == k' && n == n'
  | .string s, .s s' => decide (s = s')
  | .slice none 0 0, .ns _ => true
  | .pointer none, .np => true
  | _, _ => false
def mvs : List Value → List AV → Bool
  | [], [] => true
  | v :: vs, c :: cs => mv1 v c && mvs vs cs
  | _, _ => false
def mv : Value → AV → Bool
  | .agg vs, .agg cs => mvs vs.toList cs
  | v, c => mv1 v c
section
variable {w : World} {T : Nat → Prop} {ρ : Rho}
theorem mv1_rv {v : Value} {c : AV} (h : mv1 v c = true) : Rv w T ρ c v ∧ v.oneCell' = true := by
  unfold mv1 at h
  split at h
  · rw [beq_iff_eq] at h; subst h; exact ⟨.b, rfl⟩
  · simp only [Bool.and_eq_true, beq_iff_eq] at h; obtain ⟨rfl, rfl⟩ := h; exact ⟨.i, rfl⟩
  · simp only [decide_eq_true_eq] at h; subst h; exact ⟨.s, rfl⟩
  · exact ⟨.ns, rfl⟩
  · exact ⟨.np, rfl⟩
  · cases h
theorem mvs_rv : ∀ {vs : List Value} {cs : List AV}, mvs vs cs = true → vs.length = cs.length ∧ ∀ c, c < cs.length → Rv w T ρ (cs.getD c .junk) (vs.getD c undef) ∧ (vs.getD c undef).oneCell' = true
  | [], [], _ => ⟨rfl, fun c hc => by cases hc⟩
  | v :: vs, c :: cs, h => by
    simp only [mvs, Bool.and_eq_true] at h
    obtain ⟨h1, h2⟩ := mvs_rv h.2
    refine ⟨by simp [h1], fun i hi => ?_⟩
    cases i with
    | zero => exact mv1_rv h.1
    | succ i => exact h2 i (by simpa using hi)
  | [], _ :: _, h => by simp [mvs] at h
  | _ :: _, [], h => by simp [mvs] at h
theorem toList_getD (vs : Array Value) (c : Nat) : vs.getD c undef = vs.toList.getD c undef := by simp [List.getD_eq_getElem?_getD]
theorem mv_rv {v : Value} {c : AV} (h : mv v c = true) : Rv w T ρ c v := by
  unfold mv at h
  split at h
  · rename_i vs cs
    obtain ⟨h1, h2⟩ := mvs_rv (w := w) (T := T) (ρ := ρ) h
    refine .agg vs (by rw [← h1]; simp) (fun c hc => ?_) fun c hc => ?_
    · rw [toList_getD]; exact (h2 c hc).2
    · rw [toList_getD]; exact (h2 c hc).1
  · exact (mv1_rv h).1
end
def ma (tabs : List (Nat × List AV)) : Operand → At → Bool
  | .tmp t, .t s => t == s
  | .const v, .c a => mv v a
  | .global g, .c (.tp cs 0) => tabs.any fun p => p.1 == g && p.2.length == cs.length && mtab p.2 cs
  | _, _ => false
where
  mtab : List AV → List AV → Bool
  | [], [] => true
  | .i k n :: xs, .i k' n' :: ys => k == k' && n == n' && mtab xs ys
  | _, _ => false
theorem mtab_eq : ∀ {xs ys : List AV}, ma.mtab xs ys = true → xs = ys
  | [], [], _ => rfl
  | x :: xs, y :: ys, h => by
    unfold ma.mtab at h
    split at h
    · rename_i h1 h2; cases h1
    · rename_i k n xs' k' n' ys' h1 h2
      cases h1; cases h2
      simp only [Bool.and_eq_true, beq_iff_eq] at h
      obtain ⟨⟨rfl, rfl⟩, h3⟩ := h
      rw [mtab_eq h3]
    · cases h
  | [], _ :: _, h => by simp [ma.mtab] at h
  | _ :: _, [], h => by simp [ma.mtab] at h
def Env (w : World) (T : Nat → Prop) (ρ : Rho) (e : Nat → AV) (a : Act) : Prop := ∀ t, Rv w T ρ (e t) (a.tmps.getD t undef)
theorem Env.goes {w w' : World} {T T' : Nat → Prop} {ρ ρ' : Rho} {e : Nat → AV} {a : Act} (h : Env w T ρ e a) (g : Goes w w' T T' ρ ρ') : Env w' T' ρ' e a := fun t => g.rv (h t)
theorem ma_rv {f : Fr} {w : World} {T : Nat → Prop} {ρ : Rho} {h : Heap} (k : WInv f w T ρ h) {e : Nat → AV} {a : Act} (he : Env w T ρ e a) {x : Operand} {y : At} (hm : ma f.tabs x y = true) : Rv w T ρ (y.ev e) (a.eval x) := by
  unfold ma at hm
  split at hm
  · rw [beq_iff_eq] at hm; subst hm; exact he _
  · exact mv_rv hm
  · rename_i g cs
    rw [List.any_eq_true] at hm
    obtain ⟨p, hp, hq⟩ := hm
    simp only [Bool.and_eq_true, beq_iff_eq] at hq
    obtain ⟨⟨rfl, _⟩, h2⟩ := hq
    rw [← mtab_eq h2]
    exact (k.tab p hp).any
  · cases hm
def szT (P : Program) (t : TypeId) : Option Nat := (P.info? t).map (·.size)
section
variable {P : Program} {w : World}
theorem run_typeInfo {t : TypeId} {i : TypeInfo} (h : P.info? t = some i) : (typeInfo t).run P w = .ok i w := by simp [typeInfo, h]
theorem run_sizeOf' {t : TypeId} {n : Nat} (h : szT P t = some n) : (sizeOf t).run P w = .ok n w := by
  unfold szT at h
  cases hi : P.info? t with
  | none => rw [hi] at h; cases h
  | some i => rw [hi] at h; cases h; simp [sizeOf, run_typeInfo hi]
theorem run_zeroValue {t : TypeId} {i : TypeInfo} {z : Value} (h : P.info? t = some i) (hz : i.zero = some z) : (zeroValue t).run P w = .ok z w := by simp [zeroValue, run_typeInfo h, hz]
end
def Gives (P : Program) (o : Oper) (a : Act) (w : World) (v : Value) : Prop := (execOp a.eval o).run P w = .ok (.value v) w
section
variable {P : Program} {f : Fr} {w : World} {T : Nat → Prop} {ρ : Rho} {h : Heap} {e : Nat → AV} {a : Act} {o : Oper}
theorem op_move (k : WInv f w T ρ h) (he : Env w T ρ e a) {x : Operand} {y : At} (ho : o.op = .move x ∨ o.op = .assign x) (hm : ma f.tabs x y = true) : ∃ v, Gives P o a w v ∧ Rv w T ρ (y.ev e) v := by
  refine ⟨a.eval x, ?_, ma_rv k he hm⟩
  rcases ho with ho | ho <;> simp [Gives, execOp, ho]
theorem inv_b {q : Bool} {v : Value} (k : Rv w T ρ (.b q) v) : v = .bool q := by cases k; rfl
theorem inv_i {q : IntKind} {n : Int} {v : Value} (k : Rv w T ρ (.i q n) v) : v = .int q n := by cases k; rfl
theorem inv_s {s : ByteArray} {v : Value} (k : Rv w T ρ (.s s) v) : v = .string s := by cases k; rfl
theorem op_pick (k : WInv f w T ρ h) (he : Env w T ρ e a) {x y z : Operand} {x' y' z' : At} {av : AV} {h' : Heap} (call : Call) (ho : o.op = .pick x y z) (h1 : ma f.tabs x x' = true) (h2 : ma f.tabs y y' = true) (h3 : ma f.tabs z z' = true)
    (hv : PO.ev call (.pick x' y' z') e h = some (av, h')) : h' = h ∧ ∃ v, Gives P o a w v ∧ Rv w T ρ av v := by
  have r1 := ma_rv k he h1
  have r2 := ma_rv k he h2
  have r3 := ma_rv k he h3
  simp only [PO.ev] at hv
  split at hv
  · rename_i q hq
    rw [hq] at r1
    cases hv
    refine ⟨rfl, (if q then a.eval y else a.eval z), ?_, ?_⟩
    · simp only [Gives, execOp, ho, inv_b r1, asBool]
      cases q <;> simp
    · cases q
      · exact r3
      · exact r2
  · cases hv
theorem op_not (k : WInv f w T ρ h) (he : Env w T ρ e a) {x : Operand} {x' : At} {t : TypeId} {av : AV} {h' : Heap} (call : Call) (ho : o.op = .unOp .not t x) (h1 : ma f.tabs x x' = true)
    (hv : PO.ev call (.not x') e h = some (av, h')) : h' = h ∧ ∃ v, Gives P o a w v ∧ Rv w T ρ av v := by
  have r1 := ma_rv k he h1
  simp only [PO.ev] at hv
  split at hv
  · rename_i q hq
    rw [hq] at r1
    cases hv
    exact ⟨rfl, .bool (!q), by simp [Gives, execOp, ho, inv_b r1, Op.unary], .b⟩
  · cases hv
theorem op_neg (k : WInv f w T ρ h) (he : Env w T ρ e a) {x : Operand} {x' : At} {t : TypeId} {av : AV} {h' : Heap} (call : Call) (ho : o.op = .unOp .neg t x) (h1 : ma f.tabs x x' = true)
    (hv : PO.ev call (.neg x') e h = some (av, h')) : h' = h ∧ ∃ v, Gives P o a w v ∧ Rv w T ρ av v := by
  have r1 := ma_rv k he h1
  simp only [PO.ev] at hv
  split at hv
  · rename_i q n hq
    rw [hq] at r1
    cases hv
    exact ⟨rfl, .int q (q.wrap (0 - n)), by simp [Gives, execOp, ho, inv_i r1, Op.unary, Op.intArith], .i⟩
  · cases hv
theorem op_conv (k : WInv f w T ρ h) (he : Env w T ρ e a) {x : Operand} {x' : At} {s d : TypeId} {q q' : IntKind} {av : AV} {h' : Heap} (call : Call) (ho : o.op = .convert s d x) (hs : P.underlying s = some (.int q')) (hd : P.underlying d = some (.int q)) (h1 : ma f.tabs x x' = true)
    (hv : PO.ev call (.conv q x') e h = some (av, h')) : h' = h ∧ ∃ v, Gives P o a w v ∧ Rv w T ρ av v := by
  have r1 := ma_rv k he h1
  simp only [PO.ev] at hv
  split at hv
  · rename_i q'' n hq
    rw [hq] at r1
    cases hv
    exact ⟨rfl, .int q (q.wrap n), by simp [Gives, execOp, ho, inv_i r1, convert, run_underlying hs, run_underlying hd, Conv.intToInt], .i⟩
  · cases hv
theorem eqG (op : BinOp) (t : TypeId) (x y : Operand) (q : IntKind) (n : Int) (v : Value) : eqGuard op t x y (.int q n) v = pure () := by cases op <;> rfl
theorem bits_def (op : BinOp) (k : IntKind) (x y : Int) (h : op = .and ∨ op = .or ∨ op = .xor) : (Op.intBits op k x y).run P w = .ok (.int k (Go.bits op k x y)) w := by
  rcases h with rfl | rfl | rfl <;> simp [Op.intBits, Go.bits]
theorem run_binI {op : BinOp} {q : IntKind} {x y : Int} {t : TypeId} {av : AV} (hv : binI op q x y = some av) (hop : op ≠ .shl ∧ op ≠ .shr) : ∃ v, (binOp op t (.int q x) (.int q y)).run P w = .ok v w ∧ Rv w T ρ av v := by
  cases op <;> simp only [binI] at hv <;> try (cases hv)
  case add => exact ⟨_, by simp [binOp, Op.intArith], .i⟩
  case sub => exact ⟨_, by simp [binOp, Op.intArith], .i⟩
  case mul => exact ⟨_, by simp [binOp, Op.intArith], .i⟩
  case quo =>
    split at hv
    · cases hv
    · rename_i hy
      cases hv
      exact ⟨_, by simp [binOp, Op.intDiv, hy], .i⟩
  case rem =>
    split at hv
    · cases hv
    · rename_i hy
      cases hv
      exact ⟨_, by simp [binOp, Op.intDiv, hy], .i⟩
  case and => exact ⟨_, by simp only [binOp, if_false, ne_eq, not_true_eq_false]; exact bits_def _ _ _ _ (by simp), .i⟩
  case or => exact ⟨_, by simp only [binOp, if_false, ne_eq, not_true_eq_false]; exact bits_def _ _ _ _ (by simp), .i⟩
  case xor => exact ⟨_, by simp only [binOp, if_false, ne_eq, not_true_eq_false]; exact bits_def _ _ _ _ (by simp), .i⟩
  case eql => exact ⟨.bool (decide (x = y)), by simp [binOp, Op.intCmp]; rfl, .b⟩
  case neq => exact ⟨.bool (!decide (x = y)), by simp [binOp, Op.intCmp, bne]; rfl, .b⟩
  case lss => exact ⟨_, by simp [binOp, Op.intCmp], .b⟩
  case leq => exact ⟨_, by simp [binOp, Op.intCmp], .b⟩
  case gtr => exact ⟨_, by simp [binOp, Op.intCmp], .b⟩
  case geq => exact ⟨_, by simp [binOp, Op.intCmp], .b⟩
theorem run_shI {op : BinOp} {q q' : IntKind} {x y : Int} {t : TypeId} {av : AV} (hv : shI op q x y = some av) (hop : op = .shl ∨ op = .shr) : ∃ v, (binOp op t (.int q x) (.int q' y)).run P w = .ok v w ∧ Rv w T ρ av v := by
  unfold shI at hv
  split at hv
  · cases hv
  · rename_i hy
    rcases hop with rfl | rfl
    · cases hv
      exact ⟨_, by simp [binOp, Op.shift, hy], .i⟩
    · cases hv
      exact ⟨_, by simp [binOp, Op.shift, hy], .i⟩
theorem beqL (x y : List UInt8) : (x == y) = decide (x = y) := by by_cases h : x = y <;> simp [h]
theorem op_bin (k : WInv f w T ρ h) (he : Env w T ρ e a) {op : BinOp} {x y : Operand} {x' y' : At} {t t' : TypeId} {av : AV} {h' : Heap} (call : Call) (ho : o.op = .binOp op t x y t') (h1 : ma f.tabs x x' = true) (h2 : ma f.tabs y y' = true)
    (hv : PO.ev call (.bin op x' y') e h = some (av, h')) : h' = h ∧ ∃ v, Gives P o a w v ∧ Rv w T ρ av v := by
  have r1 := ma_rv k he h1
  have r2 := ma_rv k he h2
  simp only [PO.ev, Option.map_eq_some_iff] at hv
  obtain ⟨c, hc, hcv⟩ := hv
  cases hcv
  refine ⟨rfl, ?_⟩
  have fin : ∀ v u1 u2, a.eval x = u1 → a.eval y = u2 → (eqGuard op t x y u1 u2 = pure ()) → (binOp op t u1 u2).run P w = .ok v w → Gives P o a w v := by
    intro v u1 u2 e1 e2 hg hr
    simp only [Gives, execOp, ho, e1, e2, hg, Sem.run_bind, Sem.run_pure, Result.andThen_ok, hr]
  unfold binV at hc
  split at hc
  · rename_i q n q' m hx hy
    rw [hx] at r1
    rw [hy] at r2
    have e1 := inv_i r1
    have e2 := inv_i r2
    split at hc
    · obtain ⟨v, h3, h4⟩ := run_shI (P := P) (w := w) (T := T) (ρ := ρ) (q' := q') (t := t) hc (by simp)
      exact ⟨v, fin _ _ _ e1 e2 rfl h3, h4⟩
    · obtain ⟨v, h3, h4⟩ := run_shI (P := P) (w := w) (T := T) (ρ := ρ) (q' := q') (t := t) hc (by simp)
      exact ⟨v, fin _ _ _ e1 e2 rfl h3, h4⟩
    · rename_i n1 n2
      split at hc
      · rename_i hqq
        subst hqq
        obtain ⟨v, h3, h4⟩ := run_binI (P := P) (w := w) (T := T) (ρ := ρ) (t := t) hc ⟨fun e => n1 e, fun e => n2 e⟩
        exact ⟨v, fin _ _ _ e1 e2 (eqG ..) h3, h4⟩
      · cases hc
  · rename_i p q hx hy
    rw [hx] at r1
    rw [hy] at r2
    have e1 := inv_s r1
    have e2 := inv_s r2
    split at hc
    · cases hc
      exact ⟨_, fin _ _ _ e1 e2 rfl (by simp [binOp, Op.stringOp, beqL]), .b⟩
    · cases hc
      exact ⟨_, fin _ _ _ e1 e2 rfl (by simp [binOp, Op.stringOp, beqL]), .b⟩
    · split at hc
      · rename_i hsz
        cases hc
        exact ⟨_, fin _ _ _ e1 e2 rfl (by simp only [binOp, Op.stringOp]; rw [if_neg (by rw [IntKind.max_i64]; omega)]; rfl), .s⟩
      · cases hc
    · cases hc
  · cases hc
theorem op_eqb (k : WInv f w T ρ h) (he : Env w T ρ e a) {neg : Bool} {x y : Operand} {x' y' : At} {t t' : TypeId} {av : AV} {h' : Heap} (call : Call) (ho : o.op = .binOp (if neg then .neq else .eql) t x y t') (ht : P.underlying t = some .bool) (h1 : ma f.tabs x x' = true) (h2 : ma f.tabs y y' = true)
    (hv : PO.ev call (.eqb neg x' y') e h = some (av, h')) : h' = h ∧ ∃ v, Gives P o a w v ∧ Rv w T ρ av v := by
  have r1 := ma_rv k he h1
  have r2 := ma_rv k he h2
  simp only [PO.ev, Option.map_eq_some_iff] at hv
  obtain ⟨c, hc, hcv⟩ := hv
  cases hcv
  refine ⟨rfl, ?_⟩
  unfold eqbV at hc
  split at hc
  · rename_i p q hx hy
    rw [hx] at r1
    rw [hy] at r2
    cases hc
    cases neg
    · exact ⟨.bool (p == q), by simp only [Gives, execOp, ho, inv_b r1, inv_b r2, Bool.false_eq_true, if_false]; simp [eqGuard, run_eql_bool w t p q ht], .b⟩
    · exact ⟨.bool (!(p == q)), by simp only [Gives, execOp, ho, inv_b r1, inv_b r2, if_true]; simp [eqGuard, binOp, run_equal_bool w t p q ht], .b⟩
  · cases hc
end
end Go.Pe
set_option linter.unusedVariables false
set_option linter.unusedSimpArgs false
namespace Go.Pe
open Go
def aggT (P : Program) (t : TypeId) : Option Bool := (P.underlying t).map fun d => match d with
  | .struct _ | .array _ _ => true
  | _ => false
section
variable {P : Program} {f : Fr} {w : World} {T : Nat → Prop} {ρ : Rho} {h : Heap} {e : Nat → AV} {a : Act} {o : Oper}
theorem ptr_cells (k : WInv f w T ρ h) {x : AV} {v : Value} (r : Rv w T ρ x v) {cs : List AV} {c : Nat} (hp : ptrAt h x = some (cs, c)) :
    ∃ b base, v = .pointer (some ⟨b, base + c, none⟩) ∧ ∀ i, i < cs.length → ∃ u, w.cell? ⟨b, base + i, none⟩ = some u ∧ u.oneCell' = true ∧ Rv w T ρ (cs.getD i .junk) u := by
  cases r with
  | @tp _ cs' o' b base g hT hb hcell hv =>
    simp only [ptrAt, Option.some.injEq, Prod.mk.injEq] at hp
    obtain ⟨rfl, rfl⟩ := hp
    exact ⟨b, base, rfl, fun i hi => ⟨g i, (hcell i hi).1, (hcell i hi).2, (hv i hi).any⟩⟩
  | @p _ r e' o' z m b base h1 =>
    simp only [ptrAt, Option.map_eq_some_iff, Option.bind_eq_some_iff] at hp
    obtain ⟨cs', ⟨row, hrow, hat⟩, hq⟩ := hp
    cases hq
    have ok := k.rows r row hrow
    have hsl : ∀ (es : List (List AV)), es[e']? = some cs → RowAt w b base z es (Rv w T Rho.none) → ∀ i, i < cs.length → ∃ u, w.cell? ⟨b, base + e' * z + i, none⟩ = some u ∧ u.oneCell' = true ∧ Rv w T ρ (cs.getD i .junk) u := by
      intro es he hra i hi
      have hlt : e' < es.length := by
        rcases Nat.lt_or_ge e' es.length with h2 | h2
        · exact h2
        · rw [List.getElem?_eq_none h2] at he; cases he
      have hcs : es.getD e' [] = cs := by rw [List.getD_eq_getElem?_getD, he]; rfl
      have hlen := hra.len e' hlt
      rw [hcs] at hlen
      obtain ⟨u, h2, h3, h4⟩ := hra.cell e' i hlt (by omega)
      rw [hcs] at h4
      exact ⟨u, h2, h3, h4.any⟩
    have hst : ∀ cs, e' = 0 → RowAt w b base cs.length [cs] (Rv w T ρ) → ∀ i, i < cs.length → ∃ u, w.cell? ⟨b, base + e' * z + i, none⟩ = some u ∧ u.oneCell' = true ∧ Rv w T ρ (cs.getD i .junk) u := by
      intro cs he hra i hi
      subst he
      obtain ⟨u, h2, h3, h4⟩ := hra.cell 0 i (by simp) hi
      refine ⟨u, ?_, h3, h4⟩
      rw [Nat.zero_mul, Nat.add_zero] at h2 ⊢
      exact h2
    refine ⟨b, base + e' * z, rfl, ?_⟩
    cases row with
    | sl ap z' es =>
      rcases ok with ⟨h2, _, _⟩ | ⟨b', base', cur, e'', h3, h4, h5, h6, h7, h8⟩
      · subst h2; cases hat
      · rw [h1] at h3
        cases h3
        exact hsl es hat h8
    | fsl z' es =>
      rcases ok with ⟨h2, _⟩ | ⟨b', base', h3, h4, h5, h6⟩
      · subst h2; cases hat
      · rw [h1] at h3
        cases h3
        exact hsl es hat h6
    | st cs' =>
      obtain ⟨b', base', cur, e'', h3, h4, h5, h6, h7⟩ := ok
      rw [h1] at h3
      cases h3
      simp only [Row.at] at hat
      split at hat
      · rename_i he
        cases hat
        exact hst cs he h7
      · cases hat
    | fst cs' =>
      obtain ⟨b', base', h3, h4, h5, h6⟩ := ok
      rw [h1] at h3
      cases h3
      simp only [Row.at] at hat
      split at hat
      · rename_i he
        cases hat
        exact hst cs he h6
      · cases hat
    | dead => cases hat
  | _ => simp [ptrAt] at hp
theorem ldC_agg {sz c : Nat} {cs : List AV} {av : AV} (h : ldC true sz c cs = some av) : av = .agg ((cs.drop c).take sz) ∧ c + sz ≤ cs.length := by
  unfold ldC at h
  simp only [if_true] at h
  split at h
  · rename_i h1
    cases h
    obtain ⟨rfl, rfl⟩ := h1
    simp
  · split at h
    · rename_i h1
      cases h
      exact ⟨rfl, h1⟩
    · cases h
theorem load_var {t : TypeId} {sz b base c : Nat} {ag : Bool} {cs : List AV} {av : AV} (hag : aggT P t = some ag) (hsz : szT P t = some sz)
    (hc : ∀ i, i < cs.length → ∃ u, w.cell? ⟨b, base + i, none⟩ = some u ∧ u.oneCell' = true ∧ Rv w T ρ (cs.getD i .junk) u) (hv : ldC ag sz c cs = some av) :
    ∃ v, (loadVar t ⟨b, base + c, none⟩).run P w = .ok v w ∧ Rv w T ρ av v ∧ (ag = false → v.oneCell' = true) := by
  unfold aggT at hag
  cases hu : P.underlying t with
  | none => rw [hu] at hag; cases hag
  | some d =>
    rw [hu] at hag
    cases ag with
    | true =>
      obtain ⟨rfl, hle⟩ := ldC_agg hv
      have hd : d.isRow = true := by cases d <;> simp_all [TypeDesc.isRow]
      have hr : w.rangeAt b (base + c) ((List.range sz).map fun i => (w.cell? ⟨b, base + c + i, none⟩).getD undef) := by
        intro j v hj
        rw [List.getElem?_map] at hj
        rcases Nat.lt_or_ge j sz with h1 | h1
        · obtain ⟨u, h2, h3, h4⟩ := hc (c + j) (by omega)
          rw [List.getElem?_range h1] at hj
          simp only [Option.map_some, Option.some.injEq] at hj
          rw [← Nat.add_assoc] at h2
          rw [h2] at hj
          rw [h2, ← hj]
          rfl
        · rw [List.getElem?_eq_none (by simpa using h1)] at hj
          cases hj
      refine ⟨_, run_loadVar_mid w b (base + c) t _ d hr hu hd (by rw [List.length_map, List.length_range]; exact hsz), ?_, fun h => by cases h⟩
      have hl : ((cs.drop c).take sz).length = sz := by rw [List.length_take, List.length_drop]; omega
      refine .agg _ (by rw [hl]; simp) (fun i hi => ?_) fun i hi => ?_
      all_goals
        rw [hl] at hi
        obtain ⟨u, h2, h3, h4⟩ := hc (c + i) (by omega)
        rw [← Nat.add_assoc] at h2
        have e1 : (((List.range sz).map fun i => (w.cell? ⟨b, base + c + i, none⟩).getD undef).toArray).getD i undef = u := by
          simp [List.getElem?_range hi, h2]
        rw [e1]
      · exact h3
      · rw [show ((cs.drop c).take sz).getD i .junk = cs.getD (c + i) .junk by
          simp only [List.getD_eq_getElem?_getD]
          rw [List.getElem?_take_of_lt hi, List.getElem?_drop]]
        exact h4
    | false =>
      have hd : (isAgg t).run P w = .ok false w := by
        unfold isAgg
        rw [Sem.run_bind, run_underlying hu w]
        cases d <;> simp_all
      simp only [ldC, Bool.false_eq_true, if_false] at hv
      have hlt : c < cs.length := by
        rcases Nat.lt_or_ge c cs.length with h2 | h2
        · exact h2
        · rw [List.getElem?_eq_none h2] at hv; cases hv
      obtain ⟨u, h2, h3, h4⟩ := hc c hlt
      have : cs.getD c .junk = av := by rw [List.getD_eq_getElem?_getD, hv]; rfl
      rw [this] at h4
      exact ⟨u, by simp [loadVar, hd, h2], h4, fun _ => h3⟩
theorem op_ld (k : WInv f w T ρ h) (he : Env w T ρ e a) {x : Operand} {x' : At} {t : TypeId} {ag : Bool} {sz : Nat} {av : AV} {h' : Heap} (call : Call) (ho : o.op = .load t x) (hag : aggT P t = some ag) (hsz : szT P t = some sz) (h1 : ma f.tabs x x' = true)
    (hv : PO.ev call (.ld ag sz x') e h = some (av, h')) : h' = h ∧ ∃ v, Gives P o a w v ∧ Rv w T ρ av v := by
  have r1 := ma_rv k he h1
  simp only [PO.ev, ldV, Option.map_eq_some_iff, Option.bind_eq_some_iff] at hv
  obtain ⟨c, ⟨⟨cs, i⟩, hp, hc⟩, hcv⟩ := hv
  cases hcv
  obtain ⟨b, base, hx, hcell⟩ := ptr_cells k r1 hp
  obtain ⟨v, h2, h3, _⟩ := load_var hag hsz hcell hc
  exact ⟨rfl, v, by simp [Gives, execOp, ho, hx, Instr.loadAt, Instr.sureAddr, h2], h3⟩
theorem inv_p {r q c : Nat} {v : Value} (k : Rv w T ρ (.p r q c) v) : ∃ p, v = .pointer (some p) := by cases k; exact ⟨_, rfl⟩
theorem inv_tp {cs : List AV} {c : Nat} {v : Value} (k : Rv w T ρ (.tp cs c) v) : ∃ p, v = .pointer (some p) := by cases k; exact ⟨_, rfl⟩
theorem op_nck (k : WInv f w T ρ h) (he : Env w T ρ e a) {x : Operand} {x' : At} {av : AV} {h' : Heap} (call : Call) (ho : o.op = .nilCheck x) (h1 : ma f.tabs x x' = true)
    (hv : PO.ev call (.nck x') e h = some (av, h')) : h' = h ∧ ∃ v, Gives P o a w v ∧ Rv w T ρ av v := by
  have r1 := ma_rv k he h1
  simp only [PO.ev] at hv
  split at hv
  · rename_i r q c hq
    cases hv
    rw [hq] at r1
    obtain ⟨p, hp⟩ := inv_p r1
    exact ⟨rfl, a.eval x, by simp [Gives, execOp, ho, hp], r1⟩
  · rename_i cs c hq
    cases hv
    rw [hq] at r1
    obtain ⟨p, hp⟩ := inv_tp r1
    exact ⟨rfl, a.eval x, by simp [Gives, execOp, ho, hp], r1⟩
  · cases hv
theorem fld_p {r q c d : Nat} {v : Value} (k : Rv w T ρ (.p r q c) v) : ∃ b i, v = .pointer (some ⟨b, i, none⟩) ∧ Rv w T ρ (.p r q (c + d)) (.pointer (some ⟨b, i + d, none⟩)) := by
  cases k with
  | p h1 => exact ⟨_, _, rfl, by rw [Nat.add_assoc]; exact .p h1⟩
theorem fld_tp {cs : List AV} {c d : Nat} {v : Value} (k : Rv w T ρ (.tp cs c) v) : ∃ b i, v = .pointer (some ⟨b, i, none⟩) ∧ Rv w T ρ (.tp cs (c + d)) (.pointer (some ⟨b, i + d, none⟩)) := by
  cases k with
  | tp g hT hb hcell hv => exact ⟨_, _, rfl, by rw [Nat.add_assoc]; exact .tp g hT hb hcell hv⟩
theorem op_fld (k : WInv f w T ρ h) (he : Env w T ρ e a) {x : Operand} {x' : At} {t : TypeId} {i d n : Nat} {fs : Array Field} {fl : Field} {av : AV} {h' : Heap} (call : Call) (ho : o.op = .fieldAddr t x i) (hu : P.underlying t = some (.struct fs)) (hf : fs[i]? = some fl) (hd : fl.offset = d) (hn : szT P fl.type = some (n + 1)) (h1 : ma f.tabs x x' = true)
    (hv : PO.ev call (.fld d x') e h = some (av, h')) : h' = h ∧ ∃ v, Gives P o a w v ∧ Rv w T ρ av v := by
  have r1 := ma_rv k he h1
  have fin : ∀ b j, a.eval x = .pointer (some ⟨b, j, none⟩) → Gives P o a w (.pointer (some ⟨b, j + d, none⟩)) := by
    intro b j hx
    simp only [Gives, execOp, ho, hx, Instr.fieldAt, Sem.run_bind, run_underlying hu w, Result.andThen_ok, hf, Instr.sureAddr, Sem.run_pure, fieldPlace, run_sizeOf' hn, Nat.add_one_ne_zero, if_false, add_at, hd]
  simp only [PO.ev] at hv
  split at hv
  · rename_i r q c hq
    cases hv
    rw [hq] at r1
    obtain ⟨b, j, hx, h2⟩ := fld_p (d := d) r1
    exact ⟨rfl, _, fin b j hx, h2⟩
  · rename_i cs c hq
    cases hv
    rw [hq] at r1
    obtain ⟨b, j, hx, h2⟩ := fld_tp (d := d) r1
    exact ⟨rfl, _, fin b j hx, h2⟩
  · cases hv
theorem intV_i {x : AV} {n : Int} {v : Value} (hi : intV x = some n) (k : Rv w T ρ x v) : ∃ q, v = .int q n := by
  unfold intV at hi
  split at hi
  · cases hi
    exact ⟨_, inv_i k⟩
  · cases hi
theorem op_idx (k : WInv f w T ρ h) (he : Env w T ρ e a) {x y : Operand} {x' y' : At} {t el : TypeId} {z : Nat} {av : AV} {h' : Heap} (call : Call) (ho : o.op = .indexAddr t x y) (hu : P.underlying t = some (.slice el)) (hz : szT P el = some z) (h1 : ma f.tabs x x' = true) (h2 : ma f.tabs y y' = true)
    (hv : PO.ev call (.idx z x' y') e h = some (av, h')) : h' = h ∧ ∃ v, Gives P o a w v ∧ Rv w T ρ av v := by
  have r1 := ma_rv k he h1
  have r2 := ma_rv k he h2
  simp only [PO.ev, Option.bind_eq_some_iff, Option.map_eq_some_iff] at hv
  obtain ⟨j, hj, c, hc, hcv⟩ := hv
  cases hcv
  obtain ⟨q, hy⟩ := intV_i hj r2
  have fin : ∀ b i n cap, a.eval x = .slice (some ⟨b, i, none⟩) n cap → 0 ≤ j → j < (n : Int) → Gives P o a w (.pointer (some ⟨b, i + j.toNat * z, none⟩)) := by
    intro b i n cap hx h3 h4
    simp only [Gives, execOp, ho, hx, hy, Instr.indexAt, asIntOf, Sem.run_bind, run_underlying hu w, Result.andThen_ok, Sem.run_pure, run_sizeOf' hz, add_at]
    rw [if_pos ⟨h3, h4⟩]
    simp only [Sem.run_bind, run_sizeOf' hz, Result.andThen_ok, Sem.run_pure, add_at]
  refine ⟨rfl, ?_⟩
  unfold idxV at hc
  split at hc
  · rename_i r z' ofs n hq
    split at hc
    · rename_i hcond
      obtain ⟨rfl, h3, h4⟩ := hcond
      cases hc
      rw [hq] at r1
      generalize hx : a.eval x = v at r1
      cases r1 with
      | @sl _ _ _ _ _ m b base cap hr hn hcap hm hs =>
        refine ⟨_, fin b _ n cap hx h3 h4, ?_⟩
        have := Rv.p (w := w) (T := T) (ρ := ρ) (e := ofs + j.toNat) (o := 0) hr
        rw [Nat.add_zero, Nat.add_mul, ← Nat.add_assoc] at this
        exact this
      | slz => omega
      | slnil => omega
    · cases hc
  · rename_i z' es hq
    split at hc
    · rename_i hcond
      obtain ⟨rfl, h3, h4⟩ := hcond
      cases hc
      rw [hq] at r1
      generalize hx : a.eval x = v at r1
      cases r1 with
      | lnil => simp at h4; omega
      | @l _ _ _ b base cap g hT hb hcap hm hz' hcell hv =>
        have hlt : j.toNat < es.length := by omega
        refine ⟨_, fin b base es.length cap hx h3 h4, ?_⟩
        have hlen := hz' _ hlt
        have := Rv.tp (w := w) (T := T) (ρ := ρ) (cs := es.getD j.toNat []) (o := 0) (b := b) (base := base + j.toNat * z') (fun c => g j.toNat c) hT hb (fun c hc => by rw [hlen] at hc; exact hcell _ c hlt hc) (fun c hc => by rw [hlen] at hc; exact hv _ c hlt hc)
        rw [Nat.add_zero] at this
        exact this
    · cases hc
  · cases hc
theorem op_idxa (k : WInv f w T ρ h) (he : Env w T ρ e a) {x y : Operand} {x' y' : At} {t el : TypeId} {n z : Nat} {av : AV} {h' : Heap} (call : Call) (ho : o.op = .indexAddr t x y) (hu : P.underlying t = some (.array n el)) (hz : szT P el = some z) (h1 : ma f.tabs x x' = true) (h2 : ma f.tabs y y' = true)
    (hv : PO.ev call (.idxa n z x' y') e h = some (av, h')) : h' = h ∧ ∃ v, Gives P o a w v ∧ Rv w T ρ av v := by
  have r1 := ma_rv k he h1
  have r2 := ma_rv k he h2
  simp only [PO.ev] at hv
  have fin : ∀ b i j, intV (y'.ev e) = some j → a.eval x = .pointer (some ⟨b, i, none⟩) → 0 ≤ j → j < (n : Int) → Gives P o a w (.pointer (some ⟨b, i + j.toNat * z, none⟩)) := by
    intro b i j hj hx h3 h4
    obtain ⟨q, hy⟩ := intV_i hj r2
    simp only [Gives, execOp, ho, hx, hy, Instr.indexAt, Instr.sureAddr, asIntOf, Sem.run_bind, run_underlying hu w, Result.andThen_ok, Sem.run_pure, run_sizeOf' hz, add_at]
    rw [if_pos ⟨h3, h4⟩]
    simp only [Sem.run_bind, run_sizeOf' hz, Result.andThen_ok, Sem.run_pure, add_at]
  split at hv
  · rename_i j r q c hj hq
    split at hv
    · rename_i hcond
      cases hv
      rw [hq] at r1
      obtain ⟨b, i, hx, h3⟩ := fld_p (d := j.toNat * z) r1
      exact ⟨rfl, _, fin b i j hj hx hcond.1 hcond.2, h3⟩
    · cases hv
  · rename_i j cs c hj hq
    split at hv
    · rename_i hcond
      cases hv
      rw [hq] at r1
      obtain ⟨b, i, hx, h3⟩ := fld_tp (d := j.toNat * z) r1
      exact ⟨rfl, _, fin b i j hj hx hcond.1 hcond.2, h3⟩
    · cases hv
  · cases hv
theorem op_ext (k : WInv f w T ρ h) (he : Env w T ρ e a) {x : Operand} {x' : At} {n : Nat} {av : AV} {h' : Heap} (call : Call) (ho : o.op = .extract x n) (h1 : ma f.tabs x x' = true)
    (hv : PO.ev call (.ext n x') e h = some (av, h')) : h' = h ∧ ∃ v, Gives P o a w v ∧ Rv w T ρ av v := by
  have r1 := ma_rv k he h1
  simp only [PO.ev] at hv
  split at hv
  · rename_i vs hq
    simp only [Option.map_eq_some_iff] at hv
    obtain ⟨c, hc, hcv⟩ := hv
    cases hcv
    rw [hq] at r1
    generalize hx : a.eval x = v at r1
    cases r1 with
    | tup us hl hu =>
      have hlt : n < vs.length := by
        rcases Nat.lt_or_ge n vs.length with h2 | h2
        · exact h2
        · rw [List.getElem?_eq_none h2] at hc; cases hc
      have h2 := hu n hlt
      rw [show vs.getD n .junk = av by rw [List.getD_eq_getElem?_getD, hc]; rfl] at h2
      refine ⟨rfl, us.getD n undef, ?_, h2⟩
      have h3 : us[n]? = some (us.getD n undef) := by
        have : n < us.size := by omega
        simp [this]
      simp only [Gives, execOp, ho, hx, Instr.extract, h3, Sem.run_bind, Sem.run_pure, Result.andThen_ok]
  · cases hv
theorem op_len (k : WInv f w T ρ h) (he : Env w T ρ e a) {x : Operand} {x' : At} {c : Go.Call} {t el : TypeId} {av : AV} {h' : Heap} (call : Call) (ho : o.op = .call c) (hc : c.callee = .builtin .len) (hx : c.args = #[x]) (ht : c.argTypes = #[t]) (hu : P.underlying t = some (.slice el)) (h1 : ma f.tabs x x' = true)
    (hv : PO.ev call (.len x') e h = some (av, h')) : h' = h ∧ ∃ v, Gives P o a w v ∧ Rv w T ρ av v := by
  have r1 := ma_rv k he h1
  simp only [PO.ev, Option.map_eq_some_iff] at hv
  obtain ⟨n, hn, hcv⟩ := hv
  cases hcv
  have fin : ∀ b cap, a.eval x = .slice b n cap → Gives P o a w (.int .i64 (n : Int)) := by
    intro b cap hxv
    simp [Gives, execOp, ho, resolve, hc, hx, ht, invoke, builtin, Builtin.len_, run_underlying hu, hxv, goInt]
  refine ⟨rfl, _, ?_, .i⟩
  unfold lenV at hn
  generalize hxv : a.eval x = v at r1
  split at hn
  · rename_i hq
    rw [hq] at r1
    cases hn
    cases r1 with
    | sl => exact fin _ _ hxv
    | slz => exact fin _ _ hxv
    | slnil => exact fin _ _ hxv
  · rename_i hq
    rw [hq] at r1
    cases hn
    cases r1 with
    | lnil => exact fin _ _ hxv
    | l => exact fin _ _ hxv
  · rename_i hq
    rw [hq] at r1
    cases hn
    cases r1
    exact fin _ _ hxv
  · cases hn
theorem op_slen (k : WInv f w T ρ h) (he : Env w T ρ e a) {x : Operand} {x' : At} {c : Go.Call} {t : TypeId} {av : AV} {h' : Heap} (call : Call) (ho : o.op = .call c) (hc : c.callee = .builtin .len) (hx : c.args = #[x]) (ht : c.argTypes = #[t]) (hu : P.underlying t = some .string) (h1 : ma f.tabs x x' = true)
    (hv : PO.ev call (.slen x') e h = some (av, h')) : h' = h ∧ ∃ v, Gives P o a w v ∧ Rv w T ρ av v := by
  have r1 := ma_rv k he h1
  simp only [PO.ev] at hv
  split at hv
  · rename_i s hq
    cases hv
    rw [hq] at r1
    refine ⟨rfl, .int .i64 (s.size : Int), ?_, .i⟩
    simp [Gives, execOp, ho, resolve, hc, hx, ht, invoke, builtin, Builtin.len_, run_underlying hu, inv_s r1, goInt]
  · cases hv
theorem op_min (k : WInv f w T ρ h) (he : Env w T ρ e a) {x y : Operand} {x' y' : At} {c : Go.Call} {av : AV} {h' : Heap} (call : Call) (ho : o.op = .call c) (hc : c.callee = .builtin .min) (hx : c.args = #[x, y]) (h1 : ma f.tabs x x' = true) (h2 : ma f.tabs y y' = true)
    (hv : PO.ev call (.min x' y') e h = some (av, h')) : h' = h ∧ ∃ v, Gives P o a w v ∧ Rv w T ρ av v := by
  have r1 := ma_rv k he h1
  have r2 := ma_rv k he h2
  simp only [PO.ev] at hv
  split at hv
  · rename_i q n q' m hq hq'
    cases hv
    rw [hq] at r1
    rw [hq'] at r2
    exact ⟨rfl, .int q (if m < n then m else n), by simp [Gives, execOp, ho, resolve, hc, hx, invoke, builtin, Builtin.min_, Builtin.min2, inv_i r1, inv_i r2], .i⟩
  · cases hv
theorem op_max (k : WInv f w T ρ h) (he : Env w T ρ e a) {x y : Operand} {x' y' : At} {c : Go.Call} {av : AV} {h' : Heap} (call : Call) (ho : o.op = .call c) (hc : c.callee = .builtin .max) (hx : c.args = #[x, y]) (h1 : ma f.tabs x x' = true) (h2 : ma f.tabs y y' = true)
    (hv : PO.ev call (.max x' y') e h = some (av, h')) : h' = h ∧ ∃ v, Gives P o a w v ∧ Rv w T ρ av v := by
  have r1 := ma_rv k he h1
  have r2 := ma_rv k he h2
  simp only [PO.ev] at hv
  split at hv
  · rename_i q n q' m hq hq'
    cases hv
    rw [hq] at r1
    rw [hq'] at r2
    exact ⟨rfl, .int q (if m > n then m else n), by simp [Gives, execOp, ho, resolve, hc, hx, invoke, builtin, Builtin.max_, Builtin.max2, inv_i r1, inv_i r2], .i⟩
  · cases hv
theorem op_sidx (k : WInv f w T ρ h) (he : Env w T ρ e a) {x y : Operand} {x' y' : At} {t : TypeId} {av : AV} {h' : Heap} (call : Call) (ho : o.op = .index t x y) (hu : P.underlying t = some .string) (h1 : ma f.tabs x x' = true) (h2 : ma f.tabs y y' = true)
    (hv : PO.ev call (.sidx x' y') e h = some (av, h')) : h' = h ∧ ∃ v, Gives P o a w v ∧ Rv w T ρ av v := by
  have r1 := ma_rv k he h1
  have r2 := ma_rv k he h2
  simp only [PO.ev] at hv
  split at hv
  · rename_i s j hq hj
    split at hv
    · rename_i hcond
      cases hv
      rw [hq] at r1
      obtain ⟨q, hy⟩ := intV_i hj r2
      refine ⟨rfl, .int .u8 _, ?_, .i⟩
      have hg : s[j.toNat]? = some (s[j.toNat]'hcond.2) := getElem?_pos s j.toNat hcond.2
      simp only [Gives, execOp, ho, Instr.index, hy, asIntOf, inv_s r1, Sem.run_bind, Sem.run_pure, Result.andThen_ok, run_underlying hu w, if_pos hcond.1, hg]
    · cases hv
  · cases hv
def mo2 (tabs : List (Nat × List AV)) : Option Operand → Option At → Bool
  | none, none => true
  | some x, some y => ma tabs x y
  | _, _ => false
theorem run_bounds {isS : Bool} {len cap : Nat} {lo hi mx : Option Value} {l u m : Int} (hl : (lo = none ∧ l = 0) ∨ ∃ q, lo = some (.int q l)) (hu : (hi = none ∧ mx = none ∧ u = len) ∨ ∃ q, hi = some (.int q u)) (hm : (mx = none ∧ m = cap) ∨ ∃ q, mx = some (.int q m))
    (h0 : 0 ≤ l) (h1 : l ≤ u) (h2 : u ≤ m) (h3 : m ≤ (cap : Int)) : (Instr.sliceBounds isS len cap lo hi mx).run P w = .ok (l.toNat, u.toNat, m.toNat) w := by
  have e1 : (m.toNat : Int) = m := Int.toNat_of_nonneg (by omega)
  have e2 : (u.toNat : Int) = u := Int.toNat_of_nonneg (by omega)
  have p1 : 0 ≤ m := by omega
  have p2 : 0 ≤ u := by omega
  rcases hl with ⟨rfl, rfl⟩ | ⟨q, rfl⟩ <;> rcases hm with ⟨rfl, rfl⟩ | ⟨q', rfl⟩ <;> rcases hu with ⟨rfl, h9, rfl⟩ | ⟨q'', rfl⟩ <;> first
    | (cases h9; done)
    | simp [Instr.sliceBounds, Instr.sliceBound, asIntOf, *]
theorem opt_l (k : WInv f w T ρ h) (he : Env w T ρ e a) {lo : Option Operand} {lo' : Option At} {d l : Int} (hm : mo2 f.tabs lo lo' = true) (hl : optI e (some d) lo' = some l) : (lo.map a.eval = none ∧ lo = none ∧ l = d) ∨ ∃ q, lo.map a.eval = some (.int q l) := by
  cases lo with
  | none =>
    cases lo' with
    | none => simp only [optI, Option.some.injEq] at hl; exact .inl ⟨rfl, rfl, hl.symm⟩
    | some y => cases hm
  | some x =>
    cases lo' with
    | none => cases hm
    | some y =>
      obtain ⟨q, hq⟩ := intV_i hl (ma_rv k he hm)
      exact .inr ⟨q, by simp [hq]⟩
theorem op_cut (k : WInv f w T ρ h) (he : Env w T ρ e a) {x : Operand} {x' : At} {lo hi mx : Option Operand} {lo' hi' mx' : Option At} {t el : TypeId} {z : Nat} {av : AV} {h' : Heap} (call : Call) (ho : o.op = .slice t x lo hi mx) (hu : P.underlying t = some (.slice el)) (hz : szT P el = some z)
    (h1 : ma f.tabs x x' = true) (hlo : mo2 f.tabs lo lo' = true) (hhi : mo2 f.tabs hi hi' = true) (hmx : mo2 f.tabs mx mx' = true) (hmh : mx = none ∨ ∃ y, hi = some y)
    (hv : PO.ev call (.cut z x' lo' hi' mx') e h = some (av, h')) : h' = h ∧ ∃ v, Gives P o a w v ∧ Rv w T ρ av v := by
  have r1 := ma_rv k he h1
  simp only [PO.ev, Option.bind_eq_some_iff] at hv
  obtain ⟨l, hl, u, hu', m, hm, hv⟩ := hv
  split at hv
  rotate_left
  · cases hv
  rename_i hmu
  subst hmu
  simp only [Option.map_eq_some_iff] at hv
  obtain ⟨c, hc, hcv⟩ := hv
  cases hcv
  refine ⟨rfl, ?_⟩
  have hL : (lo.map a.eval = none ∧ l = 0) ∨ ∃ q, lo.map a.eval = some (.int q l) := by
    rcases opt_l k he hlo hl with ⟨h2, _, h3⟩ | h2
    · exact .inl ⟨h2, h3⟩
    · exact .inr h2
  have fin : ∀ (ad : Option Addr) (n cap : Nat), a.eval x = .slice ad n cap → lenV (x'.ev e) = some n → n ≤ cap → 0 ≤ l → l ≤ m → m ≤ (n : Int) →
      ∃ mm : Nat, m.toNat ≤ mm ∧ mm ≤ cap ∧ Gives P o a w (.slice (if mm = l.toNat then ad else ad.map (·.add (l.toNat * z))) (m.toNat - l.toNat) (mm - l.toNat)) := by
    intro ad n cap hx hlen hnc g0 g1 g2
    have hU : (hi.map a.eval = none ∧ mx.map a.eval = none ∧ m = n) ∨ ∃ q, hi.map a.eval = some (.int q m) := by
      rw [hlen] at hu'
      rcases opt_l k he hhi hu' with ⟨h2, h3, h4⟩ | h2
      · rcases hmh with rfl | ⟨y, hy⟩
        · exact .inl ⟨h2, rfl, h4⟩
        · rw [h3] at hy; cases hy
      · exact .inr h2
    have hM : ∃ mm : Int, ((mx.map a.eval = none ∧ mm = cap) ∨ ∃ q, mx.map a.eval = some (.int q mm)) ∧ m ≤ mm ∧ mm ≤ (cap : Int) := by
      rcases opt_l k he hmx hm with ⟨h2, _, _⟩ | h2
      · exact ⟨cap, .inl ⟨h2, rfl⟩, by omega, by omega⟩
      · exact ⟨m, .inr h2, by omega, by omega⟩
    obtain ⟨mm, hM, g3, g4⟩ := hM
    have hb := run_bounds (P := P) (w := w) (isS := true) hL hU hM g0 g1 g3 g4
    refine ⟨mm.toNat, by omega, by omega, ?_⟩
    simp only [Gives, execOp, ho, hx, Instr.sliceAt, Instr.slice, Sem.run_bind, run_underlying hu w, Result.andThen_ok, hb, run_sizeOf' hz, Sem.run_pure]
  unfold cutV at hc
  split at hc
  · rename_i r z' ofs n hq
    split at hc
    · rename_i hcond
      obtain ⟨rfl, g0, g1, g2⟩ := hcond
      cases hc
      have hlen : lenV (x'.ev e) = some n := by rw [hq]; rfl
      rw [hq] at r1
      generalize hx : a.eval x = v at r1
      cases r1 with
      | @sl _ _ _ _ _ mx b base cap hr hn hcap hm hs =>
        obtain ⟨mm, g3, g4, hg⟩ := fin _ n cap hx hlen hcap g0 g1 g2
        refine ⟨_, hg, ?_⟩
        split
        · rename_i hml
          have e1 : m.toNat - l.toNat = 0 := by omega
          have e2 : mm - l.toNat = 0 := by omega
          rw [e1, e2]
          exact .slz hr (by omega)
        · obtain ⟨cur, e', fr, hb, hsz⟩ := hs
          simp only [Option.map_some, add_at]
          have := Rv.sl (w := w) (T := T) (ρ := ρ) (o := ofs + l.toNat) (n := m.toNat - l.toNat) (cap := mm - l.toNat) hr (by omega) (by omega) (by omega) ⟨cur, e', fr, hb, Nat.le_trans (Nat.add_le_add_left (Nat.mul_le_mul_right _ (by omega)) _) hsz⟩
          rw [Nat.add_mul, ← Nat.add_assoc] at this
          exact this
      | @slz _ _ _ _ mx b base off hr hn =>
        obtain ⟨mm, g3, g4, hg⟩ := fin _ 0 0 hx hlen (Nat.le_refl _) g0 g1 g2
        refine ⟨_, hg, ?_⟩
        have e0 : l.toNat = 0 := by omega
        have e1 : m.toNat - l.toNat = 0 := by omega
        have e2 : mm = 0 := by omega
        rw [e1, e2, e0]
        exact .slz hr (by omega)
      | slnil hr =>
        obtain ⟨mm, g3, g4, hg⟩ := fin _ 0 0 hx hlen (Nat.le_refl _) g0 g1 g2
        refine ⟨_, hg, ?_⟩
        have e0 : l.toNat = 0 := by omega
        have e1 : m.toNat - l.toNat = 0 := by omega
        have e2 : mm = 0 := by omega
        rw [e1, e2, e0]
        exact .slnil hr
    · cases hc
  · rename_i z' es hq
    split at hc
    · rename_i hcond
      obtain ⟨rfl, g0, g1, g2⟩ := hcond
      cases hc
      have hlen : lenV (x'.ev e) = some es.length := by rw [hq]; rfl
      rw [hq] at r1
      generalize hx : a.eval x = v at r1
      cases r1 with
      | @lnil _ _ ad cap ha hm =>
        obtain ⟨mm, g3, g4, hg⟩ := fin _ 0 _ hx hlen (Nat.zero_le _) g0 g1 g2
        refine ⟨_, hg, ?_⟩
        have e0 : l.toNat = 0 := by simp at g2; omega
        have e1 : m.toNat - l.toNat = 0 := by simp at g2; omega
        rw [e1, e0]
        refine .lnil (fun hn => ?_) (by omega)
        have : ad = none := by
          split at hn
          · exact hn
          · simpa using hn
        have := ha this
        omega
      | @l _ _ _ b base cap g hT hb hcap hm hz' hcell hv =>
        obtain ⟨mm, g3, g4, hg⟩ := fin _ es.length cap hx hlen hcap g0 g1 g2
        refine ⟨_, hg, ?_⟩
        have hlen2 : ((es.drop l.toNat).take (m.toNat - l.toNat)).length = m.toNat - l.toNat := by rw [List.length_take, List.length_drop]; omega
        split
        · rename_i hml
          have e1 : m.toNat - l.toNat = 0 := by omega
          have e2 : mm - l.toNat = 0 := by omega
          rw [e1, e2, List.take_zero]
          exact Rv.l (es := []) (fun _ _ => undef) hT hb (Nat.zero_le _) (Nat.zero_le _) (fun j hj => by cases hj) (fun j c hj => by cases hj) (fun j c hj => by cases hj)
        · simp only [Option.map_some, add_at]
          have key : ∀ j c, base + l.toNat * z' + j * z' + c = base + (l.toNat + j) * z' + c := by intro j c; rw [Nat.add_mul]; omega
          have := Rv.l (w := w) (T := T) (ρ := ρ) (z := z') (es := (es.drop l.toNat).take (m.toNat - l.toNat)) (b := b) (base := base + l.toNat * z') (cap := mm - l.toNat) (fun j c => g (l.toNat + j) c) hT hb (by rw [hlen2]; omega) (by omega)
            (fun j hj => by rw [hlen2] at hj; rw [getD_drop_take _ _ _ _ _ hj]; exact hz' _ (by omega))
            (fun j c hj hc => by rw [hlen2] at hj; rw [key]; exact hcell _ c (by omega) hc)
            (fun j c hj hc => by rw [hlen2] at hj; rw [getD_drop_take _ _ _ _ _ hj]; exact hv _ c (by omega) hc)
          rw [hlen2] at this
          exact this
    · cases hc
  · rename_i z' hq
    split at hc
    · rename_i hcond
      obtain ⟨rfl, rfl⟩ := hcond
      cases hc
      have hlen : lenV (x'.ev e) = some 0 := by rw [hq]; rfl
      rw [hq] at r1
      generalize hx : a.eval x = v at r1
      cases r1
      obtain ⟨mm, g3, g4, hg⟩ := fin _ 0 0 hx hlen (Nat.le_refl _) (Int.le_refl _) (Int.le_refl _) (Int.le_refl _)
      refine ⟨_, hg, ?_⟩
      have e2 : mm = 0 := by omega
      rw [e2]
      exact .ns
    · cases hc
  · cases hc
end
end Go.Pe
set_option linter.unusedVariables false
set_option linter.unusedSimpArgs false
namespace Go.Pe
open Go
def Turns (P : Program) (f : Fr) (o : Oper) (a : Act) (w : World) (T : Nat → Prop) (ρ : Rho) (av : AV) (h' : Heap) : Prop :=
  ∃ v w' T' ρ', ((execOp a.eval o).run P w = .ok (.value v) w' ∨ ((execOp a.eval o).run P w = .ok .skip w' ∧ v = undef)) ∧ WInv f w' T' ρ' h' ∧ Goes w w' T T' ρ ρ' ∧ Rv w' T' ρ' av v
section
variable {P : Program} {f : Fr} {w : World} {T : Nat → Prop} {ρ : Rho} {h : Heap} {e : Nat → AV} {a : Act} {o : Oper}
theorem cell_new (w : World) (c : Array Value) (t : TypeId) (i : Nat) : (w.alloc (.cells c t)).cell? ⟨w.heap.size, i, none⟩ = c[i]? := World.cell?_alloc_new w c t i
theorem new_st (k : WInv f w T ρ h) {id : Nat} (hid : h id = none) {cs : List AV} {vs : Array Value} {t : TypeId} (hl : vs.size = cs.length)
    (hv : ∀ c, c < cs.length → Rv w T ρ (cs.getD c .junk) (vs.getD c undef) ∧ (vs.getD c undef).oneCell' = true) :
    ∃ T' ρ', WInv f (w.alloc (.cells vs t)) T' ρ' (h.put id (.st cs)) ∧ Goes w (w.alloc (.cells vs t)) T T' ρ ρ' ∧ Rv (w.alloc (.cells vs t)) T' ρ' (.p id 0 0) (.pointer (some ⟨w.heap.size, 0, none⟩)) := by
  have ho := Old.alloc w (.cells vs t)
  obtain ⟨k', g⟩ := k.new ho hid (x := .st cs) (z := cs.length) (n := 1) (base := 0) (b := w.heap.size) (by simp) (Nat.le_refl _) (by simp) (fun T' ρ' ht hless hmore hρ => by
    refine ⟨w.heap.size, 0, vs, t, hρ, ht, heap_alloc_new w _, by omega, ⟨fun j hj => ?_, fun j c hj hc => ?_⟩⟩
    · cases j with
      | zero => rfl
      | succ j => simp at hj
    · cases j with
      | zero =>
        have h1 : vs[c]? = some (vs.getD c undef) := by
          have : c < vs.size := by omega
          simp [this]
        refine ⟨vs.getD c undef, ?_, (hv c hc).2, (hv c hc).1.mono (ho.same T) hless hmore⟩
        rw [Nat.zero_mul, Nat.add_zero, Nat.zero_add, cell_new, h1]
      | succ j => simp at hj)
  refine ⟨_, _, k', g, ?_⟩
  have := Rv.p (w := w.alloc (.cells vs t)) (T := fun a => T a ∨ a = w.heap.size) (ρ := fun r => if r = id then some ⟨cs.length, 1, some (w.heap.size, 0)⟩ else ρ r) (e := 0) (o := 0) (if_pos rfl)
  simpa using this
theorem op_alloc (k : WInv f w T ρ h) {t : TypeId} {i : TypeInfo} {zv : Value} {id : Nat} {z : List AV} {av : AV} {h' : Heap} (call : Call) (ho : o.op = .alloc t) (hi : P.info? t = some i) (hz : i.zero = some zv) (hm : mvs zv.cells.toList z = true)
    (hv : PO.ev call (.alloc id z) e h = some (av, h')) : Turns P f o a w T ρ av h' := by
  simp only [PO.ev] at hv
  split at hv
  · rename_i hid
    cases hv
    obtain ⟨h1, h2⟩ := mvs_rv (w := w) (T := T) (ρ := ρ) hm
    obtain ⟨T', ρ', k', g, r⟩ := new_st (t := t) k (by simpa using hid) (cs := z) (vs := zv.cells) (by rw [← h1]; simp) fun c hc => by rw [toList_getD]; exact h2 c hc
    refine ⟨_, _, T', ρ', .inl ?_, k', g, r⟩
    simp [execOp, ho, Instr.alloc, run_zeroValue hi hz, newVar, newRow]
  · cases hv
theorem cells_rv {x : AV} {v : Value} (r : Rv w T ρ x v) (hp0 : 0 < x.cells.length) : v.cells.size = x.cells.length ∧ ∀ c, c < x.cells.length → Rv w T ρ (x.cells.getD c .junk) (v.cells.getD c undef) ∧ (v.cells.getD c undef).oneCell' = true := by
  have one : ∀ {y : AV} {u : Value}, Rv w T ρ y u → y.cells = [y] → u.cells = #[u] → u.oneCell' = true → u.cells.size = y.cells.length ∧ ∀ c, c < y.cells.length → Rv w T ρ (y.cells.getD c .junk) (u.cells.getD c undef) ∧ (u.cells.getD c undef).oneCell' = true := by
    intro y u hr h1 h2 h3
    rw [h1, h2]
    refine ⟨rfl, fun c hc => ?_⟩
    cases c with
    | zero => exact ⟨hr, h3⟩
    | succ c => simp at hc
  cases r with
  | agg vs hl h1 hv => exact ⟨hl, fun c hc => ⟨hv c hc, h1 c hc⟩⟩
  | junk => simp [AV.cells] at hp0
  | tup => simp [AV.cells] at hp0
  | b => exact one .b rfl rfl rfl
  | i => exact one .i rfl rfl rfl
  | s => exact one .s rfl rfl rfl
  | np => exact one .np rfl rfl rfl
  | ns => exact one .ns rfl rfl rfl
  | lnil ha hm => exact one (.lnil ha hm) rfl rfl rfl
  | l g hT hb hc hm hz hcell hv => exact one (.l g hT hb hc hm hz hcell hv) rfl rfl rfl
  | tp g hT hb hcell hv => exact one (.tp g hT hb hcell hv) rfl rfl rfl
  | sl hr hn hc hm hs => exact one (.sl hr hn hc hm hs) rfl rfl rfl
  | slz hr hn => exact one (.slz hr hn) rfl rfl rfl
  | slnil hr => exact one (.slnil hr) rfl rfl rfl
  | p hr => exact one (.p hr) rfl rfl rfl
theorem op_box (k : WInv f w T ρ h) (he : Env w T ρ e a) {t : TypeId} {x : Operand} {x' : At} {id sz : Nat} {av : AV} {h' : Heap} (call : Call) (ho : o.op = .box t x) (hsz : 0 < sz) (h1 : ma f.tabs x x' = true)
    (hv : PO.ev call (.box id sz x') e h = some (av, h')) : Turns P f o a w T ρ av h' := by
  have r1 := ma_rv k he h1
  simp only [PO.ev] at hv
  split at hv
  · rename_i hid
    cases hv
    obtain ⟨h2, h3⟩ := cells_rv r1 (by omega)
    obtain ⟨T', ρ', k', g, r⟩ := new_st (t := t) k (by simpa using hid.2) (cs := (x'.ev e).cells) (vs := (a.eval x).cells) h2 h3
    refine ⟨_, _, T', ρ', .inl ?_, k', g, r⟩
    simp [execOp, ho, Instr.box, newVar, newRow]
  · cases hv
theorem new_sl (k : WInv f w T ρ h) {w' : World} (ho : Old w w') {id : Nat} (hid : h id = none) {z : Nat} {es : List (List AV)} {cur : Array Value} {t : TypeId} {b : Nat} (hb : w.heap.size ≤ b) (hcur : w'.heap[b]? = some (Obj.cells cur t (0, 0))) (hsz : es.length * z ≤ cur.size) {cap : Nat} (hcap : es.length ≤ cap) (hm : cap ≤ maxLen) (hcs : cap * z ≤ cur.size)
    (hl : ∀ j, j < es.length → (es.getD j []).length = z) (hv : ∀ j c, j < es.length → c < z → Rv w T Rho.none ((es.getD j []).getD c .junk) (cur.getD (j * z + c) undef) ∧ (cur.getD (j * z + c) undef).oneCell' = true) :
    ∃ T' ρ', WInv f w' T' ρ' (h.put id (.sl true z es)) ∧ Goes w w' T T' ρ ρ' ∧ Rv w' T' ρ' (.sl id z 0 es.length) (.slice (some ⟨b, 0, none⟩) es.length cap) := by
  have hlt := lt_of_cells hcur
  obtain ⟨k', g⟩ := k.new ho hid (x := .sl true z es) (z := z) (n := es.length) (base := 0) (b := b) (by omega) hb hlt (fun T' ρ' ht hless hmore hρ => by
    refine .inr ⟨b, 0, cur, t, hρ, ht, hcur, by omega, fun _ => rfl, ⟨hl, fun j c hj hc => ?_⟩⟩
    have hlt2 : j * z + c < cur.size := by
      have := Nat.mul_le_mul_right z (show j + 1 ≤ es.length by omega)
      rw [Nat.add_mul] at this
      omega
    have h1 : cur[j * z + c]? = some (cur.getD (j * z + c) undef) := by simp [hlt2]
    refine ⟨cur.getD (j * z + c) undef, ?_, (hv j c hj hc).2, (hv j c hj hc).1.mono (ho.same T) hless fun _ _ h => h⟩
    simp only [World.cell?, hcur, Nat.zero_add]
    exact h1)
  refine ⟨_, _, k', g, ?_⟩
  have := Rv.sl (w := w') (T := fun a => T a ∨ a = b) (ρ := fun r => if r = id then some ⟨z, es.length, some (b, 0)⟩ else ρ r) (r := id) (o := 0) (n := es.length) (cap := cap) (if_pos rfl) (by omega) hcap hm ⟨cur, t, (0, 0), hcur, by rw [Nat.zero_add, Nat.zero_add]; exact hcs⟩
  simpa using this
theorem getD_replicate {α : Type} (n : Nat) (x d : α) (j : Nat) (hj : j < n) : (List.replicate n x).getD j d = x := by
  rw [List.getD_eq_getElem?_getD, List.getElem?_replicate, if_pos hj]; rfl
theorem made_getD (z : Array Value) (n j c : Nat) (hc : c < z.size) (hj : j * z.size + c < n) : (madeCells z n).getD (j * z.size + c) undef = z.getD c undef := by
  unfold madeCells
  have h0 : (j * z.size + c) % z.size = c := by rw [Nat.mul_comm, Nat.mul_add_mod, Nat.mod_eq_of_lt hc]
  have h1 : ((Array.range n).map (fun i => z[i % z.size]!))[j * z.size + c]? = some (z[c]!) := by
    rw [Array.getElem?_map, Array.getElem?_range]
    simp [hj, h0]
  rw [show ((Array.range n).map (fun i => z[i % z.size]!)).getD (j * z.size + c) undef = z[c]! by
    rw [← Array.getElem?_eq_some_iff.1 h1 |>.2]
    simp [hj]]
  simp [hc]
theorem op_mk (k : WInv f w T ρ h) (he : Env w T ρ e a) {t el : TypeId} {i : TypeInfo} {zv : Value} {x : Operand} {x' : At} {id sz bytes : Nat} {z : List AV} {av : AV} {h' : Heap} (call : Call) (ho : o.op = .makeSlice t x x) (hu : P.underlying t = some (.slice el)) (hi : P.info? el = some i) (hz : i.zero = some zv)
    (hsz : i.size = sz) (hpos : 0 < sz) (hby : i.bytes = bytes) (hbp : 0 < bytes) (hm : mvs zv.cells.toList z = true) (hzl : z.length = sz) (h1 : ma f.tabs x x' = true)
    (hv : PO.ev call (.mk id sz bytes z x') e h = some (av, h')) : Turns P f o a w T ρ av h' := by
  have r1 := ma_rv k he h1
  simp only [PO.ev] at hv
  split at hv
  · rename_i n hq
    split at hv
    · rename_i hcond
      obtain ⟨g0, g1, hid⟩ := hcond
      cases hv
      rw [hq] at r1
      obtain ⟨h2, h3⟩ := mvs_rv (w := w) (T := T) (ρ := Rho.none) hm
      have hzs : zv.cells.size = sz := by rw [← hzl, ← h2]; simp
      have hnb : (i.bytes : Int) * n ≤ 281474976710656 := by
        rw [hby]
        have : ((n.toNat * bytes : Nat) : Int) ≤ 281474976710656 := Int.ofNat_le.2 g1
        rw [Int.natCast_mul, Int.toNat_of_nonneg g0, Int.mul_comm] at this
        exact this
      have hn63 : n.toNat ≤ 281474976710656 := Nat.le_trans (Nat.le_mul_of_pos_right _ hbp) g1
      have hr := run_make (P := P) w t el i zv hu hi hz .i64 .i64 n n g0 (Int.le_refl _) hnb (by omega)
      rw [hsz] at hr
      have hcurs : (madeCells zv.cells (n.toNat * sz)).size = n.toNat * sz := size_madeCells _ _
      obtain ⟨T', ρ', k', g, r⟩ := new_sl (w' := w.alloc (.cells (madeCells zv.cells (n.toNat * sz)) el)) (t := el) k (Old.alloc w _) (by simpa using hid) (z := sz) (es := List.replicate n.toNat z) (Nat.le_refl _) (heap_alloc_new w _) (by rw [List.length_replicate, hcurs]; exact Nat.le_refl _) (cap := n.toNat) (by rw [List.length_replicate]; exact Nat.le_refl _) (by simp only [maxLen]; omega) (by rw [hcurs]; exact Nat.le_refl _)
        (fun j hj => by rw [List.length_replicate] at hj; rw [getD_replicate _ _ _ _ hj]; exact hzl)
        (fun j c hj hc => by
          rw [List.length_replicate] at hj
          rw [getD_replicate _ _ _ _ hj]
          have hlt : j * sz + c < n.toNat * sz := by
            have := Nat.mul_le_mul_right sz (show j + 1 ≤ n.toNat by omega)
            rw [Nat.add_mul] at this
            omega
          have := made_getD zv.cells (n.toNat * sz) j c (by omega) (by rw [hzs]; exact hlt)
          rw [hzs] at this
          rw [this, toList_getD]
          exact h3 c (by omega))
      rw [List.length_replicate] at r
      refine ⟨_, _, T', ρ', .inl ?_, k', g, r⟩
      simp only [execOp, ho, inv_i r1, Sem.run_bind, hr, Result.andThen_ok, Sem.run_pure]
    · cases hv
  · cases hv
end
end Go.Pe
set_option linter.unusedVariables false
set_option linter.unusedSimpArgs false
namespace Go.Pe
open Go
def mparts (tabs : List (Nat × List AV)) : List (Nat × Operand) → List (Nat × At) → Bool
  | [], [] => true
  | (i, x) :: l, (j, y) :: m => i == j && ma tabs x y && mparts tabs l m
  | _, _ => false
def laid (off : Nat) (vs : Array Value) (C : Array Value) : Array Value := vs.zipIdx.foldl (fun cs (c, j) => cs.setIfInBounds (off + j) c) C
theorem laid_list (off : Nat) : ∀ (l : List Value) (k : Nat) (C : Array Value),
    ((l.zipIdx k).foldl (fun cs (p : Value × Nat) => cs.setIfInBounds (off + p.2) p.1) C).size = C.size ∧
    ∀ m, ((l.zipIdx k).foldl (fun cs (p : Value × Nat) => cs.setIfInBounds (off + p.2) p.1) C)[m]? = if off + k ≤ m ∧ m < off + k + l.length ∧ m < C.size then l[m - (off + k)]? else C[m]?
  | [], k, C => ⟨rfl, fun m => by simp; intro h1 h2; omega⟩
  | v :: l, k, C => by
    obtain ⟨h1, h2⟩ := laid_list off l (k + 1) (C.setIfInBounds (off + k) v)
    simp only [List.zipIdx_cons, List.foldl_cons]
    refine ⟨by rw [h1]; simp, fun m => ?_⟩
    rw [h2]
    simp only [Array.size_setIfInBounds, List.length_cons]
    by_cases hm : m = off + k
    · subst hm
      rw [if_neg (by omega)]
      by_cases hs : off + k < C.size
      · rw [if_pos (by omega), Array.getElem?_setIfInBounds_self_of_lt hs]
        simp
      · rw [if_neg (by omega), Array.getElem?_eq_none (by simp; omega), Array.getElem?_eq_none (by omega)]
    · by_cases hin : off + (k + 1) ≤ m ∧ m < off + (k + 1) + l.length ∧ m < C.size
      · rw [if_pos hin, if_pos (by omega), show m - (off + k) = (m - (off + (k + 1))) + 1 by omega, List.getElem?_cons_succ]
      · rw [if_neg hin, if_neg (by omega), Array.getElem?_setIfInBounds_ne (by omega)]
theorem laid_get (off : Nat) (vs C : Array Value) : (laid off vs C).size = C.size ∧ ∀ m, (laid off vs C)[m]? = if off ≤ m ∧ m < off + vs.size ∧ m < C.size then vs[m - off]? else C[m]? := by
  have h := laid_list off vs.toList 0 C
  have e : laid off vs C = ((vs.toList.zipIdx 0).foldl (fun cs (p : Value × Nat) => cs.setIfInBounds (off + p.2) p.1) C) := by
    unfold laid
    rw [← Array.foldl_toList]
    rw [Array.toList_zipIdx]
  rw [e]
  refine ⟨h.1, fun m => ?_⟩
  rw [h.2 m]
  simp
theorem fill_cons (place : Nat → Option (Nat × Nat)) (C : Array Value) (i : Nat) (v : Value) (rest : List (Nat × Value)) {off sz : Nat} (hp : place i = some (off, sz)) (h1 : v.cells.size = sz) (h2 : off + sz ≤ C.size) :
    Instr.fill place C ((i, v) :: rest) = Instr.fill place (laid off v.cells C) rest := by
  simp only [Instr.fill, hp, h1, laid]
  rw [if_neg]
  simp only [ne_eq, not_true_eq_false, decide_false, Bool.false_or, decide_eq_true_eq, Bool.or_eq_true, false_or]
  omega
section
variable {P : Program} {f : Fr} {w : World} {T T' : Nat → Prop} {ρ : Rho} {h : Heap} {e : Nat → AV} {a : Act} {o : Oper}
structure Good (w : World) (T : Nat → Prop) (n z : Nat) (L : List (List AV)) (C : Array Value) : Prop where
  len : L.length = n
  size : C.size = n * z
  el : ∀ j, j < n → (L.getD j []).length = z
  rv : ∀ j c, j < n → c < z → Rv w T Rho.none ((L.getD j []).getD c .junk) (C.getD (j * z + c) undef) ∧ (C.getD (j * z + c) undef).oneCell' = true
theorem getD_of {C : Array Value} {m : Nat} {v : Value} (h : C[m]? = some v) : C.getD m undef = v := by
  have := (Array.getElem?_eq_some_iff.1 h)
  simp [this.1, this.2]
theorem in_row {n z j c : Nat} (hj : j < n) (hc : c < z) : j * z + c < n * z := by
  have := Nat.mul_le_mul_right z (show j + 1 ≤ n by omega)
  rw [Nat.add_mul] at this
  omega
theorem other_row {z i j c : Nat} (hne : i ≠ j) (hc : c < z) : ¬ (i * z ≤ j * z + c ∧ j * z + c < i * z + z) := by
  rintro ⟨h1, h2⟩
  rcases Nat.lt_or_gt_of_ne hne with h3 | h3
  · have := Nat.mul_le_mul_right z (show i + 1 ≤ j by omega)
    rw [Nat.add_mul] at this
    omega
  · have := Nat.mul_le_mul_right z (show j + 1 ≤ i by omega)
    rw [Nat.add_mul] at this
    omega
theorem getD_set_same {α : Type} {L : List α} {j : Nat} (x d : α) (h : j < L.length) : (L.set j x).getD j d = x := by
  rw [List.getD_eq_getElem?_getD, List.getElem?_set_self h]; rfl
theorem getD_set_other {α : Type} {L : List α} {i j : Nat} (x d : α) (h : i ≠ j) : (L.set i x).getD j d = L.getD j d := by
  rw [List.getD_eq_getElem?_getD, List.getElem?_set_ne h, ← List.getD_eq_getElem?_getD]
theorem Good.part {n z : Nat} {L : List (List AV)} {C : Array Value} (g : Good w T n z L C) {j : Nat} (hj : j < n) {cs : List AV} {vs : Array Value} (hl : vs.size = z) (hc : cs.length = z) (hv : ∀ c, c < z → Rv w T Rho.none (cs.getD c .junk) (vs.getD c undef) ∧ (vs.getD c undef).oneCell' = true) :
    Good w T n z (L.set j cs) (laid (j * z) vs C) := by
  obtain ⟨h1, h2⟩ := laid_get (j * z) vs C
  refine ⟨by rw [List.length_set]; exact g.len, h1.trans g.size, fun i hi => ?_, fun i c hi hc' => ?_⟩
  · by_cases hij : j = i
    · subst hij
      rw [getD_set_same _ _ (by rw [g.len]; exact hj)]
      exact hc
    · rw [getD_set_other _ _ hij]
      exact g.el i hi
  · have hlt := in_row hi hc'
    by_cases hij : j = i
    · subst hij
      rw [getD_set_same _ _ (by rw [g.len]; exact hj)]
      have : (laid (j * z) vs C)[j * z + c]? = some (vs.getD c undef) := by
        rw [h2, if_pos (by rw [g.size]; omega), Nat.add_sub_cancel_left]
        have : c < vs.size := by omega
        simp [this]
      rw [getD_of this]
      exact hv c hc'
    · rw [getD_set_other _ _ hij]
      have : (laid (j * z) vs C)[i * z + c]? = some (C.getD (i * z + c) undef) := by
        rw [h2, if_neg (fun hh => other_row hij hc' ⟨hh.1, by omega⟩)]
        have : i * z + c < C.size := by rw [g.size]; exact hlt
        simp [this]
      rw [getD_of this]
      exact g.rv i c hi hc'
theorem bsl_fill (k : WInv f w T ρ h) (he : Env w T ρ e a) (hless : ∀ b, b < w.heap.size → T' b → T b) {n z : Nat} (hz : 0 < z) : ∀ (parts : List (Nat × Operand)) (ps : List (Nat × At)) (L : List (List AV)) (C : Array Value) {L' : List (List AV)},
    mparts f.tabs parts ps = true → (∀ p ∈ ps, ∀ r ∈ ref1 h (p.2.ev e), ∀ b, rowBlk h ρ r b → ¬ T' b) → Good w T' n z L C → bslV e h z L ps = some L' →
    ∃ C', Instr.fill (fun i => some (i * z, z)) C (parts.map fun p => (p.1, a.eval p.2)) = some C' ∧ Good w T' n z L' C'
  | [], [], L, C, L', _, _, g, hb => by
    simp only [bslV, Option.some.injEq] at hb
    subst hb
    exact ⟨C, rfl, g⟩
  | (i, x) :: parts, (j, y) :: ps, L, C, L', hm, hr, g, hb => by
    simp only [mparts, Bool.and_eq_true, beq_iff_eq] at hm
    obtain ⟨⟨rfl, hm1⟩, hm2⟩ := hm
    simp only [bslV] at hb
    split at hb
    · rename_i hcond
      obtain ⟨c1, c2⟩ := hcond
      have r1 := ma_rv k he hm1
      obtain ⟨h2, h3⟩ := cells_rv r1 (by omega)
      rw [g.len] at c2
      have g' := g.part c2 (vs := (a.eval x).cells) (cs := (y.ev e).cells.map (tellC h)) (by omega) (by rw [List.length_map]; exact c1) fun c hc => by
        rw [getD_map_lt (tellC h) _ c .junk .junk (by omega)]
        obtain ⟨h4, h5⟩ := h3 c (by omega)
        refine ⟨tellC_rv k.rows hless h4 (fun r hr' => hr _ List.mem_cons_self r ?_) (one_of_cell h4 h5).1 (one_of_cell h4 h5).2, h5⟩
        have hmem : (y.ev e).cells.getD c .junk ∈ (y.ev e).cells := getD_mem _ (by omega)
        show r ∈ ref1 h (y.ev e)
        revert hmem hr'
        generalize (y.ev e).cells.getD c .junk = q
        generalize y.ev e = u
        intro hr' hmem
        cases u <;> simp only [AV.cells, List.mem_singleton] at hmem <;> first
          | (subst hmem; exact hr')
          | exact List.mem_flatMap.2 ⟨q, hmem, hr'⟩
          | cases hmem
      obtain ⟨C', h6, h7⟩ := bsl_fill k he hless hz parts ps _ _ hm2 (fun p hp => hr p (List.mem_cons_of_mem _ hp)) g' hb
      refine ⟨C', ?_, h7⟩
      show Instr.fill _ _ ((i, a.eval x) :: _) = _
      rw [fill_cons (fun i => some (i * z, z)) C i (a.eval x) _ rfl (by omega) (by rw [g.size]; have := in_row c2 (show z - 1 < z by omega); omega)]
      exact h6
    · cases hb
  | [], _ :: _, _, _, _, hm, _, _, _ => by simp [mparts] at hm
  | _ :: _, [], _, _, _, hm, _, _, _ => by simp [mparts] at hm
theorem op_bsl (k : WInv f w T ρ h) (he : Env w T ρ e a) {t el : TypeId} {n : Nat} {parts : Array (Nat × Operand)} {i : TypeInfo} {zv : Value} {id sz : Nat} {z : List AV} {ps : List (Nat × At)} {av : AV} {h' : Heap} (call : Call) (ho : o.op = .buildSlice t n parts) (hu : P.underlying t = some (.slice el)) (hi : P.info? el = some i) (hz : i.zero = some zv)
    (hsz : i.size = sz) (hpos : 0 < sz) (hsmall : n * sz ≤ 16777216) (hm : mvs zv.cells.toList z = true) (hzl : z.length = sz) (hp : mparts f.tabs parts.toList ps = true)
    (hv : PO.ev call (.bsl id sz z n ps) e h = some (av, h')) : Turns P f o a w T ρ av h' := by
  simp only [PO.ev] at hv
  split at hv
  · rename_i hid
    simp only [Option.map_eq_some_iff] at hv
    obtain ⟨es, hb, hcv⟩ := hv
    cases hcv
    obtain ⟨T1, k1, g1, hfree, _⟩ := k.freeze (ps.flatMap fun p => ref1 h (p.2.ev e))
    obtain ⟨h2, h3⟩ := mvs_rv (w := w) (T := T1) (ρ := Rho.none) hm
    have hzs : zv.cells.size = sz := by rw [← hzl, ← h2]; simp
    have good0 : Good w T1 n sz (List.replicate n z) (madeCells zv.cells (n * sz)) := by
      refine ⟨List.length_replicate, size_madeCells _ _, fun j hj => by rw [getD_replicate _ _ _ _ hj]; exact hzl, fun j c hj hc => ?_⟩
      rw [getD_replicate _ _ _ _ hj]
      have := made_getD zv.cells (n * sz) j c (by omega) (by rw [hzs]; exact in_row hj hc)
      rw [hzs] at this
      rw [this, toList_getD]
      exact h3 c (by omega)
    obtain ⟨C', hf, gd⟩ := bsl_fill k he g1.less hpos parts.toList ps _ _ hp (fun p hp r hr => hfree r (List.mem_flatMap.2 ⟨p, hp, hr⟩)) good0 hb
    obtain ⟨T2, ρ2, k2, g2, r2⟩ := new_sl (w' := w.alloc (.cells C' el)) (t := el) k1 (Old.alloc w _) (id := id) (by rw [freeze_none]; simpa using hid) (z := sz) (es := es) (Nat.le_refl _) (heap_alloc_new w _) (by rw [gd.size, gd.len]; exact Nat.le_refl _) (cap := n) (by rw [gd.len]; exact Nat.le_refl _) (by have := Nat.le_mul_of_pos_right n hpos; simp only [maxLen]; omega) (by rw [gd.size]; exact Nat.le_refl _)
      (fun j hj => gd.el j (by rw [← gd.len]; exact hj)) (fun j c hj hc => gd.rv j c (by rw [← gd.len]; exact hj) hc)
    rw [gd.len] at r2
    refine ⟨_, _, T2, ρ2, .inl ?_, k2, g1.trans g2, r2⟩
    have hr : (Instr.buildSlice t n (parts.map fun (i, x) => (i, a.eval x))).run P w = .ok (.slice (some ⟨w.heap.size, 0, none⟩) n n) (w.alloc (.cells C' el)) := by
      by_cases hn : n * i.size = 0
      · have hn0 : n = 0 := by
          rcases Nat.mul_eq_zero.1 hn with h9 | h9
          · exact h9
          · omega
        subst hn0
        have hps : parts.toList = [] := by
          cases hpl : parts.toList with
          | nil => rfl
          | cons p l =>
            rw [hpl] at hp
            cases ps with
            | nil => simp [mparts] at hp
            | cons q ps =>
              simp only [bslV, List.replicate_zero, List.length_nil, Nat.not_lt_zero, and_false, if_false] at hb
              cases hb
        have hpa : parts = #[] := by
          apply Array.ext'
          rw [hps]
        subst hpa
        have hC : C' = #[] := by
          apply Array.eq_empty_of_size_eq_zero
          rw [gd.size]; simp
        subst hC
        simp [Instr.buildSlice, run_underlying hu, run_sizeOf' (show szT P el = some i.size by simp [szT, hi]), Instr.fill, newRow]
        have h0 : Array.range 0 = #[] := rfl
        rw [h0, Array.map_empty]
      · refine run_buildSlice w t el n _ C' i zv hu hi hz (by rw [hsz]; omega) hn ?_
        rw [hsz]
        have : (parts.map fun (i, x) => (i, a.eval x)).toList = parts.toList.map fun p => (p.1, a.eval p.2) := by simp
        rw [this]
        exact hf
    simp only [execOp, ho, Sem.run_bind, hr, Result.andThen_ok, Sem.run_pure]
  · cases hv
end
end Go.Pe
