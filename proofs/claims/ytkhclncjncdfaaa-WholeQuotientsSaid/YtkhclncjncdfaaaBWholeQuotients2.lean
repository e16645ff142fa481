/- Part 2 of the texts of WholeQuotients: words, the machine's side of functions (written by a program), plain lemmas. -/
import Derived.Test.YtkhclncjncdfaaaBWholeQuotients1
import Derived.KernelRfl
import Derived.Below
import Derived.Deep.MidRow
import Derived.Laws.IdiomCopy
import Derived.Laws.AppendOwn
import Derived.Laws.MakeOwn
set_option linter.unusedVariables false
set_option linter.unusedSimpArgs false
set_option linter.unusedSimpArgs false
set_option linter.unusedVariables false
open Go
namespace Go.Pe
theorem mul_bound {x y M : Int} (hx0 : 0 ≤ x) (hx : x ≤ M) (hy0 : 0 ≤ y) (hy : y ≤ M) : 0 ≤ x * y ∧ x * y ≤ M * M :=
  ⟨Int.mul_nonneg hx0 hy0, Int.le_trans (Int.mul_le_mul_of_nonneg_right hx hy0) (Int.mul_le_mul_of_nonneg_left hy (by omega))⟩
theorem tdiv_pos {x y : Int} (h : 0 ≤ x) : Int.tdiv x y = x / y := Int.tdiv_eq_ediv_of_nonneg h
theorem tmod_pos {x y : Int} (h : 0 ≤ x) : Int.tmod x y = x % y := Int.tmod_eq_emod_of_nonneg h
theorem mul_step {B : Int} {out : List Int} {p : Nat} {c x S t : Int} (hlt : p < out.length) (hv : Dg.vl B out + c * B ^ p = S) (ht : t = c + out.getD p 0 + x) :
    Dg.vl B (out.set p (t % B)) + (t / B) * B ^ (p + 1) = S + x * B ^ p := by
  rw [Dg.vl_set _ _ _ _ hlt, Int.pow_succ]
  have h := Int.mul_ediv_add_emod t B
  have e : (t % B - out.getD p 0) * B ^ p + t / B * (B ^ p * B) = (t - out.getD p 0) * B ^ p := by
    have : t % B = t - B * (t / B) := by omega
    rw [this]
    grind
  rw [Int.add_assoc, e, ht, ← hv]
  grind
theorem zero_set {out : List Int} {p q : Nat} (v : Int) (h : p < q) (hz : ∀ j, q ≤ j → out.getD j 0 = 0) : ∀ j, q ≤ j → (out.set p v).getD j 0 = 0 := by
  intro j hj
  rw [List.getD_eq_getElem?_getD, List.getElem?_set_ne (by omega), ← List.getD_eq_getElem?_getD]
  exact hz j hj
theorem times_l1 {a b : List Int} (ha : Dg.Dig 10000 a) (hb : Dg.Dig 10000 b) (hl : a.length + b.length ≤ 35184372088832) {i : Nat} (hi : i < a.length) (out : List Int) : ∀ (e m : Nat) (o : List Int) (c : Int), m + e = b.length → o.length = a.length + b.length → Dg.Dig 10000 o → 0 ≤ c → c ≤ 9999 → (∀ j, i + b.length ≤ j → o.getD j 0 = 0) →
    Dg.vl 10000 o + c * 10000 ^ (i + m) = Dg.vl 10000 out + a.getD i 0 * Dg.vl 10000 (b.take m) * 10000 ^ i →
    ∃ o' c', LP FF [(5, 1), (0, 0), (1, 0), (6, 0), (7, 0), (8, 0)] [(5, 1), (0, 0), (1, 0), (6, 0), (7, 0)] b90_1 [.own true 1 (o.map n64), (AV.l 1 (List.map n64 a)), (AV.l 1 (List.map n64 b)), (AV.i .i64 ((i : Int))), (AV.i .i64 c), (AV.i .i64 ((m : Int)))] = some (.exit 2, [.own true 1 (o'.map n64), (AV.l 1 (List.map n64 a)), (AV.l 1 (List.map n64 b)), (AV.i .i64 ((i : Int))), (AV.i .i64 (c'))]) ∧
      o'.length = a.length + b.length ∧ Dg.Dig 10000 o' ∧ 0 ≤ c' ∧ c' ≤ 9999 ∧ (∀ j, i + b.length ≤ j → o'.getD j 0 = 0) ∧ Dg.vl 10000 o' + c' * 10000 ^ (i + b.length) = Dg.vl 10000 out + a.getD i 0 * Dg.vl 10000 b * 10000 ^ i := by
  have gi := ha.getD (by decide) i
  intro e
  induction e with
  | zero =>
    intro m o c hm ho2 hd2 hc0 hc1 hz2 hv2
    have hmb : m = b.length := by omega
    subst hmb
    rw [List.take_length] at hv2
    refine ⟨o, c, ?_, ho2, hd2, hc0, hc1, hz2, hv2⟩
    rw [LP_go FF b90_1.eq_1]
    simp only [RB, un, St.none, Nat.reduceEqDiff, Nat.reduceAdd, Nat.reduceMul, Nat.reduceLeDiff, Nat.reduceLT, Int.reduceLT, Int.reduceLE, Int.reduceEq, Int.reduceToNat, Int.reduceSub, Int.reduceNeg, Int.reduceAdd, ↓reduceIte, reduceCtorEq, ite_self, eq_self, if_true, if_false, pack, pid, parN, List.not_mem_nil, List.mem_cons, lid, chkK, apartV, List.map_nil, List.flatMap_nil, List.append_nil, List.nil_append, List.drop_zero, List.length_set, List.length_replicate, List.length_append, List.take_length, List.take_zero, List.drop_length, Option.isNone_none, Heap.none]
    simp (disch := omega) only [if_pos, if_neg, List.take_length, take_set_len, take_set2_len, take_rep_len, take_snoc_len, take_app_len]
  | succ e ih2 =>
    intro m o c hm ho2 hd2 hc0 hc1 hz2 hv2
    have gm := hb.getD (by decide) m
    have go := hd2.getD (by decide) (i + m)
    have hx := mul_bound gi.1 (show a.getD i 0 ≤ 9999 by omega) gm.1 (show b.getD m 0 ≤ 9999 by omega)
    have h9 := ih2 (m + 1) (o.set (i + m) ((c + o.getD (i + m) 0 + a.getD i 0 * b.getD m 0) % 10000)) ((c + o.getD (i + m) 0 + a.getD i 0 * b.getD m 0) / 10000) (by omega) (by rw [List.length_set]; exact ho2) (hd2.set _ (by omega) (by omega)) (by omega) (by omega) (zero_set _ (by omega) hz2) (by
      have := mul_step (B := 10000) (x := a.getD i 0 * b.getD m 0) (show i + m < o.length by omega) hv2 (t := c + o.getD (i + m) 0 + a.getD i 0 * b.getD m 0) rfl
      rw [show i + (m + 1) = i + m + 1 by omega, this, Dg.vl_take_succ, Int.pow_add]
      grind)
    have e1 : IntKind.i64.wrap ((i : Int) + (m : Int)) = ((i + m : Nat) : Int) := w64add (by omega)
    have e2 : IntKind.i64.wrap ((m : Int) + 1) = ((m + 1 : Nat) : Int) := w64succ (by omega)
    have e3 : IntKind.i64.wrap (c + o.getD (i + m) 0) = c + o.getD (i + m) 0 := w64 (by omega) (by omega)
    have e4 : IntKind.i64.wrap (a.getD i 0 * b.getD m 0) = a.getD i 0 * b.getD m 0 := w64 (by omega) (by omega)
    have e5 : IntKind.i64.wrap (c + o.getD (i + m) 0 + a.getD i 0 * b.getD m 0) = c + o.getD (i + m) 0 + a.getD i 0 * b.getD m 0 := w64 (by omega) (by omega)
    have e6 : Int.tmod (c + o.getD (i + m) 0 + a.getD i 0 * b.getD m 0) 10000 = (c + o.getD (i + m) 0 + a.getD i 0 * b.getD m 0) % 10000 := tmod_pos (by omega)
    have e7 : IntKind.i64.wrap (Int.tdiv (c + o.getD (i + m) 0 + a.getD i 0 * b.getD m 0) 10000) = (c + o.getD (i + m) 0 + a.getD i 0 * b.getD m 0) / 10000 := by rw [tdiv_pos (by omega)]; exact w64 (by omega) (by omega)
    rw [LP_go FF b90_1.eq_1]
    simp only [RB, un, St.none, Nat.reduceEqDiff, Nat.reduceAdd, Nat.reduceMul, Nat.reduceLeDiff, Nat.reduceLT, Int.reduceLT, Int.reduceLE, Int.reduceEq, Int.reduceToNat, Int.reduceSub, Int.reduceNeg, Int.reduceAdd, ↓reduceIte, reduceCtorEq, ite_self, eq_self, if_true, if_false, pack, pid, parN, List.not_mem_nil, List.mem_cons, lid, chkK, apartV, List.map_nil, List.flatMap_nil, List.append_nil, List.nil_append, List.drop_zero, List.length_set, List.length_replicate, List.length_append, List.take_length, List.take_zero, List.drop_length, Option.isNone_none, Heap.none, e1, e2, e3, e4, e5, e6, e7]
    simp (disch := omega) only [if_pos, if_neg, List.take_length, take_set_len, take_set2_len, take_rep_len, take_snoc_len, take_app_len]
    exact h9
theorem times_l0 {a b : List Int} (ha : Dg.Dig 10000 a) (hb : Dg.Dig 10000 b) (hl : a.length + b.length ≤ 35184372088832) :
    ∀ (d i : Nat) (out : List Int), i + d = a.length → out.length = a.length + b.length → Dg.Dig 10000 out → Dg.vl 10000 out = Dg.vl 10000 (a.take i) * Dg.vl 10000 b → (∀ j, i + b.length ≤ j → out.getD j 0 = 0) →
    ∃ o, LP FF [(5, 1), (0, 0), (1, 0), (6, 0)] [(5, 0)] b90_0 [.own true 1 (out.map n64), (AV.l 1 (List.map n64 a)), (AV.l 1 (List.map n64 b)), (AV.i .i64 ((i : Int)))] = some (.exit 0, [(AV.l 1 (List.map n64 o))]) ∧ Dg.Dig 10000 o ∧ o.length = a.length + b.length ∧ Dg.vl 10000 o = Dg.vl 10000 a * Dg.vl 10000 b := by
  intro d
  induction d with
  | zero =>
    intro i out hi ho hd hv hz
    rw [List.take_of_length_le (by omega)] at hv
    refine ⟨out, ?_, hd, ho, hv⟩
    rw [LP_go FF b90_0.eq_1]
    simp only [RB, un, St.none, Nat.reduceEqDiff, Nat.reduceAdd, Nat.reduceMul, Nat.reduceLeDiff, Nat.reduceLT, Int.reduceLT, Int.reduceLE, Int.reduceEq, Int.reduceToNat, Int.reduceSub, Int.reduceNeg, Int.reduceAdd, ↓reduceIte, reduceCtorEq, ite_self, eq_self, if_true, if_false, pack, pid, parN, List.not_mem_nil, List.mem_cons, lid, chkK, apartV, List.map_nil, List.flatMap_nil, List.append_nil, List.nil_append, List.drop_zero, List.length_set, List.length_replicate, List.length_append, List.take_length, List.take_zero, List.drop_length, Option.isNone_none, Heap.none]
    simp (disch := omega) only [if_pos, if_neg, List.take_length, take_set_len, take_set2_len, take_rep_len, take_snoc_len, take_app_len]
  | succ d ih =>
    intro i out hi ho hd hv hz
    obtain ⟨o, c, h1, h2, h3, h4, h5, h6, h7⟩ := times_l1 ha hb hl (show i < a.length by omega) out b.length 0 out 0 (by omega) ho hd (by omega) (by omega) hz (by simp [Dg.vl])
    have h9 := ih (i + 1) (o.set (i + b.length) c) (by omega) (by rw [List.length_set]; exact h2) (h3.set _ h4 (by omega)) (by
      rw [Dg.vl_set _ _ _ _ (by omega), h6 _ (Nat.le_refl _), Int.sub_zero, h7, hv, Dg.vl_take_succ]
      grind) (fun j hj => zero_set c (q := i + b.length + 1) (by omega) (fun j hj => h6 j (by omega)) j (by omega))
    have e1 : IntKind.i64.wrap ((i : Int) + (b.length : Int)) = ((i + b.length : Nat) : Int) := w64add (by omega)
    have e2 : IntKind.i64.wrap ((i : Int) + 1) = ((i + 1 : Nat) : Int) := w64succ (by omega)
    rw [Int.ofNat_zero] at h1
    rw [LP_go FF b90_0.eq_1]
    simp only [RB, un, St.none, Nat.reduceEqDiff, Nat.reduceAdd, Nat.reduceMul, Nat.reduceLeDiff, Nat.reduceLT, Int.reduceLT, Int.reduceLE, Int.reduceEq, Int.reduceToNat, Int.reduceSub, Int.reduceNeg, Int.reduceAdd, ↓reduceIte, reduceCtorEq, ite_self, eq_self, if_true, if_false, pack, pid, parN, List.not_mem_nil, List.mem_cons, lid, chkK, apartV, List.map_nil, List.flatMap_nil, List.append_nil, List.nil_append, List.drop_zero, List.length_set, List.length_replicate, List.length_append, List.take_length, List.take_zero, List.drop_length, Option.isNone_none, Heap.none]
    simp (disch := omega) only [if_pos, if_neg, List.take_length, take_set_len, take_set2_len, take_rep_len, take_snoc_len, take_app_len, h1]
    simp only [RB, un, St.none, Nat.reduceEqDiff, Nat.reduceAdd, Nat.reduceMul, Nat.reduceLeDiff, Nat.reduceLT, Int.reduceLT, Int.reduceLE, Int.reduceEq, Int.reduceToNat, Int.reduceSub, Int.reduceNeg, Int.reduceAdd, ↓reduceIte, reduceCtorEq, ite_self, eq_self, if_true, if_false, pack, pid, parN, List.not_mem_nil, List.mem_cons, lid, chkK, apartV, List.map_nil, List.flatMap_nil, List.append_nil, List.nil_append, List.drop_zero, List.length_set, List.length_replicate, List.length_append, List.take_length, List.take_zero, List.drop_length, Option.isNone_none, Heap.none, e1, e2]
    simp (disch := omega) only [if_pos, if_neg, List.take_length, take_set_len, take_set2_len, take_rep_len, take_snoc_len, take_app_len]
    exact h9
theorem times_c {x y : Nat} (hl : LE x + LE y ≤ 35184372088832) : R FF 90 [(AV.l 1 (List.map n64 (E x))), (AV.l 1 (List.map n64 (E y)))] = some (AV.l 1 (List.map n64 (E (x * y)))) := by
  have hl' : (E x).length + (E y).length ≤ 35184372088832 := hl
  obtain ⟨o, h1, h2, h3, h4⟩ := times_l0 (E_dig x) (E_dig y) hl' (E x).length 0 (List.replicate ((E x).length + (E y).length) 0) (by omega) (by rw [List.length_replicate]) (Dg.Dig.replicate (by decide) _) (by rw [Dg.vl_replicate_zero]; simp [Dg.vl]) (fun j hj => by
    rw [List.getD_eq_getElem?_getD]
    by_cases h : j < (E x).length + (E y).length <;> simp [List.getElem?_replicate, h])
  have h5 := rtrim_c h2 (by omega) (n := x * y) (by rw [h4, E_vl, E_vl]; exact (Int.natCast_mul x y).symm)
  have e1 : IntKind.i64.wrap (((E x).length : Int) + ((E y).length : Int)) = (((E x).length + (E y).length : Nat) : Int) := w64add (by omega)
  rw [Int.ofNat_zero] at h1
  rw [R_go FF F90 c90.eq_1]
  simp only [RB, un, St.none, Nat.reduceEqDiff, Nat.reduceAdd, Nat.reduceMul, Nat.reduceLeDiff, Nat.reduceLT, Int.reduceLT, Int.reduceLE, Int.reduceEq, Int.reduceToNat, Int.reduceSub, Int.reduceNeg, Int.reduceAdd, ↓reduceIte, reduceCtorEq, ite_self, eq_self, if_true, if_false, pack, pid, parN, List.not_mem_nil, List.mem_cons, lid, chkK, apartV, List.map_nil, List.flatMap_nil, List.append_nil, List.nil_append, List.drop_zero, List.length_set, List.length_replicate, List.length_append, List.take_length, List.take_zero, List.drop_length, Option.isNone_none, Heap.none, e1]
  simp (disch := omega) only [if_pos, if_neg, List.take_length, take_set_len, take_set2_len, take_rep_len, take_snoc_len, take_app_len, h1]
  simp only [RB, un, St.none, Nat.reduceEqDiff, Nat.reduceAdd, Nat.reduceMul, Nat.reduceLeDiff, Nat.reduceLT, Int.reduceLT, Int.reduceLE, Int.reduceEq, Int.reduceToNat, Int.reduceSub, Int.reduceNeg, Int.reduceAdd, ↓reduceIte, reduceCtorEq, ite_self, eq_self, if_true, if_false, pack, pid, parN, List.not_mem_nil, List.mem_cons, lid, chkK, apartV, List.map_nil, List.flatMap_nil, List.append_nil, List.nil_append, List.drop_zero, List.length_set, List.length_replicate, List.length_append, List.take_length, List.take_zero, List.drop_length, Option.isNone_none, Heap.none, h5]
theorem rdigit_c (l : List Int) (i : Nat) : R FF 120 [(AV.l 1 (List.map n64 l)), (AV.i .i64 ((i : Int)))] = some (AV.i .i64 (l.getD i 0)) := by
  rw [R_go FF F120 c120.eq_1]
  simp only [RB, un, St.none, Nat.reduceEqDiff, Nat.reduceAdd, Nat.reduceMul, Nat.reduceLeDiff, Nat.reduceLT, Int.reduceLT, Int.reduceLE, Int.reduceEq, Int.reduceToNat, Int.reduceSub, Int.reduceNeg, Int.reduceAdd, ↓reduceIte, reduceCtorEq, ite_self, eq_self, if_true, if_false, pack, pid, parN, List.not_mem_nil, List.mem_cons, lid, chkK, apartV, List.map_nil, List.flatMap_nil, List.append_nil, List.nil_append, List.drop_zero, List.length_set, List.length_replicate, List.length_append, List.take_length, List.take_zero, List.drop_length, Option.isNone_none, Heap.none]
  by_cases h : (i : Int) < (l.length : Int)
  · simp (disch := omega) only [if_pos, if_neg, List.take_length, take_set_len, take_set2_len, take_rep_len, take_snoc_len, take_app_len]
  · rw [List.getD_eq_getElem?_getD, List.getElem?_eq_none (by omega)]
    simp (disch := omega) only [if_pos, if_neg, List.take_length, take_set_len, take_set2_len, take_rep_len, take_snoc_len, take_app_len]
    rfl
theorem getD_beyond {l : List Int} {i : Nat} (h : l.length ≤ i) : l.getD i 0 = 0 := by rw [List.getD_eq_getElem?_getD, List.getElem?_eq_none h]; rfl
theorem getD_snoc {l : List Int} {i : Nat} (x : Int) (h : l.length = i) : (l ++ [x]).getD i 0 = x := by
  subst h
  rw [List.getD_eq_getElem?_getD, List.getElem?_append_right (Nat.le_refl _), Nat.sub_self]
  rfl
theorem vl_snoc (B : Int) (l : List Int) (x : Int) : Dg.vl B (l ++ [x]) = Dg.vl B l + x * B ^ l.length := by
  rw [Dg.vl_append]
  simp [Dg.vl]
  exact Int.mul_comm _ _
theorem plus_l0 {a b : List Int} (ha : Dg.Dig 10000 a) (hb : Dg.Dig 10000 b) (ta : Dg.Top a) (tb : Dg.Top b) (hla : a.length ≤ 4398046511104) (hlb : b.length ≤ 4398046511104) {n : Nat} (hn : Dg.vl 10000 a + Dg.vl 10000 b = n) :
    ∀ (d i : Nat) (out : List Int) (c : Int), max a.length b.length + 1 ≤ i + d → i ≤ max a.length b.length + 1 → (i = max a.length b.length + 1 → c = 0) → out.length = i → Dg.Dig 10000 out → 0 ≤ c → c ≤ 1 → Dg.vl 10000 out + c * 10000 ^ i = Dg.vl 10000 (a.take i) + Dg.vl 10000 (b.take i) →
    (i = 0 ∨ i < max a.length b.length ∨ c ≠ 0 ∨ out.getD (i - 1) 0 ≠ 0) → LP FF [(5, 1), (0, 0), (1, 0), (6, 0), (7, 0)] [(5, 0)] b87_0 [.own true 1 (out.map n64), (AV.l 1 (List.map n64 a)), (AV.l 1 (List.map n64 b)), (AV.i .i64 c), (AV.i .i64 ((i : Int)))] = some (.exit 0, [(AV.l 1 (List.map n64 (E n)))]) := by
  intro d
  induction d with
  | zero =>
    intro i out c hid hi2 hc9 ho hd hc0 hc1 hv ht
    have hi : i = max a.length b.length + 1 := by omega
    have hc := hc9 hi
    subst hc
    have he : out = E n := by
      refine E_of hd ?_ ?_
      · intro _
        rw [ho]
        rcases ht with h | h | h | h
        · omega
        · omega
        · exact absurd rfl h
        · exact h
      · rw [List.take_of_length_le (by omega), List.take_of_length_le (by omega), hn] at hv
        simpa using hv
    rw [← he]
    rw [LP_go FF b87_0.eq_1]
    simp only [RB, un, St.none, Nat.reduceEqDiff, Nat.reduceAdd, Nat.reduceMul, Nat.reduceLeDiff, Nat.reduceLT, Int.reduceLT, Int.reduceLE, Int.reduceEq, Int.reduceToNat, Int.reduceSub, Int.reduceNeg, Int.reduceAdd, ↓reduceIte, reduceCtorEq, ite_self, eq_self, if_true, if_false, pack, pid, parN, List.not_mem_nil, List.mem_cons, lid, chkK, apartV, List.map_nil, List.flatMap_nil, List.append_nil, List.nil_append, List.drop_zero, List.length_set, List.length_replicate, List.length_append, List.take_length, List.take_zero, List.drop_length, Option.isNone_none, Heap.none]
    simp (disch := omega) only [if_pos, if_neg, List.take_length, take_set_len, take_set2_len, take_rep_len, take_snoc_len, take_app_len]
  | succ d ih =>
    intro i out c hid hi2 hc9 ho hd hc0 hc1 hv ht
    have ga := ha.getD (by decide) i
    have gb := hb.getD (by decide) i
    have e1 : IntKind.i64.wrap (c + a.getD i 0) = c + a.getD i 0 := w64 (by omega) (by omega)
    have e2 : IntKind.i64.wrap (c + a.getD i 0 + b.getD i 0) = c + a.getD i 0 + b.getD i 0 := w64 (by omega) (by omega)
    have e3 : IntKind.i64.wrap ((i : Int) + 1) = ((i + 1 : Nat) : Int) := w64succ (by omega)
    have e6 : Int.tmod (c + a.getD i 0 + b.getD i 0) 10000 = (c + a.getD i 0 + b.getD i 0) % 10000 := tmod_pos (by omega)
    have e7 : IntKind.i64.wrap (Int.tdiv (c + a.getD i 0 + b.getD i 0) 10000) = (c + a.getD i 0 + b.getD i 0) / 10000 := by rw [tdiv_pos (by omega)]; exact w64 (by omega) (by omega)
    rw [LP_go FF b87_0.eq_1]
    simp only [RB, un, St.none, Nat.reduceEqDiff, Nat.reduceAdd, Nat.reduceMul, Nat.reduceLeDiff, Nat.reduceLT, Int.reduceLT, Int.reduceLE, Int.reduceEq, Int.reduceToNat, Int.reduceSub, Int.reduceNeg, Int.reduceAdd, ↓reduceIte, reduceCtorEq, ite_self, eq_self, if_true, if_false, pack, pid, parN, List.not_mem_nil, List.mem_cons, lid, chkK, apartV, List.map_nil, List.flatMap_nil, List.append_nil, List.nil_append, List.drop_zero, List.length_set, List.length_replicate, List.length_append, List.take_length, List.take_zero, List.drop_length, Option.isNone_none, Heap.none, rdigit_c, e1, e2, e3, e6, e7]
    by_cases hgo : (i : Int) < (a.length : Int) ∨ (i : Int) < (b.length : Int) ∨ 0 < c
    · have hig : i ≤ max a.length b.length := by
        rcases Nat.lt_or_ge (max a.length b.length) i with h | h
        · have := hc9 (by omega); omega
        · exact h
      simp (disch := omega) only [if_pos, if_neg, List.take_length, take_set_len, take_set2_len, take_rep_len, take_snoc_len, take_app_len]
      refine ih (i + 1) _ _ (by omega) (by omega) ?_ (by simp [ho]) (hd.append (Dg.Dig.cons (by omega) (by omega) Dg.Dig.nil)) (by omega) (by omega) ?_ ?_
      · intro h9
        have h1 := getD_beyond (l := a) (i := i) (by omega)
        have h2 := getD_beyond (l := b) (i := i) (by omega)
        rw [h1, h2]
        omega
      · rw [vl_snoc, ho, Dg.vl_take_succ, Dg.vl_take_succ, Int.pow_succ]
        have h := Int.mul_ediv_add_emod (c + a.getD i 0 + b.getD i 0) 10000
        grind
      · by_cases h9 : i + 1 < max a.length b.length
        · exact .inr (.inl h9)
        · refine .inr (.inr ?_)
          rw [Nat.add_sub_cancel, getD_snoc _ ho]
          have hs : 0 < c + a.getD i 0 + b.getD i 0 := by
            rcases Nat.lt_or_ge i (max a.length b.length) with h | h
            · by_cases hab : a.length = max a.length b.length
              · have := ta (fun e => by have h0 : a.length = 0 := (by rw [e]; rfl); omega)
                rw [show a.length - 1 = i by omega] at this
                omega
              · have := tb (fun e => by have h0 : b.length = 0 := (by rw [e]; rfl); omega)
                rw [show b.length - 1 = i by omega] at this
                omega
            · omega
          by_cases hq : (c + a.getD i 0 + b.getD i 0) / 10000 = 0
          · right; omega
          · left; exact hq
    · have hc : c = 0 := by omega
      subst hc
      have he : out = E n := by
        refine E_of hd ?_ ?_
        · intro hne
          rw [ho]
          rcases ht with h | h | h | h
          · subst h
            exact absurd (List.length_eq_zero_iff.1 ho) hne
          · omega
          · exact absurd rfl h
          · exact h
        · rw [List.take_of_length_le (by omega), List.take_of_length_le (by omega), hn] at hv
          simpa using hv
      simp (disch := omega) only [if_pos, if_neg, List.take_length, take_set_len, take_set2_len, take_rep_len, take_snoc_len, take_app_len]
      rw [he]
theorem plus_c {x y : Nat} (hx : LE x ≤ 4398046511104) (hy : LE y ≤ 4398046511104) : R FF 87 [(AV.l 1 (List.map n64 (E x))), (AV.l 1 (List.map n64 (E y)))] = some (AV.l 1 (List.map n64 (E (x + y)))) := by
  have h := plus_l0 (E_dig x) (E_dig y) (E_top x) (E_top y) hx hy (n := x + y) (by rw [E_vl, E_vl]; omega) (max (E x).length (E y).length + 1) 0 [] 0 (by omega) (by omega) (by omega) rfl Dg.Dig.nil (by omega) (by omega) (by simp [Dg.vl]) (.inl rfl)
  rw [Int.ofNat_zero, List.map_nil] at h
  rw [R_go FF F87 c87.eq_1]
  simp only [RB, un, St.none, Nat.reduceEqDiff, Nat.reduceAdd, Nat.reduceMul, Nat.reduceLeDiff, Nat.reduceLT, Int.reduceLT, Int.reduceLE, Int.reduceEq, Int.reduceToNat, Int.reduceSub, Int.reduceNeg, Int.reduceAdd, ↓reduceIte, reduceCtorEq, ite_self, eq_self, if_true, if_false, pack, pid, parN, List.not_mem_nil, List.mem_cons, lid, chkK, apartV, List.map_nil, List.flatMap_nil, List.append_nil, List.nil_append, List.drop_zero, List.length_set, List.length_replicate, List.length_append, List.take_length, List.take_zero, List.drop_length, Option.isNone_none, Heap.none, h]
theorem minus_l0 {a b : List Int} (ha : Dg.Dig 10000 a) (hb : Dg.Dig 10000 b) (hla : a.length ≤ 4398046511104) (hlb : b.length ≤ a.length) {n : Nat} (hn : Dg.vl 10000 a - Dg.vl 10000 b = n) :
    ∀ (d i : Nat) (out : List Int) (c : Int), i + d = a.length → out.length = i → Dg.Dig 10000 out → 0 ≤ c → c ≤ 1 → Dg.vl 10000 out - c * 10000 ^ i = Dg.vl 10000 (a.take i) - Dg.vl 10000 (b.take i) →
    ∃ o, LP FF [(5, 1), (0, 0), (1, 0), (6, 0), (7, 0)] [(5, 0)] b89_0 [.own true 1 (out.map n64), (AV.l 1 (List.map n64 a)), (AV.l 1 (List.map n64 b)), (AV.i .i64 c), (AV.i .i64 ((i : Int)))] = some (.exit 0, [(AV.l 1 (List.map n64 o))]) ∧ Dg.Dig 10000 o ∧ o.length = a.length ∧ Dg.vl 10000 o = n := by
  intro d
  induction d with
  | zero =>
    intro i out c hi ho hd hc0 hc1 hv
    refine ⟨out, ?_, hd, by omega, ?_⟩
    · rw [LP_go FF b89_0.eq_1]
      simp only [RB, un, St.none, Nat.reduceEqDiff, Nat.reduceAdd, Nat.reduceMul, Nat.reduceLeDiff, Nat.reduceLT, Int.reduceLT, Int.reduceLE, Int.reduceEq, Int.reduceToNat, Int.reduceSub, Int.reduceNeg, Int.reduceAdd, ↓reduceIte, reduceCtorEq, ite_self, eq_self, if_true, if_false, pack, pid, parN, List.not_mem_nil, List.mem_cons, lid, chkK, apartV, List.map_nil, List.flatMap_nil, List.append_nil, List.nil_append, List.drop_zero, List.length_set, List.length_replicate, List.length_append, List.take_length, List.take_zero, List.drop_length, Option.isNone_none, Heap.none]
      simp (disch := omega) only [if_pos, if_neg, List.take_length, take_set_len, take_set2_len, take_rep_len, take_snoc_len, take_app_len]
    rw [List.take_of_length_le (by omega), List.take_of_length_le (by omega), hn] at hv
    have h1 := Dg.vl_lt hd (by decide)
    rw [ho] at h1
    rcases (show c = 0 ∨ c = 1 by omega) with h | h
    · subst h
      simpa using hv
    · subst h
      omega
  | succ d ih =>
    intro i out c hi ho hd hc0 hc1 hv
    have ga := ha.getD (by decide) i
    have gb := hb.getD (by decide) i
    have e1 : IntKind.i64.wrap (a.getD i 0 - b.getD i 0) = a.getD i 0 - b.getD i 0 := w64 (by omega) (by omega)
    have e2 : IntKind.i64.wrap (a.getD i 0 - b.getD i 0 - c) = a.getD i 0 - b.getD i 0 - c := w64 (by omega) (by omega)
    have e3 : IntKind.i64.wrap ((i : Int) + 1) = ((i + 1 : Nat) : Int) := w64succ (by omega)
    have e4 : IntKind.i64.wrap (a.getD i 0 - b.getD i 0 - c + 10000) = a.getD i 0 - b.getD i 0 - c + 10000 := w64 (by omega) (by omega)
    rw [LP_go FF b89_0.eq_1]
    simp only [RB, un, St.none, Nat.reduceEqDiff, Nat.reduceAdd, Nat.reduceMul, Nat.reduceLeDiff, Nat.reduceLT, Int.reduceLT, Int.reduceLE, Int.reduceEq, Int.reduceToNat, Int.reduceSub, Int.reduceNeg, Int.reduceAdd, ↓reduceIte, reduceCtorEq, ite_self, eq_self, if_true, if_false, pack, pid, parN, List.not_mem_nil, List.mem_cons, lid, chkK, apartV, List.map_nil, List.flatMap_nil, List.append_nil, List.nil_append, List.drop_zero, List.length_set, List.length_replicate, List.length_append, List.take_length, List.take_zero, List.drop_length, Option.isNone_none, Heap.none, rdigit_c, e1, e2, e3, e4]
    by_cases h : a.getD i 0 - b.getD i 0 - c < 0
    · simp (disch := omega) only [if_pos, if_neg, List.take_length, take_set_len, take_set2_len, take_rep_len, take_snoc_len, take_app_len]
      refine ih (i + 1) _ _ (by omega) (by simp [ho]) (hd.append (Dg.Dig.cons (by omega) (by omega) Dg.Dig.nil)) (by omega) (by omega) ?_
      rw [vl_snoc, ho, Dg.vl_take_succ, Dg.vl_take_succ, Int.pow_succ]
      grind
    · simp (disch := omega) only [if_pos, if_neg, List.take_length, take_set_len, take_set2_len, take_rep_len, take_snoc_len, take_app_len]
      refine ih (i + 1) _ _ (by omega) (by simp [ho]) (hd.append (Dg.Dig.cons (by omega) (by omega) Dg.Dig.nil)) (by omega) (by omega) ?_
      rw [vl_snoc, ho, Dg.vl_take_succ, Dg.vl_take_succ, Int.pow_succ]
      grind
theorem minus_c {x y : Nat} (h : y ≤ x) (hx : LE x ≤ 4398046511104) : R FF 89 [(AV.l 1 (List.map n64 (E x))), (AV.l 1 (List.map n64 (E y)))] = some (AV.l 1 (List.map n64 (E (x - y)))) := by
  obtain ⟨o, h1, h2, h3, h4⟩ := minus_l0 (E_dig x) (E_dig y) hx (LE_mono h) (n := x - y) (by rw [E_vl, E_vl]; omega) (E x).length 0 [] 0 (by omega) rfl Dg.Dig.nil (by omega) (by omega) (by simp [Dg.vl])
  have hx' : (E x).length ≤ 4398046511104 := hx
  rw [Int.ofNat_zero, List.map_nil] at h1
  rw [R_go FF F89 c89.eq_1]
  simp only [RB, un, St.none, Nat.reduceEqDiff, Nat.reduceAdd, Nat.reduceMul, Nat.reduceLeDiff, Nat.reduceLT, Int.reduceLT, Int.reduceLE, Int.reduceEq, Int.reduceToNat, Int.reduceSub, Int.reduceNeg, Int.reduceAdd, ↓reduceIte, reduceCtorEq, ite_self, eq_self, if_true, if_false, pack, pid, parN, List.not_mem_nil, List.mem_cons, lid, chkK, apartV, List.map_nil, List.flatMap_nil, List.append_nil, List.nil_append, List.drop_zero, List.length_set, List.length_replicate, List.length_append, List.take_length, List.take_zero, List.drop_length, Option.isNone_none, Heap.none, h1, rtrim_c h2 (by omega) h4]
theorem small_l0 : ∀ (n : Nat) (out : List Int), out.length + LE n ≤ 4398046511104 → n ≤ 9223372036854775807 → LP FF [(3, 1), (0, 0)] [(3, 0)] b118_0 [.own true 1 (out.map n64), (AV.i .i64 ((n : Int)))] = some (.exit 0, [(AV.l 1 (List.map n64 (out ++ E n)))]) := by
  intro n
  induction n using Nat.strongRecOn with
  | _ n ih =>
    intro out hl hn
    rw [LP_go FF b118_0.eq_1]
    simp only [RB, un, St.none, Nat.reduceEqDiff, Nat.reduceAdd, Nat.reduceMul, Nat.reduceLeDiff, Nat.reduceLT, Int.reduceLT, Int.reduceLE, Int.reduceEq, Int.reduceToNat, Int.reduceSub, Int.reduceNeg, Int.reduceAdd, ↓reduceIte, reduceCtorEq, ite_self, eq_self, if_true, if_false, pack, pid, parN, List.not_mem_nil, List.mem_cons, lid, chkK, apartV, List.map_nil, List.flatMap_nil, List.append_nil, List.nil_append, List.drop_zero, List.length_set, List.length_replicate, List.length_append, List.take_length, List.take_zero, List.drop_length, Option.isNone_none, Heap.none]
    by_cases h0 : n = 0
    · subst h0
      simp (disch := omega) only [if_pos, if_neg, List.take_length, take_set_len, take_set2_len, take_rep_len, take_snoc_len, take_app_len]
      rw [E_zero, List.append_nil]
    · have hE : E n = ((n % 10000 : Nat) : Int) :: E (n / 10000) := Dg.dg_succ (by decide) h0
      have hLE : LE n = LE (n / 10000) + 1 := by unfold LE; rw [hE]; rfl
      have := ih (n / 10000) (Nat.div_lt_self (by omega) (by omega)) (out ++ [((n % 10000 : Nat) : Int)]) (by rw [List.length_append, List.length_singleton]; omega) (by omega)
      rw [hE]
      have e1 : ((n / 10000 : Nat) : Int) = (n : Int) / 10000 := by omega
      have e2 : ((n % 10000 : Nat) : Int) = (n : Int) % 10000 := by omega
      rw [e1, e2] at this
      rw [e2, tmod_pos (by omega), tdiv_pos (by omega), w64 (by omega) (by omega)]
      rw [List.append_assoc] at this
      simp (disch := omega) only [if_pos, if_neg, List.take_length, take_set_len, take_set2_len, take_rep_len, take_snoc_len, take_app_len]
      exact this
theorem LE_u64 {n : Nat} (h : n ≤ 18446744073709551615) : LE n ≤ 5 := LE_le (by omega)
theorem small_c {x : Int} {n : Nat} (h : x = n) (hn : n ≤ 9223372036854775807) : R FF 118 [(AV.i .i64 x)] = some (AV.l 1 (List.map n64 (E n))) := by
  subst h
  have h1 := LE_u64 (n := n) (by omega)
  have h := small_l0 n [] (by simp; omega) hn
  rw [List.map_nil, List.nil_append] at h
  rw [R_go FF F118 c118.eq_1]
  simp only [RB, un, St.none, Nat.reduceEqDiff, Nat.reduceAdd, Nat.reduceMul, Nat.reduceLeDiff, Nat.reduceLT, Int.reduceLT, Int.reduceLE, Int.reduceEq, Int.reduceToNat, Int.reduceSub, Int.reduceNeg, Int.reduceAdd, ↓reduceIte, reduceCtorEq, ite_self, eq_self, if_true, if_false, pack, pid, parN, List.not_mem_nil, List.mem_cons, lid, chkK, apartV, List.map_nil, List.flatMap_nil, List.append_nil, List.nil_append, List.drop_zero, List.length_set, List.length_replicate, List.length_append, List.take_length, List.take_zero, List.drop_length, Option.isNone_none, Heap.none, h]
theorem rorder_l0 {a b : List Int} (ha : Dg.Dig 10000 a) (hb : Dg.Dig 10000 b) (hl : a.length = b.length) (hs : a.length ≤ 35184372088832) : ∀ n : Nat, n ≤ a.length →
    ∃ ex x, LP FF [(0, 0), (1, 0), (5, 0)] [(4, 0)] b88_0 [(AV.l 1 (List.map n64 a)), (AV.l 1 (List.map n64 b)), (AV.i .i64 ((n : Int) - 1))] = some (ex, [x]) ∧ (ex = .ret ∧ x = (AV.i .i64 (cmp (Dg.vl 10000 (a.take n)) (Dg.vl 10000 (b.take n)))) ∨ ex = .exit 0 ∧ cmp (Dg.vl 10000 (a.take n)) (Dg.vl 10000 (b.take n)) = 0) := by
  intro n
  induction n with
  | zero =>
    intro _
    rw [LP_go FF b88_0.eq_1]
    simp only [RB, un, St.none, Nat.reduceEqDiff, Nat.reduceAdd, Nat.reduceMul, Nat.reduceLeDiff, Nat.reduceLT, Int.reduceLT, Int.reduceLE, Int.reduceEq, Int.reduceToNat, Int.reduceSub, Int.reduceNeg, Int.reduceAdd, ↓reduceIte, reduceCtorEq, ite_self, eq_self, if_true, if_false, pack, pid, parN, List.not_mem_nil, List.mem_cons, lid, chkK, apartV, List.map_nil, List.flatMap_nil, List.append_nil, List.nil_append, List.drop_zero, List.length_set, List.length_replicate, List.length_append, List.take_length, List.take_zero, List.drop_length, Option.isNone_none, Heap.none]
    exact ⟨_, _, rfl, .inr ⟨rfl, rfl⟩⟩
  | succ n ih =>
    intro hn
    have e0 : ((n + 1 : Nat) : Int) - 1 = (n : Int) := by omega
    have e : IntKind.i64.wrap ((n : Int) - 1) = (n : Int) - 1 := w64 (by omega) (by omega)
    have ga := ha.getD (by decide) n
    have gb := hb.getD (by decide) n
    have a0 := Dg.vl_nonneg (ha.take n) (by decide)
    have b0 := Dg.vl_nonneg (hb.take n) (by decide)
    have a1 := Dg.vl_lt (ha.take n) (by decide)
    have b1 := Dg.vl_lt (hb.take n) (by decide)
    have hla : (a.take n).length = n := by rw [List.length_take]; omega
    have hlb : (b.take n).length = n := by rw [List.length_take]; omega
    rw [hla] at a1
    rw [hlb] at b1
    rw [LP_go FF b88_0.eq_1]
    simp only [RB, un, St.none, Nat.reduceEqDiff, Nat.reduceAdd, Nat.reduceMul, Nat.reduceLeDiff, Nat.reduceLT, Int.reduceLT, Int.reduceLE, Int.reduceEq, Int.reduceToNat, Int.reduceSub, Int.reduceNeg, Int.reduceAdd, ↓reduceIte, reduceCtorEq, ite_self, eq_self, if_true, if_false, pack, pid, parN, List.not_mem_nil, List.mem_cons, lid, chkK, apartV, List.map_nil, List.flatMap_nil, List.append_nil, List.nil_append, List.drop_zero, List.length_set, List.length_replicate, List.length_append, List.take_length, List.take_zero, List.drop_length, Option.isNone_none, Heap.none, e0, e]
    simp (disch := omega) only [if_pos, if_neg, List.take_length, take_set_len, take_set2_len, take_rep_len, take_snoc_len, take_app_len]
    rw [Dg.vl_take_succ, Dg.vl_take_succ]
    by_cases h1 : a.getD n 0 < b.getD n 0
    · rw [if_pos h1]
      exact ⟨_, _, rfl, .inl ⟨rfl, by rw [cmp_lt (cmp_top (B := 0) a0 a1 b0 b1 h1)]⟩⟩
    · rw [if_neg h1]
      by_cases h2 : b.getD n 0 < a.getD n 0
      · rw [if_pos h2]
        exact ⟨_, _, rfl, .inl ⟨rfl, by rw [cmp_gt (cmp_top (B := 0) b0 b1 a0 a1 h2)]⟩⟩
      · rw [if_neg h2]
        have h3 : a.getD n 0 = b.getD n 0 := by omega
        have h4 : cmp (Dg.vl 10000 (a.take n) + a.getD n 0 * 10000 ^ n) (Dg.vl 10000 (b.take n) + b.getD n 0 * 10000 ^ n) = cmp (Dg.vl 10000 (a.take n)) (Dg.vl 10000 (b.take n)) := by
          rw [h3]
          unfold cmp
          split <;> split <;> (try split) <;> (try split) <;> first | rfl | omega
        rw [h4]
        exact ih (by omega)
theorem rorder_c {m n : Nat} (hm : LE m ≤ 35184372088832) (hn : LE n ≤ 35184372088832) : R FF 88 [(AV.l 1 (List.map n64 (E m))), (AV.l 1 (List.map n64 (E n)))] = some (AV.i .i64 (cmp m n)) := by
  have hm' : (E m).length ≤ 35184372088832 := hm
  have hn' : (E n).length ≤ 35184372088832 := hn
  have e : IntKind.i64.wrap (((E m).length : Int) - 1) = ((E m).length : Int) - 1 := w64 (by omega) (by omega)
  rw [R_go FF F88 c88.eq_1]
  simp only [RB, un, St.none, Nat.reduceEqDiff, Nat.reduceAdd, Nat.reduceMul, Nat.reduceLeDiff, Nat.reduceLT, Int.reduceLT, Int.reduceLE, Int.reduceEq, Int.reduceToNat, Int.reduceSub, Int.reduceNeg, Int.reduceAdd, ↓reduceIte, reduceCtorEq, ite_self, eq_self, if_true, if_false, pack, pid, parN, List.not_mem_nil, List.mem_cons, lid, chkK, apartV, List.map_nil, List.flatMap_nil, List.append_nil, List.nil_append, List.drop_zero, List.length_set, List.length_replicate, List.length_append, List.take_length, List.take_zero, List.drop_length, Option.isNone_none, Heap.none, e]
  by_cases h1 : ((E m).length : Int) < ((E n).length : Int)
  · rw [cmp_lt (by have := len_lt_imp _ (by decide) (show (E m).length < (E n).length by omega); omega)]
    simp (disch := omega) only [if_pos, if_neg, List.take_length, take_set_len, take_set2_len, take_rep_len, take_snoc_len, take_app_len]
  · by_cases h2 : ((E n).length : Int) < ((E m).length : Int)
    · rw [cmp_gt (by have := len_lt_imp _ (by decide) (show (E n).length < (E m).length by omega); omega)]
      simp (disch := omega) only [if_pos, if_neg, List.take_length, take_set_len, take_set2_len, take_rep_len, take_snoc_len, take_app_len]
    · obtain ⟨ex, x, h3, h4⟩ := rorder_l0 (E_dig m) (E_dig n) (by omega) hm' (E m).length (Nat.le_refl _)
      rw [List.take_length, show (E m).length = (E n).length by omega, List.take_length, E_vl, E_vl] at h4
      simp (disch := omega) only [if_pos, if_neg, List.take_length, take_set_len, take_set2_len, take_rep_len, take_snoc_len, take_app_len]
      rcases h4 with ⟨rfl, rfl⟩ | ⟨rfl, h4⟩
      · simp only [RB, un, St.none, Nat.reduceEqDiff, Nat.reduceAdd, Nat.reduceMul, Nat.reduceLeDiff, Nat.reduceLT, Int.reduceLT, Int.reduceLE, Int.reduceEq, Int.reduceToNat, Int.reduceSub, Int.reduceNeg, Int.reduceAdd, ↓reduceIte, reduceCtorEq, ite_self, eq_self, if_true, if_false, pack, pid, parN, List.not_mem_nil, List.mem_cons, lid, chkK, apartV, List.map_nil, List.flatMap_nil, List.append_nil, List.nil_append, List.drop_zero, List.length_set, List.length_replicate, List.length_append, List.take_length, List.take_zero, List.drop_length, Option.isNone_none, Heap.none, h3]
      · simp only [RB, un, St.none, Nat.reduceEqDiff, Nat.reduceAdd, Nat.reduceMul, Nat.reduceLeDiff, Nat.reduceLT, Int.reduceLT, Int.reduceLE, Int.reduceEq, Int.reduceToNat, Int.reduceSub, Int.reduceNeg, Int.reduceAdd, ↓reduceIte, reduceCtorEq, ite_self, eq_self, if_true, if_false, pack, pid, parN, List.not_mem_nil, List.mem_cons, lid, chkK, apartV, List.map_nil, List.flatMap_nil, List.append_nil, List.nil_append, List.drop_zero, List.length_set, List.length_replicate, List.length_append, List.take_length, List.take_zero, List.drop_length, Option.isNone_none, Heap.none, h3]
        rw [h4]
theorem LE_L (n : Nat) : LE n ≤ 3 * L n := by
  refine LE_le (Nat.lt_of_lt_of_le (L_lt n) ?_)
  rw [Nat.pow_mul]
  exact Nat.pow_le_pow_left (by decide) _
theorem W_drop_succ (l : List Int) (n : Nat) (h : n < l.length) : W (l.drop n) = (l.getD n 0 % 4294967296).toNat + 4294967296 * W (l.drop (n + 1)) := by
  have h1 := W_map (l.drop n)
  have h2 := W_map (l.drop (n + 1))
  rw [List.map_drop, Dg.vl_drop_succ, ← List.map_drop] at h1
  rw [← h2] at h1
  have h3 : (l.map (· % 4294967296)).getD n 0 = l.getD n 0 % 4294967296 := by
    rw [List.getD_eq_getElem?_getD, List.getD_eq_getElem?_getD, List.getElem?_map, List.getElem?_eq_getElem h]
    rfl
  rw [h3] at h1
  omega
theorem from_l0 {l : List Int} (hu : U l) (hl : l.length ≤ 1000000000000) : ∀ n : Nat, n ≤ l.length → LP FF [(0, 0), (3, 0), (4, 0), (5, 0)] [(3, 0)] b79_0 [(AV.l 1 (List.map u l)), (AV.l 1 (List.map n64 (E (W (l.drop n))))), (AV.l 1 (List.map n64 (E 4294967296))), (AV.i .i64 ((n : Int) - 1))] = some (.exit 0, [(AV.l 1 (List.map n64 (E (W l))))]) := by
  intro n
  induction n with
  | zero =>
    intro _
    rw [LP_go FF b79_0.eq_1]
    simp only [RB, un, St.none, Nat.reduceEqDiff, Nat.reduceAdd, Nat.reduceMul, Nat.reduceLeDiff, Nat.reduceLT, Int.reduceLT, Int.reduceLE, Int.reduceEq, Int.reduceToNat, Int.reduceSub, Int.reduceNeg, Int.reduceAdd, ↓reduceIte, reduceCtorEq, ite_self, eq_self, if_true, if_false, pack, pid, parN, List.not_mem_nil, List.mem_cons, lid, chkK, apartV, List.map_nil, List.flatMap_nil, List.append_nil, List.nil_append, List.drop_zero, List.length_set, List.length_replicate, List.length_append, List.take_length, List.take_zero, List.drop_length, Option.isNone_none, Heap.none]
  | succ n ih =>
    intro hn
    have e0 : ((n + 1 : Nat) : Int) - 1 = (n : Int) := by omega
    have hg := U_get hu n
    have hL1 : LE (W (l.drop (n + 1))) ≤ 3 * l.length := Nat.le_trans (LE_L _) (Nat.mul_le_mul_left _ (Nat.le_trans (L_W _) (by rw [List.length_drop]; omega)))
    have h5 : LE 4294967296 ≤ 5 := LE_u64 (by omega)
    have hL2 := LE_mul (W (l.drop (n + 1))) 4294967296
    have hv := W_drop_succ l n (by omega)
    have hs : LE (l.getD n 0 % 4294967296).toNat ≤ 5 := LE_u64 (by omega)
    have h1 := times_c (x := W (l.drop (n + 1))) (y := 4294967296) (by omega)
    have h2 := small_c (x := l.getD n 0 % 4294967296) (n := (l.getD n 0 % 4294967296).toNat) (by omega) (by omega)
    have h3 := plus_c (x := W (l.drop (n + 1)) * 4294967296) (y := (l.getD n 0 % 4294967296).toNat) (by omega) (by omega)
    rw [show W (l.drop (n + 1)) * 4294967296 + (l.getD n 0 % 4294967296).toNat = W (l.drop n) by omega] at h3
    have e1 : IntKind.i64.wrap (l.getD n 0 % 4294967296) = l.getD n 0 % 4294967296 := w64 (by omega) (by omega)
    have e2 : IntKind.i64.wrap ((n : Int) - 1) = (n : Int) - 1 := w64 (by omega) (by omega)
    rw [LP_go FF b79_0.eq_1]
    simp only [RB, un, St.none, Nat.reduceEqDiff, Nat.reduceAdd, Nat.reduceMul, Nat.reduceLeDiff, Nat.reduceLT, Int.reduceLT, Int.reduceLE, Int.reduceEq, Int.reduceToNat, Int.reduceSub, Int.reduceNeg, Int.reduceAdd, ↓reduceIte, reduceCtorEq, ite_self, eq_self, if_true, if_false, pack, pid, parN, List.not_mem_nil, List.mem_cons, lid, chkK, apartV, List.map_nil, List.flatMap_nil, List.append_nil, List.nil_append, List.drop_zero, List.length_set, List.length_replicate, List.length_append, List.take_length, List.take_zero, List.drop_length, Option.isNone_none, Heap.none, e0, h1, and32 hg.1 hg.2, e1, h2, h3, e2]
    simp (disch := omega) only [if_pos, if_neg, List.take_length, take_set_len, take_set2_len, take_rep_len, take_snoc_len, take_app_len]
    exact ih (by omega)
theorem from_c {l : List Int} (hu : U l) (hl : l.length ≤ 1000000000000) : R FF 79 [(AV.l 1 (List.map u l))] = some (AV.l 1 (List.map n64 (E (W l)))) := by
  have h1 := small_c (x := 4294967296) (n := 4294967296) rfl (by omega)
  have h2 := from_l0 hu hl l.length (Nat.le_refl _)
  rw [List.drop_length, W_nil, E_zero, List.map_nil] at h2
  have e1 : IntKind.i64.wrap ((l.length : Int) - 1) = (l.length : Int) - 1 := w64 (by omega) (by omega)
  rw [R_go FF F79 c79.eq_1]
  simp only [RB, un, St.none, Nat.reduceEqDiff, Nat.reduceAdd, Nat.reduceMul, Nat.reduceLeDiff, Nat.reduceLT, Int.reduceLT, Int.reduceLE, Int.reduceEq, Int.reduceToNat, Int.reduceSub, Int.reduceNeg, Int.reduceAdd, ↓reduceIte, reduceCtorEq, ite_self, eq_self, if_true, if_false, pack, pid, parN, List.not_mem_nil, List.mem_cons, lid, chkK, apartV, List.map_nil, List.flatMap_nil, List.append_nil, List.nil_append, List.drop_zero, List.length_set, List.length_replicate, List.length_append, List.take_length, List.take_zero, List.drop_length, Option.isNone_none, Heap.none, h1, e1, h2]
end Go.Pe
set_option linter.unusedSimpArgs false
set_option linter.unusedVariables false
open Go
namespace Go.Pe
theorem getD_rep (n j : Nat) : (List.replicate n (0 : Int)).getD j 0 = 0 := by
  rw [List.getD_eq_getElem?_getD]
  by_cases h : j < n <;> simp [List.getElem?_replicate, h]
theorem add_l0 {a b : List Int} (ha : Dg.Dig 4294967296 a) (hb : Dg.Dig 4294967296 b) (hl : max a.length b.length + 1 ≤ 35184372088832) {n : Nat} (hn : Dg.vl 4294967296 a + Dg.vl 4294967296 b = n) :
    ∀ (d i : Nat) (out : List Int) (c : Int), i + d = max a.length b.length + 1 → out.length = max a.length b.length + 1 → Dg.Dig 4294967296 out → 0 ≤ c → c ≤ 1 → (i = max a.length b.length + 1 → c = 0) → Dg.vl 4294967296 (out.take i) + c * 4294967296 ^ i = Dg.vl 4294967296 (a.take i) + Dg.vl 4294967296 (b.take i) →
    ∃ o, LP FF [(5, 1), (0, 0), (1, 0), (6, 0), (20, 0), (21, 0)] [(5, 0)] b116_0 [.own true 1 (out.map u), (AV.l 1 (List.map u a)), (AV.l 1 (List.map u b)), (AV.i .u64 c), (AV.i .i64 ((out.length : Int))), (AV.i .i64 ((i : Int)))] = some (.exit 0, [(AV.l 1 (List.map u o))]) ∧ Dg.Dig 4294967296 o ∧ o.length = max a.length b.length + 1 ∧ Dg.vl 4294967296 o = n := by
  intro d
  induction d with
  | zero =>
    intro i out c hi ho hd hc0 hc1 hc9 hv
    have hc := hc9 (by omega)
    subst hc
    refine ⟨out, ?_, hd, ho, ?_⟩
    · rw [LP_go FF b116_0.eq_1]
      simp only [RB, un, St.none, Nat.reduceEqDiff, Nat.reduceAdd, Nat.reduceMul, Nat.reduceLeDiff, Nat.reduceLT, Int.reduceLT, Int.reduceLE, Int.reduceEq, Int.reduceToNat, Int.reduceSub, Int.reduceNeg, Int.reduceAdd, ↓reduceIte, reduceCtorEq, ite_self, eq_self, if_true, if_false, pack, pid, parN, List.not_mem_nil, List.mem_cons, lid, chkK, apartV, List.map_nil, List.flatMap_nil, List.append_nil, List.nil_append, List.drop_zero, List.length_set, List.length_replicate, List.length_append, List.take_length, List.take_zero, List.drop_length, Option.isNone_none, Heap.none]
      simp (disch := omega) only [if_pos, if_neg, List.take_length, take_set_len, take_set2_len, take_rep_len, take_snoc_len, take_app_len]
    rw [List.take_of_length_le (by omega), List.take_of_length_le (by omega), List.take_of_length_le (by omega), hn] at hv
    simpa using hv
  | succ d ih =>
    intro i out c hi ho hd hc0 hc1 hc9 hv
    have ga := ha.getD (by decide) i
    have gb := hb.getD (by decide) i
    have e1 : IntKind.u64.wrap (a.getD i 0 + b.getD i 0) = a.getD i 0 + b.getD i 0 := u64w (by omega) (by omega)
    have e2 : IntKind.u64.wrap (c + (a.getD i 0 + b.getD i 0)) = c + (a.getD i 0 + b.getD i 0) := u64w (by omega) (by omega)
    have e3 : IntKind.i64.wrap ((i : Int) + 1) = ((i + 1 : Nat) : Int) := w64succ (by omega)
    have e6 := and32 (x := c + (a.getD i 0 + b.getD i 0)) (by omega) (by omega)
    have e7 := shr32 (x := c + (a.getD i 0 + b.getD i 0)) (by omega)
    have h9 := ih (i + 1) (out.set i ((c + (a.getD i 0 + b.getD i 0)) % 4294967296)) ((c + (a.getD i 0 + b.getD i 0)) / 4294967296) (by omega) (by rw [List.length_set]; exact ho) (hd.set _ (by omega) (by omega)) (by omega) (by omega) (by
      intro h9
      have h1 := getD_beyond (l := a) (i := i) (by omega)
      have h2 := getD_beyond (l := b) (i := i) (by omega)
      rw [h1, h2]
      omega) (by
      rw [set_take _ (by omega), vl_snoc, List.length_take, Nat.min_eq_left (by omega), Dg.vl_take_succ, Dg.vl_take_succ, Int.pow_succ]
      have h := Int.mul_ediv_add_emod (c + (a.getD i 0 + b.getD i 0)) 4294967296
      grind)
    rw [List.length_set] at h9
    rw [LP_go FF b116_0.eq_1]
    simp only [RB, un, St.none, Nat.reduceEqDiff, Nat.reduceAdd, Nat.reduceMul, Nat.reduceLeDiff, Nat.reduceLT, Int.reduceLT, Int.reduceLE, Int.reduceEq, Int.reduceToNat, Int.reduceSub, Int.reduceNeg, Int.reduceAdd, ↓reduceIte, reduceCtorEq, ite_self, eq_self, if_true, if_false, pack, pid, parN, List.not_mem_nil, List.mem_cons, lid, chkK, apartV, List.map_nil, List.flatMap_nil, List.append_nil, List.nil_append, List.drop_zero, List.length_set, List.length_replicate, List.length_append, List.take_length, List.take_zero, List.drop_length, Option.isNone_none, Heap.none, limb_c, e1, e2, e3, e6, e7]
    simp (disch := omega) only [if_pos, if_neg, List.take_length, take_set_len, take_set2_len, take_rep_len, take_snoc_len, take_app_len]
    exact h9
theorem add_c {a b : List Int} (ha : U a) (hb : U b) (hla : a.length + 1 ≤ 35184372088832) (hlb : b.length + 1 ≤ 35184372088832) : R FF 116 [(AV.l 1 (List.map u a)), (AV.l 1 (List.map u b))] = some (AV.l 1 (List.map u (D (W a + W b)))) := by
  have g1 : (D (W a)).length ≤ a.length := L_W a
  have g2 : (D (W b)).length ≤ b.length := L_W b
  obtain ⟨o, h1, h2, h3, h4⟩ := add_l0 (D_dig (W a)) (D_dig (W b)) (by omega) (n := W a + W b) (by rw [D_vl, D_vl]; omega) (max (D (W a)).length (D (W b)).length + 1) 0 (List.replicate (max (D (W a)).length (D (W b)).length + 1) 0) 0 (by omega) (by rw [List.length_replicate]) (Dg.Dig.replicate (by decide) _) (by omega) (by omega) (by omega) (by simp [Dg.vl])
  have h5 := trim_c h2 (by omega) h4
  have e0 : (if ((D (W b)).length : Int) > ((D (W a)).length : Int) then ((D (W b)).length : Int) else ((D (W a)).length : Int)) = ((max (D (W a)).length (D (W b)).length : Nat) : Int) := by split <;> omega
  have e1 : IntKind.i64.wrap (((max (D (W a)).length (D (W b)).length : Nat) : Int) + 1) = ((max (D (W a)).length (D (W b)).length + 1 : Nat) : Int) := w64succ (by omega)
  rw [Int.ofNat_zero, List.length_replicate] at h1
  rw [R_go FF F116 c116.eq_1]
  simp only [RB, un, St.none, Nat.reduceEqDiff, Nat.reduceAdd, Nat.reduceMul, Nat.reduceLeDiff, Nat.reduceLT, Int.reduceLT, Int.reduceLE, Int.reduceEq, Int.reduceToNat, Int.reduceSub, Int.reduceNeg, Int.reduceAdd, ↓reduceIte, reduceCtorEq, ite_self, eq_self, if_true, if_false, pack, pid, parN, List.not_mem_nil, List.mem_cons, lid, chkK, apartV, List.map_nil, List.flatMap_nil, List.append_nil, List.nil_append, List.drop_zero, List.length_set, List.length_replicate, List.length_append, List.take_length, List.take_zero, List.drop_length, Option.isNone_none, Heap.none, clean_c ha (by omega), clean_c hb (by omega), e0, e1]
  simp (disch := omega) only [if_pos, if_neg, List.take_length, take_set_len, take_set2_len, take_rep_len, take_snoc_len, take_app_len, h1]
  simp only [RB, un, St.none, Nat.reduceEqDiff, Nat.reduceAdd, Nat.reduceMul, Nat.reduceLeDiff, Nat.reduceLT, Int.reduceLT, Int.reduceLE, Int.reduceEq, Int.reduceToNat, Int.reduceSub, Int.reduceNeg, Int.reduceAdd, ↓reduceIte, reduceCtorEq, ite_self, eq_self, if_true, if_false, pack, pid, parN, List.not_mem_nil, List.mem_cons, lid, chkK, apartV, List.map_nil, List.flatMap_nil, List.append_nil, List.nil_append, List.drop_zero, List.length_set, List.length_replicate, List.length_append, List.take_length, List.take_zero, List.drop_length, Option.isNone_none, Heap.none, h5]
theorem add_D {m n : Nat} (hm : L m + 1 ≤ 35184372088832) (hn : L n + 1 ≤ 35184372088832) : R FF 116 [(AV.l 1 (List.map u (D m))), (AV.l 1 (List.map u (D n)))] = some (AV.l 1 (List.map u (D (m + n)))) := by
  have := add_c (D_U m) (D_U n) hm hn
  rwa [W_D, W_D] at this
theorem nminus_l0 {a b : List Int} (ha : Dg.Dig 4294967296 a) (hb : Dg.Dig 4294967296 b) (hl : a.length ≤ 35184372088832) (hlb : b.length ≤ a.length) {n : Nat} (hn : Dg.vl 4294967296 a - Dg.vl 4294967296 b = n) :
    ∀ (d i : Nat) (out : List Int) (c : Int), i + d = a.length → out.length = a.length → Dg.Dig 4294967296 out → 0 ≤ c → c ≤ 1 → Dg.vl 4294967296 (out.take i) - c * 4294967296 ^ i = Dg.vl 4294967296 (a.take i) - Dg.vl 4294967296 (b.take i) →
    ∃ o, LP FF [(5, 1), (0, 0), (1, 0), (6, 0), (13, 0), (14, 0)] [(5, 0)] b113_0 [.own true 1 (out.map u), (AV.l 1 (List.map u a)), (AV.l 1 (List.map u b)), (AV.i .u64 c), (AV.i .i64 ((out.length : Int))), (AV.i .i64 ((i : Int)))] = some (.exit 0, [(AV.l 1 (List.map u o))]) ∧ Dg.Dig 4294967296 o ∧ o.length = a.length ∧ Dg.vl 4294967296 o = n := by
  intro d
  induction d with
  | zero =>
    intro i out c hi ho hd hc0 hc1 hv
    refine ⟨out, ?_, hd, ho, ?_⟩
    · rw [LP_go FF b113_0.eq_1]
      simp only [RB, un, St.none, Nat.reduceEqDiff, Nat.reduceAdd, Nat.reduceMul, Nat.reduceLeDiff, Nat.reduceLT, Int.reduceLT, Int.reduceLE, Int.reduceEq, Int.reduceToNat, Int.reduceSub, Int.reduceNeg, Int.reduceAdd, ↓reduceIte, reduceCtorEq, ite_self, eq_self, if_true, if_false, pack, pid, parN, List.not_mem_nil, List.mem_cons, lid, chkK, apartV, List.map_nil, List.flatMap_nil, List.append_nil, List.nil_append, List.drop_zero, List.length_set, List.length_replicate, List.length_append, List.take_length, List.take_zero, List.drop_length, Option.isNone_none, Heap.none]
      simp (disch := omega) only [if_pos, if_neg, List.take_length, take_set_len, take_set2_len, take_rep_len, take_snoc_len, take_app_len]
    rw [List.take_of_length_le (by omega), List.take_of_length_le (by omega), List.take_of_length_le (by omega), hn] at hv
    have h1 := Dg.vl_lt hd (by decide)
    rw [ho, show a.length = i by omega] at h1
    rcases (show c = 0 ∨ c = 1 by omega) with h | h
    · subst h
      simpa using hv
    · subst h
      omega
  | succ d ih =>
    intro i out c hi ho hd hc0 hc1 hv
    have ga := ha.getD (by decide) i
    have gb := hb.getD (by decide) i
    have e0 : IntKind.u64.wrap (4294967296 + a.getD i 0) = 4294967296 + a.getD i 0 := u64w (by omega) (by omega)
    have e1 : IntKind.u64.wrap (4294967296 + a.getD i 0 - b.getD i 0) = 4294967296 + a.getD i 0 - b.getD i 0 := u64w (by omega) (by omega)
    have e2 : IntKind.u64.wrap (4294967296 + a.getD i 0 - b.getD i 0 - c) = 4294967296 + a.getD i 0 - b.getD i 0 - c := u64w (by omega) (by omega)
    have e3 : IntKind.i64.wrap ((i : Int) + 1) = ((i + 1 : Nat) : Int) := w64succ (by omega)
    have e6 := and32 (x := 4294967296 + a.getD i 0 - b.getD i 0 - c) (by omega) (by omega)
    have e7 := shr32 (x := 4294967296 + a.getD i 0 - b.getD i 0 - c) (by omega)
    have e8 : IntKind.u64.wrap (1 - (4294967296 + a.getD i 0 - b.getD i 0 - c) / 4294967296) = 1 - (4294967296 + a.getD i 0 - b.getD i 0 - c) / 4294967296 := u64w (by omega) (by omega)
    have h9 := ih (i + 1) (out.set i ((4294967296 + a.getD i 0 - b.getD i 0 - c) % 4294967296)) (1 - (4294967296 + a.getD i 0 - b.getD i 0 - c) / 4294967296) (by omega) (by rw [List.length_set]; exact ho) (hd.set _ (by omega) (by omega)) (by omega) (by omega) (by
      rw [set_take _ (by omega), vl_snoc, List.length_take, Nat.min_eq_left (by omega), Dg.vl_take_succ, Dg.vl_take_succ, Int.pow_succ]
      have h := Int.mul_ediv_add_emod (4294967296 + a.getD i 0 - b.getD i 0 - c) 4294967296
      grind)
    rw [List.length_set] at h9
    rw [LP_go FF b113_0.eq_1]
    simp only [RB, un, St.none, Nat.reduceEqDiff, Nat.reduceAdd, Nat.reduceMul, Nat.reduceLeDiff, Nat.reduceLT, Int.reduceLT, Int.reduceLE, Int.reduceEq, Int.reduceToNat, Int.reduceSub, Int.reduceNeg, Int.reduceAdd, ↓reduceIte, reduceCtorEq, ite_self, eq_self, if_true, if_false, pack, pid, parN, List.not_mem_nil, List.mem_cons, lid, chkK, apartV, List.map_nil, List.flatMap_nil, List.append_nil, List.nil_append, List.drop_zero, List.length_set, List.length_replicate, List.length_append, List.take_length, List.take_zero, List.drop_length, Option.isNone_none, Heap.none, limb_c, e0, e1, e2, e3, e6, e7, e8]
    simp (disch := omega) only [if_pos, if_neg, List.take_length, take_set_len, take_set2_len, take_rep_len, take_snoc_len, take_app_len]
    exact h9
theorem nminus_c {m n : Nat} (h : n ≤ m) (hl : L m ≤ 35184372088832) : R FF 113 [(AV.l 1 (List.map u (D m))), (AV.l 1 (List.map u (D n)))] = some (AV.l 1 (List.map u (D (m - n)))) := by
  have hl' : (D m).length ≤ 35184372088832 := hl
  obtain ⟨o, h1, h2, h3, h4⟩ := nminus_l0 (D_dig m) (D_dig n) hl' (L_mono h) (n := m - n) (by rw [D_vl, D_vl]; omega) (D m).length 0 (List.replicate (D m).length 0) 0 (by omega) (by rw [List.length_replicate]) (Dg.Dig.replicate (by decide) _) (by omega) (by omega) (by simp [Dg.vl])
  rw [Int.ofNat_zero, List.length_replicate] at h1
  rw [R_go FF F113 c113.eq_1]
  simp only [RB, un, St.none, Nat.reduceEqDiff, Nat.reduceAdd, Nat.reduceMul, Nat.reduceLeDiff, Nat.reduceLT, Int.reduceLT, Int.reduceLE, Int.reduceEq, Int.reduceToNat, Int.reduceSub, Int.reduceNeg, Int.reduceAdd, ↓reduceIte, reduceCtorEq, ite_self, eq_self, if_true, if_false, pack, pid, parN, List.not_mem_nil, List.mem_cons, lid, chkK, apartV, List.map_nil, List.flatMap_nil, List.append_nil, List.nil_append, List.drop_zero, List.length_set, List.length_replicate, List.length_append, List.take_length, List.take_zero, List.drop_length, Option.isNone_none, Heap.none]
  simp (disch := omega) only [if_pos, if_neg, List.take_length, take_set_len, take_set2_len, take_rep_len, take_snoc_len, take_app_len, h1]
  simp only [RB, un, St.none, Nat.reduceEqDiff, Nat.reduceAdd, Nat.reduceMul, Nat.reduceLeDiff, Nat.reduceLT, Int.reduceLT, Int.reduceLE, Int.reduceEq, Int.reduceToNat, Int.reduceSub, Int.reduceNeg, Int.reduceAdd, ↓reduceIte, reduceCtorEq, ite_self, eq_self, if_true, if_false, pack, pid, parN, List.not_mem_nil, List.mem_cons, lid, chkK, apartV, List.map_nil, List.flatMap_nil, List.append_nil, List.nil_append, List.drop_zero, List.length_set, List.length_replicate, List.length_append, List.take_length, List.take_zero, List.drop_length, Option.isNone_none, Heap.none, trim_c h2 (by omega) h4]
theorem sub_ge {a b : List Int} (ha : U a) (hb : U b) (hla : a.length ≤ 35184372088832) (hlb : b.length ≤ 35184372088832) (h : W b ≤ W a) : R FF 117 [(AV.l 1 (List.map u a)), (AV.l 1 (List.map u b))] = some (.tup [(AV.l 1 (List.map u (D (W a - W b)))), (AV.i .i64 0)]) := by
  have hc := cmp_lt_iff (a := (W a : Int)) (b := W b)
  rw [R_go FF F117 c117.eq_1]
  simp only [RB, un, St.none, Nat.reduceEqDiff, Nat.reduceAdd, Nat.reduceMul, Nat.reduceLeDiff, Nat.reduceLT, Int.reduceLT, Int.reduceLE, Int.reduceEq, Int.reduceToNat, Int.reduceSub, Int.reduceNeg, Int.reduceAdd, ↓reduceIte, reduceCtorEq, ite_self, eq_self, if_true, if_false, pack, pid, parN, List.not_mem_nil, List.mem_cons, lid, chkK, apartV, List.map_nil, List.flatMap_nil, List.append_nil, List.nil_append, List.drop_zero, List.length_set, List.length_replicate, List.length_append, List.take_length, List.take_zero, List.drop_length, Option.isNone_none, Heap.none, clean_c ha hla, clean_c hb hlb, order_c (Nat.le_trans (L_W a) hla) (Nat.le_trans (L_W b) hlb)]
  rw [if_neg (fun h2 => by have := hc.1 h2; omega)]
  simp only [RB, un, St.none, Nat.reduceEqDiff, Nat.reduceAdd, Nat.reduceMul, Nat.reduceLeDiff, Nat.reduceLT, Int.reduceLT, Int.reduceLE, Int.reduceEq, Int.reduceToNat, Int.reduceSub, Int.reduceNeg, Int.reduceAdd, ↓reduceIte, reduceCtorEq, ite_self, eq_self, if_true, if_false, pack, pid, parN, List.not_mem_nil, List.mem_cons, lid, chkK, apartV, List.map_nil, List.flatMap_nil, List.append_nil, List.nil_append, List.drop_zero, List.length_set, List.length_replicate, List.length_append, List.take_length, List.take_zero, List.drop_length, Option.isNone_none, Heap.none, nminus_c h (Nat.le_trans (L_W a) hla)]
end Go.Pe
set_option linter.unusedSimpArgs false
set_option linter.unusedVariables false
open Go
namespace Go.Pe
theorem shl32 {x : Int} (h0 : 0 ≤ x) (h1 : x ≤ 4294967295) : IntKind.u64.wrap (x * 2 ^ Nat.min 32 IntKind.u64.bits) = x * 4294967296 := by
  rw [show Nat.min 32 IntKind.u64.bits = 32 by decide, show (2 : Int) ^ 32 = 4294967296 by decide]; exact u64w (by omega) (by omega)
theorem small_div {a : List Int} (ha : Dg.Dig 4294967296 a) (hl : a.length ≤ 35184372088832) {d : Int} (hd0 : 0 < d) (hd1 : d ≤ 4294967295) {q r : Nat} (hq : Dg.vl 4294967296 a = q * d + r) (hr : (r : Int) < d) :
    ∀ (n : Nat) (out : List Int) (c : Int), n ≤ a.length → out.length = a.length → Dg.Dig 4294967296 out → 0 ≤ c → c < d → Dg.vl 4294967296 (out.drop n) * d + c = Dg.vl 4294967296 (a.drop n) →
    ∃ o, LP FF [(6, 1), (0, 0), (1, 0), (7, 0), (8, 0)] [(6, 0), (7, 0)] b130_0 [.own true 1 (out.map u), (AV.l 1 (List.map u a)), (AV.i .u64 d), (AV.i .u64 c), (AV.i .i64 ((n : Int) - 1))] = some (.exit 0, [(AV.l 1 (List.map u o)), (AV.i .u64 ((r : Int)))]) ∧ Dg.Dig 4294967296 o ∧ o.length = a.length ∧ Dg.vl 4294967296 o = q := by
  intro n
  induction n with
  | zero =>
    intro out c hn ho hd hc0 hc1 hv
    rw [List.drop_zero, List.drop_zero, hq] at hv
    have h1 : Dg.vl 4294967296 out = q := by
      have e1 : (Dg.vl 4294967296 out - q) * d = r - c := by grind
      rcases Int.lt_trichotomy (Dg.vl 4294967296 out - q) 0 with h | h | h
      · have : (Dg.vl 4294967296 out - q) * d ≤ -1 * d := Int.mul_le_mul_of_nonneg_right (by omega) (by omega)
        omega
      · omega
      · have : 1 * d ≤ (Dg.vl 4294967296 out - q) * d := Int.mul_le_mul_of_nonneg_right (by omega) (by omega)
        omega
    have h2 : c = r := by rw [h1] at hv; omega
    refine ⟨out, ?_, hd, ho, h1⟩
    rw [← h2]
    rw [LP_go FF b130_0.eq_1]
    simp only [RB, un, St.none, Nat.reduceEqDiff, Nat.reduceAdd, Nat.reduceMul, Nat.reduceLeDiff, Nat.reduceLT, Int.reduceLT, Int.reduceLE, Int.reduceEq, Int.reduceToNat, Int.reduceSub, Int.reduceNeg, Int.reduceAdd, ↓reduceIte, reduceCtorEq, ite_self, eq_self, if_true, if_false, pack, pid, parN, List.not_mem_nil, List.mem_cons, lid, chkK, apartV, List.map_nil, List.flatMap_nil, List.append_nil, List.nil_append, List.drop_zero, List.length_set, List.length_replicate, List.length_append, List.take_length, List.take_zero, List.drop_length, Option.isNone_none, Heap.none]
    try simp (disch := omega) only [if_pos, if_neg, List.take_length, take_set_len, take_set2_len, take_rep_len, take_snoc_len, take_app_len]
  | succ n ih =>
    intro out c hn ho hd hc0 hc1 hv
    have e0 : ((n + 1 : Nat) : Int) - 1 = (n : Int) := by omega
    have ga := ha.getD (by decide) n
    have t0 : 0 ≤ c * 4294967296 + a.getD n 0 := by omega
    have q0 : (c * 4294967296 + a.getD n 0) / d < 4294967296 := by
      apply Int.ediv_lt_of_lt_mul hd0
      have : (c + 1) * 4294967296 ≤ d * 4294967296 := Int.mul_le_mul_of_nonneg_right (by omega) (by omega)
      omega
    have q1 : 0 ≤ (c * 4294967296 + a.getD n 0) / d := Int.ediv_nonneg t0 (by omega)
    have r0 := Int.emod_nonneg (c * 4294967296 + a.getD n 0) (show d ≠ 0 by omega)
    have r1 := Int.emod_lt_of_pos (c * 4294967296 + a.getD n 0) hd0
    have hqr := Int.mul_ediv_add_emod (c * 4294967296 + a.getD n 0) d
    have h9 := ih (out.set n ((c * 4294967296 + a.getD n 0) / d)) ((c * 4294967296 + a.getD n 0) % d) (by omega) (by rw [List.length_set]; exact ho) (hd.set _ q1 q0) r0 r1 (by
      rw [Dg.vl_drop_succ, Dg.vl_drop_succ 4294967296 a, Dg.vl_drop_set _ _ _ _ _ (Nat.lt_succ_self _), Dg.getD_set _ _ _ _ (by omega), if_pos rfl, ← hv]
      grind)
    have e1 := shl32 (x := c) hc0 (by omega)
    have e2 := or32 (x := c) (y := a.getD n 0) hc0 (by omega) (by omega) (by omega)
    have e3 : IntKind.u64.wrap (Int.tdiv (c * 4294967296 + a.getD n 0) d) = (c * 4294967296 + a.getD n 0) / d := by rw [tdiv_pos t0]; exact u64w q1 (by omega)
    have e4 : Int.tmod (c * 4294967296 + a.getD n 0) d = (c * 4294967296 + a.getD n 0) % d := tmod_pos t0
    have e5 : IntKind.i64.wrap ((n : Int) - 1) = (n : Int) - 1 := w64 (by omega) (by omega)
    rw [LP_go FF b130_0.eq_1]
    simp only [RB, un, St.none, Nat.reduceEqDiff, Nat.reduceAdd, Nat.reduceMul, Nat.reduceLeDiff, Nat.reduceLT, Int.reduceLT, Int.reduceLE, Int.reduceEq, Int.reduceToNat, Int.reduceSub, Int.reduceNeg, Int.reduceAdd, ↓reduceIte, reduceCtorEq, ite_self, eq_self, if_true, if_false, pack, pid, parN, List.not_mem_nil, List.mem_cons, lid, chkK, apartV, List.map_nil, List.flatMap_nil, List.append_nil, List.nil_append, List.drop_zero, List.length_set, List.length_replicate, List.length_append, List.take_length, List.take_zero, List.drop_length, Option.isNone_none, Heap.none, e0, e1, e2, e3, e4, e5]
    simp (disch := omega) only [if_pos, if_neg, List.take_length, take_set_len, take_set2_len, take_rep_len, take_snoc_len, take_app_len]
    exact h9
theorem small_D {m d : Nat} (hd0 : 0 < d) (hd1 : d ≤ 4294967295) (hl : L m ≤ 35184372088832) : R FF 130 [(AV.l 1 (List.map u (D m))), (AV.i .u64 ((d : Int)))] = some (.tup [(AV.l 1 (List.map u (D (m / d)))), (AV.i .u64 (((m % d : Nat) : Int)))]) := by
  have hl' : (D m).length ≤ 35184372088832 := hl
  have hm := Nat.mod_lt m hd0
  have hq : Dg.vl 4294967296 (D m) = ((m / d : Nat) : Int) * (d : Int) + ((m % d : Nat) : Int) := by
    rw [D_vl]
    have := Nat.div_add_mod m d
    rw [Nat.mul_comm] at this
    exact_mod_cast this.symm
  obtain ⟨o, h1, h2, h3, h4⟩ := small_div (D_dig m) hl' (d := (d : Int)) (by omega) (by omega) hq (by omega) (D m).length (List.replicate (D m).length 0) 0 (Nat.le_refl _) (by rw [List.length_replicate]) (Dg.Dig.replicate (by decide) _) (by omega) (by omega) (by
    rw [List.drop_length, List.drop_of_length_le (by rw [List.length_replicate]; omega)]
    simp [Dg.vl])
  have e1 : IntKind.i64.wrap (((D m).length : Int) - 1) = ((D m).length : Int) - 1 := w64 (by omega) (by omega)
  rw [R_go FF F130 c130.eq_1]
  simp only [RB, un, St.none, Nat.reduceEqDiff, Nat.reduceAdd, Nat.reduceMul, Nat.reduceLeDiff, Nat.reduceLT, Int.reduceLT, Int.reduceLE, Int.reduceEq, Int.reduceToNat, Int.reduceSub, Int.reduceNeg, Int.reduceAdd, ↓reduceIte, reduceCtorEq, ite_self, eq_self, if_true, if_false, pack, pid, parN, List.not_mem_nil, List.mem_cons, lid, chkK, apartV, List.map_nil, List.flatMap_nil, List.append_nil, List.nil_append, List.drop_zero, List.length_set, List.length_replicate, List.length_append, List.take_length, List.take_zero, List.drop_length, Option.isNone_none, Heap.none, e1]
  simp (disch := omega) only [if_pos, if_neg, List.take_length, take_set_len, take_set2_len, take_rep_len, take_snoc_len, take_app_len, h1]
  simp only [RB, un, St.none, Nat.reduceEqDiff, Nat.reduceAdd, Nat.reduceMul, Nat.reduceLeDiff, Nat.reduceLT, Int.reduceLT, Int.reduceLE, Int.reduceEq, Int.reduceToNat, Int.reduceSub, Int.reduceNeg, Int.reduceAdd, ↓reduceIte, reduceCtorEq, ite_self, eq_self, if_true, if_false, pack, pid, parN, List.not_mem_nil, List.mem_cons, lid, chkK, apartV, List.map_nil, List.flatMap_nil, List.append_nil, List.nil_append, List.drop_zero, List.length_set, List.length_replicate, List.length_append, List.take_length, List.take_zero, List.drop_length, Option.isNone_none, Heap.none, trim_c h2 (by omega) h4]
theorem bits_or_comm (k : IntKind) (x y : Int) : Go.bits .or k x y = Go.bits .or k y x := by simp [Go.bits, BitVec.or_comm]
theorem shift_parts (x s : Nat) (hs : s < 32) : (x * 2 ^ s) % 4294967296 = (x % 2 ^ (32 - s)) * 2 ^ s ∧ (x * 2 ^ s) / 4294967296 = x / 2 ^ (32 - s) := by
  have e : 4294967296 = 2 ^ (32 - s) * 2 ^ s := by rw [← Nat.pow_add, Nat.sub_add_cancel (by omega)]
  constructor
  · rw [e, Nat.mul_mod_mul_right]
  · rw [e, Nat.mul_div_mul_right _ _ (Nat.two_pow_pos s)]
theorem trimw_l0 {l : List Int} (hd : Dg.Dig 4294967296 l) (hl : l.length ≤ 35184372088832) : ∀ n : Nat, n ≤ l.length →
    ∃ m, m ≤ n ∧ l.take m = D (Dg.vl 4294967296 (l.take n)).toNat ∧ LP FF [(200000, 2), (0, 1), (3, 0)] [(200000, 2), (0, 1), (3, 0)] b285_0 [.own false 1 (l.map u), .sl 200000 1 0 l.length, (AV.i .i64 ((n : Int)))] = some (.exit 0, [.own false 1 (l.map u), .sl 200000 1 0 l.length, (AV.i .i64 ((m : Int)))]) := by
  intro n
  induction n with
  | zero =>
    intro _
    refine ⟨0, Nat.le_refl _, by simp only [List.take_zero, Dg.vl, Int.toNat_zero, D_zero], ?_⟩
    rw [LP_go FF b285_0.eq_1]
    simp only [RB, un, St.none, Nat.reduceEqDiff, Nat.reduceAdd, Nat.reduceMul, Nat.reduceLeDiff, Nat.reduceLT, Int.reduceLT, Int.reduceLE, Int.reduceEq, Int.reduceToNat, Int.reduceSub, Int.reduceNeg, Int.reduceAdd, ↓reduceIte, reduceCtorEq, ite_self, eq_self, if_true, if_false, pack, pid, parN, List.not_mem_nil, List.mem_cons, lid, chkK, apartV, List.map_nil, List.flatMap_nil, List.append_nil, List.nil_append, List.drop_zero, List.length_set, List.length_replicate, List.length_append, List.take_length, List.take_zero, List.drop_length, Option.isNone_none, Heap.none]
  | succ n ih =>
    intro hn
    have e : IntKind.i64.wrap (((n + 1 : Nat) : Int) - 1) = (n : Int) := by rw [w64 (by omega) (by omega)]; omega
    rw [LP_go FF b285_0.eq_1]
    simp only [RB, un, St.none, Nat.reduceEqDiff, Nat.reduceAdd, Nat.reduceMul, Nat.reduceLeDiff, Nat.reduceLT, Int.reduceLT, Int.reduceLE, Int.reduceEq, Int.reduceToNat, Int.reduceSub, Int.reduceNeg, Int.reduceAdd, ↓reduceIte, reduceCtorEq, ite_self, eq_self, if_true, if_false, pack, pid, parN, List.not_mem_nil, List.mem_cons, lid, chkK, apartV, List.map_nil, List.flatMap_nil, List.append_nil, List.nil_append, List.drop_zero, List.length_set, List.length_replicate, List.length_append, List.take_length, List.take_zero, List.drop_length, Option.isNone_none, Heap.none, e]
    rw [if_pos (by omega)]
    by_cases h : l.getD n 0 = 0
    · obtain ⟨m, hm, h1, h2⟩ := ih (by omega)
      refine ⟨m, by omega, ?_, ?_⟩
      · rw [h1, Dg.vl_take_succ, h]; simp
      · simp (disch := omega) only [if_pos, if_neg, List.take_length, take_set_len, take_set2_len, take_rep_len, take_snoc_len, take_app_len]
        exact h2
    · refine ⟨n + 1, Nat.le_refl _, ?_, ?_⟩
      · have hdd := hd.take (n + 1)
        refine D_of hdd (top_take (by omega) h) ?_
        have := Dg.vl_nonneg hdd (by decide)
        omega
      · simp (disch := omega) only [if_pos, if_neg, List.take_length, take_set_len, take_set2_len, take_rep_len, take_snoc_len, take_app_len]
theorem trimw_c {l : List Int} (hd : Dg.Dig 4294967296 l) (hl : l.length ≤ 35184372088832) {n : Nat} (hv : Dg.vl 4294967296 l = n) (hn : n ≠ 0) :
    R FF 285 [.own false 1 (l.map u)] = some (.back (.sl 200000 1 0 (L n)) [.own false 1 (l.map u)]) ∧ 0 < L n ∧ l.take (L n) = D n ∧ L n ≤ l.length := by
  obtain ⟨m, hm, h1, h2⟩ := trimw_l0 hd hl l.length (Nat.le_refl _)
  rw [List.take_length, hv, Int.toNat_natCast] at h1
  have hL : L n = m := by
    show (D n).length = m
    rw [← h1, List.length_take]
    omega
  have h0 : m ≠ 0 := fun h => hn (D_nil.1 (List.eq_nil_of_length_eq_zero (hL.trans h)))
  rw [hL]
  refine ⟨?_, by omega, h1, by omega⟩
  rw [R_go FF F285 c285.eq_1]
  simp only [RB, un, St.none, Nat.reduceEqDiff, Nat.reduceAdd, Nat.reduceMul, Nat.reduceLeDiff, Nat.reduceLT, Int.reduceLT, Int.reduceLE, Int.reduceEq, Int.reduceToNat, Int.reduceSub, Int.reduceNeg, Int.reduceAdd, ↓reduceIte, reduceCtorEq, ite_self, eq_self, if_true, if_false, pack, pid, parN, List.not_mem_nil, List.mem_cons, lid, chkK, apartV, List.map_nil, List.flatMap_nil, List.append_nil, List.nil_append, List.drop_zero, List.length_set, List.length_replicate, List.length_append, List.take_length, List.take_zero, List.drop_length, Option.isNone_none, Heap.none, h2]
  rw [if_neg (by omega), if_pos (by omega)]
theorem shl_l0 {a : List Int} (ha : Dg.Dig 4294967296 a) {w s : Nat} (hs : s < 32) (hl : a.length + w + 1 ≤ 35184372088832) {n : Nat} (hn : Dg.vl 4294967296 a * 2 ^ s * 4294967296 ^ w = n) :
    ∀ (d i : Nat) (out : List Int), i + d = a.length → out.length = a.length + w + 1 → Dg.Dig 4294967296 out → Dg.vl 4294967296 out = Dg.vl 4294967296 (a.take i) * 2 ^ s * 4294967296 ^ w → out.getD (i + w) 0 < 2 ^ s → (∀ j, i + w < j → out.getD j 0 = 0) →
    ∃ o, LP FF [(7, 1), (5, 0), (6, 0), (20, 0), (21, 0), (22, 0)] [(7, 1)] b111_0 [.own true 1 (out.map u), (AV.i .i64 ((w : Int))), (AV.i .i64 ((s : Int))), (AV.l 1 (List.map u a)), (AV.i .i64 ((a.length : Int))), (AV.i .i64 ((i : Int)))] = some (.exit 0, [.own true 1 (o.map u)]) ∧ Dg.Dig 4294967296 o ∧ o.length = a.length + w + 1 ∧ Dg.vl 4294967296 o = n := by
  intro d
  induction d with
  | zero =>
    intro i out hi ho hd hv hp hz
    refine ⟨out, ?_, hd, ho, ?_⟩
    · rw [LP_go FF b111_0.eq_1]
      simp only [RB, un, St.none, Nat.reduceEqDiff, Nat.reduceAdd, Nat.reduceMul, Nat.reduceLeDiff, Nat.reduceLT, Int.reduceLT, Int.reduceLE, Int.reduceEq, Int.reduceToNat, Int.reduceSub, Int.reduceNeg, Int.reduceAdd, ↓reduceIte, reduceCtorEq, ite_self, eq_self, if_true, if_false, pack, pid, parN, List.not_mem_nil, List.mem_cons, lid, chkK, apartV, List.map_nil, List.flatMap_nil, List.append_nil, List.nil_append, List.drop_zero, List.length_set, List.length_replicate, List.length_append, List.take_length, List.take_zero, List.drop_length, Option.isNone_none, Heap.none]
      simp (disch := omega) only [if_pos, if_neg, List.take_length, take_set_len, take_set2_len, take_rep_len, take_snoc_len, take_app_len]
    rw [hv, List.take_of_length_le (by omega), hn]
  | succ d ih =>
    intro i out hi ho hd hv hp hz
    have ga := ha.getD (by decide) i
    have go := hd.getD (by decide) (i + w)
    obtain ⟨x, hx⟩ := Int.eq_ofNat_of_zero_le ga.1
    obtain ⟨y, hy⟩ := Int.eq_ofNat_of_zero_le go.1
    have hxlt : x < 4294967296 := by omega
    have hylt : y < 2 ^ s := by rw [hy] at hp; exact_mod_cast hp
    obtain ⟨p1, p2⟩ := shift_parts x s hs
    have hps : 2 ^ s ≤ 2 ^ 31 := Nat.pow_le_pow_right (by decide) (by omega)
    have hxs : x * 2 ^ s ≤ 4294967295 * 2 ^ 31 := Nat.mul_le_mul (by omega) hps
    have hsp := Nat.two_pow_pos s
    have hhi : x * 2 ^ s / 4294967296 < 2 ^ s := by
      rw [Nat.div_lt_iff_lt_mul (by decide), Nat.mul_comm (2 ^ s)]
      exact (Nat.mul_lt_mul_right hsp).2 hxlt
    have hlo : y + x * 2 ^ s % 4294967296 < 4294967296 := by
      rw [p1]
      have h1 : x % 2 ^ (32 - s) + 1 ≤ 2 ^ (32 - s) := Nat.mod_lt _ (Nat.two_pow_pos _)
      have h2 := Nat.mul_le_mul_right (2 ^ s) h1
      rw [← Nat.pow_add, Nat.sub_add_cancel (by omega), Nat.add_mul] at h2
      omega
    have hsh : IntKind.u64.wrap ((x : Int) * 2 ^ Nat.min s IntKind.u64.bits) = ((x * 2 ^ s : Nat) : Int) := by
      rw [show Nat.min s IntKind.u64.bits = s from Nat.min_eq_left (by simp [IntKind.bits]; omega)]
      rw [show (x : Int) * 2 ^ s = ((x * 2 ^ s : Nat) : Int) by rw [Int.natCast_mul, Int.natCast_pow]; rfl]
      rw [u64w (by omega) (by omega)]
    have hor : Go.bits .or .u64 (y : Int) ((x * 2 ^ s % 4294967296 : Nat) : Int) = ((y + x * 2 ^ s % 4294967296 : Nat) : Int) := by
      rw [bits_or_comm, bits_join .u64 64 (by decide) u64_id s _ _ (by omega) ?_ (by omega) (by omega) (by exact_mod_cast hylt) (by omega)]
      · omega
      · rw [p1]
        exact_mod_cast Nat.mul_mod_left _ _
    have hand : Go.bits .and .u64 ((x * 2 ^ s : Nat) : Int) 4294967295 = ((x * 2 ^ s % 4294967296 : Nat) : Int) := by rw [and32 (by omega) (by omega)]; omega
    have hdv := shr32 (x := ((x * 2 ^ s : Nat) : Int)) (by omega)
    rw [show ((x * 2 ^ s : Nat) : Int) / 4294967296 = ((x * 2 ^ s / 4294967296 : Nat) : Int) by omega] at hdv
    have e1 : IntKind.i64.wrap ((i : Int) + (w : Int)) = ((i + w : Nat) : Int) := w64add (by omega)
    have e2 : IntKind.i64.wrap (((i + w : Nat) : Int) + 1) = ((i + w + 1 : Nat) : Int) := w64succ (by omega)
    have e3 : IntKind.i64.wrap ((i : Int) + 1) = ((i + 1 : Nat) : Int) := w64succ (by omega)
    have ho1 : (out.set (i + w) ((y + x * 2 ^ s % 4294967296 : Nat) : Int)).length = a.length + w + 1 := by rw [List.length_set]; exact ho
    have hz1 : (out.set (i + w) ((y + x * 2 ^ s % 4294967296 : Nat) : Int)).getD (i + w + 1) 0 = 0 := by
      rw [Dg.getD_set _ _ _ _ (by omega), if_neg (by omega)]
      exact hz _ (by omega)
    have h9 := ih (i + 1) ((out.set (i + w) ((y + x * 2 ^ s % 4294967296 : Nat) : Int)).set (i + w + 1) ((x * 2 ^ s / 4294967296 : Nat) : Int)) (by omega) (by rw [List.length_set]; exact ho1) ((hd.set _ (by omega) (by omega)).set _ (by omega) (by omega)) ?_ ?_ ?_
    rotate_left
    · rw [Dg.vl_set _ _ _ _ (by omega), hz1, Dg.vl_set _ _ _ _ (by omega), hv, hy, Dg.vl_take_succ, hx]
      have h := Nat.mod_add_div (x * 2 ^ s) 4294967296
      have h' : ((x * 2 ^ s % 4294967296 : Nat) : Int) + 4294967296 * ((x * 2 ^ s / 4294967296 : Nat) : Int) = (x : Int) * 2 ^ s := by
        have e : (x : Int) * 2 ^ s = ((x * 2 ^ s : Nat) : Int) := by rw [Int.natCast_mul, Int.natCast_pow]; rfl
        rw [e]
        omega
      rw [Int.natCast_add, Int.pow_succ, Int.pow_add]
      grind
    · rw [show i + 1 + w = i + w + 1 by omega, Dg.getD_set _ _ _ _ (by omega), if_pos rfl]
      exact_mod_cast hhi
    · intro j hj
      rw [Dg.getD_set _ _ _ _ (by omega), if_neg (by omega), Dg.getD_set _ _ _ _ (by omega), if_neg (by omega)]
      exact hz j (by omega)
    rw [LP_go FF b111_0.eq_1]
    simp only [RB, un, St.none, Nat.reduceEqDiff, Nat.reduceAdd, Nat.reduceMul, Nat.reduceLeDiff, Nat.reduceLT, Int.reduceLT, Int.reduceLE, Int.reduceEq, Int.reduceToNat, Int.reduceSub, Int.reduceNeg, Int.reduceAdd, ↓reduceIte, reduceCtorEq, ite_self, eq_self, if_true, if_false, pack, pid, parN, List.not_mem_nil, List.mem_cons, lid, chkK, apartV, List.map_nil, List.flatMap_nil, List.append_nil, List.nil_append, List.drop_zero, List.length_set, List.length_replicate, List.length_append, List.take_length, List.take_zero, List.drop_length, Option.isNone_none, Heap.none, e1, e2, e3, hx, hsh, hand, hdv, hy, hor]
    simp (disch := omega) only [if_pos, if_neg, List.take_length, take_set_len, take_set2_len, take_rep_len, take_snoc_len, take_app_len]
    exact h9
theorem shl_D {m n : Nat} (hm : m ≠ 0) (hl : L m + n / 32 + 1 ≤ 35184372088832) (hn : n ≤ 9223372036854775807) : R FF 111 [(AV.l 1 (List.map u (D m))), (AV.i .i64 ((n : Int)))] = some (.own true 1 ((D (m * 2 ^ n)).map u)) := by
  have hl' : (D m).length + n / 32 + 1 ≤ 35184372088832 := hl
  have e1 : IntKind.i64.wrap (Int.tdiv (n : Int) 32) = ((n / 32 : Nat) : Int) := by rw [tdiv_pos (by omega), w64 (by omega) (by omega)]; omega
  have e2 : Int.tmod (n : Int) 32 = ((n % 32 : Nat) : Int) := by rw [tmod_pos (by omega)]; omega
  have e3 : IntKind.i64.wrap (((D m).length : Int) + ((n / 32 : Nat) : Int)) = (((D m).length + n / 32 : Nat) : Int) := w64add (by omega)
  have e4 : IntKind.i64.wrap ((((D m).length + n / 32 : Nat) : Int) + 1) = (((D m).length + n / 32 + 1 : Nat) : Int) := w64succ (by omega)
  obtain ⟨o, h1, h2, h3, h4⟩ := shl_l0 (D_dig m) (Nat.mod_lt n (by decide)) hl' (n := m * 2 ^ n) (by
    rw [D_vl]
    have e : m * 2 ^ (n % 32) * 4294967296 ^ (n / 32) = m * 2 ^ n := by
      rw [show (4294967296 : Nat) = 2 ^ 32 from rfl, ← Nat.pow_mul, Nat.mul_assoc, ← Nat.pow_add, show n % 32 + 32 * (n / 32) = n by omega]
    rw [← e]
    simp only [Int.natCast_mul, Int.natCast_pow]
    rfl) (D m).length 0 (List.replicate ((D m).length + n / 32 + 1) 0) (by omega) (by rw [List.length_replicate]) (Dg.Dig.replicate (by decide) _) (by rw [Dg.vl_replicate_zero]; simp [Dg.vl]) (by rw [getD_rep]; exact Int.pow_pos (by decide)) (fun j _ => getD_rep _ j)
  rw [Int.ofNat_zero] at h1
  obtain ⟨t1, t0, t2, t3⟩ := trimw_c h2 (by omega) h4 (Nat.mul_ne_zero hm (Nat.ne_of_gt (Nat.two_pow_pos n)))
  rw [R_go FF F111 c111.eq_1]
  simp only [RB, un, St.none, Nat.reduceEqDiff, Nat.reduceAdd, Nat.reduceMul, Nat.reduceLeDiff, Nat.reduceLT, Int.reduceLT, Int.reduceLE, Int.reduceEq, Int.reduceToNat, Int.reduceSub, Int.reduceNeg, Int.reduceAdd, ↓reduceIte, reduceCtorEq, ite_self, eq_self, if_true, if_false, pack, pid, parN, List.not_mem_nil, List.mem_cons, lid, chkK, apartV, List.map_nil, List.flatMap_nil, List.append_nil, List.nil_append, List.drop_zero, List.length_set, List.length_replicate, List.length_append, List.take_length, List.take_zero, List.drop_length, Option.isNone_none, Heap.none, e1, e2, e3, e4]
  simp (disch := omega) only [if_pos, if_neg, List.take_length, take_set_len, take_set2_len, take_rep_len, take_snoc_len, take_app_len, h1]
  simp only [RB, un, St.none, Nat.reduceEqDiff, Nat.reduceAdd, Nat.reduceMul, Nat.reduceLeDiff, Nat.reduceLT, Int.reduceLT, Int.reduceLE, Int.reduceEq, Int.reduceToNat, Int.reduceSub, Int.reduceNeg, Int.reduceAdd, ↓reduceIte, reduceCtorEq, ite_self, eq_self, if_true, if_false, pack, pid, parN, List.not_mem_nil, List.mem_cons, lid, chkK, apartV, List.map_nil, List.flatMap_nil, List.append_nil, List.nil_append, List.drop_zero, List.length_set, List.length_replicate, List.length_append, List.take_length, List.take_zero, List.drop_length, Option.isNone_none, Heap.none, t1, aliases, t0]
  rw [t2]
theorem vl_drop_D (m w : Nat) : Dg.vl 4294967296 ((D m).drop w) = ((m / 4294967296 ^ w : Nat) : Int) := by
  have h := Dg.vl_take_drop 4294967296 (D m) w
  rw [D_vl] at h
  have h0 := Dg.vl_nonneg ((D_dig m).take w) (by decide)
  have h1 := Dg.vl_lt ((D_dig m).take w) (by decide)
  have h2 := Dg.vl_nonneg ((D_dig m).drop w) (by decide)
  have h3 : 4294967296 ^ ((D m).take w).length ≤ 4294967296 ^ w := Nat.pow_le_pow_right (by decide) (by rw [List.length_take]; omega)
  obtain ⟨x, hx⟩ := Int.eq_ofNat_of_zero_le h0
  obtain ⟨y, hy⟩ := Int.eq_ofNat_of_zero_le h2
  rw [hx, hy] at h
  rw [hx] at h1
  have e : ∀ k : Nat, (4294967296 : Int) ^ k = ((4294967296 ^ k : Nat) : Int) := fun k => by rw [Int.natCast_pow]; rfl
  rw [e, ← Int.natCast_mul, ← Int.natCast_add] at h
  rw [e] at h1
  have h4 : m = x + 4294967296 ^ w * y := Int.ofNat_inj.1 h
  have h5 : x < 4294967296 ^ w := Nat.lt_of_lt_of_le (Int.ofNat_lt.1 h1) h3
  rw [hy, h4, Nat.add_mul_div_left _ _ (Nat.pow_pos (by decide)), Nat.div_eq_of_lt h5, Nat.zero_add]
theorem shr_parts (x u v s : Nat) (hs : s < 32) (hu : u < 4294967296) : (u + 4294967296 * x) / 2 ^ s = (u + 4294967296 * (x % 2 ^ s)) / 2 ^ s + 4294967296 * (x / 2 ^ s) ∧ (u + 4294967296 * (x % 2 ^ s)) / 2 ^ s < 4294967296 := by
  have hp := Nat.two_pow_pos s
  constructor
  · have h := Nat.mod_add_div x (2 ^ s)
    have e : u + 4294967296 * x = u + 4294967296 * (x % 2 ^ s) + 2 ^ s * (4294967296 * (x / 2 ^ s)) := by
      have : 4294967296 * x = 4294967296 * (x % 2 ^ s) + 4294967296 * (2 ^ s * (x / 2 ^ s)) := by rw [← Nat.mul_add, h]
      rw [this, Nat.mul_left_comm]
      omega
    rw [e, Nat.add_mul_div_left _ _ hp]
  · rw [Nat.div_lt_iff_lt_mul hp]
    have h1 : x % 2 ^ s + 1 ≤ 2 ^ s := Nat.mod_lt _ hp
    have h2 := Nat.mul_le_mul_left 4294967296 h1
    omega
theorem mod_pow_limb (x s : Nat) (u : Nat) (hs : s < 32) : (u + 4294967296 * x) % 2 ^ s = u % 2 ^ s := by
  have e : 4294967296 = 2 ^ s * 2 ^ (32 - s) := by rw [← Nat.pow_add, Nat.add_sub_cancel' (by omega)]
  rw [e, Nat.mul_assoc, Nat.add_mul_mod_self_left]
theorem and_part {t r c : Nat} (h : t = r + 4294967296 * c) (hr : r < 4294967296) (ht : t ≤ 18446744073709551615) : Go.bits .and .u64 (t : Int) 4294967295 = (r : Int) := by
  rw [and32 (by omega) (by omega)]
  omega
theorem shr_l0 {m : Nat} (hl : (D m).length ≤ 35184372088832) {w s : Nat} (hs : s < 32) (hw : w < (D m).length) :
    ∀ (d i : Nat) (out : List Int), i + d = (D m).length - w → out.length = (D m).length - w → Dg.Dig 4294967296 out → Dg.vl 4294967296 (out.take i) + 4294967296 ^ i * ((m / 4294967296 ^ (w + i) / 2 ^ s : Nat) : Int) = ((m / 4294967296 ^ w / 2 ^ s : Nat) : Int) →
    ∃ o, LP FF [(7, 1), (0, 0), (5, 0), (6, 0), (23, 0), (24, 0)] [(7, 0)] b109_0 [.own true 1 (out.map u), (AV.l 1 (List.map u (D m))), (AV.i .i64 ((w : Int))), (AV.i .i64 ((s : Int))), (AV.i .i64 ((out.length : Int))), (AV.i .i64 ((i : Int)))] = some (.exit 0, [(AV.l 1 (List.map u o))]) ∧ Dg.Dig 4294967296 o ∧ o.length = (D m).length - w ∧ Dg.vl 4294967296 o = ((m / 4294967296 ^ w / 2 ^ s : Nat) : Int) := by
  intro d
  induction d with
  | zero =>
    intro i out hi ho hd hv
    refine ⟨out, ?_, hd, ho, ?_⟩
    · rw [LP_go FF b109_0.eq_1]
      simp only [RB, un, St.none, Nat.reduceEqDiff, Nat.reduceAdd, Nat.reduceMul, Nat.reduceLeDiff, Nat.reduceLT, Int.reduceLT, Int.reduceLE, Int.reduceEq, Int.reduceToNat, Int.reduceSub, Int.reduceNeg, Int.reduceAdd, ↓reduceIte, reduceCtorEq, ite_self, eq_self, if_true, if_false, pack, pid, parN, List.not_mem_nil, List.mem_cons, lid, chkK, apartV, List.map_nil, List.flatMap_nil, List.append_nil, List.nil_append, List.drop_zero, List.length_set, List.length_replicate, List.length_append, List.take_length, List.take_zero, List.drop_length, Option.isNone_none, Heap.none]
      simp (disch := omega) only [if_pos, if_neg, List.take_length, take_set_len, take_set2_len, take_rep_len, take_snoc_len, take_app_len]
    have h0 : m / 4294967296 ^ (w + i) = 0 := by
      apply Nat.div_eq_of_lt
      have := L_lt m
      rwa [show w + i = L m by unfold L; omega]
    rw [h0, Nat.zero_div, List.take_of_length_le (by omega)] at hv
    simpa using hv
  | succ d ih =>
    intro i out hi ho hd hv
    have g1 := D_get m (i + w)
    have g2 := D_get m (i + w + 1)
    obtain ⟨u, hu⟩ := Int.eq_ofNat_of_zero_le g1.1
    obtain ⟨v, hv1⟩ := Int.eq_ofNat_of_zero_le g2.1
    have hul : u < 4294967296 := by omega
    have hvl : v < 4294967296 := by omega
    have hd1 : m / 4294967296 ^ (w + i) = u + 4294967296 * (m / 4294967296 ^ (w + i + 1)) := by
      have h1 := Dg.vl_drop_succ 4294967296 (D m) (i + w)
      rw [vl_drop_D, vl_drop_D, hu] at h1
      rw [show w + i = i + w by omega]
      omega
    have hd2 : m / 4294967296 ^ (w + i + 1) = v + 4294967296 * (m / 4294967296 ^ (w + i + 2)) := by
      have h1 := Dg.vl_drop_succ 4294967296 (D m) (i + w + 1)
      rw [vl_drop_D, vl_drop_D, hv1] at h1
      rw [show w + i + 1 = i + w + 1 by omega, show w + i + 2 = i + w + 1 + 1 by omega]
      omega
    have hmod : m / 4294967296 ^ (w + i + 1) % 2 ^ s = v % 2 ^ s := by rw [hd2, mod_pow_limb _ _ _ hs]
    obtain ⟨q1, q2⟩ := shr_parts (m / 4294967296 ^ (w + i + 1)) u 0 s hs hul
    obtain ⟨q3, q4⟩ := shr_parts v u 0 s hs hul
    rw [hmod] at q1 q2
    have hsh : ((v : Int) * 4294967296 + u).fdiv (2 ^ Nat.min s IntKind.u64.bits) = (((u + 4294967296 * v) / 2 ^ s : Nat) : Int) := by
      rw [show Nat.min s IntKind.u64.bits = s from Nat.min_eq_left (by simp [IntKind.bits]; omega), Int.fdiv_eq_ediv_of_nonneg _ (Int.le_of_lt (Int.pow_pos (by decide))), Int.natCast_ediv, Int.natCast_pow]
      congr 1
      omega
    have hle : (u + 4294967296 * v) / 2 ^ s ≤ u + 4294967296 * v := Nat.div_le_self _ _
    have hand : Go.bits .and .u64 (((u + 4294967296 * v) / 2 ^ s : Nat) : Int) 4294967295 = (((u + 4294967296 * (v % 2 ^ s)) / 2 ^ s : Nat) : Int) :=
      and_part q3 q4 (Nat.le_trans hle (by omega))
    have e1 : IntKind.i64.wrap ((i : Int) + (w : Int)) = ((i + w : Nat) : Int) := w64add (by omega)
    have e2 : IntKind.i64.wrap (((i + w : Nat) : Int) + 1) = ((i + w + 1 : Nat) : Int) := w64succ (by omega)
    have e3 : IntKind.i64.wrap ((i : Int) + 1) = ((i + 1 : Nat) : Int) := w64succ (by omega)
    have e4 := shl32 (x := (v : Int)) (by omega) (by omega)
    have e5 := or32 (x := (v : Int)) (y := (u : Int)) (by omega) (by omega) (by omega) (by omega)
    rw [LP_go FF b109_0.eq_1]
    simp only [RB, un, St.none, Nat.reduceEqDiff, Nat.reduceAdd, Nat.reduceMul, Nat.reduceLeDiff, Nat.reduceLT, Int.reduceLT, Int.reduceLE, Int.reduceEq, Int.reduceToNat, Int.reduceSub, Int.reduceNeg, Int.reduceAdd, ↓reduceIte, reduceCtorEq, ite_self, eq_self, if_true, if_false, pack, pid, parN, List.not_mem_nil, List.mem_cons, lid, chkK, apartV, List.map_nil, List.flatMap_nil, List.append_nil, List.nil_append, List.drop_zero, List.length_set, List.length_replicate, List.length_append, List.take_length, List.take_zero, List.drop_length, Option.isNone_none, Heap.none, e1, e2, e3, limb_c, hu, hv1, e4, e5, hsh, hand]
    clear hsh hand hle q3 q4 hmod hd2 e1 e2 e4 e5
    generalize (u + 4294967296 * (v % 2 ^ s)) / 2 ^ s = r at *
    have h9 := ih (i + 1) (out.set i (r : Int)) (by omega) (by rw [List.length_set]; exact ho) (hd.set _ (by omega) (by omega)) (by
      rw [set_take _ (by omega), vl_snoc, List.length_take, Nat.min_eq_left (by omega), ← hv, hd1, q1, Int.pow_succ, Int.natCast_add, Int.natCast_mul]
      rw [show w + (i + 1) = w + i + 1 by omega]
      grind)
    rw [List.length_set] at h9
    simp (disch := omega) only [if_pos, if_neg, List.take_length, take_set_len, take_set2_len, take_rep_len, take_snoc_len, take_app_len]
    exact h9
theorem shr_D {m n : Nat} (hl : L m ≤ 35184372088832) (hn : n ≤ 9223372036854775807) : R FF 109 [(AV.l 1 (List.map u (D m))), (AV.i .i64 ((n : Int)))] = some (AV.l 1 (List.map u (D (m / 2 ^ n)))) := by
  have hl' : (D m).length ≤ 35184372088832 := hl
  have e : m / 2 ^ n = m / 4294967296 ^ (n / 32) / 2 ^ (n % 32) := by
    rw [Nat.div_div_eq_div_mul, show (4294967296 : Nat) = 2 ^ 32 from rfl, ← Nat.pow_mul, ← Nat.pow_add, show 32 * (n / 32) + n % 32 = n by omega]
  have e1 : IntKind.i64.wrap (Int.tdiv (n : Int) 32) = ((n / 32 : Nat) : Int) := by rw [tdiv_pos (by omega), w64 (by omega) (by omega)]; omega
  have e2 : Int.tmod (n : Int) 32 = ((n % 32 : Nat) : Int) := by rw [tmod_pos (by omega)]; omega
  by_cases h : n / 32 ≥ (D m).length
  · have : m / 4294967296 ^ (n / 32) = 0 := by
      apply Nat.div_eq_of_lt
      exact Nat.lt_of_lt_of_le (L_lt m) (Nat.pow_le_pow_right (by decide) h)
    rw [R_go FF F109 c109.eq_1]
    simp only [RB, un, St.none, Nat.reduceEqDiff, Nat.reduceAdd, Nat.reduceMul, Nat.reduceLeDiff, Nat.reduceLT, Int.reduceLT, Int.reduceLE, Int.reduceEq, Int.reduceToNat, Int.reduceSub, Int.reduceNeg, Int.reduceAdd, ↓reduceIte, reduceCtorEq, ite_self, eq_self, if_true, if_false, pack, pid, parN, List.not_mem_nil, List.mem_cons, lid, chkK, apartV, List.map_nil, List.flatMap_nil, List.append_nil, List.nil_append, List.drop_zero, List.length_set, List.length_replicate, List.length_append, List.take_length, List.take_zero, List.drop_length, Option.isNone_none, Heap.none, e1, e2]
    simp (disch := omega) only [if_pos, if_neg, List.take_length, take_set_len, take_set2_len, take_rep_len, take_snoc_len, take_app_len]
    rw [e, this, Nat.zero_div, D_zero]
    rfl
  · have e4 : IntKind.i64.wrap (((D m).length : Int) - ((n / 32 : Nat) : Int)) = (((D m).length - n / 32 : Nat) : Int) := by rw [w64 (by omega) (by omega)]; omega
    obtain ⟨o, h1, h2, h3, h4⟩ := shr_l0 hl' (Nat.mod_lt n (by decide)) (show n / 32 < (D m).length by omega) ((D m).length - n / 32) 0 (List.replicate ((D m).length - n / 32) 0) (by omega) (by rw [List.length_replicate]) (Dg.Dig.replicate (by decide) _) (by simp [Dg.vl])
    rw [Int.ofNat_zero, List.length_replicate] at h1
    rw [R_go FF F109 c109.eq_1]
    simp only [RB, un, St.none, Nat.reduceEqDiff, Nat.reduceAdd, Nat.reduceMul, Nat.reduceLeDiff, Nat.reduceLT, Int.reduceLT, Int.reduceLE, Int.reduceEq, Int.reduceToNat, Int.reduceSub, Int.reduceNeg, Int.reduceAdd, ↓reduceIte, reduceCtorEq, ite_self, eq_self, if_true, if_false, pack, pid, parN, List.not_mem_nil, List.mem_cons, lid, chkK, apartV, List.map_nil, List.flatMap_nil, List.append_nil, List.nil_append, List.drop_zero, List.length_set, List.length_replicate, List.length_append, List.take_length, List.take_zero, List.drop_length, Option.isNone_none, Heap.none, e1, e2, e4]
    simp (disch := omega) only [if_pos, if_neg, List.take_length, take_set_len, take_set2_len, take_rep_len, take_snoc_len, take_app_len, h1]
    simp only [RB, un, St.none, Nat.reduceEqDiff, Nat.reduceAdd, Nat.reduceMul, Nat.reduceLeDiff, Nat.reduceLT, Int.reduceLT, Int.reduceLE, Int.reduceEq, Int.reduceToNat, Int.reduceSub, Int.reduceNeg, Int.reduceAdd, ↓reduceIte, reduceCtorEq, ite_self, eq_self, if_true, if_false, pack, pid, parN, List.not_mem_nil, List.mem_cons, lid, chkK, apartV, List.map_nil, List.flatMap_nil, List.append_nil, List.nil_append, List.drop_zero, List.length_set, List.length_replicate, List.length_append, List.take_length, List.take_zero, List.drop_length, Option.isNone_none, Heap.none, trim_c h2 (by omega) h4]
    rw [e]
end Go.Pe
set_option linter.unusedSimpArgs false
set_option linter.unusedVariables false
open Go
namespace Dg
theorem pow_mono {B : Int} (hB : 1 ≤ B) {m n : Nat} (h : m ≤ n) : B ^ m ≤ B ^ n := by
  obtain ⟨d, rfl⟩ := Nat.exists_eq_add_of_le h
  rw [Int.pow_add]
  have h1 : 0 < B ^ m := Int.pow_pos (by omega)
  have h2 : 1 ≤ B ^ d := by
    have : 0 < B ^ d := Int.pow_pos (by omega)
    omega
  have := Int.mul_le_mul_of_nonneg_left h2 (Int.le_of_lt h1)
  omega
end Dg
namespace Go.Pe
theorem take_l0 {uu v : List Int} (hu : Dg.Dig 4294967296 uu) (hv : Dg.Dig 4294967296 v) (hl : uu.length ≤ 35184372088832) (hlv : v.length < uu.length) {g : Int} (hg0 : 0 ≤ g) (hg1 : g ≤ 4294967295) :
    ∀ (d i : Nat) (out : List Int) (c e : Int), i + d = uu.length → out.length = uu.length → Dg.Dig 4294967296 out → 0 ≤ c → c ≤ 4294967295 → (i = uu.length → c = 0) → 0 ≤ e → e ≤ 1 → (∀ j, i ≤ j → out.getD j 0 = uu.getD j 0) →
    Dg.vl 4294967296 (out.take i) = Dg.vl 4294967296 (uu.take i) - g * Dg.vl 4294967296 (v.take i) + (c + e) * 4294967296 ^ i →
    ∃ o e', LP FF [(200000, 2), (0, 1), (1, 0), (2, 0), (7, 0), (8, 0), (12, 0), (13, 0)] [(200000, 2), (0, 1), (8, 0)] b140_0 [.own false 1 (out.map u), .sl 200000 1 0 out.length, (AV.l 1 (List.map u v)), (AV.i .u64 g), (AV.i .u64 c), (AV.i .u64 e), (AV.i .i64 ((uu.length : Int))), (AV.i .i64 ((i : Int)))] = some (.exit 0, [.own false 1 (o.map u), .sl 200000 1 0 o.length, (AV.i .u64 (e'))]) ∧
      o.length = uu.length ∧ Dg.Dig 4294967296 o ∧ 0 ≤ e' ∧ e' ≤ 1 ∧ Dg.vl 4294967296 o = Dg.vl 4294967296 uu - g * Dg.vl 4294967296 v + e' * 4294967296 ^ uu.length := by
  intro d
  induction d with
  | zero =>
    intro i out c e hi ho hd hc0 hc1 hc9 he0 he1 hsame hval
    have hc := hc9 (by omega)
    subst hc
    refine ⟨out, e, ?_, ho, hd, he0, he1, ?_⟩
    · rw [LP_go FF b140_0.eq_1]
      simp only [RB, un, St.none, Nat.reduceEqDiff, Nat.reduceAdd, Nat.reduceMul, Nat.reduceLeDiff, Nat.reduceLT, Int.reduceLT, Int.reduceLE, Int.reduceEq, Int.reduceToNat, Int.reduceSub, Int.reduceNeg, Int.reduceAdd, ↓reduceIte, reduceCtorEq, ite_self, eq_self, if_true, if_false, pack, pid, parN, List.not_mem_nil, List.mem_cons, lid, chkK, apartV, List.map_nil, List.flatMap_nil, List.append_nil, List.nil_append, List.drop_zero, List.length_set, List.length_replicate, List.length_append, List.take_length, List.take_zero, List.drop_length, Option.isNone_none, Heap.none]
      simp (disch := omega) only [if_pos, if_neg, List.take_length, take_set_len, take_set2_len, take_rep_len, take_snoc_len, take_app_len]
    rw [List.take_of_length_le (by omega), List.take_of_length_le (by omega), List.take_of_length_le (by omega), show i = uu.length by omega] at hval
    rw [hval, Int.zero_add]
  | succ d ih =>
    intro i out c e hi ho hd hc0 hc1 hc9 he0 he1 hsame hval
    have gu := hu.getD (by decide) i
    have gv := hv.getD (by decide) i
    have hs := hsame i (Nat.le_refl _)
    have hx := mul_bound hg0 hg1 gv.1 (show v.getD i 0 ≤ 4294967295 by omega)
    have hx2 : g * v.getD i 0 ≤ 4294967295 * 4294967295 := hx.2
    have e1 : IntKind.u64.wrap (g * v.getD i 0) = g * v.getD i 0 := u64w hx.1 (by omega)
    have e2 : IntKind.u64.wrap (c + g * v.getD i 0) = c + g * v.getD i 0 := u64w (by omega) (by omega)
    have e3 := and32 (x := c + g * v.getD i 0) (by omega) (by omega)
    have e4 := shr32 (x := c + g * v.getD i 0) (by omega)
    have e5 : IntKind.u64.wrap (4294967296 + uu.getD i 0) = 4294967296 + uu.getD i 0 := u64w (by omega) (by omega)
    have e6 : IntKind.u64.wrap (4294967296 + uu.getD i 0 - (c + g * v.getD i 0) % 4294967296) = 4294967296 + uu.getD i 0 - (c + g * v.getD i 0) % 4294967296 := u64w (by omega) (by omega)
    have e7 : IntKind.u64.wrap (4294967296 + uu.getD i 0 - (c + g * v.getD i 0) % 4294967296 - e) = 4294967296 + uu.getD i 0 - (c + g * v.getD i 0) % 4294967296 - e := u64w (by omega) (by omega)
    have e8 := and32 (x := 4294967296 + uu.getD i 0 - (c + g * v.getD i 0) % 4294967296 - e) (by omega) (by omega)
    have e9 := shr32 (x := 4294967296 + uu.getD i 0 - (c + g * v.getD i 0) % 4294967296 - e) (by omega)
    have e10 : IntKind.u64.wrap (1 - (4294967296 + uu.getD i 0 - (c + g * v.getD i 0) % 4294967296 - e) / 4294967296) = 1 - (4294967296 + uu.getD i 0 - (c + g * v.getD i 0) % 4294967296 - e) / 4294967296 := u64w (by omega) (by omega)
    have e11 : IntKind.i64.wrap ((i : Int) + 1) = ((i + 1 : Nat) : Int) := w64succ (by omega)
    rw [LP_go FF b140_0.eq_1]
    simp only [RB, un, St.none, Nat.reduceEqDiff, Nat.reduceAdd, Nat.reduceMul, Nat.reduceLeDiff, Nat.reduceLT, Int.reduceLT, Int.reduceLE, Int.reduceEq, Int.reduceToNat, Int.reduceSub, Int.reduceNeg, Int.reduceAdd, ↓reduceIte, reduceCtorEq, ite_self, eq_self, if_true, if_false, pack, pid, parN, List.not_mem_nil, List.mem_cons, lid, chkK, apartV, List.map_nil, List.flatMap_nil, List.append_nil, List.nil_append, List.drop_zero, List.length_set, List.length_replicate, List.length_append, List.take_length, List.take_zero, List.drop_length, Option.isNone_none, Heap.none, limb_c, hs, e1, e2, e3, e4, e5, e6, e7, e8, e9, e10, e11]
    simp (disch := omega) only [if_pos, if_neg, List.take_length, take_set_len, take_set2_len, take_rep_len, take_snoc_len, take_app_len]
    clear e1 e2 e3 e4 e5 e6 e7 e8 e9 e10 e11
    generalize hp : g * v.getD i 0 = p at *
    have hcz : i + 1 = uu.length → (c + p) / 4294967296 = 0 := by
      intro h1
      have h2 := getD_beyond (l := v) (i := i) (by omega)
      rw [h2, Int.mul_zero] at hp
      omega
    have h9 := ih (i + 1) (out.set i ((4294967296 + uu.getD i 0 - (c + p) % 4294967296 - e) % 4294967296)) ((c + p) / 4294967296) (1 - (4294967296 + uu.getD i 0 - (c + p) % 4294967296 - e) / 4294967296) (by omega) (by rw [List.length_set]; exact ho) (hd.set _ (by omega) (by omega)) (by omega) (by omega) hcz (by omega) (by omega) (by
      intro j hj
      rw [Dg.getD_set _ _ _ _ (by omega), if_neg (by omega)]
      exact hsame j (by omega)) (by
      rw [set_take _ (by omega), vl_snoc, List.length_take, Nat.min_eq_left (by omega), hval, Dg.vl_take_succ, Dg.vl_take_succ, Int.pow_succ]
      have h1 := Int.mul_ediv_add_emod (c + p) 4294967296
      have h2 := Int.mul_ediv_add_emod (4294967296 + uu.getD i 0 - (c + p) % 4294967296 - e) 4294967296
      generalize (4294967296 + uu.getD i 0 - (c + p) % 4294967296 - e) / 4294967296 = y at *
      generalize (4294967296 + uu.getD i 0 - (c + p) % 4294967296 - e) % 4294967296 = z at *
      generalize (c + p) / 4294967296 = cq at *
      generalize (c + p) % 4294967296 = cr at *
      rw [Int.mul_add, ← Int.mul_assoc g, hp]
      grind)
    rw [List.length_set] at h9
    exact h9
theorem take_c {uu v : List Int} (hu : Dg.Dig 4294967296 uu) (hv : Dg.Dig 4294967296 v) (hl : uu.length ≤ 35184372088832) (hlv : v.length < uu.length) {g : Int} (hg0 : 0 ≤ g) (hg1 : g ≤ 4294967295) :
    ∃ (out : List Int) (c : Int), R FF 140 [.own false 1 (uu.map u), (AV.l 1 (List.map u v)), (AV.i .u64 g)] = some (.back ((AV.b (decide (c = 1)))) [.own false 1 (out.map u)]) ∧ out.length = uu.length ∧ Dg.Dig 4294967296 out ∧ 0 ≤ c ∧ c ≤ 1 ∧ Dg.vl 4294967296 out = Dg.vl 4294967296 uu - g * Dg.vl 4294967296 v + c * 4294967296 ^ uu.length := by
  obtain ⟨o, c, h1, h2, h3, h4, h5, h6⟩ := take_l0 hu hv hl hlv hg0 hg1 uu.length 0 uu 0 0 (by omega) rfl hu (by omega) (by omega) (by omega) (by omega) (by omega) (fun j _ => rfl) (by simp [Dg.vl])
  refine ⟨o, c, ?_, h2, h3, h4, h5, h6⟩
  rw [Int.ofNat_zero] at h1
  rw [R_go FF F140 c140.eq_1]
  simp only [RB, un, St.none, Nat.reduceEqDiff, Nat.reduceAdd, Nat.reduceMul, Nat.reduceLeDiff, Nat.reduceLT, Int.reduceLT, Int.reduceLE, Int.reduceEq, Int.reduceToNat, Int.reduceSub, Int.reduceNeg, Int.reduceAdd, ↓reduceIte, reduceCtorEq, ite_self, eq_self, if_true, if_false, pack, pid, parN, List.not_mem_nil, List.mem_cons, lid, chkK, apartV, List.map_nil, List.flatMap_nil, List.append_nil, List.nil_append, List.drop_zero, List.length_set, List.length_replicate, List.length_append, List.take_length, List.take_zero, List.drop_length, Option.isNone_none, Heap.none, h1]
theorem give_l0 {uu v : List Int} (hu : Dg.Dig 4294967296 uu) (hv : Dg.Dig 4294967296 v) (hl : uu.length ≤ 35184372088832) :
    ∀ (d i : Nat) (out : List Int) (c : Int), i + d = uu.length → out.length = uu.length → Dg.Dig 4294967296 out → 0 ≤ c → c ≤ 1 → (∀ j, i ≤ j → out.getD j 0 = uu.getD j 0) →
    Dg.vl 4294967296 (out.take i) + c * 4294967296 ^ i = Dg.vl 4294967296 (uu.take i) + Dg.vl 4294967296 (v.take i) →
    ∃ o c', LP FF [(200000, 2), (0, 1), (1, 0), (4, 0), (7, 0), (8, 0)] [(200000, 2), (0, 1)] b141_0 [.own false 1 (out.map u), .sl 200000 1 0 out.length, (AV.l 1 (List.map u v)), (AV.i .u64 c), (AV.i .i64 ((uu.length : Int))), (AV.i .i64 ((i : Int)))] = some (.exit 0, [.own false 1 (o.map u), .sl 200000 1 0 o.length]) ∧
      o.length = uu.length ∧ Dg.Dig 4294967296 o ∧ 0 ≤ c' ∧ c' ≤ 1 ∧ Dg.vl 4294967296 o + c' * 4294967296 ^ uu.length = Dg.vl 4294967296 uu + Dg.vl 4294967296 (v.take uu.length) := by
  intro d
  induction d with
  | zero =>
    intro i out c hi ho hd hc0 hc1 hsame hval
    refine ⟨out, c, ?_, ho, hd, hc0, hc1, ?_⟩
    · rw [LP_go FF b141_0.eq_1]
      simp only [RB, un, St.none, Nat.reduceEqDiff, Nat.reduceAdd, Nat.reduceMul, Nat.reduceLeDiff, Nat.reduceLT, Int.reduceLT, Int.reduceLE, Int.reduceEq, Int.reduceToNat, Int.reduceSub, Int.reduceNeg, Int.reduceAdd, ↓reduceIte, reduceCtorEq, ite_self, eq_self, if_true, if_false, pack, pid, parN, List.not_mem_nil, List.mem_cons, lid, chkK, apartV, List.map_nil, List.flatMap_nil, List.append_nil, List.nil_append, List.drop_zero, List.length_set, List.length_replicate, List.length_append, List.take_length, List.take_zero, List.drop_length, Option.isNone_none, Heap.none]
      simp (disch := omega) only [if_pos, if_neg, List.take_length, take_set_len, take_set2_len, take_rep_len, take_snoc_len, take_app_len]
    rw [List.take_of_length_le (by omega), List.take_of_length_le (l := uu) (by omega), show i = uu.length by omega] at hval
    exact hval
  | succ d ih =>
    intro i out c hi ho hd hc0 hc1 hsame hval
    have gu := hu.getD (by decide) i
    have gv := hv.getD (by decide) i
    have hs := hsame i (Nat.le_refl _)
    have e1 : IntKind.u64.wrap (uu.getD i 0 + v.getD i 0) = uu.getD i 0 + v.getD i 0 := u64w (by omega) (by omega)
    have e2 : IntKind.u64.wrap (c + (uu.getD i 0 + v.getD i 0)) = c + (uu.getD i 0 + v.getD i 0) := u64w (by omega) (by omega)
    have e3 := and32 (x := c + (uu.getD i 0 + v.getD i 0)) (by omega) (by omega)
    have e4 := shr32 (x := c + (uu.getD i 0 + v.getD i 0)) (by omega)
    have e5 : IntKind.i64.wrap ((i : Int) + 1) = ((i + 1 : Nat) : Int) := w64succ (by omega)
    have h9 := ih (i + 1) (out.set i ((c + (uu.getD i 0 + v.getD i 0)) % 4294967296)) ((c + (uu.getD i 0 + v.getD i 0)) / 4294967296) (by omega) (by rw [List.length_set]; exact ho) (hd.set _ (by omega) (by omega)) (by omega) (by omega) (by
      intro j hj
      rw [Dg.getD_set _ _ _ _ (by omega), if_neg (by omega)]
      exact hsame j (by omega)) (by
      rw [set_take _ (by omega), vl_snoc, List.length_take, Nat.min_eq_left (by omega), Dg.vl_take_succ, Dg.vl_take_succ, Int.pow_succ]
      have h1 := Int.mul_ediv_add_emod (c + (uu.getD i 0 + v.getD i 0)) 4294967296
      grind)
    rw [List.length_set] at h9
    rw [LP_go FF b141_0.eq_1]
    simp only [RB, un, St.none, Nat.reduceEqDiff, Nat.reduceAdd, Nat.reduceMul, Nat.reduceLeDiff, Nat.reduceLT, Int.reduceLT, Int.reduceLE, Int.reduceEq, Int.reduceToNat, Int.reduceSub, Int.reduceNeg, Int.reduceAdd, ↓reduceIte, reduceCtorEq, ite_self, eq_self, if_true, if_false, pack, pid, parN, List.not_mem_nil, List.mem_cons, lid, chkK, apartV, List.map_nil, List.flatMap_nil, List.append_nil, List.nil_append, List.drop_zero, List.length_set, List.length_replicate, List.length_append, List.take_length, List.take_zero, List.drop_length, Option.isNone_none, Heap.none, limb_c, hs, e1, e2, e3, e4, e5]
    simp (disch := omega) only [if_pos, if_neg, List.take_length, take_set_len, take_set2_len, take_rep_len, take_snoc_len, take_app_len]
    exact h9
theorem give_c {uu v : List Int} (hu : Dg.Dig 4294967296 uu) (hv : Dg.Dig 4294967296 v) (hl : uu.length ≤ 35184372088832) :
    ∃ (out : List Int) (c : Int), R FF 141 [.own false 1 (uu.map u), (AV.l 1 (List.map u v))] = some (.back (.tup []) [.own false 1 (out.map u)]) ∧ out.length = uu.length ∧ Dg.Dig 4294967296 out ∧ 0 ≤ c ∧ c ≤ 1 ∧ Dg.vl 4294967296 out + c * 4294967296 ^ uu.length = Dg.vl 4294967296 uu + Dg.vl 4294967296 (v.take uu.length) := by
  obtain ⟨o, c, h1, h2, h3, h4, h5, h6⟩ := give_l0 hu hv hl uu.length 0 uu 0 (by omega) rfl hu (by omega) (by omega) (fun j _ => rfl) (by simp [Dg.vl])
  refine ⟨o, c, ?_, h2, h3, h4, h5, h6⟩
  rw [Int.ofNat_zero] at h1
  rw [R_go FF F141 c141.eq_1]
  simp only [RB, un, St.none, Nat.reduceEqDiff, Nat.reduceAdd, Nat.reduceMul, Nat.reduceLeDiff, Nat.reduceLT, Int.reduceLT, Int.reduceLE, Int.reduceEq, Int.reduceToNat, Int.reduceSub, Int.reduceNeg, Int.reduceAdd, ↓reduceIte, reduceCtorEq, ite_self, eq_self, if_true, if_false, pack, pid, parN, List.not_mem_nil, List.mem_cons, lid, chkK, apartV, List.map_nil, List.flatMap_nil, List.append_nil, List.nil_append, List.drop_zero, List.length_set, List.length_replicate, List.length_append, List.take_length, List.take_zero, List.drop_length, Option.isNone_none, Heap.none, h1]
end Go.Pe
set_option linter.unusedSimpArgs false
set_option linter.unusedVariables false
open Go
namespace Go.Pe
theorem knuth_gt {g U3 P Ul V2 Vl : Int} (hg : 0 ≤ g) (hP : 0 < P) (hUl : Ul < P) (hVl : 0 ≤ Vl) (h : U3 < g * V2) : U3 * P + Ul < g * (V2 * P + Vl) := by
  have h1 : (U3 + 1) * P ≤ g * V2 * P := Int.mul_le_mul_of_nonneg_right (by omega) (by omega)
  have h2 : 0 ≤ g * Vl := Int.mul_nonneg hg hVl
  grind
theorem knuth_le {g U3 P Ul V2 Vl B : Int} (hg : 1 ≤ g) (hgB : g ≤ B) (hP : 0 < P) (hUl : 0 ≤ Ul) (hVl0 : 0 ≤ Vl) (hVl : Vl < P) (hB : B ≤ V2) (h : g * V2 ≤ U3) : (g - 1) * (V2 * P + Vl) ≤ U3 * P + Ul := by
  have h1 : g * V2 * P ≤ U3 * P := Int.mul_le_mul_of_nonneg_right h (by omega)
  have h2 : (g - 1) * Vl ≤ (g - 1) * P := Int.mul_le_mul_of_nonneg_left (by omega) (by omega)
  have h3 : g * P ≤ V2 * P := Int.mul_le_mul_of_nonneg_right (by omega) (by omega)
  grind
theorem vl_three {l : List Int} {p : Nat} (h : l.length = p + 3) : Dg.vl 4294967296 l = (l.getD (p + 2) 0 * 4294967296 * 4294967296 + l.getD (p + 1) 0 * 4294967296 + l.getD p 0) * 4294967296 ^ p + Dg.vl 4294967296 (l.take p) := by
  have h1 : l.take (p + 3) = l := List.take_of_length_le (by omega)
  conv => lhs; rw [← h1]
  rw [Dg.vl_take_succ, Dg.vl_take_succ, Dg.vl_take_succ, Int.pow_succ, Int.pow_succ]
  grind
theorem vl_two {l : List Int} {p : Nat} (h : l.length = p + 2) : Dg.vl 4294967296 l = (l.getD (p + 1) 0 * 4294967296 + l.getD p 0) * 4294967296 ^ p + Dg.vl 4294967296 (l.take p) := by
  have h1 : l.take (p + 2) = l := List.take_of_length_le (by omega)
  conv => lhs; rw [← h1]
  rw [Dg.vl_take_succ, Dg.vl_take_succ, Int.pow_succ]
  grind
theorem digit_loop {uu v : List Int} (hu : Dg.Dig 4294967296 uu) (hv : Dg.Dig 4294967296 v) {p : Nat} (hul : uu.length = p + 3) (hvl : v.length = p + 2) (hl : uu.length ≤ 35184372088832) (hn : 2147483648 ≤ v.getD (p + 1) 0) {q : Int} (hq0 : 0 ≤ q) (hq1 : q ≤ 4294967295)
    (hq : 0 ≤ Dg.vl 4294967296 uu - q * Dg.vl 4294967296 v) (hq2 : Dg.vl 4294967296 uu - q * Dg.vl 4294967296 v < Dg.vl 4294967296 v) : ∀ (d : Nat) (g s : Int), g.toNat ≤ d → q ≤ g → g * v.getD (p + 1) 0 + s = uu.getD (p + 2) 0 * 4294967296 + uu.getD (p + 1) 0 → 0 ≤ s → s < 4294967296 → g ≤ 4294967297 →
    ∃ g', LP FF [(200000, 2), (0, 1), (1, 0), (5, 0), (7, 0), (8, 0)] [(200000, 2), (0, 1), (1, 0), (7, 0)] b138_0 [.own false 1 (uu.map u), .sl 200000 1 0 uu.length, (AV.l 1 (List.map u v)), (AV.i .i64 (((p + 2 : Nat) : Int))), (AV.i .u64 g), (AV.i .u64 s)] = some (.exit 0, [.own false 1 (uu.map u), .sl 200000 1 0 uu.length, (AV.l 1 (List.map u v)), (AV.i .u64 (g'))]) ∧ 0 ≤ g' ∧ g' ≤ 4294967295 ∧ (g' = q ∨ g' = q + 1) := by
  have gu0 := hu.getD (by decide) p
  have gu1 := hu.getD (by decide) (p + 1)
  have gu2 := hu.getD (by decide) (p + 2)
  have gv0 := hv.getD (by decide) p
  have gv1 := hv.getD (by decide) (p + 1)
  have hU := vl_three hul
  have hV := vl_two hvl
  have l0 := Dg.vl_nonneg (hu.take p) (by decide)
  have l1 := Dg.vl_lt (hu.take p) (by decide)
  have m0 := Dg.vl_nonneg (hv.take p) (by decide)
  have m1 := Dg.vl_lt (hv.take p) (by decide)
  rw [List.length_take, Nat.min_eq_left (by omega)] at l1 m1
  have hP : 0 < (4294967296 : Int) ^ p := Int.pow_pos (by decide)
  have e1 : IntKind.i64.wrap (((p + 2 : Nat) : Int) - 2) = (p : Int) := by rw [w64 (by omega) (by omega)]; omega
  have e2 : IntKind.i64.wrap (((p + 2 : Nat) : Int) - 1) = ((p + 1 : Nat) : Int) := by rw [w64 (by omega) (by omega)]; omega
  intro d
  induction d with
  | zero =>
    intro g s hd hqg hgs hs0 hs1 hg
    have hg0 : g = 0 := by omega
    subst hg0
    have e3 : IntKind.u64.wrap (0 * v.getD p 0) = 0 := by rw [Int.zero_mul]; exact u64w (by omega) (by omega)
    have e4 := shl32 (x := s) hs0 (by omega)
    have e5 := or32 (x := s) (y := uu.getD p 0) hs0 (by omega) (by omega) (by omega)
    refine ⟨0, ?_, by omega, by omega, .inl (by omega)⟩
    rw [LP_go FF b138_0.eq_1]
    simp only [RB, un, St.none, Nat.reduceEqDiff, Nat.reduceAdd, Nat.reduceMul, Nat.reduceLeDiff, Nat.reduceLT, Int.reduceLT, Int.reduceLE, Int.reduceEq, Int.reduceToNat, Int.reduceSub, Int.reduceNeg, Int.reduceAdd, ↓reduceIte, reduceCtorEq, ite_self, eq_self, if_true, if_false, pack, pid, parN, List.not_mem_nil, List.mem_cons, lid, chkK, apartV, List.map_nil, List.flatMap_nil, List.append_nil, List.nil_append, List.drop_zero, List.length_set, List.length_replicate, List.length_append, List.take_length, List.take_zero, List.drop_length, Option.isNone_none, Heap.none, e1, e2, e3, e4, e5]
    simp (disch := omega) only [if_pos, if_neg, List.take_length, take_set_len, take_set2_len, take_rep_len, take_snoc_len, take_app_len]
  | succ d ih =>
    intro g s hd hqg hgs hs0 hs1 hg
    have hg0 : 0 ≤ g := by omega
    have e4 := shl32 (x := s) hs0 (by omega)
    have e5 := or32 (x := s) (y := uu.getD p 0) hs0 (by omega) (by omega) (by omega)
    have hgv : 0 ≤ g * v.getD p 0 ∧ g * v.getD p 0 ≤ 4294967297 * 4294967295 :=
      ⟨Int.mul_nonneg hg0 (by omega), Int.le_trans (Int.mul_le_mul_of_nonneg_right hg (by omega)) (Int.mul_le_mul_of_nonneg_left (by omega) (by decide))⟩
    have hgv' : g * v.getD p 0 ≤ 18446744073709551615 := Int.le_trans hgv.2 (by decide)
    have e3 : IntKind.u64.wrap (g * v.getD p 0) = g * v.getD p 0 := u64w hgv.1 hgv'
    have e6 : IntKind.u64.wrap (s + v.getD (p + 1) 0) = s + v.getD (p + 1) 0 := u64w (by omega) (by omega)
    rw [LP_go FF b138_0.eq_1]
    simp only [RB, un, St.none, Nat.reduceEqDiff, Nat.reduceAdd, Nat.reduceMul, Nat.reduceLeDiff, Nat.reduceLT, Int.reduceLT, Int.reduceLE, Int.reduceEq, Int.reduceToNat, Int.reduceSub, Int.reduceNeg, Int.reduceAdd, ↓reduceIte, reduceCtorEq, ite_self, eq_self, if_true, if_false, pack, pid, parN, List.not_mem_nil, List.mem_cons, lid, chkK, apartV, List.map_nil, List.flatMap_nil, List.append_nil, List.nil_append, List.drop_zero, List.length_set, List.length_replicate, List.length_append, List.take_length, List.take_zero, List.drop_length, Option.isNone_none, Heap.none, e1, e2, e3, e4, e5, e6]
    have c1 : (p : Int) < (v.length : Int) := by omega
    have c2 : (p : Int) < (uu.length : Int) := by omega
    have c3 : p < uu.length := by omega
    have c4 : ((p + 1 : Nat) : Int) < (v.length : Int) := by omega
    rw [if_pos (fun _ => ⟨Int.natCast_nonneg p, c1⟩), if_pos (fun _ => ⟨Int.natCast_nonneg p, c2⟩), if_pos (fun _ => c3), if_pos (fun _ => ⟨Int.natCast_nonneg _, c4⟩)]
    clear e1 e2 e3 e4 e5 e6 c1 c2 c3 c4
    have hv0 := Dg.vl_nonneg hv (by decide)
    generalize h_u2 : uu.getD (p + 2) 0 = u2 at *
    generalize h_u1 : uu.getD (p + 1) 0 = u1 at *
    generalize h_u0 : uu.getD p 0 = u0 at *
    generalize h_v1 : v.getD (p + 1) 0 = v1 at *
    generalize h_v0 : v.getD p 0 = v0 at *
    generalize h_UL : Dg.vl 4294967296 (uu.take p) = UL at *
    generalize h_VL : Dg.vl 4294967296 (v.take p) = VL at *
    generalize h_P : (4294967296 : Int) ^ p = P at *
    have htop : u2 * 4294967296 + u1 ≤ v1 * 4294967296 + 4294967295 := by
      have hlt : Dg.vl 4294967296 uu < 4294967296 * Dg.vl 4294967296 v := by
        have : (q + 1) * Dg.vl 4294967296 v ≤ 4294967296 * Dg.vl 4294967296 v := Int.mul_le_mul_of_nonneg_right (by omega) (by
          rw [hV]
          have : 0 ≤ (v1 * 4294967296 + v0) * P := Int.mul_nonneg (by omega) (by omega)
          omega)
        rw [Int.add_mul] at this
        omega
      rw [hU, hV] at hlt
      apply Classical.byContradiction
      intro hc
      have h1 : (v1 + 1) * 4294967296 ≤ u2 * 4294967296 + u1 := by omega
      have h2 : (v1 + 1) * 4294967296 * 4294967296 * P ≤ (u2 * 4294967296 * 4294967296 + u1 * 4294967296 + u0) * P := Int.mul_le_mul_of_nonneg_right (by omega) (by omega)
      have h3 : (v1 * 4294967296 + v0 + 1) * P ≤ (v1 + 1) * 4294967296 * P := Int.mul_le_mul_of_nonneg_right (by omega) (by omega)
      grind
    by_cases hgo : 4294967296 ≤ g ∨ s * 4294967296 + u0 < g * v0
    · rw [if_pos hgo]
      have hlt : q < g := by
        rcases hgo with h | hgt
        · omega
        · have h4 : u2 * 4294967296 * 4294967296 + u1 * 4294967296 + u0 < g * (v1 * 4294967296 + v0) := by
            have h2 : g * (v1 * 4294967296 + v0) = g * v1 * 4294967296 + g * v0 := by grind
            rw [h2]
            generalize g * v1 = X at *
            omega
          have h5 := knuth_gt (Ul := UL) (Vl := VL) hg0 hP l1 m0 h4
          rw [← hU, ← hV] at h5
          apply Classical.byContradiction
          intro hc
          have : g * Dg.vl 4294967296 v ≤ q * Dg.vl 4294967296 v := Int.mul_le_mul_of_nonneg_right (by omega) hv0
          omega
      have hw3 : IntKind.u64.wrap (g - 1) = g - 1 := u64w (by omega) (by omega)
      have hgs2 : (g - 1) * v1 + (s + v1) = u2 * 4294967296 + u1 := by rw [← hgs]; grind
      rw [hw3]
      by_cases hbr : 4294967296 ≤ s + v1
      · rw [if_pos hbr]
        have hgB : g - 1 ≤ 4294967295 := by
          apply Classical.byContradiction
          intro hc
          have : 4294967296 * v1 ≤ (g - 1) * v1 := Int.mul_le_mul_of_nonneg_right (by omega) (by omega)
          omega
        refine ⟨g - 1, rfl, by omega, hgB, ?_⟩
        have hle : (g - 1) * (v1 * 4294967296 + v0) ≤ u2 * 4294967296 * 4294967296 + u1 * 4294967296 + u0 := by
          have h1 : (g - 1) * v0 ≤ 4294967295 * 4294967295 := Int.le_trans (Int.mul_le_mul_of_nonneg_right hgB (by omega)) (Int.mul_le_mul_of_nonneg_left (by omega) (by decide))
          have h2 : (g - 1) * (v1 * 4294967296 + v0) = (g - 1) * v1 * 4294967296 + (g - 1) * v0 := by grind
          rw [h2]
          generalize (g - 1) * v1 = X at *
          generalize (g - 1) * v0 = Y at *
          omega
        rcases Int.lt_or_le 0 (g - 1) with h0 | h0
        · have h5 := knuth_le (g := g - 1) (U3 := u2 * 4294967296 * 4294967296 + u1 * 4294967296 + u0) (P := P) (Ul := UL) (V2 := v1 * 4294967296 + v0) (Vl := VL) (B := 4294967296) (by omega) (by omega) hP l0 m0 m1 (by omega) hle
          rw [← hU, ← hV] at h5
          rcases Int.lt_or_le (g - 1) (q + 2) with h6 | h6
          · omega
          · have : (q + 1) * Dg.vl 4294967296 v ≤ (g - 1 - 1) * Dg.vl 4294967296 v := Int.mul_le_mul_of_nonneg_right (by omega) hv0
            rw [Int.add_mul] at this
            omega
        · omega
      · rw [if_neg hbr]
        exact ih (g - 1) (s + v1) (by omega) (by omega) hgs2 (by omega) (by omega) (by omega)
    · rw [if_neg hgo]
      have hg5 : g ≤ 4294967295 := by omega
      have hgt : g * v0 ≤ s * 4294967296 + u0 := by
        apply Classical.byContradiction
        intro hc
        exact hgo (.inr (by omega))
      refine ⟨g, rfl, hg0, hg5, ?_⟩
      have hle : g * (v1 * 4294967296 + v0) ≤ u2 * 4294967296 * 4294967296 + u1 * 4294967296 + u0 := by
        have h2 : g * (v1 * 4294967296 + v0) = g * v1 * 4294967296 + g * v0 := by grind
        rw [h2]
        generalize g * v1 = X at *
        omega
      rcases Int.lt_or_le 0 g with h0 | h0
      · have h5 := knuth_le (g := g) (U3 := u2 * 4294967296 * 4294967296 + u1 * 4294967296 + u0) (P := P) (Ul := UL) (V2 := v1 * 4294967296 + v0) (Vl := VL) (B := 4294967296) (by omega) (by omega) hP l0 m0 m1 (by omega) hle
        rw [← hU, ← hV] at h5
        rcases Int.lt_or_le g (q + 2) with h6 | h6
        · omega
        · have : (q + 1) * Dg.vl 4294967296 v ≤ (g - 1) * Dg.vl 4294967296 v := Int.mul_le_mul_of_nonneg_right (by omega) hv0
          rw [Int.add_mul] at this
          omega
      · omega
theorem digit_first {uu v : List Int} (hu : Dg.Dig 4294967296 uu) (hv : Dg.Dig 4294967296 v) {p : Nat} (hul : uu.length = p + 3) (hvl : v.length = p + 2) (hn : 2147483648 ≤ v.getD (p + 1) 0) {q : Int} (hq0 : 0 ≤ q) (hq1 : q ≤ 4294967295)
    (hq : 0 ≤ Dg.vl 4294967296 uu - q * Dg.vl 4294967296 v) (hq2 : Dg.vl 4294967296 uu - q * Dg.vl 4294967296 v < Dg.vl 4294967296 v) :
    q ≤ (uu.getD (p + 2) 0 * 4294967296 + uu.getD (p + 1) 0) / v.getD (p + 1) 0 ∧ uu.getD (p + 2) 0 * 4294967296 + uu.getD (p + 1) 0 ≤ v.getD (p + 1) 0 * 4294967296 + 4294967295 := by
  have gu0 := hu.getD (by decide) p
  have gu1 := hu.getD (by decide) (p + 1)
  have gu2 := hu.getD (by decide) (p + 2)
  have gv0 := hv.getD (by decide) p
  have gv1 := hv.getD (by decide) (p + 1)
  have hU := vl_three hul
  have hV := vl_two hvl
  have l0 := Dg.vl_nonneg (hu.take p) (by decide)
  have l1 := Dg.vl_lt (hu.take p) (by decide)
  have m0 := Dg.vl_nonneg (hv.take p) (by decide)
  have m1 := Dg.vl_lt (hv.take p) (by decide)
  rw [List.length_take, Nat.min_eq_left (by omega)] at l1 m1
  have hP : 0 < (4294967296 : Int) ^ p := Int.pow_pos (by decide)
  have hqr := Int.mul_ediv_add_emod (uu.getD (p + 2) 0 * 4294967296 + uu.getD (p + 1) 0) (v.getD (p + 1) 0)
  have r1 := Int.emod_lt_of_pos (uu.getD (p + 2) 0 * 4294967296 + uu.getD (p + 1) 0) (show 0 < v.getD (p + 1) 0 by omega)
  generalize h_u2 : uu.getD (p + 2) 0 = u2 at *
  generalize h_u1 : uu.getD (p + 1) 0 = u1 at *
  generalize h_u0 : uu.getD p 0 = u0 at *
  generalize h_v1 : v.getD (p + 1) 0 = v1 at *
  generalize h_v0 : v.getD p 0 = v0 at *
  generalize h_UL : Dg.vl 4294967296 (uu.take p) = UL at *
  generalize h_VL : Dg.vl 4294967296 (v.take p) = VL at *
  generalize h_P : (4294967296 : Int) ^ p = P at *
  refine ⟨?_, ?_⟩
  rotate_left
  · skip
    have htop : u2 * 4294967296 + u1 ≤ v1 * 4294967296 + 4294967295 := by
      have hlt : Dg.vl 4294967296 uu < 4294967296 * Dg.vl 4294967296 v := by
        have : (q + 1) * Dg.vl 4294967296 v ≤ 4294967296 * Dg.vl 4294967296 v := Int.mul_le_mul_of_nonneg_right (by omega) (by
          rw [hV]
          have : 0 ≤ (v1 * 4294967296 + v0) * P := Int.mul_nonneg (by omega) (by omega)
          omega)
        rw [Int.add_mul] at this
        omega
      rw [hU, hV] at hlt
      apply Classical.byContradiction
      intro hc
      have h1 : (v1 + 1) * 4294967296 ≤ u2 * 4294967296 + u1 := by omega
      have h2 : (v1 + 1) * 4294967296 * 4294967296 * P ≤ (u2 * 4294967296 * 4294967296 + u1 * 4294967296 + u0) * P := Int.mul_le_mul_of_nonneg_right (by omega) (by omega)
      have h3 : (v1 * 4294967296 + v0 + 1) * P ≤ (v1 + 1) * 4294967296 * P := Int.mul_le_mul_of_nonneg_right (by omega) (by omega)
      grind
    exact htop
  · apply Classical.byContradiction
    intro hc
    have h1 : ((u2 * 4294967296 + u1) / v1 + 1) * v1 ≤ q * v1 := Int.mul_le_mul_of_nonneg_right (by omega) (by omega)
    have h2 : u2 * 4294967296 + u1 + 1 ≤ q * v1 := by
      rw [Int.add_mul, Int.mul_comm _ v1] at h1
      omega
    have h3 : u2 * 4294967296 * 4294967296 + u1 * 4294967296 + u0 < q * (v1 * 4294967296 + v0) := by
      have h4 : 0 ≤ q * v0 := Int.mul_nonneg hq0 (by omega)
      have h5 : q * (v1 * 4294967296 + v0) = q * v1 * 4294967296 + q * v0 := by grind
      rw [h5]
      omega
    have h6 := knuth_gt (Ul := UL) (Vl := VL) hq0 hP l1 m0 h3
    rw [← hU, ← hV] at h6
    omega
theorem digit_c {uu v : List Int} (hu : Dg.Dig 4294967296 uu) (hv : Dg.Dig 4294967296 v) {p : Nat} (hul : uu.length = p + 3) (hvl : v.length = p + 2) (hl : uu.length ≤ 35184372088832) (hn : 2147483648 ≤ v.getD (p + 1) 0) {q : Int} (hq0 : 0 ≤ q) (hq1 : q ≤ 4294967295)
    (hq : 0 ≤ Dg.vl 4294967296 uu - q * Dg.vl 4294967296 v) (hq2 : Dg.vl 4294967296 uu - q * Dg.vl 4294967296 v < Dg.vl 4294967296 v) :
    ∃ r : List Int, R FF 138 [.own false 1 (uu.map u), (AV.l 1 (List.map u v))] = some (.back (AV.i .u64 q) [.own false 1 (r.map u)]) ∧ r.length = uu.length ∧ Dg.Dig 4294967296 r ∧ Dg.vl 4294967296 r = Dg.vl 4294967296 uu - q * Dg.vl 4294967296 v := by
  have gu0 := hu.getD (by decide) p
  have gu1 := hu.getD (by decide) (p + 1)
  have gu2 := hu.getD (by decide) (p + 2)
  have gv0 := hv.getD (by decide) p
  have gv1 := hv.getD (by decide) (p + 1)
  have t0 : 0 ≤ uu.getD (p + 2) 0 * 4294967296 + uu.getD (p + 1) 0 := by omega
  have d0 : 0 ≤ (uu.getD (p + 2) 0 * 4294967296 + uu.getD (p + 1) 0) / v.getD (p + 1) 0 := Int.ediv_nonneg t0 (by omega)
  have r0 := Int.emod_nonneg (uu.getD (p + 2) 0 * 4294967296 + uu.getD (p + 1) 0) (show v.getD (p + 1) 0 ≠ 0 by omega)
  have r1 := Int.emod_lt_of_pos (uu.getD (p + 2) 0 * 4294967296 + uu.getD (p + 1) 0) (show 0 < v.getD (p + 1) 0 by omega)
  have hqr := Int.mul_ediv_add_emod (uu.getD (p + 2) 0 * 4294967296 + uu.getD (p + 1) 0) (v.getD (p + 1) 0)
  have hfirst : q ≤ (uu.getD (p + 2) 0 * 4294967296 + uu.getD (p + 1) 0) / v.getD (p + 1) 0 ∧ uu.getD (p + 2) 0 * 4294967296 + uu.getD (p + 1) 0 ≤ v.getD (p + 1) 0 * 4294967296 + 4294967295 := digit_first hu hv hul hvl hn hq0 hq1 hq hq2
  have d1 : (uu.getD (p + 2) 0 * 4294967296 + uu.getD (p + 1) 0) / v.getD (p + 1) 0 ≤ 4294967297 := by
    have : (uu.getD (p + 2) 0 * 4294967296 + uu.getD (p + 1) 0) / v.getD (p + 1) 0 < 4294967298 := by
      apply Int.ediv_lt_of_lt_mul (by omega)
      omega
    omega
  obtain ⟨g, hloop, hg0, hg1, hgq⟩ := digit_loop hu hv hul hvl hl hn hq0 hq1 hq hq2 _ _ _ (Nat.le_refl _) hfirst.1 (by rw [Int.mul_comm]; exact hqr) r0 (by omega) d1
  obtain ⟨o, c, htake, ho, hd, hc0, hc1, hval⟩ := take_c hu hv hl (by omega) hg0 hg1
  have o0 := Dg.vl_nonneg hd (by decide)
  have o1 := Dg.vl_lt hd (by decide)
  rw [ho] at o1
  have v0 := Dg.vl_nonneg hv (by decide)
  have v1 := Dg.vl_lt hv (by decide)
  have v2 : (4294967296 : Int) ^ v.length ≤ 4294967296 ^ uu.length := Dg.pow_mono (by decide) (by omega)
  have e0 : (v.length : Int) = ((p + 2 : Nat) : Int) := by rw [hvl]
  have e2 : IntKind.i64.wrap (((p + 2 : Nat) : Int) - 1) = ((p + 1 : Nat) : Int) := by rw [w64 (by omega) (by omega)]; omega
  have e4 := shl32 (x := uu.getD (p + 2) 0) (by omega) (by omega)
  have e5 := or32 (x := uu.getD (p + 2) 0) (y := uu.getD (p + 1) 0) (by omega) (by omega) (by omega) (by omega)
  have e6 : IntKind.u64.wrap (Int.tdiv (uu.getD (p + 2) 0 * 4294967296 + uu.getD (p + 1) 0) (v.getD (p + 1) 0)) = (uu.getD (p + 2) 0 * 4294967296 + uu.getD (p + 1) 0) / v.getD (p + 1) 0 := by rw [tdiv_pos t0]; exact u64w d0 (by omega)
  have e7 : Int.tmod (uu.getD (p + 2) 0 * 4294967296 + uu.getD (p + 1) 0) (v.getD (p + 1) 0) = (uu.getD (p + 2) 0 * 4294967296 + uu.getD (p + 1) 0) % v.getD (p + 1) 0 := tmod_pos t0
  have c1 : ((p + 1 : Nat) : Int) < ((p + 2 : Nat) : Int) := by omega
  have c2 : ((p + 2 : Nat) : Int) < (uu.length : Int) := by omega
  have c3 : ((p + 1 : Nat) : Int) < (uu.length : Int) := by omega
  have c4 : p + 2 < uu.length := by omega
  have c5 : p + 1 < uu.length := by omega
  have c6 : ¬ v.getD (p + 1) 0 = 0 := by omega
  rw [R_go FF F138 c138.eq_1]
  simp only [RB, un, St.none, Nat.reduceEqDiff, Nat.reduceAdd, Nat.reduceMul, Nat.reduceLeDiff, Nat.reduceLT, Int.reduceLT, Int.reduceLE, Int.reduceEq, Int.reduceToNat, Int.reduceSub, Int.reduceNeg, Int.reduceAdd, ↓reduceIte, reduceCtorEq, ite_self, eq_self, if_true, if_false, pack, pid, parN, List.not_mem_nil, List.mem_cons, lid, chkK, apartV, List.map_nil, List.flatMap_nil, List.append_nil, List.nil_append, List.drop_zero, List.length_set, List.length_replicate, List.length_append, List.take_length, List.take_zero, List.drop_length, Option.isNone_none, Heap.none, e0, e2, e4, e5, e6, e7, hloop, htake]
  rw [if_pos ⟨Int.natCast_nonneg _, c2⟩, if_pos c4, if_pos ⟨Int.natCast_nonneg _, c3⟩, if_pos c5, if_pos ⟨Int.natCast_nonneg _, c1⟩, if_neg c6, if_pos ⟨Int.natCast_nonneg _, c1⟩, if_neg c6]
  have hto : List.take uu.length o = o := by rw [← ho, List.take_length]
  simp only [RB, un, St.none, Nat.reduceEqDiff, Nat.reduceAdd, Nat.reduceMul, Nat.reduceLeDiff, Nat.reduceLT, Int.reduceLT, Int.reduceLE, Int.reduceEq, Int.reduceToNat, Int.reduceSub, Int.reduceNeg, Int.reduceAdd, ↓reduceIte, reduceCtorEq, ite_self, eq_self, if_true, if_false, pack, pid, parN, List.not_mem_nil, List.mem_cons, lid, chkK, apartV, List.map_nil, List.flatMap_nil, List.append_nil, List.nil_append, List.drop_zero, List.length_set, List.length_replicate, List.length_append, List.take_length, List.take_zero, List.drop_length, Option.isNone_none, Heap.none, htake, hto]
  rw [if_pos ho]
  rcases hgq with rfl | rfl
  · have hc : c = 0 := by
      rcases (show c = 0 ∨ c = 1 by omega) with h | h
      · exact h
      · subst h
        omega
    subst hc
    exact ⟨o, by rw [if_neg (by decide)], ho, hd, by omega⟩
  · have hc : c = 1 := by
      rcases (show c = 0 ∨ c = 1 by omega) with h | h
      · subst h
        rw [Int.add_mul] at hval
        omega
      · exact h
    subst hc
    rw [Int.add_mul, Int.one_mul, Int.one_mul] at hval
    obtain ⟨r, c', hgive, h1, h2, h3, h4, h5⟩ := give_c hd hv (by omega)
    have a0 := Dg.vl_nonneg h2 (by decide)
    have a1 := Dg.vl_lt h2 (by decide)
    rw [h1, ho] at a1
    rw [List.take_of_length_le (by omega), hval, ho] at h5
    have hc' : c' = 1 := by
      rcases (show c' = 0 ∨ c' = 1 by omega) with h | h
      · subst h
        omega
      · exact h
    subst hc'
    have hw : IntKind.u64.wrap (q + 1 - 1) = q := by rw [u64w (by omega) (by omega)]; omega
    have htr : List.take uu.length r = r := by rw [← ho, ← h1, List.take_length]
    refine ⟨r, ?_, h1.trans ho, h2, by omega⟩
    rw [if_pos rfl]
    simp only [RB, un, St.none, Nat.reduceEqDiff, Nat.reduceAdd, Nat.reduceMul, Nat.reduceLeDiff, Nat.reduceLT, Int.reduceLT, Int.reduceLE, Int.reduceEq, Int.reduceToNat, Int.reduceSub, Int.reduceNeg, Int.reduceAdd, ↓reduceIte, reduceCtorEq, ite_self, eq_self, if_true, if_false, pack, pid, parN, List.not_mem_nil, List.mem_cons, lid, chkK, apartV, List.map_nil, List.flatMap_nil, List.append_nil, List.nil_append, List.drop_zero, List.length_set, List.length_replicate, List.length_append, List.take_length, List.take_zero, List.drop_length, Option.isNone_none, Heap.none, hgive, hw, htr]
    rw [if_pos (h1.trans ho), List.drop_of_length_le (by omega), List.append_nil]
end Go.Pe
set_option linter.unusedSimpArgs false
set_option linter.unusedVariables false
open Go
namespace Go.Pe
theorem len8_all : ∀ i : Fin 256, i.val = 0 ∨ ((1 ≤ bt len8 (i.val : Int) ∧ bt len8 (i.val : Int) ≤ 8) ∧ 2 ^ ((bt len8 (i.val : Int)).toNat - 1) ≤ i.val ∧ i.val < 2 ^ (bt len8 (i.val : Int)).toNat) := by decide +kernel
theorem len8_c {i : Int} (h0 : 0 < i) (h1 : i < 256) : ∃ m : Nat, bt len8 i = (m : Int) ∧ 1 ≤ m ∧ m ≤ 8 ∧ ((2 ^ (m - 1) : Nat) : Int) ≤ i ∧ i < ((2 ^ m : Nat) : Int) := by
  obtain ⟨n, rfl⟩ := Int.eq_ofNat_of_zero_le (Int.le_of_lt h0)
  have h9 := len8_all ⟨n, by omega⟩
  simp only at h9
  generalize bt len8 (n : Int) = b at *
  rcases h9 with h | ⟨⟨h2, h3⟩, h4, h5⟩
  · omega
  · exact ⟨b.toNat, by omega, by omega, by omega, Int.ofNat_le.2 h4, Int.ofNat_lt.2 h5⟩
theorem fd16 {x : Int} (h : 0 ≤ x) : x.fdiv (2 ^ Nat.min 16 IntKind.u32.bits) = x / 65536 := by
  rw [show Nat.min 16 IntKind.u32.bits = 16 by decide, Int.fdiv_eq_ediv_of_nonneg _ (by decide)]; rfl
theorem fd8 {x : Int} (h : 0 ≤ x) : x.fdiv (2 ^ Nat.min 8 IntKind.u32.bits) = x / 256 := by
  rw [show Nat.min 8 IntKind.u32.bits = 8 by decide, Int.fdiv_eq_ediv_of_nonneg _ (by decide)]; rfl
theorem u8w {x : Int} (h0 : 0 ≤ x) (h1 : x ≤ 255) : IntKind.u8.wrap x = x := by
  simp only [IntKind.wrap, IntKind.bits, IntKind.signed]
  simp
  omega
theorem len8_size : (len8.size : Int) = 256 := by decide +kernel
theorem len32_c {x : Int} (h0 : 0 < x) (h1 : x < 4294967296) {y : Int} {k m : Nat} (hy : (16777216 ≤ x ∧ y = x / 16777216 ∧ k = 24) ∨ (65536 ≤ x ∧ x < 16777216 ∧ y = x / 65536 ∧ k = 16) ∨ (256 ≤ x ∧ x < 65536 ∧ y = x / 256 ∧ k = 8) ∨ (x < 256 ∧ y = x ∧ k = 0)) (hm : bt len8 y = (m : Int)) (m8 : m ≤ 8) :
    R FF 139 [.i .u32 x] = some (AV.i .i64 (((k + m : Nat) : Int))) := by
  have w24 : IntKind.i64.wrap (16 + 8) = 24 := w64 (by omega) (by omega)
  have w8 : IntKind.i64.wrap (0 + 8) = 8 := w64 (by omega) (by omega)
  have wm : IntKind.i64.wrap (m : Int) = m := w64 (by omega) (by omega)
  rw [R_go FF F139 c139.eq_1]
  simp only [RB, un, St.none, Nat.reduceEqDiff, Nat.reduceAdd, Nat.reduceMul, Nat.reduceLeDiff, Nat.reduceLT, Int.reduceLT, Int.reduceLE, Int.reduceEq, Int.reduceToNat, Int.reduceSub, Int.reduceNeg, Int.reduceAdd, ↓reduceIte, reduceCtorEq, ite_self, eq_self, if_true, if_false, pack, pid, parN, List.not_mem_nil, List.mem_cons, lid, chkK, apartV, List.map_nil, List.flatMap_nil, List.append_nil, List.nil_append, List.drop_zero, List.length_set, List.length_replicate, List.length_append, List.take_length, List.take_zero, List.drop_length, Option.isNone_none, Heap.none, fd16 (Int.le_of_lt h0), len8_size]
  rcases hy with ⟨c1, rfl, rfl⟩ | ⟨c1, c2, rfl, rfl⟩ | ⟨c1, c2, rfl, rfl⟩ | ⟨c1, hyx, rfl⟩
  · have a1 : 65536 ≤ x := by omega
    have a2 : 256 ≤ x / 65536 := by omega
    have a3 : x / 65536 / 256 = x / 16777216 := by omega
    simp only [a1, a2, if_true, fd8 (show 0 ≤ x / 65536 by omega), a3, u8w (show 0 ≤ x / 16777216 by omega) (by omega), hm, w24, wm]
    rw [if_pos (by omega), w64 (by omega) (by omega)]
    first | rfl | (congr 2; done) | (congr 2; omega)
  · have a1 : 65536 ≤ x := by omega
    have a2 : ¬ 256 ≤ x / 65536 := by omega
    simp only [a1, a2, if_true, if_false, u8w (show 0 ≤ x / 65536 by omega) (by omega), hm, wm]
    rw [if_pos (by omega), w64 (by omega) (by omega)]
    first | rfl | (congr 2; done) | (congr 2; omega)
  · have a1 : ¬ 65536 ≤ x := by omega
    simp only [a1, c1, if_true, if_false, fd8 (show 0 ≤ x by omega), u8w (show 0 ≤ x / 256 by omega) (by omega), hm, w8, wm]
    rw [if_pos (by omega), w64 (by omega) (by omega)]
    first | rfl | (congr 2; done) | (congr 2; omega)
  · rw [hyx] at hm
    have a1 : ¬ 65536 ≤ x := by omega
    have a2 : ¬ 256 ≤ x := by omega
    simp only [a1, a2, if_true, if_false, u8w (show 0 ≤ x by omega) (by omega), hm, wm]
    rw [if_pos (by omega), w64 (by omega) (by omega)]
    first | rfl | (congr 2; done) | (congr 2; omega)
theorem lz32 {x : Int} (h0 : 0 < x) (h1 : x < 4294967296) : ∃ s : Nat, s ≤ 31 ∧ R FF 137 [.i .u32 x] = some (AV.i .i64 ((s : Int))) ∧ 2147483648 ≤ x * 2 ^ s ∧ x * 2 ^ s < 4294967296 := by
  rcases (show 16777216 ≤ x ∨ (65536 ≤ x ∧ x < 16777216) ∨ (256 ≤ x ∧ x < 65536) ∨ x < 256 by omega) with c | c | c | c
  · obtain ⟨m, hm, m1, m8, hlo, hhi⟩ := len8_c (i := x / 16777216) (by omega) (by omega)
    refine ⟨8 - m, by omega, ?_, ?_⟩
    · have h := len32_c h0 h1 (y := x / 16777216) (k := 24) (.inl ⟨c, rfl, rfl⟩) hm m8
      rw [R_go FF F137 c137.eq_1]
      have e : IntKind.i64.wrap (32 - ((24 + m : Nat) : Int)) = ((8 - m : Nat) : Int) := by rw [w64 (by omega) (by omega)]; omega
      simp only [RB, un, St.none, Nat.reduceEqDiff, Nat.reduceAdd, Nat.reduceMul, Nat.reduceLeDiff, Nat.reduceLT, Int.reduceLT, Int.reduceLE, Int.reduceEq, Int.reduceToNat, Int.reduceSub, Int.reduceNeg, Int.reduceAdd, ↓reduceIte, reduceCtorEq, ite_self, eq_self, if_true, if_false, pack, pid, parN, List.not_mem_nil, List.mem_cons, lid, chkK, apartV, List.map_nil, List.flatMap_nil, List.append_nil, List.nil_append, List.drop_zero, List.length_set, List.length_replicate, List.length_append, List.take_length, List.take_zero, List.drop_length, Option.isNone_none, Heap.none, h, e]
    · rcases (show m = 1 ∨ m = 2 ∨ m = 3 ∨ m = 4 ∨ m = 5 ∨ m = 6 ∨ m = 7 ∨ m = 8 by omega) with rfl | rfl | rfl | rfl | rfl | rfl | rfl | rfl <;> simp only [Nat.reducePow, Nat.reduceSub, Int.reducePow] at * <;> omega
  · obtain ⟨m, hm, m1, m8, hlo, hhi⟩ := len8_c (i := x / 65536) (by omega) (by omega)
    refine ⟨16 - m, by omega, ?_, ?_⟩
    · have h := len32_c h0 h1 (y := x / 65536) (k := 16) (.inr (.inl ⟨c.1, c.2, rfl, rfl⟩)) hm m8
      rw [R_go FF F137 c137.eq_1]
      have e : IntKind.i64.wrap (32 - ((16 + m : Nat) : Int)) = ((16 - m : Nat) : Int) := by rw [w64 (by omega) (by omega)]; omega
      simp only [RB, un, St.none, Nat.reduceEqDiff, Nat.reduceAdd, Nat.reduceMul, Nat.reduceLeDiff, Nat.reduceLT, Int.reduceLT, Int.reduceLE, Int.reduceEq, Int.reduceToNat, Int.reduceSub, Int.reduceNeg, Int.reduceAdd, ↓reduceIte, reduceCtorEq, ite_self, eq_self, if_true, if_false, pack, pid, parN, List.not_mem_nil, List.mem_cons, lid, chkK, apartV, List.map_nil, List.flatMap_nil, List.append_nil, List.nil_append, List.drop_zero, List.length_set, List.length_replicate, List.length_append, List.take_length, List.take_zero, List.drop_length, Option.isNone_none, Heap.none, h, e]
    · rcases (show m = 1 ∨ m = 2 ∨ m = 3 ∨ m = 4 ∨ m = 5 ∨ m = 6 ∨ m = 7 ∨ m = 8 by omega) with rfl | rfl | rfl | rfl | rfl | rfl | rfl | rfl <;> simp only [Nat.reducePow, Nat.reduceSub, Int.reducePow] at * <;> omega
  · obtain ⟨m, hm, m1, m8, hlo, hhi⟩ := len8_c (i := x / 256) (by omega) (by omega)
    refine ⟨24 - m, by omega, ?_, ?_⟩
    · have h := len32_c h0 h1 (y := x / 256) (k := 8) (.inr (.inr (.inl ⟨c.1, c.2, rfl, rfl⟩))) hm m8
      rw [R_go FF F137 c137.eq_1]
      have e : IntKind.i64.wrap (32 - ((8 + m : Nat) : Int)) = ((24 - m : Nat) : Int) := by rw [w64 (by omega) (by omega)]; omega
      simp only [RB, un, St.none, Nat.reduceEqDiff, Nat.reduceAdd, Nat.reduceMul, Nat.reduceLeDiff, Nat.reduceLT, Int.reduceLT, Int.reduceLE, Int.reduceEq, Int.reduceToNat, Int.reduceSub, Int.reduceNeg, Int.reduceAdd, ↓reduceIte, reduceCtorEq, ite_self, eq_self, if_true, if_false, pack, pid, parN, List.not_mem_nil, List.mem_cons, lid, chkK, apartV, List.map_nil, List.flatMap_nil, List.append_nil, List.nil_append, List.drop_zero, List.length_set, List.length_replicate, List.length_append, List.take_length, List.take_zero, List.drop_length, Option.isNone_none, Heap.none, h, e]
    · rcases (show m = 1 ∨ m = 2 ∨ m = 3 ∨ m = 4 ∨ m = 5 ∨ m = 6 ∨ m = 7 ∨ m = 8 by omega) with rfl | rfl | rfl | rfl | rfl | rfl | rfl | rfl <;> simp only [Nat.reducePow, Nat.reduceSub, Int.reducePow] at * <;> omega
  · obtain ⟨m, hm, m1, m8, hlo, hhi⟩ := len8_c (i := x) (by omega) (by omega)
    refine ⟨32 - m, by omega, ?_, ?_⟩
    · have h := len32_c h0 h1 (y := x) (k := 0) (.inr (.inr (.inr ⟨c, rfl, rfl⟩))) hm m8
      rw [R_go FF F137 c137.eq_1]
      have e : IntKind.i64.wrap (32 - (m : Int)) = ((32 - m : Nat) : Int) := by rw [w64 (by omega) (by omega)]; omega
      rw [Nat.zero_add] at h
      simp only [RB, un, St.none, Nat.reduceEqDiff, Nat.reduceAdd, Nat.reduceMul, Nat.reduceLeDiff, Nat.reduceLT, Int.reduceLT, Int.reduceLE, Int.reduceEq, Int.reduceToNat, Int.reduceSub, Int.reduceNeg, Int.reduceAdd, ↓reduceIte, reduceCtorEq, ite_self, eq_self, if_true, if_false, pack, pid, parN, List.not_mem_nil, List.mem_cons, lid, chkK, apartV, List.map_nil, List.flatMap_nil, List.append_nil, List.nil_append, List.drop_zero, List.length_set, List.length_replicate, List.length_append, List.take_length, List.take_zero, List.drop_length, Option.isNone_none, Heap.none, h, e]
    · rcases (show m = 1 ∨ m = 2 ∨ m = 3 ∨ m = 4 ∨ m = 5 ∨ m = 6 ∨ m = 7 ∨ m = 8 by omega) with rfl | rfl | rfl | rfl | rfl | rfl | rfl | rfl <;> simp only [Nat.reducePow, Nat.reduceSub, Int.reducePow] at * <;> omega
end Go.Pe
set_option linter.unusedSimpArgs false
set_option linter.unusedVariables false
open Go
namespace Go.Pe
theorem vl_all_zero {B : Int} {l : List Int} (h : ∀ j, l.getD j 0 = 0) : Dg.vl B l = 0 := by
  induction l with
  | nil => rfl
  | cons x r ih =>
    have h0 := h 0
    simp at h0
    rw [Dg.vl, h0, ih (fun j => by simpa using h (j + 1))]
    simp
theorem getD_drop (l : List Int) (c j : Nat) : (l.drop c).getD j 0 = l.getD (c + j) 0 := by rw [List.getD_eq_getElem?_getD, List.getElem?_drop, ← List.getD_eq_getElem?_getD]
theorem vl_zero_from {B : Int} {l : List Int} {c : Nat} (h : ∀ j, c ≤ j → l.getD j 0 = 0) : Dg.vl B (l.drop c) = 0 := vl_all_zero fun j => by rw [getD_drop]; exact h _ (by omega)
theorem vl_take_zero {B : Int} {l : List Int} {c : Nat} (h : ∀ j, c ≤ j → l.getD j 0 = 0) : Dg.vl B (l.take c) = Dg.vl B l := by
  rw [Dg.vl_take_drop B l c, vl_zero_from h]
  simp
theorem getD_top {n p : Nat} (h : L n = p + 1) : (D n).getD p 0 = ((n / 4294967296 ^ p : Nat) : Int) := by
  have h1 := vl_drop_D n p
  rw [Dg.vl_drop_succ, List.drop_of_length_le (by show L n ≤ p + 1; omega)] at h1
  simpa [Dg.vl] using h1
theorem long_l0 {v : List Int} (hv : Dg.Dig 4294967296 v) {p m s : Nat} (hvl : v.length = p + 2) (hn : 2147483648 ≤ v.getD (p + 1) 0) (hs : s ≤ 31) (hl : m + p + 2 ≤ 17592186044416) {Q R : Nat} (hR : (R * 2 ^ s : Nat) < Dg.vl 4294967296 v) :
    ∀ (t : Nat) (uu q : List Int), t ≤ m → uu.length = m + p + 2 → q.length = m → Dg.Dig 4294967296 uu → Dg.Dig 4294967296 q → Dg.vl 4294967296 (uu.drop t) < Dg.vl 4294967296 v → (∀ j, t + (p + 2) ≤ j → uu.getD j 0 = 0) →
    Dg.vl 4294967296 (q.drop t) * Dg.vl 4294967296 v * 4294967296 ^ t + Dg.vl 4294967296 uu = (Q : Int) * Dg.vl 4294967296 v + (R * 2 ^ s : Nat) →
    ∃ uf qf, LP FF [(8, 1), (10, 1), (6, 0), (7, 0), (9, 0), (11, 0)] [(6, 0), (8, 0), (10, 0)] b131_0 [.own true 1 (uu.map u), .own true 1 (q.map u), (AV.i .i64 ((s : Int))), (AV.l 1 (List.map u v)), (AV.i .i64 (((p + 2 : Nat) : Int))), (AV.i .i64 ((t : Int) - 1))] = some (.exit 0, [(AV.i .i64 ((s : Int))), (AV.l 1 (List.map u uf)), (AV.l 1 (List.map u qf))]) ∧ Dg.Dig 4294967296 uf ∧ Dg.Dig 4294967296 qf ∧ uf.length = m + p + 2 ∧ qf.length = m ∧ Dg.vl 4294967296 qf = Q ∧ Dg.vl 4294967296 uf = (R * 2 ^ s : Nat) := by
  intro t
  have v0 := Dg.vl_nonneg hv (by decide)
  have v1 := Dg.vl_lt hv (by decide)
  induction t with
  | zero =>
    intro uu q ht hul hql hu hq hlt hz hval
    rw [List.drop_zero] at hlt
    rw [List.drop_zero, Int.pow_zero, Int.mul_one] at hval
    have u0 := Dg.vl_nonneg hu (by decide)
    have hQ : Dg.vl 4294967296 q = Q := by
      rcases Int.lt_trichotomy (Dg.vl 4294967296 q) Q with h | h | h
      · have : (Dg.vl 4294967296 q + 1) * Dg.vl 4294967296 v ≤ Q * Dg.vl 4294967296 v := Int.mul_le_mul_of_nonneg_right (by omega) v0
        rw [Int.add_mul] at this
        omega
      · exact h
      · have : ((Q : Int) + 1) * Dg.vl 4294967296 v ≤ Dg.vl 4294967296 q * Dg.vl 4294967296 v := Int.mul_le_mul_of_nonneg_right (by omega) v0
        rw [Int.add_mul] at this
        omega
    rw [hQ] at hval
    refine ⟨uu, q, ?_, hu, hq, hul, hql, hQ, by omega⟩
    rw [LP_go FF b131_0.eq_1]
    simp only [RB, un, St.none, Nat.reduceEqDiff, Nat.reduceAdd, Nat.reduceMul, Nat.reduceLeDiff, Nat.reduceLT, Int.reduceLT, Int.reduceLE, Int.reduceEq, Int.reduceToNat, Int.reduceSub, Int.reduceNeg, Int.reduceAdd, ↓reduceIte, reduceCtorEq, ite_self, eq_self, if_true, if_false, pack, pid, parN, List.not_mem_nil, List.mem_cons, lid, chkK, apartV, List.map_nil, List.flatMap_nil, List.append_nil, List.nil_append, List.drop_zero, List.length_set, List.length_replicate, List.length_append, List.take_length, List.take_zero, List.drop_length, Option.isNone_none, Heap.none]
  | succ t ih =>
    intro uu q ht hul hql hu hq hlt hz hval
    -- the window
    have e0 : ((t + 1 : Nat) : Int) - 1 = (t : Int) := by omega
    have hwl : ((uu.drop t).take (p + 3)).length = p + 3 := by rw [List.length_take, List.length_drop]; omega
    have hwd : Dg.Dig 4294967296 ((uu.drop t).take (p + 3)) := (hu.drop _).take _
    have hz' : ∀ j, t + (p + 3) ≤ j → uu.getD j 0 = 0 := fun j hj => hz j (by omega)
    have hwv : Dg.vl 4294967296 ((uu.drop t).take (p + 3)) = Dg.vl 4294967296 (uu.drop t) := vl_take_zero fun j hj => by rw [getD_drop]; exact hz' _ (by omega)
    have hstep := Dg.vl_drop_succ 4294967296 uu t
    have gu := hu.getD (by decide) t
    have d1 := Dg.vl_nonneg (hu.drop (t + 1)) (by decide)
    have hW0 : 0 ≤ Dg.vl 4294967296 (uu.drop t) := Dg.vl_nonneg (hu.drop t) (by decide)
    have hWlt : Dg.vl 4294967296 (uu.drop t) < 4294967296 * Dg.vl 4294967296 v := by omega
    have hvpos : 0 < Dg.vl 4294967296 v := by omega
    have q0 : 0 ≤ Dg.vl 4294967296 (uu.drop t) / Dg.vl 4294967296 v := Int.ediv_nonneg hW0 v0
    have q1 : Dg.vl 4294967296 (uu.drop t) / Dg.vl 4294967296 v < 4294967296 := Int.ediv_lt_of_lt_mul hvpos hWlt
    have r0 := Int.emod_nonneg (Dg.vl 4294967296 (uu.drop t)) (show Dg.vl 4294967296 v ≠ 0 by omega)
    have r1 := Int.emod_lt_of_pos (Dg.vl 4294967296 (uu.drop t)) hvpos
    have hqr := Int.mul_ediv_add_emod (Dg.vl 4294967296 (uu.drop t)) (Dg.vl 4294967296 v)
    generalize hqd : Dg.vl 4294967296 (uu.drop t) / Dg.vl 4294967296 v = qd at *
    have hcomm : qd * Dg.vl 4294967296 v = Dg.vl 4294967296 v * qd := Int.mul_comm _ _
    obtain ⟨r, hr1, hr2, hr3, hr4⟩ := digit_c hwd hv hwl hvl (by omega) hn (q := qd) q0 (by omega) (by rw [hwv]; omega) (by rw [hwv]; omega)
    rw [hwv] at hr4
    have hrl : r.length = p + 3 := by omega
    -- the new row
    have ht1 : (uu.take t).length = t := by rw [List.length_take]; omega
    have hnl : (uu.take t ++ r ++ uu.drop (t + (p + 3))).length = m + p + 2 := by
      rw [List.length_append, List.length_append, ht1, List.length_drop]
      omega
    have hnd : (uu.take t ++ r ++ uu.drop (t + (p + 3))).drop t = r ++ uu.drop (t + (p + 3)) := by
      rw [List.append_assoc, List.drop_append_of_le_length (by omega), List.drop_of_length_le (by omega), List.nil_append]
    have hrv : Dg.vl 4294967296 (r ++ uu.drop (t + (p + 3))) = Dg.vl 4294967296 r := by
      rw [Dg.vl_append, vl_zero_from hz']
      simp
    have hnv : Dg.vl 4294967296 (uu.take t ++ r ++ uu.drop (t + (p + 3))) = Dg.vl 4294967296 uu - qd * Dg.vl 4294967296 v * 4294967296 ^ t := by
      rw [List.append_assoc, Dg.vl_append, hrv, ht1, hr4, Dg.vl_take_drop 4294967296 uu t]
      grind
    have h9 := ih (uu.take t ++ r ++ uu.drop (t + (p + 3))) (q.set t qd) (by omega) hnl (by rw [List.length_set]; exact hql) (((hu.take t).append hr3).append (hu.drop _)) (hq.set _ q0 q1) ?_ ?_ ?_
    rotate_left
    · rw [hnd, hrv, hr4]
      omega
    · intro j hj
      rw [List.append_assoc, List.getD_eq_getElem?_getD, List.getElem?_append_right (by omega), ht1, ← List.getD_eq_getElem?_getD]
      by_cases hjt : j = t + (p + 2)
      · subst hjt
        rw [List.getD_eq_getElem?_getD, List.getElem?_append_left (by omega), ← List.getD_eq_getElem?_getD, show t + (p + 2) - t = p + 2 by omega]
        -- the rest is below the divisor, so its top limb is 0
        have g := hr3.getD (by decide) (p + 2)
        have h3 : r.take (p + 3) = r := List.take_of_length_le (by omega)
        have h4 := Dg.vl_take_succ 4294967296 r (p + 2)
        rw [h3] at h4
        have h5 := Dg.vl_nonneg (hr3.take (p + 2)) (by decide)
        rw [hvl] at v1
        apply Classical.byContradiction
        intro hc
        have h6 : 1 * 4294967296 ^ (p + 2) ≤ r.getD (p + 2) 0 * 4294967296 ^ (p + 2) := Int.mul_le_mul_of_nonneg_right (by omega) (Int.le_of_lt (Int.pow_pos (by decide)))
        omega
      · rw [List.getD_eq_getElem?_getD, List.getElem?_append_right (by omega), ← List.getD_eq_getElem?_getD, getD_drop]
        exact hz' _ (by omega)
    · rw [hnv, Dg.vl_drop_succ, Dg.vl_drop_set _ _ _ _ _ (Nat.lt_succ_self _), Dg.getD_set _ _ _ _ (by omega), if_pos rfl, ← hval, Int.pow_succ]
      grind
    obtain ⟨uf, qf, h10, h11⟩ := h9
    refine ⟨uf, qf, ?_, h11⟩
    have e1 : IntKind.i64.wrap ((t : Int) + ((p + 2 : Nat) : Int)) = ((t + (p + 2) : Nat) : Int) := w64add (by omega)
    have e2 : IntKind.i64.wrap (((t + (p + 2) : Nat) : Int) + 1) = ((t + (p + 2) + 1 : Nat) : Int) := w64succ (by omega)
    have e3 : IntKind.i64.wrap ((t : Int) - 1) = (t : Int) - 1 := w64 (by omega) (by omega)
    have e4 : t + (p + 2) + 1 - t = p + 3 := by omega
    clear hz hz' hwl hwd hwv hstep hqr hcomm hr4 hnd hrv hnv hval hqd r0 r1 v0 v1 d1 gu hW0 hWlt hvpos
    rw [LP_go FF b131_0.eq_1]
    simp only [RB, un, St.none, Nat.reduceEqDiff, Nat.reduceAdd, Nat.reduceMul, Nat.reduceLeDiff, Nat.reduceLT, Int.reduceLT, Int.reduceLE, Int.reduceEq, Int.reduceToNat, Int.reduceSub, Int.reduceNeg, Int.reduceAdd, ↓reduceIte, reduceCtorEq, ite_self, eq_self, if_true, if_false, pack, pid, parN, List.not_mem_nil, List.mem_cons, lid, chkK, apartV, List.map_nil, List.flatMap_nil, List.append_nil, List.nil_append, List.drop_zero, List.length_set, List.length_replicate, List.length_append, List.take_length, List.take_zero, List.drop_length, Option.isNone_none, Heap.none, e0, e1, e2, e3, e4, hr1]
    have hk : List.take uu.length (uu.take t ++ r ++ uu.drop (t + (p + 3))) = uu.take t ++ r ++ uu.drop (t + (p + 3)) := List.take_of_length_le (by omega)
    simp (disch := omega) only [if_pos, if_neg, List.take_length, take_set_len, take_set2_len, take_rep_len, take_snoc_len, take_app_len, hk]
    exact h10
theorem long_D {a b : Nat} (hb : 4294967296 ≤ b) (hab : b ≤ a) (hl : L a ≤ 4398046511104) : R FF 131 [(AV.l 1 (List.map u (D a))), (AV.l 1 (List.map u (D b)))] = some (.tup [(AV.l 1 (List.map u (D (a / b)))), (AV.l 1 (List.map u (D (a % b))))]) := by
  obtain ⟨p, hp⟩ : ∃ p, L b = p + 2 := by
    refine ⟨L b - 2, ?_⟩
    have h1 := L_lt b
    have h2 : ¬ L b ≤ 1 := fun h => by
      have h3 : 4294967296 ^ L b ≤ 4294967296 ^ 1 := Nat.pow_le_pow_right (by decide) h
      rw [Nat.pow_one] at h3
      omega
    omega
  obtain ⟨m, hm⟩ : ∃ m, L a + 1 = m + p + 2 := ⟨L a + 1 - (p + 2), by have := L_mono hab; omega⟩
  have hbl := L_lt b
  have hal := L_lt a
  have hT := getD_top hp
  have hT1 := D_get b (p + 1)
  have hT2 : (D b).getD (p + 1) 0 ≠ 0 := by
    have := D_top b (by rw [Ne, D_nil]; omega)
    rwa [show (D b).length - 1 = p + 1 by show L b - 1 = p + 1; omega] at this
  obtain ⟨s, hs, hz, hlo, hhi⟩ := lz32 (x := (D b).getD (p + 1) 0) (by omega) (by omega)
  have hT3 : b / 4294967296 ^ (p + 1) * 2 ^ s < 4294967296 := by
    rw [hT] at hhi
    exact Int.ofNat_lt.1 (by rw [Int.natCast_mul, Int.natCast_pow]; exact hhi)
  have hT4 : 2147483648 ≤ b / 4294967296 ^ (p + 1) * 2 ^ s := by
    rw [hT] at hlo
    exact Int.ofNat_le.1 (by rw [Int.natCast_mul, Int.natCast_pow]; exact hlo)
  have hP : 0 < 4294967296 ^ (p + 1) := Nat.pow_pos (by decide)
  have h2s : 2 ^ s * 2 ^ (32 - s) = 4294967296 := by rw [← Nat.pow_add, show s + (32 - s) = 32 by omega]
  have h2p := Nat.two_pow_pos s
  -- the divisor, shifted: as long, its top bit set
  have hb1 : b * 2 ^ s < 4294967296 ^ (p + 2) := by
    have e1 : b / 4294967296 ^ (p + 1) < 2 ^ (32 - s) := by
      have h3 : b / 4294967296 ^ (p + 1) * 2 ^ s < 2 ^ (32 - s) * 2 ^ s := by rw [Nat.mul_comm (2 ^ (32 - s)), h2s]; exact hT3
      exact Nat.lt_of_mul_lt_mul_right h3
    have e2 : b < 2 ^ (32 - s) * 4294967296 ^ (p + 1) := (Nat.div_lt_iff_lt_mul hP).1 e1
    calc b * 2 ^ s < 2 ^ (32 - s) * 4294967296 ^ (p + 1) * 2 ^ s := Nat.mul_lt_mul_of_pos_right e2 h2p
      _ = (2 ^ s * 2 ^ (32 - s)) * 4294967296 ^ (p + 1) := by rw [Nat.mul_right_comm, Nat.mul_comm (2 ^ (32 - s))]
      _ = 4294967296 ^ (p + 2) := by rw [h2s, Nat.pow_succ _ (p + 1), Nat.mul_comm]
  have hbs : b ≤ b * 2 ^ s := Nat.le_mul_of_pos_right _ h2p
  have hvL : L (b * 2 ^ s) = p + 2 := by
    have := L_mono hbs
    have := L_le hb1
    omega
  have hvT : 2147483648 ≤ b * 2 ^ s / 4294967296 ^ (p + 1) := by
    rw [Nat.le_div_iff_mul_le hP]
    calc 2147483648 * 4294967296 ^ (p + 1) ≤ (b / 4294967296 ^ (p + 1) * 2 ^ s) * 4294967296 ^ (p + 1) := Nat.mul_le_mul_right _ hT4
      _ = (b / 4294967296 ^ (p + 1) * 4294967296 ^ (p + 1)) * 2 ^ s := Nat.mul_right_comm _ _ _
      _ ≤ b * 2 ^ s := Nat.mul_le_mul_right _ (Nat.div_mul_le_self _ _)
  have hvB : 2147483648 * 4294967296 ^ (p + 1) ≤ b * 2 ^ s := (Nat.le_div_iff_mul_le hP).1 hvT
  -- the dividend, shifted
  have has : a ≤ a * 2 ^ s := Nat.le_mul_of_pos_right _ h2p
  have h231 : 2 ^ s ≤ 2147483648 := Nat.pow_le_pow_right (by decide) hs
  have ha1 : a * 2 ^ s < 2147483648 * 4294967296 ^ L a := by
    calc a * 2 ^ s < 4294967296 ^ L a * 2 ^ s := Nat.mul_lt_mul_of_pos_right hal h2p
      _ ≤ 4294967296 ^ L a * 2147483648 := Nat.mul_le_mul_left _ h231
      _ = _ := Nat.mul_comm _ _
  have huL : L (a * 2 ^ s) ≤ L a + 1 := L_le (by
    rw [Nat.pow_succ, Nat.mul_comm (4294967296 ^ L a)]
    refine Nat.lt_of_lt_of_le ha1 ?_
    exact Nat.mul_le_mul_right _ (by decide))
  have huL2 := L_mono has
  have hul : ((D (a * 2 ^ s) ++ [0, 0]).take (L a + 1)).length = m + p + 2 := by
    rw [List.length_take, List.length_append]
    show min (L a + 1) (L (a * 2 ^ s) + 2) = _
    omega
  have hu0 : ∀ j, L a + 1 ≤ j → (D (a * 2 ^ s) ++ [0, 0]).getD j 0 = 0 := fun j hj => by
    rw [List.getD_eq_getElem?_getD, List.getElem?_append_right (by show L _ ≤ j; omega), ← List.getD_eq_getElem?_getD]
    exact getD_rep 2 _
  have hDz : Dg.Dig 4294967296 ([0, 0] : List Int) := Dg.Dig.replicate (by decide) 2
  have hud : Dg.Dig 4294967296 ((D (a * 2 ^ s) ++ [0, 0]).take (L a + 1)) := ((D_dig _).append hDz).take _
  have huv : Dg.vl 4294967296 ((D (a * 2 ^ s) ++ [0, 0]).take (L a + 1)) = ((a * 2 ^ s : Nat) : Int) := by
    rw [vl_take_zero hu0, Dg.vl_append, D_vl, show Dg.vl 4294967296 [0, 0] = 0 from rfl, Int.mul_zero, Int.add_zero]
  have hmt : Dg.vl 4294967296 (((D (a * 2 ^ s) ++ [0, 0]).take (L a + 1)).drop m) < ((b * 2 ^ s : Nat) : Int) := by
    have e1 := Dg.vl_take_drop 4294967296 ((D (a * 2 ^ s) ++ [0, 0]).take (L a + 1)) m
    have e2 := Dg.vl_nonneg (hud.take m) (by decide)
    rw [huv] at e1
    have e3 : a * 2 ^ s < b * 2 ^ s * 4294967296 ^ m := by
      refine Nat.lt_of_lt_of_le ha1 ?_
      rw [show L a = p + 1 + m by omega, Nat.pow_add, ← Nat.mul_assoc]
      exact Nat.mul_le_mul_right _ hvB
    have e4 : ((a * 2 ^ s : Nat) : Int) < ((b * 2 ^ s : Nat) : Int) * 4294967296 ^ m := by
      rw [show (4294967296 : Int) ^ m = ((4294967296 ^ m : Nat) : Int) by rw [Int.natCast_pow]; rfl, ← Int.natCast_mul]
      exact Int.ofNat_lt.2 e3
    apply Classical.byContradiction
    intro hc
    have hPm : (0 : Int) ≤ 4294967296 ^ m := Int.le_of_lt (Int.pow_pos (by decide))
    have e5 := Int.mul_le_mul_of_nonneg_right (Int.not_lt.1 hc) hPm
    rw [Int.mul_comm (4294967296 ^ m)] at e1
    generalize (4294967296 : Int) ^ m = Z at *
    omega
  have hR : (((a % b) * 2 ^ s : Nat) : Int) < ((b * 2 ^ s : Nat) : Int) := Int.ofNat_lt.2 (Nat.mul_lt_mul_of_pos_right (Nat.mod_lt _ (by omega)) h2p)
  obtain ⟨uf, qf, hmain, huf, hqf, hufl, hqfl, hqfv, hufv⟩ := long_l0 (D_dig (b * 2 ^ s)) (p := p) (m := m) (s := s) hvL (by rw [getD_top hvL]; exact Int.ofNat_le.2 hvT) hs (by omega) (Q := a / b) (R := a % b) (by rw [D_vl]; exact hR) m _ (List.replicate m 0) (Nat.le_refl _) hul List.length_replicate hud (Dg.Dig.replicate (by decide) m) (by rw [D_vl]; exact hmt)
    (fun j hj => getD_beyond (by rw [hul]; omega)) (by
      rw [List.drop_of_length_le (by rw [List.length_replicate]; exact Nat.le_refl _), huv, D_vl, Dg.vl_nil, Int.zero_mul, Int.zero_mul, Int.zero_add, ← Int.natCast_mul, ← Int.natCast_add]
      refine congrArg _ ?_
      rw [← Nat.mul_assoc, ← Nat.add_mul, Nat.mul_comm (a / b), Nat.div_add_mod])
  have hbL : (D b).length = p + 2 := hp
  have haL : (D a).length = m + p + 1 := by show L a = _; omega
  have hvl : (D (b * 2 ^ s)).length = p + 2 := hvL
  have hal' : (D (a * 2 ^ s)).length ≤ m + p + 2 := by show L (a * 2 ^ s) ≤ _; omega
  have hal2 : m + p + 2 ≤ (D (a * 2 ^ s)).length + 2 := by show _ ≤ L (a * 2 ^ s) + 2; omega
  have hLR : L (a % b * 2 ^ s) ≤ 35184372088832 := by
    have h1 : L (a % b * 2 ^ s) ≤ L (b * 2 ^ s) := L_mono (Nat.le_of_lt (Int.ofNat_lt.1 hR))
    omega
  have t1 := trim_c hqf (by omega) hqfv
  have t2 := trim_c huf (by omega) hufv
  have t3 := shr_D hLR (n := s) (by omega)
  rw [Nat.mul_div_cancel _ h2p] at t3
  have s1 := shl_D (m := b) (n := s) (by omega) (by omega) (by omega)
  have s2 := shl_D (m := a) (n := s) (by omega) (by omega) (by omega)
  have e1 : IntKind.i64.wrap (((p + 2 : Nat) : Int) - 1) = ((p + 1 : Nat) : Int) := by rw [w64 (by omega) (by omega)]; omega
  have e2 : IntKind.i64.wrap (((m + p + 1 : Nat) : Int) + 1) = ((m + p + 2 : Nat) : Int) := by rw [w64succ (by omega)]
  have e3 : IntKind.u32.wrap ((D b).getD (p + 1) 0) = (D b).getD (p + 1) 0 := by
    rw [show IntKind.u32.wrap ((D b).getD (p + 1) 0) = (D b).getD (p + 1) 0 % 4294967296 by simp [IntKind.wrap, IntKind.bits, IntKind.signed]]
    omega
  have e4 : IntKind.i64.wrap (((m + p + 2 : Nat) : Int) - ((p + 2 : Nat) : Int)) = (m : Int) := by rw [w64 (by omega) (by omega)]; omega
  have e5 : IntKind.i64.wrap ((m : Int) - 1) = (m : Int) - 1 := w64 (by omega) (by omega)
  clear hb1 hbs hvT hvB has ha1 hR hmt huv hu0 hhi hlo hT3 hT4 hT h2s hal hbl hP hT2
  rw [R_go FF F131 c131.eq_1]
  rw [show L a + 1 = m + p + 2 by omega] at hmain
  have e6 : List.map u (D (a * 2 ^ s)) ++ [u 0, u 0] = List.map u (D (a * 2 ^ s) ++ [0, 0]) := by rw [List.map_append]; rfl
  have hLL : (D (a * 2 ^ s)).length ≤ 17592186044416 := by show L _ ≤ _; omega
  simp only [RB, un, St.none, Nat.reduceEqDiff, Nat.reduceAdd, Nat.reduceMul, Nat.reduceLeDiff, Nat.reduceLT, Int.reduceLT, Int.reduceLE, Int.reduceEq, Int.reduceToNat, Int.reduceSub, Int.reduceNeg, Int.reduceAdd, ↓reduceIte, reduceCtorEq, ite_self, eq_self, if_true, if_false, pack, pid, parN, List.not_mem_nil, List.mem_cons, lid, chkK, apartV, List.map_nil, List.flatMap_nil, List.append_nil, List.nil_append, List.drop_zero, List.length_set, List.length_replicate, List.length_append, List.take_length, List.take_zero, List.drop_length, Option.isNone_none, Heap.none, hbL, haL, e1, e2, e3, hz, s1, s2, hvl, e4, e5, e6]
  clear h231 h2p hT1 huL2 hLR hvL hp hz s1 s2 huL hufv hqfv hud hDz
  rw [if_pos (by omega), if_pos (by omega), if_pos (by omega), if_pos (by omega)]
  have e7 : List.take (p + 2) (D (b * 2 ^ s)) = D (b * 2 ^ s) := by rw [← hvl, List.take_length]
  simp (disch := omega) only [if_pos, if_neg, List.take_length, take_set_len, take_set2_len, take_rep_len, take_snoc_len, take_app_len, e7]
  rw [hmain]
  simp only [RB, un, St.none, Nat.reduceEqDiff, Nat.reduceAdd, Nat.reduceMul, Nat.reduceLeDiff, Nat.reduceLT, Int.reduceLT, Int.reduceLE, Int.reduceEq, Int.reduceToNat, Int.reduceSub, Int.reduceNeg, Int.reduceAdd, ↓reduceIte, reduceCtorEq, ite_self, eq_self, if_true, if_false, pack, pid, parN, List.not_mem_nil, List.mem_cons, lid, chkK, apartV, List.map_nil, List.flatMap_nil, List.append_nil, List.nil_append, List.drop_zero, List.length_set, List.length_replicate, List.length_append, List.take_length, List.take_zero, List.drop_length, Option.isNone_none, Heap.none, t1, t2, t3]
theorem divmod_c {x y : List Int} (hx : U x) (hy : U y) (hla : x.length ≤ 4398046511104) (hlb : y.length ≤ 4398046511104) : R FF 115 [(AV.l 1 (List.map u x)), (AV.l 1 (List.map u y))] = some (if W y = 0 then .tup [.l 1 [], .l 1 [], (AV.i .i64 2)] else .tup [(AV.l 1 (List.map u (D (W x / W y)))), (AV.l 1 (List.map u (D (W x % W y)))), (AV.i .i64 0)]) := by
  have h1 := clean_c hx (by omega)
  have h2 := clean_c hy (by omega)
  have hl := L_W x
  have hl2 := L_W y
  generalize W x = a at *
  generalize W y = b at *
  have hlen : (D b).length = L b := rfl
  by_cases h0 : b = 0
  · subst h0
    rw [if_pos rfl]
    rw [R_go FF F115 c115.eq_1]
    simp only [RB, un, St.none, Nat.reduceEqDiff, Nat.reduceAdd, Nat.reduceMul, Nat.reduceLeDiff, Nat.reduceLT, Int.reduceLT, Int.reduceLE, Int.reduceEq, Int.reduceToNat, Int.reduceSub, Int.reduceNeg, Int.reduceAdd, ↓reduceIte, reduceCtorEq, ite_self, eq_self, if_true, if_false, pack, pid, parN, List.not_mem_nil, List.mem_cons, lid, chkK, apartV, List.map_nil, List.flatMap_nil, List.append_nil, List.nil_append, List.drop_zero, List.length_set, List.length_replicate, List.length_append, List.take_length, List.take_zero, List.drop_length, Option.isNone_none, Heap.none, h1, h2, D_zero, List.length_nil]
  rw [if_neg h0]
  have hL0 : L b ≠ 0 := fun h => h0 (D_nil.1 (List.eq_nil_of_length_eq_zero h))
  have ho := order_c (m := a) (n := b) (by omega) (by omega)
  have hL1 : ¬ (L b : Int) = 0 := by omega
  by_cases hlt : a < b
  · have hc : cmp a b < 0 := cmp_lt_iff.2 (by omega)
    rw [R_go FF F115 c115.eq_1]
    simp only [RB, un, St.none, Nat.reduceEqDiff, Nat.reduceAdd, Nat.reduceMul, Nat.reduceLeDiff, Nat.reduceLT, Int.reduceLT, Int.reduceLE, Int.reduceEq, Int.reduceToNat, Int.reduceSub, Int.reduceNeg, Int.reduceAdd, ↓reduceIte, reduceCtorEq, ite_self, eq_self, if_true, if_false, pack, pid, parN, List.not_mem_nil, List.mem_cons, lid, chkK, apartV, List.map_nil, List.flatMap_nil, List.append_nil, List.nil_append, List.drop_zero, List.length_set, List.length_replicate, List.length_append, List.take_length, List.take_zero, List.drop_length, Option.isNone_none, Heap.none, h1, h2, hlen, hL1, ho, hc]
    rw [Nat.div_eq_of_lt hlt, Nat.mod_eq_of_lt hlt, D_zero]
    rfl
  have hc : ¬ cmp a b < 0 := fun h => hlt (by have := cmp_lt_iff.1 h; omega)
  by_cases hs : b < 4294967296
  · have hb := D_small h0 hs
    have h3 : (L b : Int) = 1 := by show ((D b).length : Int) = 1; rw [hb]; rfl
    have h4 := small_D (m := a) (d := b) (by omega) (by omega) (by omega)
    have h5 := Nat.mod_lt a (show 0 < b by omega)
    have h6 := of_c (x := ((a % b : Nat) : Int)) (by omega) (by omega) (n := a % b) rfl
    rw [R_go FF F115 c115.eq_1]
    have h7 : (D b).getD 0 0 = (b : Int) := by rw [hb]; rfl
    simp only [RB, un, St.none, Nat.reduceEqDiff, Nat.reduceAdd, Nat.reduceMul, Nat.reduceLeDiff, Nat.reduceLT, Int.reduceLT, Int.reduceLE, Int.reduceEq, Int.reduceToNat, Int.reduceSub, Int.reduceNeg, Int.reduceAdd, ↓reduceIte, reduceCtorEq, ite_self, eq_self, if_true, if_false, pack, pid, parN, List.not_mem_nil, List.mem_cons, lid, chkK, apartV, List.map_nil, List.flatMap_nil, List.append_nil, List.nil_append, List.drop_zero, List.length_set, List.length_replicate, List.length_append, List.take_length, List.take_zero, List.drop_length, Option.isNone_none, Heap.none, h1, h2, hlen, h3, ho, hc, h7, h4, h6]
  · have h3 : ¬ (L b : Int) = 1 := fun h => by
      have := L_lt b
      rw [show L b = 1 by omega, Nat.pow_one] at this
      omega
    have h4 := long_D (a := a) (b := b) (by omega) (by omega) (by omega)
    rw [R_go FF F115 c115.eq_1]
    simp only [RB, un, St.none, Nat.reduceEqDiff, Nat.reduceAdd, Nat.reduceMul, Nat.reduceLeDiff, Nat.reduceLT, Int.reduceLT, Int.reduceLE, Int.reduceEq, Int.reduceToNat, Int.reduceSub, Int.reduceNeg, Int.reduceAdd, ↓reduceIte, reduceCtorEq, ite_self, eq_self, if_true, if_false, pack, pid, parN, List.not_mem_nil, List.mem_cons, lid, chkK, apartV, List.map_nil, List.flatMap_nil, List.append_nil, List.nil_append, List.drop_zero, List.length_set, List.length_replicate, List.length_append, List.take_length, List.take_zero, List.drop_length, Option.isNone_none, Heap.none, h1, h2, hlen, hL1, ho, hc, h3, h4]
theorem divmod_D {a b : Nat} (hl : L a ≤ 4398046511104) (hlb : L b ≤ 4398046511104) : R FF 115 [(AV.l 1 (List.map u (D a))), (AV.l 1 (List.map u (D b)))] = some (if b = 0 then .tup [.l 1 [], .l 1 [], (AV.i .i64 2)] else .tup [(AV.l 1 (List.map u (D (a / b)))), (AV.l 1 (List.map u (D (a % b)))), (AV.i .i64 0)]) := by
  have := divmod_c (D_U a) (D_U b) hl hlb
  rwa [W_D, W_D] at this
end Go.Pe
set_option linter.unusedSimpArgs false
set_option linter.unusedVariables false
open Go
namespace Go.Pe
theorem right_iff {l : List Int} (hu : U l) : l = D (W l) ↔ (∀ x ∈ l, x ≤ 4294967295) ∧ (l.length = 0 ∨ l.getD (l.length - 1) 0 ≠ 0) := by
  constructor
  · intro h
    refine ⟨fun x hx => ?_, ?_⟩
    · rw [h] at hx
      have := D_dig (W l) x hx
      omega
    · by_cases h0 : l.length = 0
      · exact .inl h0
      · right
        have ht := D_top (W l)
        rw [← h] at ht
        exact ht (fun e => h0 (by rw [e]; rfl))
  · rintro ⟨h1, h2⟩
    have hd : Dg.Dig 4294967296 l := fun x hx => ⟨(hu x hx).1, by have := h1 x hx; omega⟩
    refine D_of hd (fun hne => ?_) (W_dig hd).symm
    rcases h2 with h2 | h2
    · exact absurd (List.eq_nil_of_length_eq_zero h2) hne
    · exact h2
theorem rright_l0 {l : List Int} (hu : U l) (hl : l.length ≤ 35184372088832) : ∀ (d i : Nat), i + d = l.length → (∀ j, j < i → l.getD j 0 ≤ 4294967295) →
    ∃ ex v, LP FF [(0, 0), (3, 0)] [(0, 0), (2, 0)] b91_0 [(AV.l 1 (List.map u l)), (AV.i .i64 ((i : Int)))] = some (ex, [(AV.l 1 (List.map u l)), v]) ∧ (ex = .exit 0 ∧ (∀ x ∈ l, x ≤ 4294967295) ∨ ex = .ret ∧ v = .b false ∧ ¬ ∀ x ∈ l, x ≤ 4294967295) := by
  intro d
  induction d with
  | zero =>
    intro i hi hz
    refine ⟨.exit 0, .junk, ?_, .inl ⟨rfl, fun x hx => ?_⟩⟩
    · rw [LP_go FF b91_0.eq_1]
      simp only [RB, un, St.none, Nat.reduceEqDiff, Nat.reduceAdd, Nat.reduceMul, Nat.reduceLeDiff, Nat.reduceLT, Int.reduceLT, Int.reduceLE, Int.reduceEq, Int.reduceToNat, Int.reduceSub, Int.reduceNeg, Int.reduceAdd, ↓reduceIte, reduceCtorEq, ite_self, eq_self, if_true, if_false, pack, pid, parN, List.not_mem_nil, List.mem_cons, lid, chkK, apartV, List.map_nil, List.flatMap_nil, List.append_nil, List.nil_append, List.drop_zero, List.length_set, List.length_replicate, List.length_append, List.take_length, List.take_zero, List.drop_length, Option.isNone_none, Heap.none]
      simp (disch := omega) only [if_pos, if_neg, List.take_length, take_set_len, take_set2_len, take_rep_len, take_snoc_len, take_app_len]
    · obtain ⟨j, hj, rfl⟩ := List.getElem_of_mem hx
      have := hz j (by omega)
      rwa [List.getD_eq_getElem?_getD, List.getElem?_eq_getElem hj] at this
  | succ d ih =>
    intro i hi hz
    have g := U_get hu i
    have e1 : IntKind.i64.wrap ((i : Int) + 1) = ((i + 1 : Nat) : Int) := w64succ (by omega)
    by_cases h : l.getD i 0 ≤ 4294967295
    · obtain ⟨ex, v, h1, h2⟩ := ih (i + 1) (by omega) fun j hj => by
        rcases Nat.lt_or_ge j i with h3 | h3
        · exact hz j h3
        · rw [show j = i by omega]; exact h
      refine ⟨ex, v, ?_, h2⟩
      have h3 : ¬ 4294967295 < l.getD i 0 := by omega
      rw [LP_go FF b91_0.eq_1]
      simp only [RB, un, St.none, Nat.reduceEqDiff, Nat.reduceAdd, Nat.reduceMul, Nat.reduceLeDiff, Nat.reduceLT, Int.reduceLT, Int.reduceLE, Int.reduceEq, Int.reduceToNat, Int.reduceSub, Int.reduceNeg, Int.reduceAdd, ↓reduceIte, reduceCtorEq, ite_self, eq_self, if_true, if_false, pack, pid, parN, List.not_mem_nil, List.mem_cons, lid, chkK, apartV, List.map_nil, List.flatMap_nil, List.append_nil, List.nil_append, List.drop_zero, List.length_set, List.length_replicate, List.length_append, List.take_length, List.take_zero, List.drop_length, Option.isNone_none, Heap.none, e1, h3]
      simp (disch := omega) only [if_pos, if_neg, List.take_length, take_set_len, take_set2_len, take_rep_len, take_snoc_len, take_app_len]
      exact h1
    · refine ⟨.ret, .b false, ?_, .inr ⟨rfl, rfl, fun hh => h (hh _ ?_)⟩⟩
      · have h3 : 4294967295 < l.getD i 0 := by omega
        rw [LP_go FF b91_0.eq_1]
        simp only [RB, un, St.none, Nat.reduceEqDiff, Nat.reduceAdd, Nat.reduceMul, Nat.reduceLeDiff, Nat.reduceLT, Int.reduceLT, Int.reduceLE, Int.reduceEq, Int.reduceToNat, Int.reduceSub, Int.reduceNeg, Int.reduceAdd, ↓reduceIte, reduceCtorEq, ite_self, eq_self, if_true, if_false, pack, pid, parN, List.not_mem_nil, List.mem_cons, lid, chkK, apartV, List.map_nil, List.flatMap_nil, List.append_nil, List.nil_append, List.drop_zero, List.length_set, List.length_replicate, List.length_append, List.take_length, List.take_zero, List.drop_length, Option.isNone_none, Heap.none, h3]
        simp (disch := omega) only [if_pos, if_neg, List.take_length, take_set_len, take_set2_len, take_rep_len, take_snoc_len, take_app_len]
      · rw [List.getD_eq_getElem?_getD, List.getElem?_eq_getElem (by omega)]
        exact List.getElem_mem _
theorem rright_c {l : List Int} (hu : U l) (hl : l.length ≤ 35184372088832) : R FF 91 [(AV.l 1 (List.map u l))] = some (.b (decide (l = D (W l)))) := by
  obtain ⟨ex, v, h1, h2⟩ := rright_l0 hu hl l.length 0 (by omega) (fun j hj => by omega)
  rw [Int.ofNat_zero] at h1
  have hr := right_iff hu
  rcases h2 with ⟨rfl, h2⟩ | ⟨rfl, rfl, h2⟩
  · by_cases h0 : l.length = 0
    · have h3 : l = D (W l) := hr.2 ⟨h2, .inl h0⟩
      have h4 : decide (l = D (W l)) = true := decide_eq_true h3
      have h5 : (l.length : Int) = 0 := by omega
      rw [h4]
      try rw [h5] at h1
      rw [R_go FF F91 c91.eq_1]
      simp only [RB, un, St.none, Nat.reduceEqDiff, Nat.reduceAdd, Nat.reduceMul, Nat.reduceLeDiff, Nat.reduceLT, Int.reduceLT, Int.reduceLE, Int.reduceEq, Int.reduceToNat, Int.reduceSub, Int.reduceNeg, Int.reduceAdd, ↓reduceIte, reduceCtorEq, ite_self, eq_self, if_true, if_false, pack, pid, parN, List.not_mem_nil, List.mem_cons, lid, chkK, apartV, List.map_nil, List.flatMap_nil, List.append_nil, List.nil_append, List.drop_zero, List.length_set, List.length_replicate, List.length_append, List.take_length, List.take_zero, List.drop_length, Option.isNone_none, Heap.none, h1, h5]
    · have h5 : ¬ (l.length : Int) = 0 := by omega
      have e1 : IntKind.i64.wrap ((l.length : Int) - 1) = ((l.length - 1 : Nat) : Int) := by rw [w64 (by omega) (by omega)]; omega
      have h6 : (l = D (W l)) ↔ l.getD (l.length - 1) 0 ≠ 0 := by
        rw [hr]
        exact ⟨fun h => h.2.resolve_left h0, fun h => ⟨h2, .inr h⟩⟩
      rw [R_go FF F91 c91.eq_1]
      simp only [RB, un, St.none, Nat.reduceEqDiff, Nat.reduceAdd, Nat.reduceMul, Nat.reduceLeDiff, Nat.reduceLT, Int.reduceLT, Int.reduceLE, Int.reduceEq, Int.reduceToNat, Int.reduceSub, Int.reduceNeg, Int.reduceAdd, ↓reduceIte, reduceCtorEq, ite_self, eq_self, if_true, if_false, pack, pid, parN, List.not_mem_nil, List.mem_cons, lid, chkK, apartV, List.map_nil, List.flatMap_nil, List.append_nil, List.nil_append, List.drop_zero, List.length_set, List.length_replicate, List.length_append, List.take_length, List.take_zero, List.drop_length, Option.isNone_none, Heap.none, h1, h5, e1]
      simp (disch := omega) only [if_pos, if_neg, List.take_length, take_set_len, take_set2_len, take_rep_len, take_snoc_len, take_app_len]
      have h8 : decide (l = D (W l)) = !decide (l.getD (l.length - 1) 0 = 0) := by
        by_cases h7 : l.getD (l.length - 1) 0 = 0
        · rw [decide_eq_false fun h => h6.1 h h7, decide_eq_true h7]; rfl
        · rw [decide_eq_true (h6.2 h7), decide_eq_false h7]; rfl
      rw [h8]
  · have h3 : ¬ l = D (W l) := fun h => h2 (hr.1 h).1
    have h4 : decide (l = D (W l)) = false := decide_eq_false h3
    rw [h4]
    rw [R_go FF F91 c91.eq_1]
    simp only [RB, un, St.none, Nat.reduceEqDiff, Nat.reduceAdd, Nat.reduceMul, Nat.reduceLeDiff, Nat.reduceLT, Int.reduceLT, Int.reduceLE, Int.reduceEq, Int.reduceToNat, Int.reduceSub, Int.reduceNeg, Int.reduceAdd, ↓reduceIte, reduceCtorEq, ite_self, eq_self, if_true, if_false, pack, pid, parN, List.not_mem_nil, List.mem_cons, lid, chkK, apartV, List.map_nil, List.flatMap_nil, List.append_nil, List.nil_append, List.drop_zero, List.length_set, List.length_replicate, List.length_append, List.take_length, List.take_zero, List.drop_length, Option.isNone_none, Heap.none, h1]
end Go.Pe
set_option linter.unusedSimpArgs false
set_option linter.unusedVariables false
open Go
namespace Go.Pe
def ng (n : Int) : Bool := decide (n < 0)
def sv (q : Bool) (k : Nat) : Int := if q then -(k : Int) else (k : Int)
def wv (q : Bool) (l : List Int) : Int := sv q (W l)
theorem sv_abs (q : Bool) (k : Nat) : (sv q k).natAbs = k := by unfold sv; cases q <;> simp
theorem sv_ng (q : Bool) (k : Nat) : ng (sv q k) = (q && decide (0 < k)) := by
  unfold sv ng
  cases q
  · simp
  · by_cases h : 0 < k
    · simp [h]
    · have : k = 0 := by omega
      subst this
      simp
theorem sv_self (n : Int) : sv (ng n) n.natAbs = n := by
  unfold sv ng
  by_cases h : n < 0
  · simp [h]; omega
  · simp [h]; omega
theorem wv_ci (n : Int) : wv (ng n) (D n.natAbs) = n := by unfold wv; rw [W_D, sv_self]
theorem ng_true {n : Int} : ng n = true ↔ n < 0 := by unfold ng; simp
theorem ng_false {n : Int} : ng n = false ↔ 0 ≤ n := by unfold ng; simp
theorem wv_L (q : Bool) (l : List Int) : L (wv q l).natAbs ≤ l.length := by unfold wv; rw [sv_abs]; exact L_W l
theorem L_pos {k : Nat} : (0 < (L k : Int)) ↔ 0 < k := by
  have : L k = 0 ↔ k = 0 := by
    show (D k).length = 0 ↔ _
    rw [List.length_eq_zero_iff, D_nil]
  omega
theorem sign_c (q : Bool) (k : Nat) : R FF 92 [.b q, (AV.l 1 (List.map u (D k)))] = some (AV.agg [AV.b (ng (sv q k)), (AV.l 1 (List.map u (D (Int.natAbs (sv q k)))))]) := by
  have h1 : (D k).length = L k := rfl
  rw [sv_abs, sv_ng]
  cases q
  · rw [R_go FF F92 c92.eq_1]
    simp only [RB, un, St.none, Nat.reduceEqDiff, Nat.reduceAdd, Nat.reduceMul, Nat.reduceLeDiff, Nat.reduceLT, Int.reduceLT, Int.reduceLE, Int.reduceEq, Int.reduceToNat, Int.reduceSub, Int.reduceNeg, Int.reduceAdd, ↓reduceIte, reduceCtorEq, ite_self, eq_self, if_true, if_false, pack, pid, parN, List.not_mem_nil, List.mem_cons, lid, chkK, apartV, List.map_nil, List.flatMap_nil, List.append_nil, List.nil_append, List.drop_zero, List.length_set, List.length_replicate, List.length_append, List.take_length, List.take_zero, List.drop_length, Option.isNone_none, Heap.none]
  · have h2 : decide (0 < (L k : Int)) = decide (0 < k) := decide_eq_decide.2 L_pos
    rw [R_go FF F92 c92.eq_1]
    simp only [RB, un, St.none, Nat.reduceEqDiff, Nat.reduceAdd, Nat.reduceMul, Nat.reduceLeDiff, Nat.reduceLT, Int.reduceLT, Int.reduceLE, Int.reduceEq, Int.reduceToNat, Int.reduceSub, Int.reduceNeg, Int.reduceAdd, ↓reduceIte, reduceCtorEq, ite_self, eq_self, if_true, if_false, pack, pid, parN, List.not_mem_nil, List.mem_cons, lid, chkK, apartV, List.map_nil, List.flatMap_nil, List.append_nil, List.nil_append, List.drop_zero, List.length_set, List.length_replicate, List.length_append, List.take_length, List.take_zero, List.drop_length, Option.isNone_none, Heap.none, h1, h2]
theorem wclean_c {q : Bool} {l : List Int} (hu : U l) (hl : l.length ≤ 35184372088832) : R FF 81 [(AV.agg [AV.b q, (AV.l 1 (List.map u l))])] = some (AV.agg [AV.b (ng (wv q l)), (AV.l 1 (List.map u (D (Int.natAbs (wv q l)))))]) := by
  have h1 := clean_c hu hl
  have h2 := sign_c q (W l)
  rw [R_go FF F81 c81.eq_1]
  simp only [RB, un, St.none, Nat.reduceEqDiff, Nat.reduceAdd, Nat.reduceMul, Nat.reduceLeDiff, Nat.reduceLT, Int.reduceLT, Int.reduceLE, Int.reduceEq, Int.reduceToNat, Int.reduceSub, Int.reduceNeg, Int.reduceAdd, ↓reduceIte, reduceCtorEq, ite_self, eq_self, if_true, if_false, pack, pid, parN, List.not_mem_nil, List.mem_cons, lid, chkK, apartV, List.map_nil, List.flatMap_nil, List.append_nil, List.nil_append, List.drop_zero, List.length_set, List.length_replicate, List.length_append, List.take_length, List.take_zero, List.drop_length, Option.isNone_none, Heap.none, h1, h2]
  rfl
theorem wsign_c {q : Bool} {l : List Int} (hu : U l) (hl : l.length ≤ 35184372088832) : R FF 83 [(AV.agg [AV.b q, (AV.l 1 (List.map u l))])] = some (AV.i .i64 (cmp (wv q l) 0)) := by
  have h1 := wclean_c (q := q) hu hl
  generalize wv q l = n at *
  have h2 : (D n.natAbs).length = L n.natAbs := rfl
  rcases Int.lt_trichotomy n 0 with h | h | h
  · rw [ng_true.2 h] at h1
    rw [cmp_lt h]
    rw [R_go FF F83 c83.eq_1]
    simp only [RB, un, St.none, Nat.reduceEqDiff, Nat.reduceAdd, Nat.reduceMul, Nat.reduceLeDiff, Nat.reduceLT, Int.reduceLT, Int.reduceLE, Int.reduceEq, Int.reduceToNat, Int.reduceSub, Int.reduceNeg, Int.reduceAdd, ↓reduceIte, reduceCtorEq, ite_self, eq_self, if_true, if_false, pack, pid, parN, List.not_mem_nil, List.mem_cons, lid, chkK, apartV, List.map_nil, List.flatMap_nil, List.append_nil, List.nil_append, List.drop_zero, List.length_set, List.length_replicate, List.length_append, List.take_length, List.take_zero, List.drop_length, Option.isNone_none, Heap.none, h1]
  · subst h
    rw [ng_false.2 (Int.le_refl _)] at h1
    rw [R_go FF F83 c83.eq_1]
    simp only [RB, un, St.none, Nat.reduceEqDiff, Nat.reduceAdd, Nat.reduceMul, Nat.reduceLeDiff, Nat.reduceLT, Int.reduceLT, Int.reduceLE, Int.reduceEq, Int.reduceToNat, Int.reduceSub, Int.reduceNeg, Int.reduceAdd, ↓reduceIte, reduceCtorEq, ite_self, eq_self, if_true, if_false, pack, pid, parN, List.not_mem_nil, List.mem_cons, lid, chkK, apartV, List.map_nil, List.flatMap_nil, List.append_nil, List.nil_append, List.drop_zero, List.length_set, List.length_replicate, List.length_append, List.take_length, List.take_zero, List.drop_length, Option.isNone_none, Heap.none, h1, Int.natAbs_zero, D_zero, List.length_nil]
    rfl
  · rw [ng_false.2 (by omega)] at h1
    rw [cmp_gt h]
    have h3 := L_pos (k := n.natAbs)
    have h4 : ¬ (L n.natAbs : Int) = 0 := by omega
    rw [R_go FF F83 c83.eq_1]
    simp only [RB, un, St.none, Nat.reduceEqDiff, Nat.reduceAdd, Nat.reduceMul, Nat.reduceLeDiff, Nat.reduceLT, Int.reduceLT, Int.reduceLE, Int.reduceEq, Int.reduceToNat, Int.reduceSub, Int.reduceNeg, Int.reduceAdd, ↓reduceIte, reduceCtorEq, ite_self, eq_self, if_true, if_false, pack, pid, parN, List.not_mem_nil, List.mem_cons, lid, chkK, apartV, List.map_nil, List.flatMap_nil, List.append_nil, List.nil_append, List.drop_zero, List.length_set, List.length_replicate, List.length_append, List.take_length, List.take_zero, List.drop_length, Option.isNone_none, Heap.none, h1, h2, h4]
end Go.Pe
set_option linter.unusedSimpArgs false
set_option linter.unusedVariables false
open Go
namespace Go.Pe
theorem sv_add {q : Bool} {a b : Int} (ha : ng a = q) (hb : ng b = q) : sv q (a.natAbs + b.natAbs) = a + b := by
  cases q
  · rw [ng_false] at ha hb; unfold sv; simp; omega
  · rw [ng_true] at ha hb; unfold sv; simp; omega
theorem sv_xor_mul (a b : Int) : sv (ng a != ng b) (a.natAbs * b.natAbs) = a * b := by
  rw [← Int.natAbs_mul]
  have h := sv_self (a * b)
  cases ha : ng a <;> cases hb : ng b <;> (first | rw [ng_true] at ha | rw [ng_false] at ha) <;> (first | rw [ng_true] at hb | rw [ng_false] at hb) <;> unfold sv <;> simp
  · have := Int.mul_nonneg ha hb
    omega
  · have := Int.mul_nonneg ha (show 0 ≤ -b by omega)
    rw [Int.mul_neg] at this
    omega
  · have := Int.mul_nonneg (show 0 ≤ -a by omega) hb
    rw [Int.neg_mul] at this
    omega
  · have := Int.mul_nonneg (show 0 ≤ -a by omega) (show 0 ≤ -b by omega)
    rw [Int.neg_mul_neg] at this
    omega
theorem rmake_c (q : Bool) (k : Nat) : R FF 39 [.b q, (AV.l 1 (List.map n64 (E k)))] = some (AV.agg [AV.b (ng (sv q k)), (AV.l 1 (List.map n64 (E (Int.natAbs (sv q k)))))]) := by
  have h1 : (E k).length = LE k := rfl
  have h2 : decide (0 < (LE k : Int)) = decide (0 < k) := by
    refine decide_eq_decide.2 ?_
    have : LE k = 0 ↔ k = 0 := by
      show (E k).length = 0 ↔ _
      rw [List.length_eq_zero_iff, E_nil]
    omega
  rw [sv_abs, sv_ng]
  cases q
  · rw [R_go FF F39 c39.eq_1]
    simp only [RB, un, St.none, Nat.reduceEqDiff, Nat.reduceAdd, Nat.reduceMul, Nat.reduceLeDiff, Nat.reduceLT, Int.reduceLT, Int.reduceLE, Int.reduceEq, Int.reduceToNat, Int.reduceSub, Int.reduceNeg, Int.reduceAdd, ↓reduceIte, reduceCtorEq, ite_self, eq_self, if_true, if_false, pack, pid, parN, List.not_mem_nil, List.mem_cons, lid, chkK, apartV, List.map_nil, List.flatMap_nil, List.append_nil, List.nil_append, List.drop_zero, List.length_set, List.length_replicate, List.length_append, List.take_length, List.take_zero, List.drop_length, Option.isNone_none, Heap.none]
  · rw [R_go FF F39 c39.eq_1]
    simp only [RB, un, St.none, Nat.reduceEqDiff, Nat.reduceAdd, Nat.reduceMul, Nat.reduceLeDiff, Nat.reduceLT, Int.reduceLT, Int.reduceLE, Int.reduceEq, Int.reduceToNat, Int.reduceSub, Int.reduceNeg, Int.reduceAdd, ↓reduceIte, reduceCtorEq, ite_self, eq_self, if_true, if_false, pack, pid, parN, List.not_mem_nil, List.mem_cons, lid, chkK, apartV, List.map_nil, List.flatMap_nil, List.append_nil, List.nil_append, List.drop_zero, List.length_set, List.length_replicate, List.length_append, List.take_length, List.take_zero, List.drop_length, Option.isNone_none, Heap.none, h1, h2]
theorem rsmall_c {x : Int} (h0 : -9223372036854775808 ≤ x) (h1 : x ≤ 9223372036854775807) : R FF 258 [(AV.i .i64 x)] = some (AV.agg [AV.b (ng x), (AV.l 1 (List.map n64 (E (Int.natAbs x))))]) := by
  by_cases hx : x < 0
  · have e1 : IntKind.i64.wrap (x + 1) = x + 1 := w64 (by omega) (by omega)
    have e2 : IntKind.i64.wrap (0 - (x + 1)) = ((x.natAbs - 1 : Nat) : Int) := by rw [w64 (by omega) (by omega)]; omega
    have s1 := small_c (x := ((x.natAbs - 1 : Nat) : Int)) (n := x.natAbs - 1) rfl (by omega)
    have s2 := small_c (x := 1) (n := 1) rfl (by omega)
    have b1 := LE_u64 (n := x.natAbs - 1) (by omega)
    have b2 := LE_u64 (n := 1) (by omega)
    have s3 := plus_c (x := x.natAbs - 1) (y := 1) (by omega) (by omega)
    rw [show x.natAbs - 1 + 1 = x.natAbs by omega] at s3
    have s4 := rmake_c true x.natAbs
    rw [show sv true x.natAbs = x by unfold sv; simp; omega] at s4
    rw [R_go FF F258 c258.eq_1]
    simp only [RB, un, St.none, Nat.reduceEqDiff, Nat.reduceAdd, Nat.reduceMul, Nat.reduceLeDiff, Nat.reduceLT, Int.reduceLT, Int.reduceLE, Int.reduceEq, Int.reduceToNat, Int.reduceSub, Int.reduceNeg, Int.reduceAdd, ↓reduceIte, reduceCtorEq, ite_self, eq_self, if_true, if_false, pack, pid, parN, List.not_mem_nil, List.mem_cons, lid, chkK, apartV, List.map_nil, List.flatMap_nil, List.append_nil, List.nil_append, List.drop_zero, List.length_set, List.length_replicate, List.length_append, List.take_length, List.take_zero, List.drop_length, Option.isNone_none, Heap.none, hx, e1, e2, s1, s2, s3, s4]
  · have s1 := small_c (x := x) (n := x.natAbs) (by omega) (by omega)
    have s4 := rmake_c false x.natAbs
    rw [show sv false x.natAbs = x by unfold sv; simp; omega] at s4
    rw [R_go FF F258 c258.eq_1]
    simp only [RB, un, St.none, Nat.reduceEqDiff, Nat.reduceAdd, Nat.reduceMul, Nat.reduceLeDiff, Nat.reduceLT, Int.reduceLT, Int.reduceLE, Int.reduceEq, Int.reduceToNat, Int.reduceSub, Int.reduceNeg, Int.reduceAdd, ↓reduceIte, reduceCtorEq, ite_self, eq_self, if_true, if_false, pack, pid, parN, List.not_mem_nil, List.mem_cons, lid, chkK, apartV, List.map_nil, List.flatMap_nil, List.append_nil, List.nil_append, List.drop_zero, List.length_set, List.length_replicate, List.length_append, List.take_length, List.take_zero, List.drop_length, Option.isNone_none, Heap.none, hx, s1, s4]
theorem rfrom_c {q : Bool} {l : List Int} (hu : U l) (hl : l.length ≤ 1000000000000) : R FF 38 [(AV.agg [AV.b q, (AV.l 1 (List.map u l))])] = some (AV.agg [AV.b (ng (wv q l)), (AV.l 1 (List.map n64 (E (Int.natAbs (wv q l)))))]) := by
  have h1 := from_c hu hl
  have h2 := rmake_c q (W l)
  rw [R_go FF F38 c38.eq_1]
  simp only [RB, un, St.none, Nat.reduceEqDiff, Nat.reduceAdd, Nat.reduceMul, Nat.reduceLeDiff, Nat.reduceLT, Int.reduceLT, Int.reduceLE, Int.reduceEq, Int.reduceToNat, Int.reduceSub, Int.reduceNeg, Int.reduceAdd, ↓reduceIte, reduceCtorEq, ite_self, eq_self, if_true, if_false, pack, pid, parN, List.not_mem_nil, List.mem_cons, lid, chkK, apartV, List.map_nil, List.flatMap_nil, List.append_nil, List.nil_append, List.drop_zero, List.length_set, List.length_replicate, List.length_append, List.take_length, List.take_zero, List.drop_length, Option.isNone_none, Heap.none, h1, h2]
  rfl
theorem rminus_c (n : Int) : R FF 298 [(AV.agg [AV.b (ng n), (AV.l 1 (List.map n64 (E (Int.natAbs n))))])] = some (AV.agg [AV.b (ng (-n)), (AV.l 1 (List.map n64 (E (Int.natAbs (-n)))))]) := by
  have h2 := rmake_c (!(ng n)) n.natAbs
  rw [show sv (!(ng n)) n.natAbs = -n by unfold sv ng; by_cases h : n < 0 <;> simp [h] <;> omega] at h2
  rw [R_go FF F298 c298.eq_1]
  simp only [RB, un, St.none, Nat.reduceEqDiff, Nat.reduceAdd, Nat.reduceMul, Nat.reduceLeDiff, Nat.reduceLT, Int.reduceLT, Int.reduceLE, Int.reduceEq, Int.reduceToNat, Int.reduceSub, Int.reduceNeg, Int.reduceAdd, ↓reduceIte, reduceCtorEq, ite_self, eq_self, if_true, if_false, pack, pid, parN, List.not_mem_nil, List.mem_cons, lid, chkK, apartV, List.map_nil, List.flatMap_nil, List.append_nil, List.nil_append, List.drop_zero, List.length_set, List.length_replicate, List.length_append, List.take_length, List.take_zero, List.drop_length, Option.isNone_none, Heap.none, h2]
theorem rord_c {a b : Int} (ha : LE a.natAbs ≤ 35184372088832) (hb : LE b.natAbs ≤ 35184372088832) : R FF 47 [(AV.agg [AV.b (ng a), (AV.l 1 (List.map n64 (E (Int.natAbs a))))]), (AV.agg [AV.b (ng b), (AV.l 1 (List.map n64 (E (Int.natAbs b))))])] = some (AV.i .i64 (cmp a b)) := by
  have c1 := rorder_c ha hb
  have c2 := rorder_c hb ha
  cases ha : ng a <;> cases hb : ng b <;> (first | rw [ng_true] at ha | rw [ng_false] at ha) <;> (first | rw [ng_true] at hb | rw [ng_false] at hb)
  · rw [show ((a.natAbs : Nat) : Int) = a by omega, show ((b.natAbs : Nat) : Int) = b by omega] at c1
    rw [R_go FF F47 c47.eq_1]
    simp only [RB, un, St.none, Nat.reduceEqDiff, Nat.reduceAdd, Nat.reduceMul, Nat.reduceLeDiff, Nat.reduceLT, Int.reduceLT, Int.reduceLE, Int.reduceEq, Int.reduceToNat, Int.reduceSub, Int.reduceNeg, Int.reduceAdd, ↓reduceIte, reduceCtorEq, ite_self, eq_self, if_true, if_false, pack, pid, parN, List.not_mem_nil, List.mem_cons, lid, chkK, apartV, List.map_nil, List.flatMap_nil, List.append_nil, List.nil_append, List.drop_zero, List.length_set, List.length_replicate, List.length_append, List.take_length, List.take_zero, List.drop_length, Option.isNone_none, Heap.none, c1]
  · rw [cmp_gt (by omega)]
    rw [R_go FF F47 c47.eq_1]
    simp only [RB, un, St.none, Nat.reduceEqDiff, Nat.reduceAdd, Nat.reduceMul, Nat.reduceLeDiff, Nat.reduceLT, Int.reduceLT, Int.reduceLE, Int.reduceEq, Int.reduceToNat, Int.reduceSub, Int.reduceNeg, Int.reduceAdd, ↓reduceIte, reduceCtorEq, ite_self, eq_self, if_true, if_false, pack, pid, parN, List.not_mem_nil, List.mem_cons, lid, chkK, apartV, List.map_nil, List.flatMap_nil, List.append_nil, List.nil_append, List.drop_zero, List.length_set, List.length_replicate, List.length_append, List.take_length, List.take_zero, List.drop_length, Option.isNone_none, Heap.none]
  · rw [cmp_lt (by omega)]
    rw [R_go FF F47 c47.eq_1]
    simp only [RB, un, St.none, Nat.reduceEqDiff, Nat.reduceAdd, Nat.reduceMul, Nat.reduceLeDiff, Nat.reduceLT, Int.reduceLT, Int.reduceLE, Int.reduceEq, Int.reduceToNat, Int.reduceSub, Int.reduceNeg, Int.reduceAdd, ↓reduceIte, reduceCtorEq, ite_self, eq_self, if_true, if_false, pack, pid, parN, List.not_mem_nil, List.mem_cons, lid, chkK, apartV, List.map_nil, List.flatMap_nil, List.append_nil, List.nil_append, List.drop_zero, List.length_set, List.length_replicate, List.length_append, List.take_length, List.take_zero, List.drop_length, Option.isNone_none, Heap.none]
  · have e : cmp ((b.natAbs : Nat) : Int) ((a.natAbs : Nat) : Int) = cmp a b := by unfold cmp; split <;> split <;> (try split) <;> (try split) <;> omega
    rw [e] at c2
    rw [R_go FF F47 c47.eq_1]
    simp only [RB, un, St.none, Nat.reduceEqDiff, Nat.reduceAdd, Nat.reduceMul, Nat.reduceLeDiff, Nat.reduceLT, Int.reduceLT, Int.reduceLE, Int.reduceEq, Int.reduceToNat, Int.reduceSub, Int.reduceNeg, Int.reduceAdd, ↓reduceIte, reduceCtorEq, ite_self, eq_self, if_true, if_false, pack, pid, parN, List.not_mem_nil, List.mem_cons, lid, chkK, apartV, List.map_nil, List.flatMap_nil, List.append_nil, List.nil_append, List.drop_zero, List.length_set, List.length_replicate, List.length_append, List.take_length, List.take_zero, List.drop_length, Option.isNone_none, Heap.none, c2]
theorem rplus_c {a b : Int} (ha : LE a.natAbs ≤ 4398046511104) (hb : LE b.natAbs ≤ 4398046511104) : R FF 42 [(AV.agg [AV.b (ng a), (AV.l 1 (List.map n64 (E (Int.natAbs a))))]), (AV.agg [AV.b (ng b), (AV.l 1 (List.map n64 (E (Int.natAbs b))))])] = some (AV.agg [AV.b (ng (a + b)), (AV.l 1 (List.map n64 (E (Int.natAbs (a + b)))))]) := by
  have s1 := plus_c ha hb
  have c1 := rorder_c (m := a.natAbs) (n := b.natAbs) (by omega) (by omega)
  cases ha' : ng a <;> cases hb' : ng b
  · have g1 := rmake_c false (a.natAbs + b.natAbs)
    rw [sv_add ha' hb'] at g1
    rw [R_go FF F42 c42.eq_1]
    simp only [RB, un, St.none, Nat.reduceEqDiff, Nat.reduceAdd, Nat.reduceMul, Nat.reduceLeDiff, Nat.reduceLT, Int.reduceLT, Int.reduceLE, Int.reduceEq, Int.reduceToNat, Int.reduceSub, Int.reduceNeg, Int.reduceAdd, ↓reduceIte, reduceCtorEq, ite_self, eq_self, if_true, if_false, pack, pid, parN, List.not_mem_nil, List.mem_cons, lid, chkK, apartV, List.map_nil, List.flatMap_nil, List.append_nil, List.nil_append, List.drop_zero, List.length_set, List.length_replicate, List.length_append, List.take_length, List.take_zero, List.drop_length, Option.isNone_none, Heap.none, s1, g1]
  · rw [ng_false] at ha'
    rw [ng_true] at hb'
    by_cases hlt : a.natAbs < b.natAbs
    · have hc : cmp ((a.natAbs : Nat) : Int) ((b.natAbs : Nat) : Int) < 0 := cmp_lt_iff.2 (by omega)
      have d1 := minus_c (x := b.natAbs) (y := a.natAbs) (by omega) hb
      have g1 := rmake_c true (b.natAbs - a.natAbs)
      rw [show sv true (b.natAbs - a.natAbs) = a + b by unfold sv; simp; omega] at g1
      rw [R_go FF F42 c42.eq_1]
      simp only [RB, un, St.none, Nat.reduceEqDiff, Nat.reduceAdd, Nat.reduceMul, Nat.reduceLeDiff, Nat.reduceLT, Int.reduceLT, Int.reduceLE, Int.reduceEq, Int.reduceToNat, Int.reduceSub, Int.reduceNeg, Int.reduceAdd, ↓reduceIte, reduceCtorEq, ite_self, eq_self, if_true, if_false, pack, pid, parN, List.not_mem_nil, List.mem_cons, lid, chkK, apartV, List.map_nil, List.flatMap_nil, List.append_nil, List.nil_append, List.drop_zero, List.length_set, List.length_replicate, List.length_append, List.take_length, List.take_zero, List.drop_length, Option.isNone_none, Heap.none, c1, hc, d1, g1]
    · have hc : ¬ cmp ((a.natAbs : Nat) : Int) ((b.natAbs : Nat) : Int) < 0 := fun h => by have := cmp_lt_iff.1 h; omega
      have d1 := minus_c (x := a.natAbs) (y := b.natAbs) (by omega) ha
      have g1 := rmake_c false (a.natAbs - b.natAbs)
      rw [show sv false (a.natAbs - b.natAbs) = a + b by unfold sv; simp; omega] at g1
      rw [R_go FF F42 c42.eq_1]
      simp only [RB, un, St.none, Nat.reduceEqDiff, Nat.reduceAdd, Nat.reduceMul, Nat.reduceLeDiff, Nat.reduceLT, Int.reduceLT, Int.reduceLE, Int.reduceEq, Int.reduceToNat, Int.reduceSub, Int.reduceNeg, Int.reduceAdd, ↓reduceIte, reduceCtorEq, ite_self, eq_self, if_true, if_false, pack, pid, parN, List.not_mem_nil, List.mem_cons, lid, chkK, apartV, List.map_nil, List.flatMap_nil, List.append_nil, List.nil_append, List.drop_zero, List.length_set, List.length_replicate, List.length_append, List.take_length, List.take_zero, List.drop_length, Option.isNone_none, Heap.none, c1, hc, d1, g1]
  · rw [ng_true] at ha'
    rw [ng_false] at hb'
    by_cases hlt : a.natAbs < b.natAbs
    · have hc : cmp ((a.natAbs : Nat) : Int) ((b.natAbs : Nat) : Int) < 0 := cmp_lt_iff.2 (by omega)
      have d1 := minus_c (x := b.natAbs) (y := a.natAbs) (by omega) hb
      have g1 := rmake_c false (b.natAbs - a.natAbs)
      rw [show sv false (b.natAbs - a.natAbs) = a + b by unfold sv; simp; omega] at g1
      rw [R_go FF F42 c42.eq_1]
      simp only [RB, un, St.none, Nat.reduceEqDiff, Nat.reduceAdd, Nat.reduceMul, Nat.reduceLeDiff, Nat.reduceLT, Int.reduceLT, Int.reduceLE, Int.reduceEq, Int.reduceToNat, Int.reduceSub, Int.reduceNeg, Int.reduceAdd, ↓reduceIte, reduceCtorEq, ite_self, eq_self, if_true, if_false, pack, pid, parN, List.not_mem_nil, List.mem_cons, lid, chkK, apartV, List.map_nil, List.flatMap_nil, List.append_nil, List.nil_append, List.drop_zero, List.length_set, List.length_replicate, List.length_append, List.take_length, List.take_zero, List.drop_length, Option.isNone_none, Heap.none, c1, hc, d1, g1]
    · have hc : ¬ cmp ((a.natAbs : Nat) : Int) ((b.natAbs : Nat) : Int) < 0 := fun h => by have := cmp_lt_iff.1 h; omega
      have d1 := minus_c (x := a.natAbs) (y := b.natAbs) (by omega) ha
      have g1 := rmake_c true (a.natAbs - b.natAbs)
      rw [show sv true (a.natAbs - b.natAbs) = a + b by unfold sv; simp; omega] at g1
      rw [R_go FF F42 c42.eq_1]
      simp only [RB, un, St.none, Nat.reduceEqDiff, Nat.reduceAdd, Nat.reduceMul, Nat.reduceLeDiff, Nat.reduceLT, Int.reduceLT, Int.reduceLE, Int.reduceEq, Int.reduceToNat, Int.reduceSub, Int.reduceNeg, Int.reduceAdd, ↓reduceIte, reduceCtorEq, ite_self, eq_self, if_true, if_false, pack, pid, parN, List.not_mem_nil, List.mem_cons, lid, chkK, apartV, List.map_nil, List.flatMap_nil, List.append_nil, List.nil_append, List.drop_zero, List.length_set, List.length_replicate, List.length_append, List.take_length, List.take_zero, List.drop_length, Option.isNone_none, Heap.none, c1, hc, d1, g1]
  · have g1 := rmake_c true (a.natAbs + b.natAbs)
    rw [sv_add ha' hb'] at g1
    rw [R_go FF F42 c42.eq_1]
    simp only [RB, un, St.none, Nat.reduceEqDiff, Nat.reduceAdd, Nat.reduceMul, Nat.reduceLeDiff, Nat.reduceLT, Int.reduceLT, Int.reduceLE, Int.reduceEq, Int.reduceToNat, Int.reduceSub, Int.reduceNeg, Int.reduceAdd, ↓reduceIte, reduceCtorEq, ite_self, eq_self, if_true, if_false, pack, pid, parN, List.not_mem_nil, List.mem_cons, lid, chkK, apartV, List.map_nil, List.flatMap_nil, List.append_nil, List.nil_append, List.drop_zero, List.length_set, List.length_replicate, List.length_append, List.take_length, List.take_zero, List.drop_length, Option.isNone_none, Heap.none, s1, g1]
theorem rtimes_c {a b : Int} (hl : LE a.natAbs + LE b.natAbs ≤ 35184372088832) : R FF 43 [(AV.agg [AV.b (ng a), (AV.l 1 (List.map n64 (E (Int.natAbs a))))]), (AV.agg [AV.b (ng b), (AV.l 1 (List.map n64 (E (Int.natAbs b))))])] = some (AV.agg [AV.b (ng (a * b)), (AV.l 1 (List.map n64 (E (Int.natAbs (a * b)))))]) := by
  have s1 := times_c hl
  have g1 := rmake_c (ng a != ng b) (a.natAbs * b.natAbs)
  rw [sv_xor_mul] at g1
  cases ha : ng a <;> cases hb : ng b <;> rw [ha, hb] at g1 <;> simp only [bne, boolq, Bool.not_true, Bool.not_false] at g1
  all_goals
    rw [R_go FF F43 c43.eq_1]
    simp only [RB, un, St.none, Nat.reduceEqDiff, Nat.reduceAdd, Nat.reduceMul, Nat.reduceLeDiff, Nat.reduceLT, Int.reduceLT, Int.reduceLE, Int.reduceEq, Int.reduceToNat, Int.reduceSub, Int.reduceNeg, Int.reduceAdd, ↓reduceIte, reduceCtorEq, ite_self, eq_self, if_true, if_false, pack, pid, parN, List.not_mem_nil, List.mem_cons, lid, chkK, apartV, List.map_nil, List.flatMap_nil, List.append_nil, List.nil_append, List.drop_zero, List.length_set, List.length_replicate, List.length_append, List.take_length, List.take_zero, List.drop_length, Option.isNone_none, Heap.none, s1, g1]
theorem ris_c {n k : Int} (hn : L n.natAbs ≤ 1000000000000) (hk : LE k.natAbs ≤ 35184372088832) : R FF 44 [(AV.agg [AV.b (ng n), (AV.l 1 (List.map u (D (Int.natAbs n))))]), (AV.agg [AV.b (ng k), (AV.l 1 (List.map n64 (E (Int.natAbs k))))])] = some (.b (decide (n = k))) := by
  have h1 := rright_c (D_U n.natAbs) (show L _ ≤ _ by omega)
  rw [W_D, decide_eq_true rfl] at h1
  have h2 := rfrom_c (q := ng n) (D_U n.natAbs) hn
  rw [wv_ci] at h2
  have h3 := rord_c (a := n) (b := k) (by have := LE_L n.natAbs; omega) hk
  have h4 : decide (cmp n k = 0) = decide (n = k) := decide_eq_decide.2 cmp_eq_iff
  have h5 : (D n.natAbs).length = L n.natAbs := rfl
  by_cases h0 : 0 < (L n.natAbs : Int)
  · rw [R_go FF F44 c44.eq_1]
    simp only [RB, un, St.none, Nat.reduceEqDiff, Nat.reduceAdd, Nat.reduceMul, Nat.reduceLeDiff, Nat.reduceLT, Int.reduceLT, Int.reduceLE, Int.reduceEq, Int.reduceToNat, Int.reduceSub, Int.reduceNeg, Int.reduceAdd, ↓reduceIte, reduceCtorEq, ite_self, eq_self, if_true, if_false, pack, pid, parN, List.not_mem_nil, List.mem_cons, lid, chkK, apartV, List.map_nil, List.flatMap_nil, List.append_nil, List.nil_append, List.drop_zero, List.length_set, List.length_replicate, List.length_append, List.take_length, List.take_zero, List.drop_length, Option.isNone_none, Heap.none, h1, h2, h3, h4, h5, h0]
  · have h6 := L_pos (k := n.natAbs)
    have h7 : n = 0 := by omega
    subst h7
    rw [ng_false.2 (Int.le_refl _)] at h2 h3
    rw [ng_false.2 (Int.le_refl _)]
    rw [R_go FF F44 c44.eq_1]
    simp only [RB, un, St.none, Nat.reduceEqDiff, Nat.reduceAdd, Nat.reduceMul, Nat.reduceLeDiff, Nat.reduceLT, Int.reduceLT, Int.reduceLE, Int.reduceEq, Int.reduceToNat, Int.reduceSub, Int.reduceNeg, Int.reduceAdd, ↓reduceIte, reduceCtorEq, ite_self, eq_self, if_true, if_false, pack, pid, parN, List.not_mem_nil, List.mem_cons, lid, chkK, apartV, List.map_nil, List.flatMap_nil, List.append_nil, List.nil_append, List.drop_zero, List.length_set, List.length_replicate, List.length_append, List.take_length, List.take_zero, List.drop_length, Option.isNone_none, Heap.none, h1, h2, h3, h4, h5, h0]
end Go.Pe
set_option linter.unusedSimpArgs false
set_option linter.unusedVariables false
open Go
namespace Go.Pe
theorem over_l1 {y r : Nat} (hy : 0 < y) (hy2 : LE y ≤ 1000000000000) (hr : LE r ≤ 1000000000000) (a out : List Int) (i : Nat) :
    ∀ (d lo hi : Nat), hi ≤ lo + d → lo < hi → hi ≤ 10000 → y * lo ≤ r → r < y * hi → LP FF [(6, 1), (0, 0), (1, 0), (7, 0), (8, 0), (10, 0), (11, 0)] [(6, 1), (0, 0), (1, 0), (7, 0), (8, 0), (10, 0)] b80_1 [.own true 1 (out.map n64), (AV.l 1 (List.map n64 a)), (AV.l 1 (List.map n64 (E y))), (AV.l 1 (List.map n64 (E r))), (AV.i .i64 ((i : Int))), (AV.i .i64 ((lo : Int))), (AV.i .i64 ((hi : Int)))] = some (.exit 2, [.own true 1 (out.map n64), (AV.l 1 (List.map n64 a)), (AV.l 1 (List.map n64 (E y))), (AV.l 1 (List.map n64 (E r))), (AV.i .i64 ((i : Int))), (AV.i .i64 (((r / y : Nat) : Int)))]) := by
  intro d
  induction d with
  | zero => intro lo hi h1 h2; omega
  | succ d ih =>
    intro lo hi h1 h2 h3 h4 h5
    have e0 : IntKind.i64.wrap ((hi : Int) - (lo : Int)) = ((hi - lo : Nat) : Int) := by rw [w64 (by omega) (by omega)]; omega
    by_cases hc : lo + 1 < hi
    · have c1 : 1 < ((hi - lo : Nat) : Int) := by omega
      have e1 : IntKind.i64.wrap ((lo : Int) + (hi : Int)) = ((lo + hi : Nat) : Int) := w64add (by omega)
      have e2 : IntKind.i64.wrap (Int.tdiv ((lo + hi : Nat) : Int) 2) = (((lo + hi) / 2 : Nat) : Int) := by rw [tdiv_pos (by omega), w64 (by omega) (by omega)]; omega
      have hm : (lo + hi) / 2 < hi := by omega
      have hm2 : lo < (lo + hi) / 2 := by omega
      generalize (lo + hi) / 2 = m at *
      have hl := LE_u64 (n := m) (by omega)
      have hl2 := LE_mul y m
      have s1 := small_c (x := (m : Int)) (n := m) rfl (by omega)
      have s2 := times_c (x := y) (y := m) (by omega)
      have s3 := rorder_c (m := y * m) (n := r) (by omega) (by omega)
      have hcm := cmp_le_iff (a := ((y * m : Nat) : Int)) (b := r)
      by_cases hle : y * m ≤ r
      · have h9 := ih m hi (by omega) hm h3 hle h5
        have c2 : cmp ((y * m : Nat) : Int) (r : Int) ≤ 0 := hcm.2 (by omega)
        rw [LP_go FF b80_1.eq_1]
        simp only [RB, un, St.none, Nat.reduceEqDiff, Nat.reduceAdd, Nat.reduceMul, Nat.reduceLeDiff, Nat.reduceLT, Int.reduceLT, Int.reduceLE, Int.reduceEq, Int.reduceToNat, Int.reduceSub, Int.reduceNeg, Int.reduceAdd, ↓reduceIte, reduceCtorEq, ite_self, eq_self, if_true, if_false, pack, pid, parN, List.not_mem_nil, List.mem_cons, lid, chkK, apartV, List.map_nil, List.flatMap_nil, List.append_nil, List.nil_append, List.drop_zero, List.length_set, List.length_replicate, List.length_append, List.take_length, List.take_zero, List.drop_length, Option.isNone_none, Heap.none, e0, c1, e1, e2, s1, s2, s3, c2]
        exact h9
      · have h9 := ih lo m (by omega) hm2 (by omega) h4 (by omega)
        have c2 : ¬ cmp ((y * m : Nat) : Int) (r : Int) ≤ 0 := fun h => hle (by have := hcm.1 h; omega)
        rw [LP_go FF b80_1.eq_1]
        simp only [RB, un, St.none, Nat.reduceEqDiff, Nat.reduceAdd, Nat.reduceMul, Nat.reduceLeDiff, Nat.reduceLT, Int.reduceLT, Int.reduceLE, Int.reduceEq, Int.reduceToNat, Int.reduceSub, Int.reduceNeg, Int.reduceAdd, ↓reduceIte, reduceCtorEq, ite_self, eq_self, if_true, if_false, pack, pid, parN, List.not_mem_nil, List.mem_cons, lid, chkK, apartV, List.map_nil, List.flatMap_nil, List.append_nil, List.nil_append, List.drop_zero, List.length_set, List.length_replicate, List.length_append, List.take_length, List.take_zero, List.drop_length, Option.isNone_none, Heap.none, e0, c1, e1, e2, s1, s2, s3, c2]
        exact h9
    · have hh : hi = lo + 1 := by omega
      subst hh
      have hq : r / y = lo := Nat.div_eq_of_lt_le (by rw [Nat.mul_comm]; exact h4) (by rw [Nat.mul_comm]; exact h5)
      have c1 : ¬ 1 < ((lo + 1 - lo : Nat) : Int) := by omega
      rw [hq]
      rw [LP_go FF b80_1.eq_1]
      simp only [RB, un, St.none, Nat.reduceEqDiff, Nat.reduceAdd, Nat.reduceMul, Nat.reduceLeDiff, Nat.reduceLT, Int.reduceLT, Int.reduceLE, Int.reduceEq, Int.reduceToNat, Int.reduceSub, Int.reduceNeg, Int.reduceAdd, ↓reduceIte, reduceCtorEq, ite_self, eq_self, if_true, if_false, pack, pid, parN, List.not_mem_nil, List.mem_cons, lid, chkK, apartV, List.map_nil, List.flatMap_nil, List.append_nil, List.nil_append, List.drop_zero, List.length_set, List.length_replicate, List.length_append, List.take_length, List.take_zero, List.drop_length, Option.isNone_none, Heap.none, e0, c1]
theorem vl_drop_E (m w : Nat) : Dg.vl 10000 ((E m).drop w) = ((m / 10000 ^ w : Nat) : Int) := by
  have h := Dg.vl_take_drop 10000 (E m) w
  rw [E_vl] at h
  have h0 := Dg.vl_nonneg ((E_dig m).take w) (by decide)
  have h1 := Dg.vl_lt ((E_dig m).take w) (by decide)
  have h2 := Dg.vl_nonneg ((E_dig m).drop w) (by decide)
  have h3 : 10000 ^ ((E m).take w).length ≤ 10000 ^ w := Nat.pow_le_pow_right (by decide) (by rw [List.length_take]; omega)
  obtain ⟨x, hx⟩ := Int.eq_ofNat_of_zero_le h0
  obtain ⟨y, hy⟩ := Int.eq_ofNat_of_zero_le h2
  rw [hx, hy] at h
  rw [hx] at h1
  have e : ∀ k : Nat, (10000 : Int) ^ k = ((10000 ^ k : Nat) : Int) := fun k => by rw [Int.natCast_pow]; rfl
  rw [e, ← Int.natCast_mul, ← Int.natCast_add] at h
  rw [e] at h1
  have h4 : m = x + 10000 ^ w * y := Int.ofNat_inj.1 h
  have h5 : x < 10000 ^ w := Nat.lt_of_lt_of_le (Int.ofNat_lt.1 h1) h3
  rw [hy, h4, Nat.add_mul_div_left _ _ (Nat.pow_pos (by decide)), Nat.div_eq_of_lt h5, Nat.zero_add]
theorem over_l0 {x y : Nat} (hy : 0 < y) (hx : LE x ≤ 1000000000 ) (hy2 : LE y ≤ 1000000000) :
    ∀ (n : Nat) (out : List Int), n ≤ LE x → out.length = LE x → Dg.Dig 10000 out → Dg.vl 10000 (out.drop n) = ((x / 10000 ^ n / y : Nat) : Int) →
    ∃ o, LP FF [(6, 1), (0, 0), (1, 0), (7, 0), (8, 0)] [(6, 0), (7, 0)] b80_0 [.own true 1 (out.map n64), (AV.l 1 (List.map n64 (E x))), (AV.l 1 (List.map n64 (E y))), (AV.l 1 (List.map n64 (E (x / 10000 ^ n % y)))), (AV.i .i64 ((n : Int) - 1))] = some (.exit 0, [(AV.l 1 (List.map n64 o)), (AV.l 1 (List.map n64 (E (x % y))))]) ∧ o.length = LE x ∧ Dg.Dig 10000 o ∧ Dg.vl 10000 o = ((x / y : Nat) : Int) := by
  intro n
  have hEx : (E x).length = LE x := rfl
  induction n with
  | zero =>
    intro out hn ho hd hv
    rw [Nat.pow_zero, Nat.div_one] at hv ⊢
    refine ⟨out, ?_, ho, hd, by rw [List.drop_zero] at hv; exact hv⟩
    rw [LP_go FF b80_0.eq_1]
    simp only [RB, un, St.none, Nat.reduceEqDiff, Nat.reduceAdd, Nat.reduceMul, Nat.reduceLeDiff, Nat.reduceLT, Int.reduceLT, Int.reduceLE, Int.reduceEq, Int.reduceToNat, Int.reduceSub, Int.reduceNeg, Int.reduceAdd, ↓reduceIte, reduceCtorEq, ite_self, eq_self, if_true, if_false, pack, pid, parN, List.not_mem_nil, List.mem_cons, lid, chkK, apartV, List.map_nil, List.flatMap_nil, List.append_nil, List.nil_append, List.drop_zero, List.length_set, List.length_replicate, List.length_append, List.take_length, List.take_zero, List.drop_length, Option.isNone_none, Heap.none]
  | succ n ih =>
    intro out hn ho hd hv
    have hg := E_get x n
    have hsp := Dg.vl_drop_succ 10000 (E x) n
    rw [vl_drop_E, vl_drop_E] at hsp
    have hpp : x / 10000 ^ (n + 1) = x / 10000 ^ n / 10000 := by rw [Nat.pow_succ, Nat.div_div_eq_div_mul]
    have e0 : ((n + 1 : Nat) : Int) - 1 = (n : Int) := by omega
    rw [hpp] at hv hsp ⊢
    have hdm := Nat.div_add_mod (x / 10000 ^ n / 10000) y
    have hrl := Nat.mod_lt (x / 10000 ^ n / 10000) hy
    have hLr : LE (x / 10000 ^ n / 10000 % y) ≤ LE y := LE_mono (by omega)
    have hELr : (E (x / 10000 ^ n / 10000 % y)).length = LE (x / 10000 ^ n / 10000 % y) := rfl
    have h10 : x / 10000 ^ n % 10000 = ((E x).getD n 0).toNat := by omega
    have hdm2 := Nat.div_add_mod (x / 10000 ^ n) 10000
    generalize hz : x / 10000 ^ n = z at *
    generalize hr : z / 10000 % y = r at *
    generalize hq : z / 10000 / y = q at *
    have hval : Dg.vl 10000 ((E x).getD n 0 :: E r) = ((z % 10000 + 10000 * r : Nat) : Int) := by
      rw [Dg.vl_cons, E_vl]
      omega
    have t1 := rtrim_c (Dg.Dig.cons hg.1 hg.2 (E_dig r)) (by rw [List.length_cons]; omega) hval
    -- z = y * (10000 q) + (z % 10000 + 10000 r)
    have hzz : z = z % 10000 + 10000 * r + y * (10000 * q) := by
      have : y * (10000 * q) = 10000 * (y * q) := by rw [Nat.mul_left_comm]
      omega
    have hmod : (z % 10000 + 10000 * r) % y = z % y := by
      conv => rhs; rw [hzz]
      rw [Nat.add_mul_mod_self_left]
    have hdiv : z / y = (z % 10000 + 10000 * r) / y + 10000 * q := by
      conv => lhs; rw [hzz]
      rw [Nat.add_mul_div_left _ _ hy]
    have hlt : z % 10000 + 10000 * r < y * 10000 := by omega
    have hqd : (z % 10000 + 10000 * r) / y < 10000 := (Nat.div_lt_iff_lt_mul hy).2 (by rw [Nat.mul_comm 10000 y]; exact hlt)
    have hLw : LE (z % 10000 + 10000 * r) ≤ LE (y * 10000) := LE_mono (by omega)
    have hLw2 := LE_mul y 10000
    have hLw3 := LE_u64 (n := 10000) (by omega)
    have h1 := over_l1 hy (by omega) (by omega) (r := z % 10000 + 10000 * r) (E x) out n 10000 0 10000 (by omega) (by omega) (by omega) (by omega) hlt
    have h9 := ih (out.set n (((z % 10000 + 10000 * r) / y : Nat) : Int)) (by omega) (by rw [List.length_set]; exact ho) (hd.set _ (Int.natCast_nonneg _) (Int.ofNat_lt.2 hqd)) (by
      rw [Dg.vl_drop_succ, Dg.vl_drop_set _ _ _ _ _ (Nat.lt_succ_self _), hv, Dg.getD_set _ _ _ _ (by omega), if_pos rfl, hdiv]
      omega)
    obtain ⟨o, h10', h11⟩ := h9
    refine ⟨o, ?_, h11⟩
    have hqy := Nat.div_add_mod (z % 10000 + 10000 * r) y
    have hqle : y * ((z % 10000 + 10000 * r) / y) ≤ z % 10000 + 10000 * r := Nat.mul_div_le _ _
    have hsub : z % 10000 + 10000 * r - y * ((z % 10000 + 10000 * r) / y) = z % y := by rw [← hmod]; omega
    have hLv := LE_mono hqle
    have hl := LE_u64 (n := (z % 10000 + 10000 * r) / y) (by omega)
    have hLe : LE (z % 10000 + 10000 * r) ≤ 2000000000 := by omega
    generalize hv' : (z % 10000 + 10000 * r) / y = v at *
    have s1 := small_c (x := (v : Int)) (n := v) rfl (by omega)
    have s2 := times_c (x := y) (y := v) (by omega)
    have s3 := minus_c (x := z % 10000 + 10000 * r) (y := y * v) hqle (by omega)
    rw [hsub] at s3
    have e3 : IntKind.i64.wrap ((n : Int) - 1) = (n : Int) - 1 := w64 (by omega) (by omega)
    have b1 : (1 + LE r) * 8 ≤ 140737488355328 := by omega
    have b2 : n < LE x := by omega
    rw [Int.ofNat_zero] at h1
    have b0 : ((10000 : Nat) : Int) = 10000 := rfl
    rw [b0] at h1
    clear hsp hval hzz hmod hdiv hlt hqd hLw hLw2 hLw3 hdm hdm2 hrl h10 hLr hpp hv hqy hqle hsub hLv hg
    have m1 : List.take (1 + LE r) ([n64 ((E x).getD n 0)] ++ List.map n64 (E r)) = List.map n64 ((E x).getD n 0 :: E r) := by
      rw [List.take_of_length_le (by simp only [List.length_append, List.length_map, List.length_singleton, hELr]; omega)]; rfl
    have b3 : (n : Int) < (LE x : Int) := by omega
    have m2 : List.take (LE x) (out.set n (v : Int)) = out.set n (v : Int) := List.take_of_length_le (by rw [List.length_set]; omega)
    have m3 : List.take (LE x) out = out := List.take_of_length_le (by omega)
    simp only [List.map_cons] at t1
    rw [LP_go FF b80_0.eq_1]
    simp only [RB, un, St.none, Nat.reduceEqDiff, Nat.reduceAdd, Nat.reduceMul, Nat.reduceLeDiff, Nat.reduceLT, Int.reduceLT, Int.reduceLE, Int.reduceEq, Int.reduceToNat, Int.reduceSub, Int.reduceNeg, Int.reduceAdd, ↓reduceIte, reduceCtorEq, ite_self, eq_self, if_true, if_false, pack, pid, parN, List.not_mem_nil, List.mem_cons, lid, chkK, apartV, List.map_nil, List.flatMap_nil, List.append_nil, List.nil_append, List.drop_zero, List.length_set, List.length_replicate, List.length_append, List.take_length, List.take_zero, List.drop_length, Option.isNone_none, Heap.none, e0, hEx, ho, hELr, b1, m1, t1, h1, s1, s2, s3, e3, b2, b3, Int.natCast_nonneg, List.length_map, m2, m3]
    exact h10'
theorem over_c {x y : Nat} (hy : y ≠ 0) (hx : LE x ≤ 1000000000) (hy2 : LE y ≤ 1000000000) : R FF 80 [(AV.l 1 (List.map n64 (E x))), (AV.l 1 (List.map n64 (E y)))] = some (.tup [(AV.l 1 (List.map n64 (E (x / y)))), (AV.l 1 (List.map n64 (E (x % y))))]) := by
  have hEx : (E x).length = LE x := rfl
  have h0 : x / 10000 ^ LE x = 0 := Nat.div_eq_of_lt (LE_lt x)
  obtain ⟨o, h1, h2, h3, h4⟩ := over_l0 (x := x) (y := y) (by omega) hx hy2 (LE x) (List.replicate (LE x) 0) (Nat.le_refl _) List.length_replicate (Dg.Dig.replicate (by decide) _) (by
    rw [List.drop_of_length_le (by rw [List.length_replicate]; exact Nat.le_refl _), h0, Nat.zero_div]; rfl)
  rw [h0, Nat.zero_mod, E_zero] at h1
  have t1 := rtrim_c h3 (by omega) h4
  have e1 : IntKind.i64.wrap ((LE x : Int) - 1) = (LE x : Int) - 1 := w64 (by omega) (by omega)
  have b1 : LE x * 8 ≤ 281474976710656 := by omega
  simp only [List.map_nil] at h1
  have m1 : List.take (LE x) (List.replicate (LE x) (0 : Int)) = List.replicate (LE x) 0 := List.take_of_length_le (by rw [List.length_replicate]; omega)
  rw [R_go FF F80 c80.eq_1]
  simp only [RB, un, St.none, Nat.reduceEqDiff, Nat.reduceAdd, Nat.reduceMul, Nat.reduceLeDiff, Nat.reduceLT, Int.reduceLT, Int.reduceLE, Int.reduceEq, Int.reduceToNat, Int.reduceSub, Int.reduceNeg, Int.reduceAdd, ↓reduceIte, reduceCtorEq, ite_self, eq_self, if_true, if_false, pack, pid, parN, List.not_mem_nil, List.mem_cons, lid, chkK, apartV, List.map_nil, List.flatMap_nil, List.append_nil, List.nil_append, List.drop_zero, List.length_set, List.length_replicate, List.length_append, List.take_length, List.take_zero, List.drop_length, Option.isNone_none, Heap.none, hEx, e1, b1, Int.natCast_nonneg, m1, h1, t1]
def dq (a b : Int) : Int := if (ng a != ng b) && decide (0 < a.natAbs % b.natAbs) then -((a.natAbs / b.natAbs : Nat) : Int) - 1 else sv (ng a != ng b) (a.natAbs / b.natAbs)
def dr (a b : Int) : Int := if (ng a != ng b) && decide (0 < a.natAbs % b.natAbs) then sv (ng b) (b.natAbs - a.natAbs % b.natAbs) else sv (ng b) (a.natAbs % b.natAbs)
theorem dr_eq {a b : Int} (hb : b ≠ 0) : dr a b = a - dq a b * b := by
  have h1 := Nat.div_add_mod a.natAbs b.natAbs
  have h2 := Nat.mod_lt a.natAbs (show 0 < b.natAbs by omega)
  unfold dr dq
  generalize a.natAbs / b.natAbs = Q at *
  generalize hR : a.natAbs % b.natAbs = R at *
  have h3 : ((a.natAbs : Nat) : Int) = (b.natAbs : Int) * (Q : Int) + (R : Int) := by rw [← Int.natCast_mul, ← Int.natCast_add, h1]
  cases ha : ng a <;> cases hb' : ng b <;> (first | rw [ng_true] at ha | rw [ng_false] at ha) <;> (first | rw [ng_true] at hb' | rw [ng_false] at hb') <;> simp only [bne, boolq, Bool.not_true, Bool.not_false, Bool.false_and, Bool.true_and, Bool.false_eq_true, if_false, decide_eq_true_eq, sv, if_true]
  · rw [show ((a.natAbs : Nat) : Int) = a by omega, show ((b.natAbs : Nat) : Int) = b by omega] at h3
    rw [h3, Int.mul_comm]
    omega
  · rw [show ((a.natAbs : Nat) : Int) = a by omega, show ((b.natAbs : Nat) : Int) = -b by omega] at h3
    rw [Int.neg_mul] at h3
    split
    · rw [Int.sub_mul, Int.neg_mul, Int.mul_comm (Q : Int)]
      omega
    · rw [Int.neg_mul, Int.mul_comm (Q : Int)]
      omega
  · rw [show ((a.natAbs : Nat) : Int) = -a by omega, show ((b.natAbs : Nat) : Int) = b by omega] at h3
    split
    · rw [Int.sub_mul, Int.neg_mul, Int.mul_comm (Q : Int)]
      omega
    · rw [Int.neg_mul, Int.mul_comm (Q : Int)]
      omega
  · rw [show ((a.natAbs : Nat) : Int) = -a by omega, show ((b.natAbs : Nat) : Int) = -b by omega] at h3
    rw [Int.neg_mul] at h3
    rw [Int.mul_comm (Q : Int)]
    omega
theorem dr_lt {a b : Int} (hb : b ≠ 0) : (dr a b).natAbs < b.natAbs := by
  have h2 := Nat.mod_lt a.natAbs (show 0 < b.natAbs by omega)
  unfold dr
  split
  · rename_i h
    rw [sv_abs]
    simp only [Bool.and_eq_true, decide_eq_true_eq] at h
    omega
  · rw [sv_abs]; exact h2
theorem dr_sign {a b : Int} (hb : b ≠ 0) : cmp (dr a b) 0 = 0 ∨ cmp (dr a b) 0 = cmp b 0 := by
  have key : ∀ k : Nat, cmp (sv (ng b) k) 0 = 0 ∨ cmp (sv (ng b) k) 0 = cmp b 0 := by
    intro k
    cases h : ng b
    · rw [ng_false] at h
      unfold sv cmp
      by_cases hk : k = 0
      · subst hk; simp
      · right
        simp only [Bool.false_eq_true, if_false]
        rw [if_neg (by omega), if_pos (by omega), if_neg (by omega), if_pos (by omega)]
    · rw [ng_true] at h
      unfold sv cmp
      by_cases hk : k = 0
      · subst hk; simp
      · right
        simp only [if_true]
        rw [if_pos (by omega), if_pos (by omega)]
  unfold dr
  split <;> exact key _
theorem dq_le {a b : Int} : (dq a b).natAbs ≤ a.natAbs + 1 := by
  have h1 := Nat.div_le_self a.natAbs b.natAbs
  unfold dq
  generalize a.natAbs / b.natAbs = Q at *
  split
  · omega
  · rw [sv_abs]; omega
theorem wdivmod_c {q r : Bool} {l m : List Int} (hu : U l) (hl : l.length ≤ 4398046511104) (hv : U m) (hm : m.length ≤ 4398046511104) : R FF 84 [(AV.agg [AV.b q, (AV.l 1 (List.map u l))]), (AV.agg [AV.b r, (AV.l 1 (List.map u m))])] =
    some (if wv r m = 0 then .tup [(AV.agg [AV.b (ng ((0 : Int))), (AV.l 1 (List.map u (D (Int.natAbs ((0 : Int))))))]), (AV.agg [AV.b (ng ((0 : Int))), (AV.l 1 (List.map u (D (Int.natAbs ((0 : Int))))))]), (AV.i .i64 2)] else .tup [(AV.agg [AV.b (ng (dq (wv q l) (wv r m))), (AV.l 1 (List.map u (D (Int.natAbs (dq (wv q l) (wv r m))))))]), (AV.agg [AV.b (ng (dr (wv q l) (wv r m))), (AV.l 1 (List.map u (D (Int.natAbs (dr (wv q l) (wv r m))))))]), (AV.i .i64 0)]) := by
  have h1 := wclean_c (q := q) hu (by omega)
  have h2 := wclean_c (q := r) hv (by omega)
  have l1 := wv_L q l
  have l2 := wv_L r m
  generalize wv q l = a at *
  generalize wv r m = b at *
  have d1 := divmod_D (a := a.natAbs) (b := b.natAbs) (by omega) (by omega)
  by_cases hb : b = 0
  · subst hb
    rw [if_pos rfl]
    rw [Int.natAbs_zero, if_pos rfl] at d1
    rw [ng_false.2 (Int.le_refl _)] at h2 ⊢
    simp only [Int.natAbs_zero, D_zero, List.map_nil] at h2 d1 ⊢
    rw [R_go FF F84 c84.eq_1]
    simp only [RB, un, St.none, Nat.reduceEqDiff, Nat.reduceAdd, Nat.reduceMul, Nat.reduceLeDiff, Nat.reduceLT, Int.reduceLT, Int.reduceLE, Int.reduceEq, Int.reduceToNat, Int.reduceSub, Int.reduceNeg, Int.reduceAdd, ↓reduceIte, reduceCtorEq, ite_self, eq_self, if_true, if_false, pack, pid, parN, List.not_mem_nil, List.mem_cons, lid, chkK, apartV, List.map_nil, List.flatMap_nil, List.append_nil, List.nil_append, List.drop_zero, List.length_set, List.length_replicate, List.length_append, List.take_length, List.take_zero, List.drop_length, Option.isNone_none, Heap.none, h1, h2, d1]
  · rw [if_neg hb]
    rw [if_neg (by omega)] at d1
    have h3 := Nat.mod_lt a.natAbs (show 0 < b.natAbs by omega)
    have lr := L_mono (Nat.le_of_lt h3)
    have lq := L_mono (Nat.div_le_self a.natAbs b.natAbs)
    have hr : (D (a.natAbs % b.natAbs)).length = L (a.natAbs % b.natAbs) := rfl
    have o1 := of_c (x := 1) (n := 1) (by omega) (by omega) rfl
    have lo := L_le (n := 1) (k := 1) (by decide)
    have a1 := add_D (m := a.natAbs / b.natAbs) (n := 1) (by omega) (by omega)
    have s1 := sub_ge (D_U b.natAbs) (D_U (a.natAbs % b.natAbs)) (show L _ ≤ _ by omega) (show L _ ≤ _ by omega) (by rw [W_D, W_D]; omega)
    rw [W_D, W_D] at s1
    have p1 := L_pos (k := a.natAbs % b.natAbs)
    have g1 : ∀ q k, R FF 92 [.b q, (AV.l 1 (List.map u (D k)))] = some (AV.agg [AV.b (ng (sv q k)), (AV.l 1 (List.map u (D (Int.natAbs (sv q k)))))]) := sign_c
    have eq1 : dq a b = if (ng a != ng b) && decide (0 < a.natAbs % b.natAbs) then sv true (a.natAbs / b.natAbs + 1) else sv (ng a != ng b) (a.natAbs / b.natAbs) := by
      unfold dq
      split
      · unfold sv; simp; omega
      · rfl
    rw [eq1]
    unfold dr
    by_cases hz : 0 < (L (a.natAbs % b.natAbs) : Int)
    · have hz' := p1.1 hz
      have hz2 : decide (0 < a.natAbs % b.natAbs) = true := decide_eq_true hz'
      cases ha : ng a <;> cases hb' : ng b <;> rw [ha] at h1 <;> rw [hb'] at h2 <;> simp only [bne, boolq, Bool.not_true, Bool.not_false, Bool.false_and, Bool.true_and, Bool.false_eq_true, if_false, hz2, if_true]
      all_goals
        rw [R_go FF F84 c84.eq_1]
        simp only [RB, un, St.none, Nat.reduceEqDiff, Nat.reduceAdd, Nat.reduceMul, Nat.reduceLeDiff, Nat.reduceLT, Int.reduceLT, Int.reduceLE, Int.reduceEq, Int.reduceToNat, Int.reduceSub, Int.reduceNeg, Int.reduceAdd, ↓reduceIte, reduceCtorEq, ite_self, eq_self, if_true, if_false, pack, pid, parN, List.not_mem_nil, List.mem_cons, lid, chkK, apartV, List.map_nil, List.flatMap_nil, List.append_nil, List.nil_append, List.drop_zero, List.length_set, List.length_replicate, List.length_append, List.take_length, List.take_zero, List.drop_length, Option.isNone_none, Heap.none, h1, h2, d1, hr, hz, o1, a1, s1, g1]
    · have hz2 : decide (0 < a.natAbs % b.natAbs) = false := decide_eq_false fun h => hz (p1.2 h)
      cases ha : ng a <;> cases hb' : ng b <;> rw [ha] at h1 <;> rw [hb'] at h2 <;> simp only [bne, boolq, Bool.not_true, Bool.not_false, Bool.false_and, Bool.true_and, Bool.and_false, Bool.false_eq_true, if_false, hz2, if_true]
      all_goals
        rw [R_go FF F84 c84.eq_1]
        simp only [RB, un, St.none, Nat.reduceEqDiff, Nat.reduceAdd, Nat.reduceMul, Nat.reduceLeDiff, Nat.reduceLT, Int.reduceLT, Int.reduceLE, Int.reduceEq, Int.reduceToNat, Int.reduceSub, Int.reduceNeg, Int.reduceAdd, ↓reduceIte, reduceCtorEq, ite_self, eq_self, if_true, if_false, pack, pid, parN, List.not_mem_nil, List.mem_cons, lid, chkK, apartV, List.map_nil, List.flatMap_nil, List.append_nil, List.nil_append, List.drop_zero, List.length_set, List.length_replicate, List.length_append, List.take_length, List.take_zero, List.drop_length, Option.isNone_none, Heap.none, h1, h2, d1, hr, hz, o1, a1, s1, g1]
theorem rover_c {a b : Int} (hb : b ≠ 0) (ha1 : LE a.natAbs ≤ 1000000) (hb1 : LE b.natAbs ≤ 1000000) : R FF 295 [(AV.agg [AV.b (ng a), (AV.l 1 (List.map n64 (E (Int.natAbs a))))]), (AV.agg [AV.b (ng b), (AV.l 1 (List.map n64 (E (Int.natAbs b))))])] = some (.tup [(AV.agg [AV.b (ng (dq a b)), (AV.l 1 (List.map n64 (E (Int.natAbs (dq a b)))))]), (AV.agg [AV.b (ng (dr a b)), (AV.l 1 (List.map n64 (E (Int.natAbs (dr a b)))))])]) := by
  have d1 := over_c (x := a.natAbs) (y := b.natAbs) (by omega) (by omega) (by omega)
  have hr : (E (a.natAbs % b.natAbs)).length = LE (a.natAbs % b.natAbs) := rfl
  have p1 : 0 < (LE (a.natAbs % b.natAbs) : Int) ↔ 0 < a.natAbs % b.natAbs := by
    have : LE (a.natAbs % b.natAbs) = 0 ↔ a.natAbs % b.natAbs = 0 := by
      show (E _).length = 0 ↔ _
      rw [List.length_eq_zero_iff, E_nil]
    omega
  have lq := LE_mono (Nat.div_le_self a.natAbs b.natAbs)
  have m1 := rmake_c (ng a != ng b) (a.natAbs / b.natAbs)
  have s1 := rsmall_c (x := -1) (by omega) (by omega)
  have ls : LE (-1 : Int).natAbs ≤ 5 := LE_u64 (by decide)
  have hdr := dr_eq (a := a) hb
  have x1 : dq a b = if (ng a != ng b) && decide (0 < a.natAbs % b.natAbs) then sv (ng a != ng b) (a.natAbs / b.natAbs) + -1 else sv (ng a != ng b) (a.natAbs / b.natAbs) := by
    unfold dq
    split
    · rename_i h
      simp only [Bool.and_eq_true] at h
      rw [h.1]
      unfold sv
      simp
      omega
    · rfl
  have lx : LE (dq a b).natAbs ≤ 2000000 := by
    have h1 := LE_mono (dq_le (a := a) (b := b))
    have h2 := LE_add a.natAbs 1
    have h3 := LE_u64 (n := 1) (by omega)
    omega
  have p2 := rplus_c (a := sv (ng a != ng b) (a.natAbs / b.natAbs)) (b := -1) (by rw [sv_abs]; omega) (by omega)
  have t1 := rtimes_c (a := dq a b) (b := b) (by omega)
  have lt : LE (dq a b * b).natAbs ≤ 4000000 := by
    rw [Int.natAbs_mul]
    have := LE_mul (dq a b).natAbs b.natAbs
    omega
  have n1 := rminus_c (dq a b * b)
  have p3 := rplus_c (a := a) (b := -(dq a b * b)) (by omega) (by rw [Int.natAbs_neg]; omega)
  rw [← Int.sub_eq_add_neg, ← hdr] at p3
  by_cases hz : 0 < (LE (a.natAbs % b.natAbs) : Int)
  · have hz2 : decide (0 < a.natAbs % b.natAbs) = true := decide_eq_true (p1.1 hz)
    rw [hz2, Bool.and_true] at x1
    cases hc : (ng a != ng b)
    · rw [hc] at m1 x1
      rw [if_neg (by simp)] at x1
      rw [← x1] at m1
      rw [R_go FF F295 c295.eq_1]
      cases ha : ng a <;> cases hb' : ng b <;> rw [ha, hb'] at hc <;> simp only [bne, boolq, Bool.not_true, Bool.not_false, reduceCtorEq] at hc
      all_goals
        rw [ha] at p3
        rw [hb'] at t1
        simp only [RB, un, St.none, Nat.reduceEqDiff, Nat.reduceAdd, Nat.reduceMul, Nat.reduceLeDiff, Nat.reduceLT, Int.reduceLT, Int.reduceLE, Int.reduceEq, Int.reduceToNat, Int.reduceSub, Int.reduceNeg, Int.reduceAdd, ↓reduceIte, reduceCtorEq, ite_self, eq_self, if_true, if_false, pack, pid, parN, List.not_mem_nil, List.mem_cons, lid, chkK, apartV, List.map_nil, List.flatMap_nil, List.append_nil, List.nil_append, List.drop_zero, List.length_set, List.length_replicate, List.length_append, List.take_length, List.take_zero, List.drop_length, Option.isNone_none, Heap.none, d1, hr, hz, m1, t1, n1, p3]
    · rw [hc] at m1 x1 p2
      rw [if_pos rfl] at x1
      rw [← x1] at p2
      rw [R_go FF F295 c295.eq_1]
      cases ha : ng a <;> cases hb' : ng b <;> rw [ha, hb'] at hc <;> simp only [bne, boolq, Bool.not_true, Bool.not_false, reduceCtorEq] at hc
      all_goals
        rw [ha] at p3
        rw [hb'] at t1
        simp only [RB, un, St.none, Nat.reduceEqDiff, Nat.reduceAdd, Nat.reduceMul, Nat.reduceLeDiff, Nat.reduceLT, Int.reduceLT, Int.reduceLE, Int.reduceEq, Int.reduceToNat, Int.reduceSub, Int.reduceNeg, Int.reduceAdd, ↓reduceIte, reduceCtorEq, ite_self, eq_self, if_true, if_false, pack, pid, parN, List.not_mem_nil, List.mem_cons, lid, chkK, apartV, List.map_nil, List.flatMap_nil, List.append_nil, List.nil_append, List.drop_zero, List.length_set, List.length_replicate, List.length_append, List.take_length, List.take_zero, List.drop_length, Option.isNone_none, Heap.none, d1, hr, hz, m1, s1, p2, t1, n1, p3]
  · have hz2 : decide (0 < a.natAbs % b.natAbs) = false := decide_eq_false fun h => hz (p1.2 h)
    rw [hz2, Bool.and_false, if_neg (by simp)] at x1
    rw [← x1] at m1
    rw [R_go FF F295 c295.eq_1]
    cases ha : ng a <;> cases hb' : ng b <;> rw [ha, hb'] at m1 <;> simp only [bne, boolq, Bool.not_true, Bool.not_false] at m1
    all_goals
      rw [ha] at p3
      rw [hb'] at t1
      simp only [RB, un, St.none, Nat.reduceEqDiff, Nat.reduceAdd, Nat.reduceMul, Nat.reduceLeDiff, Nat.reduceLT, Int.reduceLT, Int.reduceLE, Int.reduceEq, Int.reduceToNat, Int.reduceSub, Int.reduceNeg, Int.reduceAdd, ↓reduceIte, reduceCtorEq, ite_self, eq_self, if_true, if_false, pack, pid, parN, List.not_mem_nil, List.mem_cons, lid, chkK, apartV, List.map_nil, List.flatMap_nil, List.append_nil, List.nil_append, List.drop_zero, List.length_set, List.length_replicate, List.length_append, List.take_length, List.take_zero, List.drop_length, Option.isNone_none, Heap.none, d1, hr, hz, m1, t1, n1, p3]
end Go.Pe
set_option linter.unusedVariables false
namespace Go.Pe
abbrev maxL : Nat := 9223372036854775807
abbrev RI := Bool × List Int
def eI (x : RI) : List AV := [.b x.1, .l 1 (x.2.map u)]
def OkI (x : RI) : Prop := U x.2 ∧ x.2.length ≤ maxL
end Go.Pe
set_option linter.unusedSimpArgs false
set_option linter.unusedVariables false
open Go
namespace Go.Pe
theorem awake02 : R FF 48 [] = some (.b true) := (R_some FF).2 ⟨60, by kernel_rfl⟩
theorem take_U {l : List Int} (h : U l) (n : Nat) : U (l.take n) := fun x hx => h x (List.mem_of_mem_take hx)
theorem few02_c {q : Bool} {l : List Int} {x : Int} {n : Nat} (hx : x = (n : Int)) (hn : n ≤ 1000) (hl : l.length ≤ 9223372036854775807) : R FF 37 [(AV.agg [AV.b q, (AV.l 1 (List.map u l))]), (AV.i .i64 x)] = some (AV.agg [AV.b q, (AV.l 1 (List.map u (((l.take n)))))]) := by
  subst hx
  by_cases h : (n : Int) < (l.length : Int)
  · have h1 : (n : Int) ≤ (l.length : Int) := by omega
    rw [R_go FF F37 c37.eq_1]
    simp only [RB, un, St.none, Nat.reduceEqDiff, Nat.reduceAdd, Nat.reduceMul, Nat.reduceLeDiff, Nat.reduceLT, Int.reduceLT, Int.reduceLE, Int.reduceEq, Int.reduceToNat, Int.reduceSub, Int.reduceNeg, Int.reduceAdd, ↓reduceIte, reduceCtorEq, ite_self, eq_self, if_true, if_false, pack, pid, parN, List.not_mem_nil, List.mem_cons, lid, chkK, apartV, List.map_nil, List.flatMap_nil, List.append_nil, List.nil_append, List.drop_zero, List.length_set, List.length_replicate, List.length_append, List.take_length, List.take_zero, List.drop_length, Option.isNone_none, Heap.none, h, h1]
    simp (disch := omega) only [if_pos, if_neg, List.take_length, take_set_len, take_set2_len, take_rep_len, take_snoc_len, take_app_len]
  · rw [List.take_of_length_le (by omega)]
    rw [R_go FF F37 c37.eq_1]
    simp only [RB, un, St.none, Nat.reduceEqDiff, Nat.reduceAdd, Nat.reduceMul, Nat.reduceLeDiff, Nat.reduceLT, Int.reduceLT, Int.reduceLE, Int.reduceEq, Int.reduceToNat, Int.reduceSub, Int.reduceNeg, Int.reduceAdd, ↓reduceIte, reduceCtorEq, ite_self, eq_self, if_true, if_false, pack, pid, parN, List.not_mem_nil, List.mem_cons, lid, chkK, apartV, List.map_nil, List.flatMap_nil, List.append_nil, List.nil_append, List.drop_zero, List.length_set, List.length_replicate, List.length_append, List.take_length, List.take_zero, List.drop_length, Option.isNone_none, Heap.none, h]
theorem wholeQuotients_c {q r : Bool} {l m : List Int} (hu : U l) (hl : l.length ≤ 9223372036854775807) (hv : U m) (hm : m.length ≤ 9223372036854775807) : R FF 286 [(AV.agg [AV.b q, (AV.l 1 (List.map u l))]), (AV.agg [AV.b r, (AV.l 1 (List.map u m))])] = some (.b true) := by
  have f1 := few02_c (q := q) (x := 10) (n := 10) rfl (by omega) hl
  have f2 := few02_c (q := r) (x := 10) (n := 10) rfl (by omega) hm
  have u1 := take_U hu 10
  have u2 := take_U hv 10
  have b1 : (l.take 10).length ≤ 10 := List.length_take_le _ _
  have b2 : (m.take 10).length ≤ 10 := List.length_take_le _ _
  generalize l.take 10 = l at *
  generalize m.take 10 = m at *
  have c1 := wdivmod_c (q := q) (r := r) u1 (by omega) u2 (by omega)
  have c2 := rfrom_c (q := q) u1 (by omega)
  have c3 := rfrom_c (q := r) u2 (by omega)
  have c4 := wsign_c (q := r) u2 (by omega)
  have l1 := wv_L q l
  have l2 := wv_L r m
  generalize wv q l = a at *
  generalize wv r m = b at *
  have e1 := LE_L a.natAbs
  have e2 := LE_L b.natAbs
  have z1 := rsmall_c (x := 0) (by omega) (by omega)
  have z2 := L_le (n := (0 : Int).natAbs) (k := 0) (by decide)
  have z3 := LE_u64 (n := (0 : Int).natAbs) (by decide)
  have z4 := ris_c (n := 0) (k := 0) (by omega) (by omega)
  have hb0 : (E b.natAbs).length = LE b.natAbs := rfl
  have hb1 : (LE b.natAbs : Int) = 0 ↔ b = 0 := by
    have : LE b.natAbs = 0 ↔ b.natAbs = 0 := by
      show (E _).length = 0 ↔ _
      rw [List.length_eq_zero_iff, E_nil]
    omega
  rw [decide_eq_true rfl] at z4
  by_cases hb : b = 0
  · rw [if_pos hb] at c1
    have hb2 := hb1.2 hb
    rw [R_go FF F286 c286.eq_1]
    simp only [RB, un, St.none, Nat.reduceEqDiff, Nat.reduceAdd, Nat.reduceMul, Nat.reduceLeDiff, Nat.reduceLT, Int.reduceLT, Int.reduceLE, Int.reduceEq, Int.reduceToNat, Int.reduceSub, Int.reduceNeg, Int.reduceAdd, ↓reduceIte, reduceCtorEq, ite_self, eq_self, if_true, if_false, pack, pid, parN, List.not_mem_nil, List.mem_cons, lid, chkK, apartV, List.map_nil, List.flatMap_nil, List.append_nil, List.nil_append, List.drop_zero, List.length_set, List.length_replicate, List.length_append, List.take_length, List.take_zero, List.drop_length, Option.isNone_none, Heap.none, f1, f2, c1, c2, c3, hb0, hb2, z1, z4, awake02]
  · rw [if_neg hb] at c1
    have hb2 : ¬ (LE b.natAbs : Int) = 0 := fun h => hb (hb1.1 h)
    have c5 := rover_c (a := a) (b := b) hb (by omega) (by omega)
    have s1 : L (dq a b).natAbs ≤ 100 := by
      have h1 := L_mono (dq_le (a := a) (b := b))
      have h2 := L_add a.natAbs 1
      have h3 := L_le (n := 1) (k := 1) (by decide)
      omega
    have s2 : L (dr a b).natAbs ≤ 100 := by
      have h1 := L_mono (Nat.le_of_lt (dr_lt (a := a) hb))
      omega
    have s3 := LE_L (dq a b).natAbs
    have s4 := LE_L (dr a b).natAbs
    have i1 := ris_c (n := dq a b) (k := dq a b) (by omega) (by omega)
    have i2 := ris_c (n := dr a b) (k := dr a b) (by omega) (by omega)
    rw [decide_eq_true rfl] at i1 i2
    have c6 := wsign_c (q := ng (dr a b)) (D_U (dr a b).natAbs) (show L _ ≤ _ by omega)
    rw [wv_ci] at c6
    rcases dr_sign (a := a) hb with h | h
    · rw [R_go FF F286 c286.eq_1]
      simp only [RB, un, St.none, Nat.reduceEqDiff, Nat.reduceAdd, Nat.reduceMul, Nat.reduceLeDiff, Nat.reduceLT, Int.reduceLT, Int.reduceLE, Int.reduceEq, Int.reduceToNat, Int.reduceSub, Int.reduceNeg, Int.reduceAdd, ↓reduceIte, reduceCtorEq, ite_self, eq_self, if_true, if_false, pack, pid, parN, List.not_mem_nil, List.mem_cons, lid, chkK, apartV, List.map_nil, List.flatMap_nil, List.append_nil, List.nil_append, List.drop_zero, List.length_set, List.length_replicate, List.length_append, List.take_length, List.take_zero, List.drop_length, Option.isNone_none, Heap.none, f1, f2, c1, c2, c3, hb0, hb2, c5, i1, i2, c6, h, awake02]
    · by_cases h' : cmp b 0 = 0
      · rw [R_go FF F286 c286.eq_1]
        simp only [RB, un, St.none, Nat.reduceEqDiff, Nat.reduceAdd, Nat.reduceMul, Nat.reduceLeDiff, Nat.reduceLT, Int.reduceLT, Int.reduceLE, Int.reduceEq, Int.reduceToNat, Int.reduceSub, Int.reduceNeg, Int.reduceAdd, ↓reduceIte, reduceCtorEq, ite_self, eq_self, if_true, if_false, pack, pid, parN, List.not_mem_nil, List.mem_cons, lid, chkK, apartV, List.map_nil, List.flatMap_nil, List.append_nil, List.nil_append, List.drop_zero, List.length_set, List.length_replicate, List.length_append, List.take_length, List.take_zero, List.drop_length, Option.isNone_none, Heap.none, f1, f2, c1, c2, c3, hb0, hb2, c5, i1, i2, c6, h, h', c4, awake02]
      · rw [R_go FF F286 c286.eq_1]
        simp only [RB, un, St.none, Nat.reduceEqDiff, Nat.reduceAdd, Nat.reduceMul, Nat.reduceLeDiff, Nat.reduceLT, Int.reduceLT, Int.reduceLE, Int.reduceEq, Int.reduceToNat, Int.reduceSub, Int.reduceNeg, Int.reduceAdd, ↓reduceIte, reduceCtorEq, ite_self, eq_self, if_true, if_false, pack, pid, parN, List.not_mem_nil, List.mem_cons, lid, chkK, apartV, List.map_nil, List.flatMap_nil, List.append_nil, List.nil_append, List.drop_zero, List.length_set, List.length_replicate, List.length_append, List.take_length, List.take_zero, List.drop_length, Option.isNone_none, Heap.none, f1, f2, c1, c2, c3, hb0, hb2, c5, i1, i2, c6, h, h', c4, awake02]
theorem law_WholeQuotients (x : RI) (hx : OkI x) (y : RI) (hy : OkI y) : R FF 286 [.agg (eI x), .agg (eI y)] = some (.b true) := wholeQuotients_c hx.1 hx.2 hy.1 hy.2
end Go.Pe
set_option linter.unusedVariables false
set_option linter.unusedSimpArgs false
namespace Go.Pe
open Go
structure Pl where
  z : Nat
  n : Nat
  loc : Option (Nat × Nat)
abbrev Rho := Nat → Option Pl
def Rho.none : Rho := fun _ => .none
theorem add_at (b o n : Nat) : (⟨b, o, none⟩ : Addr).add n = ⟨b, o + n, none⟩ := by unfold Addr.add; split <;> simp_all
inductive Rv (w : World) (T : Nat → Prop) : Rho → AV → Value → Prop
  | junk {ρ v} : Rv w T ρ .junk v
  | b {ρ x} : Rv w T ρ (.b x) (.bool x)
  | i {ρ k n} : Rv w T ρ (.i k n) (.int k n)
  | s {ρ x} : Rv w T ρ (.s x) (.string x)
  | np {ρ} : Rv w T ρ .np (.pointer none)
  | ns {ρ z} : Rv w T ρ (.ns z) (.slice none 0 0)
  | lnil {ρ z a cap} (ha : a = none → cap = 0) (hm : cap ≤ maxLen) : Rv w T ρ (.l z []) (.slice a 0 cap)
  | l {ρ z es b base cap} (g : Nat → Nat → Value) (hT : ¬ T b) (hb : b < w.heap.size) (hc : es.length ≤ cap) (hm : cap ≤ maxLen) (hz : ∀ j, j < es.length → (es.getD j []).length = z)
      (hcell : ∀ j c, j < es.length → c < z → w.cell? ⟨b, base + j * z + c, none⟩ = some (g j c) ∧ (g j c).oneCell' = true)
      (hv : ∀ j c, j < es.length → c < z → Rv w T Rho.none ((es.getD j []).getD c .junk) (g j c)) : Rv w T ρ (.l z es) (.slice (some ⟨b, base, none⟩) es.length cap)
  | tp {ρ cs o b base} (g : Nat → Value) (hT : ¬ T b) (hb : b < w.heap.size)
      (hcell : ∀ c, c < cs.length → w.cell? ⟨b, base + c, none⟩ = some (g c) ∧ (g c).oneCell' = true)
      (hv : ∀ c, c < cs.length → Rv w T Rho.none (cs.getD c .junk) (g c)) : Rv w T ρ (.tp cs o) (.pointer (some ⟨b, base + o, none⟩))
  | sl {ρ r z o n m b base cap} (hr : ρ r = some ⟨z, m, some (b, base)⟩) (hn : o + n ≤ m) (hc : n ≤ cap) (hm : cap ≤ maxLen)
      (hs : ∃ cur e fr, w.heap[b]? = some (Obj.cells cur e fr) ∧ base + (o + cap) * z ≤ cur.size) : Rv w T ρ (.sl r z o n) (.slice (some ⟨b, base + o * z, none⟩) n cap)
  | slz {ρ r z o m b base off} (hr : ρ r = some ⟨z, m, some (b, base)⟩) (hn : o ≤ m) : Rv w T ρ (.sl r z o 0) (.slice (some ⟨b, off, none⟩) 0 0)
  | slnil {ρ r z} (hr : ρ r = some ⟨z, 0, none⟩) : Rv w T ρ (.sl r z 0 0) (.slice none 0 0)
  | p {ρ r e o z m b base} (hr : ρ r = some ⟨z, m, some (b, base)⟩) : Rv w T ρ (.p r e o) (.pointer (some ⟨b, base + e * z + o, none⟩))
  | agg {ρ cs} (vs : Array Value) (hl : vs.size = cs.length) (h1 : ∀ c, c < cs.length → (vs.getD c undef).oneCell' = true)
      (hv : ∀ c, c < cs.length → Rv w T ρ (cs.getD c .junk) (vs.getD c undef)) : Rv w T ρ (.agg cs) (.agg vs)
  | tup {ρ cs} (vs : Array Value) (hl : vs.size = cs.length) (hv : ∀ c, c < cs.length → Rv w T ρ (cs.getD c .junk) (vs.getD c undef)) : Rv w T ρ (.tup cs) (.tuple vs)
theorem Rv.lnil0 {w : World} {T : Nat → Prop} {ρ : Rho} {z : Nat} : Rv w T ρ (.l z []) (.slice none 0 0) := .lnil (fun _ => rfl) (Nat.zero_le _)
structure Same (T : Nat → Prop) (w w' : World) : Prop where
  size : w.heap.size ≤ w'.heap.size
  same : ∀ (b : Nat), b < w.heap.size → ¬ T b → w'.heap[b]? = w.heap[b]?
  shape : ∀ (b : Nat) cur e fr, w.heap[b]? = some (Obj.cells cur e fr) → ∃ cur', w'.heap[b]? = some (Obj.cells cur' e fr) ∧ cur'.size = cur.size
theorem Same.refl (T : Nat → Prop) (w : World) : Same T w w := ⟨Nat.le_refl _, fun _ _ _ => rfl, fun _ cur _ _ h => ⟨cur, h, rfl⟩⟩
theorem lt_of_cells {w : World} {b : Nat} {o : Obj} (h : w.heap[b]? = some o) : b < w.heap.size := (Array.getElem?_eq_some_iff.1 h).1
theorem Same.trans {T : Nat → Prop} {w w' w'' : World} (h : Same T w w') (k : Same T w' w'') : Same T w w'' := by
  refine ⟨Nat.le_trans h.size k.size, fun b hb ht => ?_, fun b cur e fr hb => ?_⟩
  · rw [k.same b (Nat.lt_of_lt_of_le hb h.size) ht, h.same b hb ht]
  · obtain ⟨c1, h1, s1⟩ := h.shape b cur e fr hb
    obtain ⟨c2, h2, s2⟩ := k.shape b c1 e fr h1
    exact ⟨c2, h2, s2.trans s1⟩
theorem Same.cell {T : Nat → Prop} {w w' : World} (h : Same T w w') {b o : Nat} (hb : b < w.heap.size) (ht : ¬ T b) : w'.cell? ⟨b, o, none⟩ = w.cell? ⟨b, o, none⟩ := by
  simp only [World.cell?, h.same b hb ht]
theorem Rv.mono {w w' : World} {T T' : Nat → Prop} (hk : Same T w w') (hT : ∀ b, b < w.heap.size → T' b → T b) {ρ : Rho} {av : AV} {v : Value} (h : Rv w T ρ av v) :
    ∀ {ρ' : Rho}, (∀ r p, ρ r = some p → ρ' r = some p) → Rv w' T' ρ' av v := by
  induction h with
  | junk => intro ρ' hρ; exact .junk
  | b => intro ρ' hρ; exact .b
  | i => intro ρ' hρ; exact .i
  | s => intro ρ' hρ; exact .s
  | np => intro ρ' hρ; exact .np
  | ns => intro ρ' hρ; exact .ns
  | lnil ha hm => intro ρ' hρ; exact .lnil ha hm
  | @l ρ z es b base cap g hTb hb hc hm hz hcell hv ih =>
    intro ρ' hρ
    refine .l g (fun h => hTb (hT b hb h)) (Nat.lt_of_lt_of_le hb hk.size) hc hm hz (fun j c hj hc => ?_) (fun j c hj hc => ih j c hj hc fun r p h => h)
    rw [hk.cell hb hTb]
    exact hcell j c hj hc
  | @tp ρ cs o b base g hTb hb hcell hv ih =>
    intro ρ' hρ
    refine .tp g (fun h => hTb (hT b hb h)) (Nat.lt_of_lt_of_le hb hk.size) (fun c hc => ?_) (fun c hc => ih c hc fun r p h => h)
    rw [hk.cell hb hTb]
    exact hcell c hc
  | sl hr hn hc hm hs =>
    intro ρ' hρ
    obtain ⟨cur, e, fr, h1, h2⟩ := hs
    obtain ⟨cur', h3, h4⟩ := hk.shape _ cur e fr h1
    exact .sl (hρ _ _ hr) hn hc hm ⟨cur', e, fr, h3, by rw [h4]; exact h2⟩
  | slz hr hn => intro ρ' hρ; exact .slz (hρ _ _ hr) hn
  | slnil hr => intro ρ' hρ; exact .slnil (hρ _ _ hr)
  | p hr => intro ρ' hρ; exact .p (hρ _ _ hr)
  | agg vs hl h1 hv ih => intro ρ' hρ; exact .agg vs hl h1 fun c hc => ih c hc hρ
  | tup vs hl hv ih => intro ρ' hρ; exact .tup vs hl fun c hc => ih c hc hρ
structure RowAt (w : World) (b base z : Nat) (es : List (List AV)) (R : AV → Value → Prop) : Prop where
  len : ∀ j, j < es.length → (es.getD j []).length = z
  cell : ∀ j c, j < es.length → c < z → ∃ v, w.cell? ⟨b, base + j * z + c, none⟩ = some v ∧ v.oneCell' = true ∧ R ((es.getD j []).getD c .junk) v
def RowOk (w : World) (T : Nat → Prop) (ρ : Rho) (r : Nat) : Row → Prop
  | .sl ap z es => (es = [] ∧ True ∧ ρ r = some ⟨z, 0, none⟩) ∨ ∃ b base cur e, ρ r = some ⟨z, es.length, some (b, base)⟩ ∧ T b ∧ w.heap[b]? = some (Obj.cells cur e (0, 0)) ∧ base + es.length * z ≤ cur.size ∧ (ap = true → base = 0) ∧ RowAt w b base z es (Rv w T Rho.none)
  | .st cs => ∃ b base cur e, ρ r = some ⟨cs.length, 1, some (b, base)⟩ ∧ T b ∧ w.heap[b]? = some (Obj.cells cur e (0, 0)) ∧ base + cs.length ≤ cur.size ∧ RowAt w b base cs.length [cs] (Rv w T ρ)
  | .fsl z es => (es = [] ∧ ρ r = some ⟨z, 0, none⟩) ∨ ∃ b base, ρ r = some ⟨z, es.length, some (b, base)⟩ ∧ ¬ T b ∧ b < w.heap.size ∧ RowAt w b base z es (Rv w T Rho.none)
  | .fst cs => ∃ b base, ρ r = some ⟨cs.length, 1, some (b, base)⟩ ∧ ¬ T b ∧ b < w.heap.size ∧ RowAt w b base cs.length [cs] (Rv w T ρ)
  | .dead => True
theorem RowAt.mono {w w' : World} {b base z : Nat} {es : List (List AV)} {R R' : AV → Value → Prop} (h : RowAt w b base z es R) (hc : ∀ o, w'.cell? ⟨b, o, none⟩ = w.cell? ⟨b, o, none⟩) (hR : ∀ av v, R av v → R' av v) : RowAt w' b base z es R' := by
  refine ⟨h.len, fun j c hj hc' => ?_⟩
  obtain ⟨v, h1, h2, h3⟩ := h.cell j c hj hc'
  exact ⟨v, by rw [hc]; exact h1, h2, hR _ _ h3⟩
end Go.Pe
set_option linter.unusedVariables false
set_option linter.unusedSimpArgs false
namespace Go.Pe
open Go
def Row.live : Row → Bool
  | .sl _ _ _ | .st _ => true
  | _ => false
def Row.isAp : Row → Bool
  | .sl ap _ _ => ap
  | _ => false
structure Keeps (W : Nat → Nat → Prop) (w w' : World) : Prop where
  os : w'.os = w.os
  tape : w'.tape = w.tape
  output : w'.output = w.output
  size : w.heap.size ≤ w'.heap.size
  block : ∀ (b : Nat), b < w.heap.size → w'.heap[b]? = w.heap[b]? ∨ ∃ c c' e fr, w.heap[b]? = some (Obj.cells c e fr) ∧ w'.heap[b]? = some (Obj.cells c' e fr) ∧ c'.size = c.size ∧ ∀ o : Nat, ¬ W b o → c'[o]? = c[o]?
theorem Keeps.refl (W : Nat → Nat → Prop) (w : World) : Keeps W w w := ⟨rfl, rfl, rfl, Nat.le_refl _, fun _ _ => .inl rfl⟩
theorem Keeps.trans {W W' : Nat → Nat → Prop} {w w' w'' : World} (h : Keeps W w w') (k : Keeps W' w' w'') (hW : ∀ b o, b < w.heap.size → W' b o → W b o) : Keeps W w w'' := by
  refine ⟨k.os.trans h.os, k.tape.trans h.tape, k.output.trans h.output, Nat.le_trans h.size k.size, fun b hb => ?_⟩
  rcases h.block b hb with h1 | ⟨c, c', e, fr, h1, h2, h3, h4⟩
  · rcases k.block b (Nat.lt_of_lt_of_le hb h.size) with k1 | ⟨d, d', e', fr', k1, k2, k3, k4⟩
    · exact .inl (k1.trans h1)
    · exact .inr ⟨d, d', e', fr', h1.symm.trans k1, k2, k3, fun o ho => k4 o fun hw => ho (hW b o hb hw)⟩
  · rcases k.block b (Nat.lt_of_lt_of_le hb h.size) with k1 | ⟨d, d', e', fr', k1, k2, k3, k4⟩
    · exact .inr ⟨c, c', e, fr, h1, k1.trans h2, h3, h4⟩
    · rw [h2] at k1
      cases k1
      exact .inr ⟨c, d', _, _, h1, k2, k3.trans h3, fun o ho => (k4 o fun hw => ho (hW b o hb hw)).trans (h4 o ho)⟩
theorem Keeps.same {W : Nat → Nat → Prop} {T : Nat → Prop} {w w' : World} (h : Keeps W w w') (hW : ∀ b o, b < w.heap.size → W b o → T b) : Same T w w' := by
  refine ⟨h.size, fun b hb ht => ?_, fun b cur e fr hb => ?_⟩
  · rcases h.block b hb with h1 | ⟨c, c', e, fr, h1, h2, h3, h4⟩
    · exact h1
    · rw [h1, h2]
      have : c' = c := by
        apply Array.ext_getElem?
        intro o
        exact h4 o fun hw => ht (hW b o hb hw)
      rw [this]
  · rcases h.block b (lt_of_cells hb) with h1 | ⟨c, c', e', fr', h1, h2, h3, h4⟩
    · exact ⟨cur, h1.trans hb, rfl⟩
    · rw [hb] at h1
      cases h1
      exact ⟨c', h2, h3⟩
structure Old (w w' : World) : Prop where
  os : w'.os = w.os
  tape : w'.tape = w.tape
  output : w'.output = w.output
  size : w.heap.size ≤ w'.heap.size
  block : ∀ (b : Nat), b < w.heap.size → w'.heap[b]? = w.heap[b]?
theorem Old.refl (w : World) : Old w w := ⟨rfl, rfl, rfl, Nat.le_refl _, fun _ _ => rfl⟩
theorem Old.keeps {w w' : World} (h : Old w w') (W : Nat → Nat → Prop) : Keeps W w w' := ⟨h.os, h.tape, h.output, h.size, fun b hb => .inl (h.block b hb)⟩
theorem Old.same {w w' : World} (h : Old w w') (T : Nat → Prop) : Same T w w' := (h.keeps fun _ _ => False).same fun _ _ _ h => h.elim
theorem Old.cell {w w' : World} (h : Old w w') {b o : Nat} (hb : b < w.heap.size) : w'.cell? ⟨b, o, none⟩ = w.cell? ⟨b, o, none⟩ := by simp only [World.cell?, h.block b hb]
theorem Old.trans {w w' w'' : World} (h : Old w w') (k : Old w' w'') : Old w w'' := ⟨k.os.trans h.os, k.tape.trans h.tape, k.output.trans h.output, Nat.le_trans h.size k.size, fun b hb => (k.block b (Nat.lt_of_lt_of_le hb h.size)).trans (h.block b hb)⟩
theorem Old.alloc (w : World) (o : Obj) : Old w (w.alloc o) := ⟨rfl, rfl, rfl, by simp, fun b hb => Go.RowKit.Below.heap_alloc w o b hb⟩
theorem Old.drew (w : World) : Old w w.drew := ⟨rfl, rfl, rfl, Nat.le_refl _, fun _ _ => rfl⟩
theorem RowOk.lt {w : World} {T : Nat → Prop} {ρ : Rho} {r : Nat} {x : Row} (h : RowOk w T ρ r x) (hx : x ≠ .dead) : ∀ p b base, ρ r = some p → p.loc = some (b, base) → b < w.heap.size := by
  intro p b base hp hl
  cases x with
  | sl ap z es =>
    rcases h with ⟨_, _, h⟩ | ⟨b', base', cur, e, h, _, hc, _⟩
    · rw [h] at hp; cases hp; cases hl
    · rw [h] at hp; cases hp; cases hl; exact lt_of_cells hc
  | st cs =>
    obtain ⟨b', base', cur, e, h, _, hc, _⟩ := h
    rw [h] at hp; cases hp; cases hl; exact lt_of_cells hc
  | fsl z es =>
    rcases h with ⟨_, h⟩ | ⟨b', base', h, _, hc, _⟩
    · rw [h] at hp; cases hp; cases hl
    · rw [h] at hp; cases hp; cases hl; exact hc
  | fst cs =>
    obtain ⟨b', base', h, _, hc, _⟩ := h
    rw [h] at hp; cases hp; cases hl; exact hc
  | dead => exact absurd rfl hx
theorem RowOk.inT {w : World} {T : Nat → Prop} {ρ : Rho} {r : Nat} {x : Row} (h : RowOk w T ρ r x) (hx : x.live = true) : ∀ p b base, ρ r = some p → p.loc = some (b, base) → T b := by
  intro p b base hp hl
  cases x with
  | sl ap z es =>
    rcases h with ⟨_, _, h⟩ | ⟨b', base', cur, e, h, ht, _⟩
    · rw [h] at hp; cases hp; cases hl
    · rw [h] at hp; cases hp; cases hl; exact ht
  | st cs =>
    obtain ⟨b', base', cur, e, h, ht, _⟩ := h
    rw [h] at hp; cases hp; cases hl; exact ht
  | fsl => cases hx
  | fst => cases hx
  | dead => cases hx
theorem RowOk.mono {w w' : World} {T T' : Nat → Prop} {ρ ρ' : Rho} {r : Nat} {x : Row} (h : RowOk w T ρ r x) (hs : Same T w w') (hT : ∀ b, b < w.heap.size → T' b → T b) (hρ : ∀ q p, ρ q = some p → ρ' q = some p)
    (hb : ∀ p b base, ρ r = some p → p.loc = some (b, base) → x.live = true → w'.heap[b]? = w.heap[b]? ∧ T' b) : RowOk w' T' ρ' r x := by
  have hR : ∀ av v, Rv w T Rho.none av v → Rv w' T' Rho.none av v := fun av v h => h.mono hs hT fun _ _ h => h
  have hR' : ∀ av v, Rv w T ρ av v → Rv w' T' ρ' av v := fun av v h => h.mono hs hT hρ
  cases x with
  | sl ap z es =>
    rcases h with ⟨h1, h2, h3⟩ | ⟨b, base, cur, e, h1, h2, h3, h4, h5, h6⟩
    · exact .inl ⟨h1, h2, hρ _ _ h3⟩
    · obtain ⟨k1, k2⟩ := hb _ _ _ h1 rfl rfl
      exact .inr ⟨b, base, cur, e, hρ _ _ h1, k2, k1.trans h3, h4, h5, h6.mono (fun o => by simp only [World.cell?, k1]) hR⟩
  | st cs =>
    obtain ⟨b, base, cur, e, h1, h2, h3, h4, h5⟩ := h
    obtain ⟨k1, k2⟩ := hb _ _ _ h1 rfl rfl
    exact ⟨b, base, cur, e, hρ _ _ h1, k2, k1.trans h3, h4, h5.mono (fun o => by simp only [World.cell?, k1]) hR'⟩
  | fsl z es =>
    rcases h with ⟨h1, h2⟩ | ⟨b, base, h1, h2, h3, h4⟩
    · exact .inl ⟨h1, hρ _ _ h2⟩
    · exact .inr ⟨b, base, hρ _ _ h1, fun h => h2 (hT b h3 h), Nat.lt_of_lt_of_le h3 hs.size, h4.mono (fun o => hs.cell h3 h2) hR⟩
  | fst cs =>
    obtain ⟨b, base, h1, h2, h3, h4⟩ := h
    exact ⟨b, base, hρ _ _ h1, fun h => h2 (hT b h3 h), Nat.lt_of_lt_of_le h3 hs.size, h4.mono (fun o => hs.cell h3 h2) hR'⟩
  | dead => trivial
structure Fr where
  w0 : World
  W0 : Nat → Nat → Prop
  T0 : Nat → Prop
  lids : List Nat
  pl0 : Nat → Pl
  tabs : List (Nat × List AV)
structure WInv (f : Fr) (w : World) (T : Nat → Prop) (ρ : Rho) (h : Heap) : Prop where
  keeps : Keeps f.W0 f.w0 w
  tlt : ∀ b, T b → b < w.heap.size
  rows : ∀ r x, h r = some x → RowOk w T ρ r x
  dom : ∀ r, h r = none → ρ r = none
  sep : ∀ r r' x x', r ≠ r' → h r = some x → h r' = some x' → x.live = true → x'.live = true → ∀ p p' b base b' base', ρ r = some p → ρ r' = some p' → p.loc = some (b, base) → p'.loc = some (b', base') → b ≠ b'
  wr : ∀ r x p b base, h r = some x → x.live = true → ρ r = some p → p.loc = some (b, base) → f.w0.heap.size ≤ b ∨ ((∀ o, base ≤ o → o < base + p.n * p.z → f.W0 b o) ∧ (x.isAp = true → ∀ o, f.W0 b o))
  t0 : ∀ b, f.T0 b → T b ∨ ∃ r ∈ f.lids, ∀ x, h r = some x → x.live = false
  lp : ∀ r ∈ f.lids, ρ r = some (f.pl0 r)
  own : ∀ r x p b base, r ∉ f.lids → h r = some x → x.live = true → ρ r = some p → p.loc = some (b, base) → f.w0.heap.size ≤ b
  t0lt : ∀ b, f.T0 b → b < f.w0.heap.size
  la : ∀ r ∈ f.lids, ∀ x, h r = some x → x.isAp = false
  tab : ∀ p ∈ f.tabs, Rv w T Rho.none (.tp p.2 0) (.pointer (some ⟨p.1, 0, none⟩))
structure Goes (w w' : World) (T T' : Nat → Prop) (ρ ρ' : Rho) : Prop where
  same : Same T w w'
  less : ∀ b, b < w.heap.size → T' b → T b
  more : ∀ r p, ρ r = some p → ρ' r = some p
theorem Goes.refl (w : World) (T : Nat → Prop) (ρ : Rho) : Goes w w T T ρ ρ := ⟨Same.refl _ _, fun _ _ h => h, fun _ _ h => h⟩
theorem Goes.rv {w w' : World} {T T' : Nat → Prop} {ρ ρ' : Rho} (g : Goes w w' T T' ρ ρ') {av : AV} {v : Value} (h : Rv w T ρ av v) : Rv w' T' ρ' av v := h.mono g.same g.less g.more
theorem Goes.rv0 {w w' : World} {T T' : Nat → Prop} {ρ ρ' : Rho} (g : Goes w w' T T' ρ ρ') {av : AV} {v : Value} (h : Rv w T Rho.none av v) : Rv w' T' Rho.none av v := h.mono g.same g.less fun _ _ h => h
theorem Goes.trans {w w' w'' : World} {T T' T'' : Nat → Prop} {ρ ρ' ρ'' : Rho} (h : Goes w w' T T' ρ ρ') (k : Goes w' w'' T' T'' ρ' ρ'') : Goes w w'' T T'' ρ ρ'' := by
  refine ⟨⟨Nat.le_trans h.same.size k.same.size, fun b hb ht => ?_, fun b cur e fr hb => ?_⟩, fun b hb ht => h.less b hb (k.less b (Nat.lt_of_lt_of_le hb h.same.size) ht), fun r p hp => k.more r p (h.more r p hp)⟩
  · rw [k.same.same b (Nat.lt_of_lt_of_le hb h.same.size) (fun h' => ht (h.less b hb h')), h.same.same b hb ht]
  · obtain ⟨c1, h1, s1⟩ := h.same.shape b cur e fr hb
    obtain ⟨c2, h2, s2⟩ := k.same.shape b c1 e fr h1
    exact ⟨c2, h2, s2.trans s1⟩
section
variable {f : Fr} {w : World} {T : Nat → Prop} {ρ : Rho} {h : Heap}
theorem WInv.old (k : WInv f w T ρ h) {w' : World} (ho : Old w w') : WInv f w' T ρ h := by
  refine ⟨k.keeps.trans (ho.keeps fun _ _ => False) (fun _ _ _ h => h.elim), fun b hb => Nat.lt_of_lt_of_le (k.tlt b hb) ho.size, fun r x hx => ?_, k.dom, k.sep, k.wr, k.t0, k.lp, k.own, k.t0lt, k.la, fun p hp => (k.tab p hp).mono (ho.same T) (fun _ _ h => h) fun _ _ h => h⟩
  exact (k.rows r x hx).mono (ho.same T) (fun _ _ h => h) (fun _ _ h => h) fun p b base hp hl hlv => ⟨ho.block b (k.tlt b ((k.rows r x hx).inT hlv p b base hp hl)), (k.rows r x hx).inT hlv p b base hp hl⟩
theorem Goes.old {w' : World} (ho : Old w w') : Goes w w' T T ρ ρ := ⟨ho.same T, fun _ _ h => h, fun _ _ h => h⟩
theorem WInv.new' (k : WInv f w T ρ h) {w' : World} (ho : Old w w') {id : Nat} (hid : h id = none) {x : Row} {z n base : Nat} (hsz : w.heap.size < w'.heap.size)
    {b : Nat} (hb : w.heap.size ≤ b) (hb' : b < w'.heap.size)
    (hx : RowOk w' (fun a => T a ∨ a = b) (fun r => if r = id then some ⟨z, n, some (b, base)⟩ else ρ r) id x) :
    WInv f w' (fun a => T a ∨ a = b) (fun r => if r = id then some ⟨z, n, some (b, base)⟩ else ρ r) (h.put id x) ∧ Goes w w' T (fun a => T a ∨ a = b) ρ (fun r => if r = id then some ⟨z, n, some (b, base)⟩ else ρ r) := by
  have more : ∀ r p, ρ r = some p → (if r = id then some ⟨z, n, some (b, base)⟩ else ρ r) = some p := by
    intro r p hp
    split
    · rename_i hr
      subst hr
      rw [k.dom _ hid] at hp
      cases hp
    · exact hp
  have less : ∀ a, a < w.heap.size → (T a ∨ a = b) → T a := fun a ha ht => ht.elim (fun h => h) fun e => by omega
  refine ⟨⟨k.keeps.trans (ho.keeps fun _ _ => False) (fun _ _ _ h => h.elim), ?_, ?_, ?_, ?_, ?_, ?_, ?_, ?_, k.t0lt, fun r hr y hy => by
    simp only [Heap.put] at hy
    split at hy
    · rename_i e
      subst e
      have := k.lp r hr
      rw [k.dom r hid] at this
      cases this
    · exact k.la r hr y hy, fun p hp => (k.tab p hp).mono (ho.same T) less fun _ _ h => h⟩, ho.same T, less, more⟩
  · rintro a (ha | rfl)
    · exact Nat.lt_of_lt_of_le (k.tlt a ha) ho.size
    · exact hb'
  · intro r y hy
    simp only [Heap.put] at hy
    split at hy
    · rename_i hr
      subst hr
      cases hy
      exact hx
    · rename_i hr
      exact (k.rows r y hy).mono (ho.same T) less more fun p b base hp hl hlv => ⟨ho.block b (k.tlt b ((k.rows r y hy).inT hlv p b base hp hl)), .inl ((k.rows r y hy).inT hlv p b base hp hl)⟩
  · intro r hr
    simp only [Heap.put] at hr
    split at hr
    · cases hr
    · rename_i hne
      simp only [hne, if_false]
      exact k.dom r hr
  · intro r r' y y' hne hy hy' hl hl' p p' c base c' base' hp hp' hc hc'
    simp only [Heap.put] at hy hy'
    by_cases h1 : r = id
    · by_cases h2 : r' = id
      · exact absurd (h1.trans h2.symm) hne
      · rw [if_pos h1] at hp
        cases hp
        cases hc
        rw [if_neg h2] at hp' hy'
        have := k.tlt c' ((k.rows r' y' hy').inT hl' p' c' base' hp' hc')
        omega
    · by_cases h2 : r' = id
      · rw [if_pos h2] at hp'
        cases hp'
        cases hc'
        rw [if_neg h1] at hp hy
        have := k.tlt c ((k.rows r y hy).inT hl p c base hp hc)
        omega
      · rw [if_neg h1] at hp hy
        rw [if_neg h2] at hp' hy'
        exact k.sep r r' y y' hne hy hy' hl hl' p p' c base c' base' hp hp' hc hc'
  · intro r y p c base hy hl hp hc
    simp only [Heap.put] at hy
    by_cases h1 : r = id
    · rw [if_pos h1] at hp
      cases hp
      cases hc
      have := k.keeps.size
      exact .inl (by omega)
    · rw [if_neg h1] at hp hy
      exact k.wr r y p c base hy hl hp hc
  · intro a ha
    rcases k.t0 a ha with h1 | ⟨r, hr, hx⟩
    · exact .inl (.inl h1)
    · refine .inr ⟨r, hr, fun x hx' => ?_⟩
      simp only [Heap.put] at hx'
      split at hx'
      · rename_i e
        subst e
        have := k.lp r hr
        rw [k.dom r hid] at this
        cases this
      · exact hx x hx'
  · intro r hr
    exact more _ _ (k.lp r hr)
  · intro r y p c base hr hy hl hp hc
    simp only [Heap.put] at hy
    by_cases h1 : r = id
    · rw [if_pos h1] at hp
      cases hp
      cases hc
      have h2 := k.keeps.size
      omega
    · rw [if_neg h1] at hp hy
      exact k.own r y p c base hr hy hl hp hc
theorem WInv.new (k : WInv f w T ρ h) {w' : World} (ho : Old w w') {id : Nat} (hid : h id = none) {x : Row} {z n base : Nat} (hsz : w.heap.size < w'.heap.size)
    {b : Nat} (hb : w.heap.size ≤ b) (hb' : b < w'.heap.size)
    (hx : ∀ T' ρ', T' b → (∀ a, a < w.heap.size → T' a → T a) → (∀ r p, ρ r = some p → ρ' r = some p) → ρ' id = some ⟨z, n, some (b, base)⟩ → RowOk w' T' ρ' id x) :
    WInv f w' (fun a => T a ∨ a = b) (fun r => if r = id then some ⟨z, n, some (b, base)⟩ else ρ r) (h.put id x) ∧ Goes w w' T (fun a => T a ∨ a = b) ρ (fun r => if r = id then some ⟨z, n, some (b, base)⟩ else ρ r) := by
  refine k.new' ho hid hsz hb hb' (hx _ _ (.inr rfl) (fun a ha ht => ht.elim (fun h => h) fun e => by omega) (fun r p hp => ?_) (if_pos rfl))
  show (if r = id then some (⟨z, n, some (b, base)⟩ : Pl) else ρ r) = some p
  split
  · rename_i hr
    subst hr
    rw [k.dom _ hid] at hp
    cases hp
  · exact hp
end
end Go.Pe
set_option linter.unusedVariables false
set_option linter.unusedSimpArgs false
namespace Go.Pe
open Go
def rowBlk (h : Heap) (ρ : Rho) (r b : Nat) : Prop := ∃ x p base, h r = some x ∧ x.live = true ∧ ρ r = some p ∧ p.loc = some (b, base)
theorem freeze_live {x : Row} : x.freeze.live = false := by cases x <;> rfl
section
variable {f : Fr} {w : World} {T : Nat → Prop} {ρ : Rho} {h : Heap}
theorem WInv.freeze1 (k : WInv f w T ρ h) (r : Nat) :
    WInv f w (fun b => T b ∧ ¬ rowBlk h ρ r b) ρ (fun q => if q = r then (h q).map Row.freeze else h q) ∧ Goes w w T (fun b => T b ∧ ¬ rowBlk h ρ r b) ρ ρ := by
  have less : ∀ b, b < w.heap.size → (T b ∧ ¬ rowBlk h ρ r b) → T b := fun b _ hb => hb.1
  have hmap : ∀ q x, (if q = r then (h q).map Row.freeze else h q) = some x → (q ≠ r ∧ h q = some x) ∨ (q = r ∧ ∃ y, h r = some y ∧ x = y.freeze) := by
    intro q x hx
    split at hx
    · rename_i hq
      subst hq
      cases hy : h q with
      | none => rw [hy] at hx; cases hx
      | some y => rw [hy] at hx; exact .inr ⟨rfl, y, rfl, (Option.some.inj hx).symm⟩
    · rename_i hq
      exact .inl ⟨hq, hx⟩
  have hlive : ∀ q x, (if q = r then (h q).map Row.freeze else h q) = some x → x.live = true → q ≠ r ∧ h q = some x := by
    intro q x hx hl
    rcases hmap q x hx with h1 | ⟨_, y, _, rfl⟩
    · exact h1
    · rw [freeze_live] at hl
      cases hl
  refine ⟨⟨k.keeps, fun b hb => k.tlt b hb.1, ?_, ?_, ?_, ?_, ?_, k.lp, ?_, k.t0lt, fun q hq x hx => by
    rcases hmap q x hx with ⟨_, h1⟩ | ⟨_, y, _, rfl⟩
    · exact k.la q hq x h1
    · cases y <;> rfl, fun p hp => (k.tab p hp).mono (Same.refl _ _) less fun _ _ h => h⟩, Same.refl _ _, less, fun _ _ h => h⟩
  · intro q x hx
    rcases hmap q x hx with ⟨hq, hy⟩ | ⟨rfl, y, hy, rfl⟩
    · refine (k.rows q x hy).mono (Same.refl _ _) less (fun _ _ h => h) fun p b base hp hl hlv => ⟨rfl, (k.rows q x hy).inT hlv p b base hp hl, ?_⟩
      rintro ⟨z, p', base', hz, hzl, hp', hl'⟩
      exact k.sep q r x z hq hy hz hlv hzl p p' b base b base' hp hp' hl hl' rfl
    · have hR : ∀ av v, Rv w T Rho.none av v → Rv w (fun b => T b ∧ ¬ rowBlk h ρ q b) Rho.none av v := fun av v hh => hh.mono (Same.refl _ _) less fun _ _ h => h
      have hR' : ∀ av v, Rv w T ρ av v → Rv w (fun b => T b ∧ ¬ rowBlk h ρ q b) ρ av v := fun av v hh => hh.mono (Same.refl _ _) less fun _ _ h => h
      have ok := k.rows q y hy
      cases y with
      | sl ap z es =>
        rcases ok with ⟨h1, h2, h3⟩ | ⟨b, base, cur, e, h1, h2, h3, h4, h5, h6⟩
        · exact .inl ⟨h1, h3⟩
        · exact .inr ⟨b, base, h1, fun hh => hh.2 ⟨_, _, _, hy, rfl, h1, rfl⟩, lt_of_cells h3, h6.mono (fun _ => rfl) hR⟩
      | st cs =>
        obtain ⟨b, base, cur, e, h1, h2, h3, h4, h5⟩ := ok
        exact ⟨b, base, h1, fun hh => hh.2 ⟨_, _, _, hy, rfl, h1, rfl⟩, lt_of_cells h3, h5.mono (fun _ => rfl) hR'⟩
      | fsl z es => exact ok.mono (Same.refl _ _) less (fun _ _ h => h) fun _ _ _ _ _ h => by cases h
      | fst cs => exact ok.mono (Same.refl _ _) less (fun _ _ h => h) fun _ _ _ _ _ h => by cases h
      | dead => trivial
  · intro q hq
    split at hq
    · rename_i e
      subst e
      cases hy : h q with
      | none => exact k.dom q hy
      | some y => rw [hy] at hq; cases hq
    · exact k.dom q hq
  · intro q q' x x' hne hx hx' hl hl'
    obtain ⟨_, h1⟩ := hlive q x hx hl
    obtain ⟨_, h2⟩ := hlive q' x' hx' hl'
    exact k.sep q q' x x' hne h1 h2 hl hl'
  · intro q x p b base hx hl
    obtain ⟨_, h1⟩ := hlive q x hx hl
    exact k.wr q x p b base h1 hl
  · intro b hb
    rcases k.t0 b hb with h1 | ⟨q, hq, hx⟩
    · by_cases hr : rowBlk h ρ r b
      · obtain ⟨x, p, base, hx, hl, hp, hloc⟩ := hr
        by_cases hm : r ∈ f.lids
        · refine .inr ⟨r, hm, fun y hy => ?_⟩
          rcases hmap r y hy with ⟨h2, _⟩ | ⟨_, y', _, rfl⟩
          · exact absurd rfl h2
          · exact freeze_live
        · exact absurd (k.t0lt b hb) (Nat.not_lt.2 (k.own r x p b base hm hx hl hp hloc))
      · exact .inl ⟨h1, hr⟩
    · refine .inr ⟨q, hq, fun y hy => ?_⟩
      rcases hmap q y hy with ⟨_, h2⟩ | ⟨_, y', _, rfl⟩
      · exact hx y h2
      · exact freeze_live
  · intro q x p b base hq hx hl
    obtain ⟨_, h1⟩ := hlive q x hx hl
    exact k.own q x p b base hq h1 hl
theorem freeze_none {rs : List Nat} {q : Nat} : (h.freeze rs) q = none ↔ h q = none := by
  induction rs with
  | nil => exact Iff.rfl
  | cons r rs ih =>
    simp only [Heap.freeze]
    split
    · simp only [Option.map_eq_none_iff, ih]
    · exact ih
theorem freeze_live' {rs : List Nat} {q : Nat} {x : Row} (hx : (h.freeze rs) q = some x) (hl : x.live = true) : h q = some x ∧ q ∉ rs := by
  induction rs generalizing x with
  | nil => exact ⟨hx, by simp⟩
  | cons r rs ih =>
    simp only [Heap.freeze] at hx
    split at hx
    · cases hy : h.freeze rs q with
      | none => rw [hy] at hx; cases hx
      | some y =>
        rw [hy] at hx
        cases hx
        rw [freeze_live] at hl
        cases hl
    · rename_i hne
      obtain ⟨h1, h2⟩ := ih hx hl
      exact ⟨h1, by simp [hne, h2]⟩
theorem WInv.freeze (k : WInv f w T ρ h) (rs : List Nat) : ∃ T', WInv f w T' ρ (h.freeze rs) ∧ Goes w w T T' ρ ρ ∧ (∀ r ∈ rs, ∀ b, rowBlk h ρ r b → ¬ T' b) ∧ ∀ b, T b → T' b ∨ ∃ r ∈ rs, rowBlk h ρ r b := by
  induction rs with
  | nil => exact ⟨T, k, Goes.refl _ _ _, fun r hr => (by cases hr), fun b hb => .inl hb⟩
  | cons r rs ih =>
    obtain ⟨T1, k1, g1, h1, h1'⟩ := ih
    obtain ⟨k2, g2⟩ := k1.freeze1 r
    refine ⟨_, k2, g1.trans g2, fun q hq b hb => ?_, fun b hb => ?_⟩
    rotate_left
    · rcases h1' b hb with h2 | ⟨q, hq, hqb⟩
      · by_cases hr : rowBlk (h.freeze rs) ρ r b
        · obtain ⟨x, p, base, hx, hl, hp, hloc⟩ := hr
          exact .inr ⟨r, List.mem_cons_self, x, p, base, (freeze_live' hx hl).1, hl, hp, hloc⟩
        · exact .inl ⟨h2, hr⟩
      · exact .inr ⟨q, List.mem_cons_of_mem _ hq, hqb⟩
    rcases List.mem_cons.1 hq with rfl | hq
    · rintro ⟨t1, t2⟩
      obtain ⟨x, p, base, hx, hl, hp, hloc⟩ := hb
      cases hy : h.freeze rs q with
      | none => rw [freeze_none] at hy; rw [hx] at hy; cases hy
      | some y =>
        by_cases hyl : y.live = true
        · exact t2 ⟨y, p, base, hy, hyl, hp, hloc⟩
        · -- it was frozen before
          have hmem : q ∈ rs := by
            by_cases hm : q ∈ rs
            · exact hm
            · have : ∀ rs : List Nat, q ∉ rs → h.freeze rs q = h q := by
                intro rs
                induction rs with
                | nil => intro _; rfl
                | cons a rs ih =>
                  intro hm
                  simp only [Heap.freeze]
                  rw [if_neg (fun e => hm (by rw [e]; exact List.mem_cons_self))]
                  exact ih fun hh => hm (List.mem_cons_of_mem _ hh)
              rw [this rs hm, hx] at hy
              cases hy
              exact absurd hl hyl
          exact h1 q hmem b ⟨x, p, base, hx, hl, hp, hloc⟩ t1
    · exact fun ht => h1 q hq b hb ht.1
end
theorem getD_drop_take {α : Type} (es : List α) (o n j : Nat) (d : α) (hj : j < n) : ((es.drop o).take n).getD j d = es.getD (o + j) d := by
  simp only [List.getD_eq_getElem?_getD]
  rw [List.getElem?_take_of_lt hj, List.getElem?_drop]
theorem getD_map_lt {α β : Type} (f : α → β) (l : List α) (j : Nat) (d : β) (d' : α) (hj : j < l.length) : (l.map f).getD j d = f (l.getD j d') := by
  simp only [List.getD_eq_getElem?_getD, List.getElem?_map, List.getElem?_eq_getElem hj]
  rfl
section
variable {w : World} {T T' : Nat → Prop} {ρ : Rho} {h : Heap}
theorem Rv.less {av : AV} {v : Value} (k : Rv w T ρ av v) (hT : ∀ b, b < w.heap.size → T' b → T b) : Rv w T' ρ av v := k.mono (Same.refl _ _) hT fun _ _ h => h
theorem Rv.any {av : AV} {v : Value} (k : Rv w T Rho.none av v) : Rv w T ρ av v := k.mono (Same.refl _ _) (fun _ _ h => h) fun _ _ h => by cases h
theorem tell_win {b base z : Nat} {es : List (List AV)} {o n cap : Nat} (hT : ¬ T' b) (hb : b < w.heap.size) (hless : ∀ b, b < w.heap.size → T' b → T b) (hr : RowAt w b base z es (Rv w T Rho.none)) (hn : o + n ≤ es.length) (hc : n ≤ cap) (hm : cap ≤ maxLen) :
    Rv w T' Rho.none (.l z ((es.drop o).take n)) (.slice (some ⟨b, base + o * z, none⟩) n cap) := by
  have hl : ((es.drop o).take n).length = n := by rw [List.length_take, List.length_drop]; omega
  have key : ∀ j c, base + o * z + j * z + c = base + (o + j) * z + c := by intro j c; rw [Nat.add_mul]; omega
  have := Rv.l (w := w) (T := T') (ρ := Rho.none) (z := z) (es := (es.drop o).take n) (b := b) (base := base + o * z) (cap := cap) (fun j c => (w.cell? ⟨b, base + o * z + j * z + c, none⟩).getD undef) hT hb (by rw [hl]; exact hc) hm
    (fun j hj => by
      rw [hl] at hj
      rw [getD_drop_take _ _ _ _ _ hj]
      exact hr.len _ (by omega))
    (fun j c hj hc => by
      rw [hl] at hj
      obtain ⟨v, h1, h2, h3⟩ := hr.cell (o + j) c (by omega) hc
      rw [key, h1]
      exact ⟨rfl, h2⟩)
    (fun j c hj hc => by
      rw [hl] at hj
      obtain ⟨v, h1, h2, h3⟩ := hr.cell (o + j) c (by omega) hc
      rw [getD_drop_take _ _ _ _ _ hj, key, h1]
      exact h3.less hless)
  rw [hl] at this
  exact this
theorem tell0_none {av : AV} {v : Value} (k : Rv w T Rho.none av v) : Rv w T Rho.none (tell0 h av) v := by
  cases k with
  | ns => exact .lnil0
  | sl hr => cases hr
  | slz hr => cases hr
  | slnil hr => cases hr
  | p hr => cases hr
  | junk => exact .junk
  | b => exact .b
  | i => exact .i
  | s => exact .s
  | np => exact .np
  | lnil ha hm => exact .lnil ha hm
  | l g hT hb hc hm hz hcell hv => exact .l g hT hb hc hm hz hcell hv
  | tp g hT hb hcell hv => exact .tp g hT hb hcell hv
  | agg vs hl h1 hv => exact .agg vs hl h1 hv
  | tup vs hl hv => exact .tup vs hl hv
theorem tell0_rv (hrows : ∀ r x, h r = some x → RowOk w T ρ r x) (hless : ∀ b, b < w.heap.size → T' b → T b) {av : AV} {v : Value} (k : Rv w T ρ av v) (hr : ∀ r ∈ ref0 av, ∀ b, rowBlk h ρ r b → ¬ T' b) :
    (∀ r e o, av ≠ .p r e o) → (∀ cs, av ≠ .agg cs) → (∀ cs, av ≠ .tup cs) → Rv w T' Rho.none (tell0 h av) v := by
  intro n1 n2 n3
  cases k with
  | ns => exact .lnil0
  | p => exact absurd rfl (n1 _ _ _)
  | agg => exact absurd rfl (n2 _)
  | tup => exact absurd rfl (n3 _)
  | junk => exact .junk
  | b => exact .b
  | i => exact .i
  | s => exact .s
  | np => exact .np
  | lnil ha hm => exact .lnil ha hm
  | l g hT hb hc hm hz hcell hv => exact (Rv.l g hT hb hc hm hz hcell hv : Rv w T Rho.none _ _).less hless
  | tp g hT hb hcell hv => exact (Rv.tp g hT hb hcell hv : Rv w T Rho.none _ _).less hless
  | @sl _ r z o n m b base cap h1 hn hc hm hs =>
    simp only [tell0]
    cases hx : h r with
    | none => exact .junk
    | some x =>
      have ok := hrows r x hx
      cases x with
      | sl ap z' es =>
        rcases ok with ⟨_, _, h3⟩ | ⟨b', base', cur, e, h3, h4, h5, h6, h7, h8⟩
        · rw [h1] at h3; cases h3
        · rw [h1] at h3
          cases h3
          exact tell_win (hr r List.mem_cons_self b ⟨_, _, _, hx, rfl, h1, rfl⟩) (lt_of_cells h5) hless h8 hn hc hm
      | fsl z' es =>
        rcases ok with ⟨_, h3⟩ | ⟨b', base', h3, h4, h5, h6⟩
        · rw [h1] at h3; cases h3
        · rw [h1] at h3
          cases h3
          exact tell_win (fun ht => h4 (hless b h5 ht)) h5 hless h6 hn hc hm
      | st cs => exact .junk
      | fst cs => exact .junk
      | dead => exact .junk
  | @slz _ r z o m b base off h1 hn =>
    simp only [tell0]
    cases hx : h r with
    | none => exact .junk
    | some x =>
      have ok := hrows r x hx
      have mk : ∀ es : List (List AV), ¬ T' b → b < w.heap.size → Rv w T' Rho.none (.l z ((es.drop o).take 0)) (.slice (some ⟨b, off, none⟩) 0 0) := by
        intro es ht hb
        rw [List.take_zero]
        exact Rv.l (es := []) (fun _ _ => undef) ht hb (Nat.zero_le _) (Nat.zero_le _) (fun j hj => by cases hj) (fun j c hj => by cases hj) (fun j c hj => by cases hj)
      cases x with
      | sl ap z' es =>
        rcases ok with ⟨_, _, h3⟩ | ⟨b', base', cur, e, h3, h4, h5, h6, h7, h8⟩
        · rw [h1] at h3; cases h3
        · rw [h1] at h3
          cases h3
          exact mk es (hr r List.mem_cons_self b ⟨_, _, _, hx, rfl, h1, rfl⟩) (lt_of_cells h5)
      | fsl z' es =>
        rcases ok with ⟨_, h3⟩ | ⟨b', base', h3, h4, h5, h6⟩
        · rw [h1] at h3; cases h3
        · rw [h1] at h3
          cases h3
          exact mk es (fun ht => h4 (hless b h5 ht)) h5
      | st cs => exact .junk
      | fst cs => exact .junk
      | dead => exact .junk
  | @slnil _ r z h1 =>
    simp only [tell0]
    cases hx : h r with
    | none => exact .junk
    | some x =>
      cases x with
      | sl ap z' es => simp only [Option.bind_some, Row.win, List.drop_zero, List.take_zero]; exact .lnil0
      | fsl z' es => simp only [Option.bind_some, Row.win, List.drop_zero, List.take_zero]; exact .lnil0
      | st cs => exact .junk
      | fst cs => exact .junk
      | dead => exact .junk
end
end Go.Pe
set_option linter.unusedVariables false
set_option linter.unusedSimpArgs false
namespace Go.Pe
open Go
section
variable {w : World} {T T' : Nat → Prop} {ρ : Rho} {h : Heap}
theorem tell_cells {b base : Nat} {cs : List AV} {o : Nat} (hT : ¬ T' b) (hb : b < w.heap.size)
    (hc : ∀ c, c < cs.length → ∃ v, w.cell? ⟨b, base + c, none⟩ = some v ∧ v.oneCell' = true ∧ Rv w T' Rho.none (tell0 h (cs.getD c .junk)) v) :
    Rv w T' Rho.none (.tp (cs.map (tell0 h)) o) (.pointer (some ⟨b, base + o, none⟩)) := by
  refine Rv.tp (fun c => (w.cell? ⟨b, base + c, none⟩).getD undef) hT hb (fun c h1 => ?_) (fun c h1 => ?_)
  · rw [List.length_map] at h1
    obtain ⟨v, h2, h3, h4⟩ := hc c h1
    rw [h2]
    exact ⟨rfl, h3⟩
  · rw [List.length_map] at h1
    obtain ⟨v, h2, h3, h4⟩ := hc c h1
    rw [getD_map_lt (tell0 h) cs c .junk .junk h1, h2]
    exact h4
theorem tell0_cell (hrows : ∀ r x, h r = some x → RowOk w T ρ r x) (hless : ∀ b, b < w.heap.size → T' b → T b) {av : AV} {v : Value} (h1 : v.oneCell' = true) (k : Rv w T ρ av v) (hr : ∀ r ∈ ref0 av, ∀ b, rowBlk h ρ r b → ¬ T' b) : Rv w T' Rho.none (tell0 h av) v := by
  cases k with
  | p => exact .junk
  | agg vs hl => cases h1
  | tup vs hl => cases h1
  | junk => exact .junk
  | b => exact .b
  | i => exact .i
  | s => exact .s
  | np => exact .np
  | ns => exact .lnil0
  | lnil ha hm => exact .lnil ha hm
  | l g hT hb hc hm hz hcell hv => exact (Rv.l g hT hb hc hm hz hcell hv : Rv w T Rho.none _ _).less hless
  | tp g hT hb hcell hv => exact (Rv.tp g hT hb hcell hv : Rv w T Rho.none _ _).less hless
  | sl hr' hn hc hm hs => exact tell0_rv hrows hless (.sl hr' hn hc hm hs) hr (by intros; simp) (by intros; simp) (by intros; simp)
  | slz hr' hn => exact tell0_rv hrows hless (.slz hr' hn) hr (by intros; simp) (by intros; simp) (by intros; simp)
  | slnil hr' => exact tell0_rv hrows hless (.slnil hr') hr (by intros; simp) (by intros; simp) (by intros; simp)
theorem tellC_rv (hrows : ∀ r x, h r = some x → RowOk w T ρ r x) (hless : ∀ b, b < w.heap.size → T' b → T b) {av : AV} {v : Value} (k : Rv w T ρ av v) (hr : ∀ r ∈ refC h av, ∀ b, rowBlk h ρ r b → ¬ T' b) (n2 : ∀ cs, av ≠ .agg cs) (n3 : ∀ cs, av ≠ .tup cs) :
    Rv w T' Rho.none (tellC h av) v := by
  cases k with
  | @p _ r e o z m b base h1 =>
    simp only [tellC]
    cases hx : h r with
    | none => exact .junk
    | some x =>
      have ok := hrows r x hx
      have hblk : x.live = true → ¬ T' b := fun hl => hr r List.mem_cons_self b ⟨x, _, _, hx, hl, h1, rfl⟩
      have hsl : ∀ z' (es : List (List AV)) cs, es[e]? = some cs → z' = z → RowAt w b base z' es (Rv w T Rho.none) → ¬ T' b → b < w.heap.size → Rv w T' Rho.none (.tp (cs.map (tell0 h)) o) (.pointer (some ⟨b, base + e * z + o, none⟩)) := by
        intro z' es cs he hz hra ht hb
        subst hz
        have hlt : e < es.length := by
          rcases Nat.lt_or_ge e es.length with h2 | h2
          · exact h2
          · rw [List.getElem?_eq_none h2] at he; cases he
        have hcs : es.getD e [] = cs := by rw [List.getD_eq_getElem?_getD, he]; rfl
        refine tell_cells ht hb fun c hc => ?_
        have hlen := hra.len e hlt
        rw [hcs] at hlen
        obtain ⟨v, h2, h3, h4⟩ := hra.cell e c hlt (by omega)
        rw [hcs] at h4
        exact ⟨v, h2, h3, tell0_none (h4.less hless)⟩
      have hst : ∀ cs, e = 0 → RowAt w b base cs.length [cs] (Rv w T ρ) → (∀ r' ∈ cs.flatMap ref0, ∀ b, rowBlk h ρ r' b → ¬ T' b) → ¬ T' b → b < w.heap.size → Rv w T' Rho.none (.tp (cs.map (tell0 h)) o) (.pointer (some ⟨b, base + e * z + o, none⟩)) := by
        intro cs he hra hrr ht hb
        subst he
        rw [Nat.zero_mul, Nat.add_zero]
        refine tell_cells ht hb fun c hc => ?_
        obtain ⟨v, h2, h3, h4⟩ := hra.cell 0 c (by simp) hc
        rw [Nat.zero_mul, Nat.add_zero] at h2
        refine ⟨v, h2, h3, tell0_cell hrows hless h3 h4 fun r' hr' => hrr r' ?_⟩
        rw [List.mem_flatMap]
        refine ⟨_, ?_, hr'⟩
        show cs.getD c .junk ∈ cs
        rw [List.getD_eq_getElem?_getD, List.getElem?_eq_getElem hc]
        exact List.getElem_mem hc
      cases x with
      | sl ap z' es =>
        simp only [Option.bind_some, Row.at]
        cases he : es[e]? with
        | none => exact .junk
        | some cs =>
          rcases ok with ⟨h2, _, _⟩ | ⟨b', base', cur, e', h3, h4, h5, h6, h7, h8⟩
          · subst h2; cases he
          · rw [h1] at h3
            cases h3
            exact hsl z es cs he rfl h8 (hblk rfl) (lt_of_cells h5)
      | fsl z' es =>
        simp only [Option.bind_some, Row.at]
        cases he : es[e]? with
        | none => exact .junk
        | some cs =>
          rcases ok with ⟨h2, _⟩ | ⟨b', base', h3, h4, h5, h6⟩
          · subst h2; cases he
          · rw [h1] at h3
            cases h3
            exact hsl z es cs he rfl h6 (fun ht => h4 (hless b h5 ht)) h5
      | st cs =>
        simp only [Option.bind_some, Row.at]
        by_cases he : e = 0
        · rw [if_pos he]
          obtain ⟨b', base', cur, e', h3, h4, h5, h6, h7⟩ := ok
          rw [h1] at h3
          cases h3
          refine hst cs he h7 (fun r' hr' => hr r' ?_) (hblk rfl) (lt_of_cells h5)
          simp only [refC, hx, Option.bind_some, Row.at, if_pos he]
          exact List.mem_cons_of_mem _ hr'
        · rw [if_neg he]; exact .junk
      | fst cs =>
        simp only [Option.bind_some, Row.at]
        by_cases he : e = 0
        · rw [if_pos he]
          obtain ⟨b', base', h3, h4, h5, h6⟩ := ok
          rw [h1] at h3
          cases h3
          refine hst cs he h6 (fun r' hr' => hr r' ?_) (fun ht => h4 (hless b h5 ht)) h5
          simp only [refC, hx, Option.bind_some, Row.at, if_pos he]
          exact List.mem_cons_of_mem _ hr'
        · rw [if_neg he]; exact .junk
      | dead => exact .junk
  | agg => exact absurd rfl (n2 _)
  | tup => exact absurd rfl (n3 _)
  | junk => exact .junk
  | b => exact .b
  | i => exact .i
  | s => exact .s
  | np => exact .np
  | ns => exact .lnil0
  | lnil ha hm => exact .lnil ha hm
  | l g hT hb hc hm hz hcell hv => exact (Rv.l g hT hb hc hm hz hcell hv : Rv w T Rho.none _ _).less hless
  | tp g hT hb hcell hv => exact (Rv.tp g hT hb hcell hv : Rv w T Rho.none _ _).less hless
  | sl hr' hn hc hm hs => exact tell0_rv hrows hless (.sl hr' hn hc hm hs) hr (by intros; simp) (by intros; simp) (by intros; simp)
  | slz hr' hn => exact tell0_rv hrows hless (.slz hr' hn) hr (by intros; simp) (by intros; simp) (by intros; simp)
  | slnil hr' => exact tell0_rv hrows hless (.slnil hr') hr (by intros; simp) (by intros; simp) (by intros; simp)
theorem getD_mem {α : Type} {l : List α} {c : Nat} (d : α) (hc : c < l.length) : l.getD c d ∈ l := by
  rw [List.getD_eq_getElem?_getD, List.getElem?_eq_getElem hc]
  exact List.getElem_mem hc
theorem one_of_cell {av : AV} {v : Value} (k : Rv w T ρ av v) (h1 : v.oneCell' = true) : (∀ cs, av ≠ .agg cs) ∧ (∀ cs, av ≠ .tup cs) := by
  refine ⟨?_, ?_⟩ <;> (intro cs e; subst e; cases k; cases h1)
theorem tell1_rv (hrows : ∀ r x, h r = some x → RowOk w T ρ r x) (hless : ∀ b, b < w.heap.size → T' b → T b) {av : AV} {v : Value} (k : Rv w T ρ av v) (hr : ∀ r ∈ ref1 h av, ∀ b, rowBlk h ρ r b → ¬ T' b) :
    Rv w T' Rho.none (tell1 h av) v := by
  cases k with
  | @agg _ cs vs hl h1 hv =>
    simp only [tell1]
    refine .agg vs (by rw [List.length_map]; exact hl) (fun c hc => h1 c (by rwa [List.length_map] at hc)) fun c hc => ?_
    rw [List.length_map] at hc
    rw [getD_map_lt (tellC h) cs c .junk .junk hc]
    refine tellC_rv hrows hless (hv c hc) (fun r hr' => hr r ?_) (one_of_cell (hv c hc) (h1 c hc)).1 (one_of_cell (hv c hc) (h1 c hc)).2
    exact List.mem_flatMap.2 ⟨_, getD_mem _ hc, hr'⟩
  | tup => exact .junk
  | junk => exact .junk
  | b => exact .b
  | i => exact .i
  | s => exact .s
  | np => exact .np
  | ns => exact .lnil0
  | lnil ha hm => exact .lnil ha hm
  | l g hT hb hc hm hz hcell hv => exact (Rv.l g hT hb hc hm hz hcell hv : Rv w T Rho.none _ _).less hless
  | tp g hT hb hcell hv => exact (Rv.tp g hT hb hcell hv : Rv w T Rho.none _ _).less hless
  | sl hr' hn hc hm hs => exact tellC_rv hrows hless (.sl hr' hn hc hm hs) hr (by intros; simp) (by intros; simp)
  | slz hr' hn => exact tellC_rv hrows hless (.slz hr' hn) hr (by intros; simp) (by intros; simp)
  | slnil hr' => exact tellC_rv hrows hless (.slnil hr') hr (by intros; simp) (by intros; simp)
  | p hr' => exact tellC_rv hrows hless (.p hr') hr (by intros; simp) (by intros; simp)
theorem tell_rv (hrows : ∀ r x, h r = some x → RowOk w T ρ r x) (hless : ∀ b, b < w.heap.size → T' b → T b) {av : AV} {v : Value} (k : Rv w T ρ av v) (hr : ∀ r ∈ ref h av, ∀ b, rowBlk h ρ r b → ¬ T' b) :
    Rv w T' Rho.none (tell h av) v := by
  cases k with
  | @tup _ cs vs hl hv =>
    simp only [tell]
    refine .tup vs (by rw [List.length_map]; exact hl) fun c hc => ?_
    rw [List.length_map] at hc
    rw [getD_map_lt (tell1 h) cs c .junk .junk hc]
    exact tell1_rv hrows hless (hv c hc) fun r hr' => hr r (List.mem_flatMap.2 ⟨_, getD_mem _ hc, hr'⟩)
  | agg vs hl h1 hv => exact tell1_rv hrows hless (.agg vs hl h1 hv) hr
  | junk => exact .junk
  | b => exact .b
  | i => exact .i
  | s => exact .s
  | np => exact .np
  | ns => exact .lnil0
  | lnil ha hm => exact .lnil ha hm
  | l g hT hb hc hm hz hcell hv => exact (Rv.l g hT hb hc hm hz hcell hv : Rv w T Rho.none _ _).less hless
  | tp g hT hb hcell hv => exact (Rv.tp g hT hb hcell hv : Rv w T Rho.none _ _).less hless
  | sl hr' hn hc hm hs => exact tell1_rv hrows hless (.sl hr' hn hc hm hs) hr
  | slz hr' hn => exact tell1_rv hrows hless (.slz hr' hn) hr
  | slnil hr' => exact tell1_rv hrows hless (.slnil hr') hr
  | p hr' => exact tell1_rv hrows hless (.p hr') hr
end
end Go.Pe
set_option linter.unusedVariables false
set_option linter.unusedSimpArgs false
namespace Go.Pe
open Go
def mv1 : Value → AV → Bool
  | .bool a, .b b => a == b
  | .int k n, .i k' n' => k == k' && n == n'
  | .string s, .s s' => decide (s = s')
  | .slice none 0 0, .ns _ => true
  | .pointer none, .np => true
  | _, _ => false
def mvs : List Value → List AV → Bool
  | [], [] => true
  | v :: vs, c :: cs => mv1 v c && mvs vs cs
  | _, _ => false
def mv : Value → AV → Bool
  | .agg vs, .agg cs => mvs vs.toList cs
  | v, c => mv1 v c
section
variable {w : World} {T : Nat → Prop} {ρ : Rho}
theorem mv1_rv {v : Value} {c : AV} (h : mv1 v c = true) : Rv w T ρ c v ∧ v.oneCell' = true := by
  unfold mv1 at h
  split at h
  · rw [beq_iff_eq] at h; subst h; exact ⟨.b, rfl⟩
  · simp only [Bool.and_eq_true, beq_iff_eq] at h; obtain ⟨rfl, rfl⟩ := h; exact ⟨.i, rfl⟩
  · simp only [decide_eq_true_eq] at h; subst h; exact ⟨.s, rfl⟩
  · exact ⟨.ns, rfl⟩
  · exact ⟨.np, rfl⟩
  · cases h
theorem mvs_rv : ∀ {vs : List Value} {cs : List AV}, mvs vs cs = true → vs.length = cs.length ∧ ∀ c, c < cs.length → Rv w T ρ (cs.getD c .junk) (vs.getD c undef) ∧ (vs.getD c undef).oneCell' = true
  | [], [], _ => ⟨rfl, fun c hc => by cases hc⟩
  | v :: vs, c :: cs, h => by
    simp only [mvs, Bool.and_eq_true] at h
    obtain ⟨h1, h2⟩ := mvs_rv h.2
    refine ⟨by simp [h1], fun i hi => ?_⟩
    cases i with
    | zero => exact mv1_rv h.1
    | succ i => exact h2 i (by simpa using hi)
  | [], _ :: _, h => by simp [mvs] at h
  | _ :: _, [], h => by simp [mvs] at h
theorem toList_getD (vs : Array Value) (c : Nat) : vs.getD c undef = vs.toList.getD c undef := by simp [List.getD_eq_getElem?_getD]
theorem mv_rv {v : Value} {c : AV} (h : mv v c = true) : Rv w T ρ c v := by
  unfold mv at h
  split at h
  · rename_i vs cs
    obtain ⟨h1, h2⟩ := mvs_rv (w := w) (T := T) (ρ := ρ) h
    refine .agg vs (by rw [← h1]; simp) (fun c hc => ?_) fun c hc => ?_
    · rw [toList_getD]; exact (h2 c hc).2
    · rw [toList_getD]; exact (h2 c hc).1
  · exact (mv1_rv h).1
end
def ma (tabs : List (Nat × List AV)) : Operand → At → Bool
  | .tmp t, .t s => t == s
  | .const v, .c a => mv v a
  | .global g, .c (.tp cs 0) => tabs.any fun p => p.1 == g && p.2.length == cs.length && mtab p.2 cs
  | _, _ => false
where
  mtab : List AV → List AV → Bool
  | [], [] => true
  | .i k n :: xs, .i k' n' :: ys => k == k' && n == n' && mtab xs ys
  | _, _ => false
theorem mtab_eq : ∀ {xs ys : List AV}, ma.mtab xs ys = true → xs = ys
  | [], [], _ => rfl
  | x :: xs, y :: ys, h => by
    unfold ma.mtab at h
    split at h
    · rename_i h1 h2; cases h1
    · rename_i k n xs' k' n' ys' h1 h2
      cases h1; cases h2
      simp only [Bool.and_eq_true, beq_iff_eq] at h
      obtain ⟨⟨rfl, rfl⟩, h3⟩ := h
      rw [mtab_eq h3]
    · cases h
  | [], _ :: _, h => by simp [ma.mtab] at h
  | _ :: _, [], h => by simp [ma.mtab] at h
def Env (w : World) (T : Nat → Prop) (ρ : Rho) (e : Nat → AV) (a : Act) : Prop := ∀ t, Rv w T ρ (e t) (a.tmps.getD t undef)
theorem Env.goes {w w' : World} {T T' : Nat → Prop} {ρ ρ' : Rho} {e : Nat → AV} {a : Act} (h : Env w T ρ e a) (g : Goes w w' T T' ρ ρ') : Env w' T' ρ' e a := fun t => g.rv (h t)
theorem ma_rv {f : Fr} {w : World} {T : Nat → Prop} {ρ : Rho} {h : Heap} (k : WInv f w T ρ h) {e : Nat → AV} {a : Act} (he : Env w T ρ e a) {x : Operand} {y : At} (hm : ma f.tabs x y = true) : Rv w T ρ (y.ev e) (a.eval x) := by
  unfold ma at hm
  split at hm
  · rw [beq_iff_eq] at hm; subst hm; exact he _
  · exact mv_rv hm
  · rename_i g cs
    rw [List.any_eq_true] at hm
    obtain ⟨p, hp, hq⟩ := hm
    simp only [Bool.and_eq_true, beq_iff_eq] at hq
    obtain ⟨⟨rfl, _⟩, h2⟩ := hq
    rw [← mtab_eq h2]
    exact (k.tab p hp).any
  · cases hm
def szT (P : Program) (t : TypeId) : Option Nat := (P.info? t).map (·.size)
section
variable {P : Program} {w : World}
theorem run_typeInfo {t : TypeId} {i : TypeInfo} (h : P.info? t = some i) : (typeInfo t).run P w = .ok i w := by simp [typeInfo, h]
theorem run_sizeOf' {t : TypeId} {n : Nat} (h : szT P t = some n) : (sizeOf t).run P w = .ok n w := by
  unfold szT at h
  cases hi : P.info? t with
  | none => rw [hi] at h; cases h
  | some i => rw [hi] at h; cases h; simp [sizeOf, run_typeInfo hi]
theorem run_zeroValue {t : TypeId} {i : TypeInfo} {z : Value} (h : P.info? t = some i) (hz : i.zero = some z) : (zeroValue t).run P w = .ok z w := by simp [zeroValue, run_typeInfo h, hz]
end
def Gives (P : Program) (o : Oper) (a : Act) (w : World) (v : Value) : Prop := (execOp a.eval o).run P w = .ok (.value v) w
section
variable {P : Program} {f : Fr} {w : World} {T : Nat → Prop} {ρ : Rho} {h : Heap} {e : Nat → AV} {a : Act} {o : Oper}
theorem op_move (k : WInv f w T ρ h) (he : Env w T ρ e a) {x : Operand} {y : At} (ho : o.op = .move x ∨ o.op = .assign x) (hm : ma f.tabs x y = true) : ∃ v, Gives P o a w v ∧ Rv w T ρ (y.ev e) v := by
  refine ⟨a.eval x, ?_, ma_rv k he hm⟩
  rcases ho with ho | ho <;> simp [Gives, execOp, ho]
theorem inv_b {q : Bool} {v : Value} (k : Rv w T ρ (.b q) v) : v = .bool q := by cases k; rfl
theorem inv_i {q : IntKind} {n : Int} {v : Value} (k : Rv w T ρ (.i q n) v) : v = .int q n := by cases k; rfl
theorem inv_s {s : ByteArray} {v : Value} (k : Rv w T ρ (.s s) v) : v = .string s := by cases k; rfl
theorem op_pick (k : WInv f w T ρ h) (he : Env w T ρ e a) {x y z : Operand} {x' y' z' : At} {av : AV} {h' : Heap} (call : Call) (ho : o.op = .pick x y z) (h1 : ma f.tabs x x' = true) (h2 : ma f.tabs y y' = true) (h3 : ma f.tabs z z' = true)
    (hv : PO.ev call (.pick x' y' z') e h = some (av, h')) : h' = h ∧ ∃ v, Gives P o a w v ∧ Rv w T ρ av v := by
  have r1 := ma_rv k he h1
  have r2 := ma_rv k he h2
  have r3 := ma_rv k he h3
  simp only [PO.ev] at hv
  split at hv
  · rename_i q hq
    rw [hq] at r1
    cases hv
    refine ⟨rfl, (if q then a.eval y else a.eval z), ?_, ?_⟩
    · simp only [Gives, execOp, ho, inv_b r1, asBool]
      cases q <;> simp
    · cases q
      · exact r3
      · exact r2
  · cases hv
theorem op_not (k : WInv f w T ρ h) (he : Env w T ρ e a) {x : Operand} {x' : At} {t : TypeId} {av : AV} {h' : Heap} (call : Call) (ho : o.op = .unOp .not t x) (h1 : ma f.tabs x x' = true)
    (hv : PO.ev call (.not x') e h = some (av, h')) : h' = h ∧ ∃ v, Gives P o a w v ∧ Rv w T ρ av v := by
  have r1 := ma_rv k he h1
  simp only [PO.ev] at hv
  split at hv
  · rename_i q hq
    rw [hq] at r1
    cases hv
    exact ⟨rfl, .bool (!q), by simp [Gives, execOp, ho, inv_b r1, Op.unary], .b⟩
  · cases hv
theorem op_neg (k : WInv f w T ρ h) (he : Env w T ρ e a) {x : Operand} {x' : At} {t : TypeId} {av : AV} {h' : Heap} (call : Call) (ho : o.op = .unOp .neg t x) (h1 : ma f.tabs x x' = true)
    (hv : PO.ev call (.neg x') e h = some (av, h')) : h' = h ∧ ∃ v, Gives P o a w v ∧ Rv w T ρ av v := by
  have r1 := ma_rv k he h1
  simp only [PO.ev] at hv
  split at hv
  · rename_i q n hq
    rw [hq] at r1
    cases hv
    exact ⟨rfl, .int q (q.wrap (0 - n)), by simp [Gives, execOp, ho, inv_i r1, Op.unary, Op.intArith], .i⟩
  · cases hv
theorem op_conv (k : WInv f w T ρ h) (he : Env w T ρ e a) {x : Operand} {x' : At} {s d : TypeId} {q q' : IntKind} {av : AV} {h' : Heap} (call : Call) (ho : o.op = .convert s d x) (hs : P.underlying s = some (.int q')) (hd : P.underlying d = some (.int q)) (h1 : ma f.tabs x x' = true)
    (hv : PO.ev call (.conv q x') e h = some (av, h')) : h' = h ∧ ∃ v, Gives P o a w v ∧ Rv w T ρ av v := by
  have r1 := ma_rv k he h1
  simp only [PO.ev] at hv
  split at hv
  · rename_i q'' n hq
    rw [hq] at r1
    cases hv
    exact ⟨rfl, .int q (q.wrap n), by simp [Gives, execOp, ho, inv_i r1, convert, run_underlying hs, run_underlying hd, Conv.intToInt], .i⟩
  · cases hv
theorem eqG (op : BinOp) (t : TypeId) (x y : Operand) (q : IntKind) (n : Int) (v : Value) : eqGuard op t x y (.int q n) v = pure () := by cases op <;> rfl
theorem bits_def (op : BinOp) (k : IntKind) (x y : Int) (h : op = .and ∨ op = .or ∨ op = .xor) : (Op.intBits op k x y).run P w = .ok (.int k (Go.bits op k x y)) w := by
  rcases h with rfl | rfl | rfl <;> simp [Op.intBits, Go.bits]
theorem run_binI {op : BinOp} {q : IntKind} {x y : Int} {t : TypeId} {av : AV} (hv : binI op q x y = some av) (hop : op ≠ .shl ∧ op ≠ .shr) : ∃ v, (binOp op t (.int q x) (.int q y)).run P w = .ok v w ∧ Rv w T ρ av v := by
  cases op <;> simp only [binI] at hv <;> try (cases hv)
  case add => exact ⟨_, by simp [binOp, Op.intArith], .i⟩
  case sub => exact ⟨_, by simp [binOp, Op.intArith], .i⟩
  case mul => exact ⟨_, by simp [binOp, Op.intArith], .i⟩
  case quo =>
    split at hv
    · cases hv
    · rename_i hy
      cases hv
      exact ⟨_, by simp [binOp, Op.intDiv, hy], .i⟩
  case rem =>
    split at hv
    · cases hv
    · rename_i hy
      cases hv
      exact ⟨_, by simp [binOp, Op.intDiv, hy], .i⟩
  case and => exact ⟨_, by simp only [binOp, if_false, ne_eq, not_true_eq_false]; exact bits_def _ _ _ _ (by simp), .i⟩
  case or => exact ⟨_, by simp only [binOp, if_false, ne_eq, not_true_eq_false]; exact bits_def _ _ _ _ (by simp), .i⟩
  case xor => exact ⟨_, by simp only [binOp, if_false, ne_eq, not_true_eq_false]; exact bits_def _ _ _ _ (by simp), .i⟩
  case eql => exact ⟨.bool (decide (x = y)), by simp [binOp, Op.intCmp]; rfl, .b⟩
  case neq => exact ⟨.bool (!decide (x = y)), by simp [binOp, Op.intCmp, bne]; rfl, .b⟩
  case lss => exact ⟨_, by simp [binOp, Op.intCmp], .b⟩
  case leq => exact ⟨_, by simp [binOp, Op.intCmp], .b⟩
  case gtr => exact ⟨_, by simp [binOp, Op.intCmp], .b⟩
  case geq => exact ⟨_, by simp [binOp, Op.intCmp], .b⟩
theorem run_shI {op : BinOp} {q q' : IntKind} {x y : Int} {t : TypeId} {av : AV} (hv : shI op q x y = some av) (hop : op = .shl ∨ op = .shr) : ∃ v, (binOp op t (.int q x) (.int q' y)).run P w = .ok v w ∧ Rv w T ρ av v := by
  unfold shI at hv
  split at hv
  · cases hv
  · rename_i hy
    rcases hop with rfl | rfl
    · cases hv
      exact ⟨_, by simp [binOp, Op.shift, hy], .i⟩
    · cases hv
      exact ⟨_, by simp [binOp, Op.shift, hy], .i⟩
theorem beqL (x y : List UInt8) : (x == y) = decide (x = y) := by by_cases h : x = y <;> simp [h]
theorem op_bin (k : WInv f w T ρ h) (he : Env w T ρ e a) {op : BinOp} {x y : Operand} {x' y' : At} {t t' : TypeId} {av : AV} {h' : Heap} (call : Call) (ho : o.op = .binOp op t x y t') (h1 : ma f.tabs x x' = true) (h2 : ma f.tabs y y' = true)
    (hv : PO.ev call (.bin op x' y') e h = some (av, h')) : h' = h ∧ ∃ v, Gives P o a w v ∧ Rv w T ρ av v := by
  have r1 := ma_rv k he h1
  have r2 := ma_rv k he h2
  simp only [PO.ev, Option.map_eq_some_iff] at hv
  obtain ⟨c, hc, hcv⟩ := hv
  cases hcv
  refine ⟨rfl, ?_⟩
  have fin : ∀ v u1 u2, a.eval x = u1 → a.eval y = u2 → (eqGuard op t x y u1 u2 = pure ()) → (binOp op t u1 u2).run P w = .ok v w → Gives P o a w v := by
    intro v u1 u2 e1 e2 hg hr
    simp only [Gives, execOp, ho, e1, e2, hg, Sem.run_bind, Sem.run_pure, Result.andThen_ok, hr]
  unfold binV at hc
  split at hc
  · rename_i q n q' m hx hy
    rw [hx] at r1
    rw [hy] at r2
    have e1 := inv_i r1
    have e2 := inv_i r2
    split at hc
    · obtain ⟨v, h3, h4⟩ := run_shI (P := P) (w := w) (T := T) (ρ := ρ) (q' := q') (t := t) hc (by simp)
      exact ⟨v, fin _ _ _ e1 e2 rfl h3, h4⟩
    · obtain ⟨v, h3, h4⟩ := run_shI (P := P) (w := w) (T := T) (ρ := ρ) (q' := q') (t := t) hc (by simp)
      exact ⟨v, fin _ _ _ e1 e2 rfl h3, h4⟩
    · rename_i n1 n2
      split at hc
      · rename_i hqq
        subst hqq
        obtain ⟨v, h3, h4⟩ := run_binI (P := P) (w := w) (T := T) (ρ := ρ) (t := t) hc ⟨fun e => n1 e, fun e => n2 e⟩
        exact ⟨v, fin _ _ _ e1 e2 (eqG ..) h3, h4⟩
      · cases hc
  · rename_i p q hx hy
    rw [hx] at r1
    rw [hy] at r2
    have e1 := inv_s r1
    have e2 := inv_s r2
    split at hc
    · cases hc
      exact ⟨_, fin _ _ _ e1 e2 rfl (by simp [binOp, Op.stringOp, beqL]), .b⟩
    · cases hc
      exact ⟨_, fin _ _ _ e1 e2 rfl (by simp [binOp, Op.stringOp, beqL]), .b⟩
    · split at hc
      · rename_i hsz
        cases hc
        exact ⟨_, fin _ _ _ e1 e2 rfl (by simp only [binOp, Op.stringOp]; rw [if_neg (by rw [IntKind.max_i64]; omega)]; rfl), .s⟩
      · cases hc
    · cases hc
  · cases hc
theorem op_eqb (k : WInv f w T ρ h) (he : Env w T ρ e a) {neg : Bool} {x y : Operand} {x' y' : At} {t t' : TypeId} {av : AV} {h' : Heap} (call : Call) (ho : o.op = .binOp (if neg then .neq else .eql) t x y t') (ht : P.underlying t = some .bool) (h1 : ma f.tabs x x' = true) (h2 : ma f.tabs y y' = true)
    (hv : PO.ev call (.eqb neg x' y') e h = some (av, h')) : h' = h ∧ ∃ v, Gives P o a w v ∧ Rv w T ρ av v := by
  have r1 := ma_rv k he h1
  have r2 := ma_rv k he h2
  simp only [PO.ev, Option.map_eq_some_iff] at hv
  obtain ⟨c, hc, hcv⟩ := hv
  cases hcv
  refine ⟨rfl, ?_⟩
  unfold eqbV at hc
  split at hc
  · rename_i p q hx hy
    rw [hx] at r1
    rw [hy] at r2
    cases hc
    cases neg
    · exact ⟨.bool (p == q), by simp only [Gives, execOp, ho, inv_b r1, inv_b r2, Bool.false_eq_true, if_false]; simp [eqGuard, run_eql_bool w t p q ht], .b⟩
    · exact ⟨.bool (!(p == q)), by simp only [Gives, execOp, ho, inv_b r1, inv_b r2, if_true]; simp [eqGuard, binOp, run_equal_bool w t p q ht], .b⟩
  · cases hc
end
end Go.Pe
