/- Part 2 of the texts of BoxFroms: words, the machine's side of functions (written by a program), plain lemmas. -/
import Derived.Test.YtkhclncjncdfaaaDoorBBoxFroms1
import Derived.KernelRfl
import Derived.Below
import Derived.Deep.MidRow
import Derived.Laws.IdiomCopy
import Derived.Laws.AppendOwn
import Derived.Laws.MakeOwn
import Derived.Laws.Slices
import Derived.Great.BuildSlice
set_option linter.unusedVariables false
set_option linter.unusedSimpArgs false
set_option linter.unusedSimpArgs false
set_option linter.unusedVariables false
open Go
namespace Dg
theorem pow_mono {B : Int} (hB : 1 ≤ B) {m n : Nat} (h : m ≤ n) : B ^ m ≤ B ^ n := by
  obtain ⟨d, rfl⟩ := Nat.exists_eq_add_of_le h
  rw [Int.pow_add]
  have h1 : 0 < B ^ m := Int.pow_pos (by omega)
  have h2 : 1 ≤ B ^ d := by
    have : 0 < B ^ d := Int.pow_pos (by omega)
    omega
  have := Int.mul_le_mul_of_nonneg_left h2 (Int.le_of_lt h1)
  omega
end Dg
namespace Go.Pe
theorem take_l0 {uu v : List Int} (hu : Dg.Dig 4294967296 uu) (hv : Dg.Dig 4294967296 v) (hl : uu.length ≤ 35184372088832) (hlv : v.length < uu.length) {g : Int} (hg0 : 0 ≤ g) (hg1 : g ≤ 4294967295) :
    ∀ (d i : Nat) (out : List Int) (c e : Int), i + d = uu.length → out.length = uu.length → Dg.Dig 4294967296 out → 0 ≤ c → c ≤ 4294967295 → (i = uu.length → c = 0) → 0 ≤ e → e ≤ 1 → (∀ j, i ≤ j → out.getD j 0 = uu.getD j 0) →
    Dg.vl 4294967296 (out.take i) = Dg.vl 4294967296 (uu.take i) - g * Dg.vl 4294967296 (v.take i) + (c + e) * 4294967296 ^ i →
    ∃ o e', LP FF [(200000, 2), (0, 1), (1, 0), (2, 0), (7, 0), (8, 0), (12, 0), (13, 0)] [(200000, 2), (0, 1), (8, 0)] b140_0 [.own false 1 (out.map u), .sl 200000 1 0 out.length, (AV.l 1 (List.map u v)), (AV.i .u64 g), (AV.i .u64 c), (AV.i .u64 e), (AV.i .i64 ((uu.length : Int))), (AV.i .i64 ((i : Int)))] = some (.exit 0, [.own false 1 (o.map u), .sl 200000 1 0 o.length, (AV.i .u64 (e'))]) ∧
      o.length = uu.length ∧ Dg.Dig 4294967296 o ∧ 0 ≤ e' ∧ e' ≤ 1 ∧ Dg.vl 4294967296 o = Dg.vl 4294967296 uu - g * Dg.vl 4294967296 v + e' * 4294967296 ^ uu.length := by
  intro d
  induction d with
  | zero =>
    intro i out c e hi ho hd hc0 hc1 hc9 he0 he1 hsame hval
    have hc := hc9 (by omega)
    subst hc
    refine ⟨out, e, ?_, ho, hd, he0, he1, ?_⟩
    · rw [LP_go FF b140_0.eq_1]
      simp only [RB, un, St.none, Nat.reduceEqDiff, Nat.reduceAdd, Nat.reduceMul, Nat.reduceLeDiff, Nat.reduceLT, Int.reduceLT, Int.reduceLE, Int.reduceEq, Int.reduceToNat, Int.reduceSub, Int.reduceNeg, Int.reduceAdd, ↓reduceIte, reduceCtorEq, ite_self, eq_self, if_true, if_false, pack, pid, parN, List.not_mem_nil, List.mem_cons, lid, chkK, apartV, List.map_nil, List.flatMap_nil, List.append_nil, List.nil_append, List.drop_zero, List.length_set, List.length_replicate, List.length_append, List.take_length, List.take_zero, List.drop_length, Option.isNone_none, Heap.none]
      simp (disch := omega) only [if_pos, if_neg, List.take_length, take_set_len, take_set2_len, take_rep_len, take_snoc_len, take_app_len]
    rw [List.take_of_length_le (by omega), List.take_of_length_le (by omega), List.take_of_length_le (by omega), show i = uu.length by omega] at hval
    rw [hval, Int.zero_add]
  | succ d ih =>
    intro i out c e hi ho hd hc0 hc1 hc9 he0 he1 hsame hval
    have gu := hu.getD (by decide) i
    have gv := hv.getD (by decide) i
    have hs := hsame i (Nat.le_refl _)
    have hx := mul_bound hg0 hg1 gv.1 (show v.getD i 0 ≤ 4294967295 by omega)
    have hx2 : g * v.getD i 0 ≤ 4294967295 * 4294967295 := hx.2
    have e1 : IntKind.u64.wrap (g * v.getD i 0) = g * v.getD i 0 := u64w hx.1 (by omega)
    have e2 : IntKind.u64.wrap (c + g * v.getD i 0) = c + g * v.getD i 0 := u64w (by omega) (by omega)
    have e3 := and32 (x := c + g * v.getD i 0) (by omega) (by omega)
    have e4 := shr32 (x := c + g * v.getD i 0) (by omega)
    have e5 : IntKind.u64.wrap (4294967296 + uu.getD i 0) = 4294967296 + uu.getD i 0 := u64w (by omega) (by omega)
    have e6 : IntKind.u64.wrap (4294967296 + uu.getD i 0 - (c + g * v.getD i 0) % 4294967296) = 4294967296 + uu.getD i 0 - (c + g * v.getD i 0) % 4294967296 := u64w (by omega) (by omega)
    have e7 : IntKind.u64.wrap (4294967296 + uu.getD i 0 - (c + g * v.getD i 0) % 4294967296 - e) = 4294967296 + uu.getD i 0 - (c + g * v.getD i 0) % 4294967296 - e := u64w (by omega) (by omega)
    have e8 := and32 (x := 4294967296 + uu.getD i 0 - (c + g * v.getD i 0) % 4294967296 - e) (by omega) (by omega)
    have e9 := shr32 (x := 4294967296 + uu.getD i 0 - (c + g * v.getD i 0) % 4294967296 - e) (by omega)
    have e10 : IntKind.u64.wrap (1 - (4294967296 + uu.getD i 0 - (c + g * v.getD i 0) % 4294967296 - e) / 4294967296) = 1 - (4294967296 + uu.getD i 0 - (c + g * v.getD i 0) % 4294967296 - e) / 4294967296 := u64w (by omega) (by omega)
    have e11 : IntKind.i64.wrap ((i : Int) + 1) = ((i + 1 : Nat) : Int) := w64succ (by omega)
    rw [LP_go FF b140_0.eq_1]
    simp only [RB, un, St.none, Nat.reduceEqDiff, Nat.reduceAdd, Nat.reduceMul, Nat.reduceLeDiff, Nat.reduceLT, Int.reduceLT, Int.reduceLE, Int.reduceEq, Int.reduceToNat, Int.reduceSub, Int.reduceNeg, Int.reduceAdd, ↓reduceIte, reduceCtorEq, ite_self, eq_self, if_true, if_false, pack, pid, parN, List.not_mem_nil, List.mem_cons, lid, chkK, apartV, List.map_nil, List.flatMap_nil, List.append_nil, List.nil_append, List.drop_zero, List.length_set, List.length_replicate, List.length_append, List.take_length, List.take_zero, List.drop_length, Option.isNone_none, Heap.none, limb_c, hs, e1, e2, e3, e4, e5, e6, e7, e8, e9, e10, e11]
    simp (disch := omega) only [if_pos, if_neg, List.take_length, take_set_len, take_set2_len, take_rep_len, take_snoc_len, take_app_len]
    clear e1 e2 e3 e4 e5 e6 e7 e8 e9 e10 e11
    generalize hp : g * v.getD i 0 = p at *
    have hcz : i + 1 = uu.length → (c + p) / 4294967296 = 0 := by
      intro h1
      have h2 := getD_beyond (l := v) (i := i) (by omega)
      rw [h2, Int.mul_zero] at hp
      omega
    have h9 := ih (i + 1) (out.set i ((4294967296 + uu.getD i 0 - (c + p) % 4294967296 - e) % 4294967296)) ((c + p) / 4294967296) (1 - (4294967296 + uu.getD i 0 - (c + p) % 4294967296 - e) / 4294967296) (by omega) (by rw [List.length_set]; exact ho) (hd.set _ (by omega) (by omega)) (by omega) (by omega) hcz (by omega) (by omega) (by
      intro j hj
      rw [Dg.getD_set _ _ _ _ (by omega), if_neg (by omega)]
      exact hsame j (by omega)) (by
      rw [set_take _ (by omega), vl_snoc, List.length_take, Nat.min_eq_left (by omega), hval, Dg.vl_take_succ, Dg.vl_take_succ, Int.pow_succ]
      have h1 := Int.mul_ediv_add_emod (c + p) 4294967296
      have h2 := Int.mul_ediv_add_emod (4294967296 + uu.getD i 0 - (c + p) % 4294967296 - e) 4294967296
      generalize (4294967296 + uu.getD i 0 - (c + p) % 4294967296 - e) / 4294967296 = y at *
      generalize (4294967296 + uu.getD i 0 - (c + p) % 4294967296 - e) % 4294967296 = z at *
      generalize (c + p) / 4294967296 = cq at *
      generalize (c + p) % 4294967296 = cr at *
      rw [Int.mul_add, ← Int.mul_assoc g, hp]
      grind)
    rw [List.length_set] at h9
    exact h9
theorem take_c {uu v : List Int} (hu : Dg.Dig 4294967296 uu) (hv : Dg.Dig 4294967296 v) (hl : uu.length ≤ 35184372088832) (hlv : v.length < uu.length) {g : Int} (hg0 : 0 ≤ g) (hg1 : g ≤ 4294967295) :
    ∃ (out : List Int) (c : Int), R FF 140 [.own false 1 (uu.map u), (AV.l 1 (List.map u v)), (AV.i .u64 g)] = some (.back ((AV.b (decide (c = 1)))) [.own false 1 (out.map u)]) ∧ out.length = uu.length ∧ Dg.Dig 4294967296 out ∧ 0 ≤ c ∧ c ≤ 1 ∧ Dg.vl 4294967296 out = Dg.vl 4294967296 uu - g * Dg.vl 4294967296 v + c * 4294967296 ^ uu.length := by
  obtain ⟨o, c, h1, h2, h3, h4, h5, h6⟩ := take_l0 hu hv hl hlv hg0 hg1 uu.length 0 uu 0 0 (by omega) rfl hu (by omega) (by omega) (by omega) (by omega) (by omega) (fun j _ => rfl) (by simp [Dg.vl])
  refine ⟨o, c, ?_, h2, h3, h4, h5, h6⟩
  rw [Int.ofNat_zero] at h1
  rw [R_go FF F140 c140.eq_1]
  simp only [RB, un, St.none, Nat.reduceEqDiff, Nat.reduceAdd, Nat.reduceMul, Nat.reduceLeDiff, Nat.reduceLT, Int.reduceLT, Int.reduceLE, Int.reduceEq, Int.reduceToNat, Int.reduceSub, Int.reduceNeg, Int.reduceAdd, ↓reduceIte, reduceCtorEq, ite_self, eq_self, if_true, if_false, pack, pid, parN, List.not_mem_nil, List.mem_cons, lid, chkK, apartV, List.map_nil, List.flatMap_nil, List.append_nil, List.nil_append, List.drop_zero, List.length_set, List.length_replicate, List.length_append, List.take_length, List.take_zero, List.drop_length, Option.isNone_none, Heap.none, h1]
theorem give_l0 {uu v : List Int} (hu : Dg.Dig 4294967296 uu) (hv : Dg.Dig 4294967296 v) (hl : uu.length ≤ 35184372088832) :
    ∀ (d i : Nat) (out : List Int) (c : Int), i + d = uu.length → out.length = uu.length → Dg.Dig 4294967296 out → 0 ≤ c → c ≤ 1 → (∀ j, i ≤ j → out.getD j 0 = uu.getD j 0) →
    Dg.vl 4294967296 (out.take i) + c * 4294967296 ^ i = Dg.vl 4294967296 (uu.take i) + Dg.vl 4294967296 (v.take i) →
    ∃ o c', LP FF [(200000, 2), (0, 1), (1, 0), (4, 0), (7, 0), (8, 0)] [(200000, 2), (0, 1)] b141_0 [.own false 1 (out.map u), .sl 200000 1 0 out.length, (AV.l 1 (List.map u v)), (AV.i .u64 c), (AV.i .i64 ((uu.length : Int))), (AV.i .i64 ((i : Int)))] = some (.exit 0, [.own false 1 (o.map u), .sl 200000 1 0 o.length]) ∧
      o.length = uu.length ∧ Dg.Dig 4294967296 o ∧ 0 ≤ c' ∧ c' ≤ 1 ∧ Dg.vl 4294967296 o + c' * 4294967296 ^ uu.length = Dg.vl 4294967296 uu + Dg.vl 4294967296 (v.take uu.length) := by
  intro d
  induction d with
  | zero =>
    intro i out c hi ho hd hc0 hc1 hsame hval
    refine ⟨out, c, ?_, ho, hd, hc0, hc1, ?_⟩
    · rw [LP_go FF b141_0.eq_1]
      simp only [RB, un, St.none, Nat.reduceEqDiff, Nat.reduceAdd, Nat.reduceMul, Nat.reduceLeDiff, Nat.reduceLT, Int.reduceLT, Int.reduceLE, Int.reduceEq, Int.reduceToNat, Int.reduceSub, Int.reduceNeg, Int.reduceAdd, ↓reduceIte, reduceCtorEq, ite_self, eq_self, if_true, if_false, pack, pid, parN, List.not_mem_nil, List.mem_cons, lid, chkK, apartV, List.map_nil, List.flatMap_nil, List.append_nil, List.nil_append, List.drop_zero, List.length_set, List.length_replicate, List.length_append, List.take_length, List.take_zero, List.drop_length, Option.isNone_none, Heap.none]
      simp (disch := omega) only [if_pos, if_neg, List.take_length, take_set_len, take_set2_len, take_rep_len, take_snoc_len, take_app_len]
    rw [List.take_of_length_le (by omega), List.take_of_length_le (l := uu) (by omega), show i = uu.length by omega] at hval
    exact hval
  | succ d ih =>
    intro i out c hi ho hd hc0 hc1 hsame hval
    have gu := hu.getD (by decide) i
    have gv := hv.getD (by decide) i
    have hs := hsame i (Nat.le_refl _)
    have e1 : IntKind.u64.wrap (uu.getD i 0 + v.getD i 0) = uu.getD i 0 + v.getD i 0 := u64w (by omega) (by omega)
    have e2 : IntKind.u64.wrap (c + (uu.getD i 0 + v.getD i 0)) = c + (uu.getD i 0 + v.getD i 0) := u64w (by omega) (by omega)
    have e3 := and32 (x := c + (uu.getD i 0 + v.getD i 0)) (by omega) (by omega)
    have e4 := shr32 (x := c + (uu.getD i 0 + v.getD i 0)) (by omega)
    have e5 : IntKind.i64.wrap ((i : Int) + 1) = ((i + 1 : Nat) : Int) := w64succ (by omega)
    have h9 := ih (i + 1) (out.set i ((c + (uu.getD i 0 + v.getD i 0)) % 4294967296)) ((c + (uu.getD i 0 + v.getD i 0)) / 4294967296) (by omega) (by rw [List.length_set]; exact ho) (hd.set _ (by omega) (by omega)) (by omega) (by omega) (by
      intro j hj
      rw [Dg.getD_set _ _ _ _ (by omega), if_neg (by omega)]
      exact hsame j (by omega)) (by
      rw [set_take _ (by omega), vl_snoc, List.length_take, Nat.min_eq_left (by omega), Dg.vl_take_succ, Dg.vl_take_succ, Int.pow_succ]
      have h1 := Int.mul_ediv_add_emod (c + (uu.getD i 0 + v.getD i 0)) 4294967296
      grind)
    rw [List.length_set] at h9
    rw [LP_go FF b141_0.eq_1]
    simp only [RB, un, St.none, Nat.reduceEqDiff, Nat.reduceAdd, Nat.reduceMul, Nat.reduceLeDiff, Nat.reduceLT, Int.reduceLT, Int.reduceLE, Int.reduceEq, Int.reduceToNat, Int.reduceSub, Int.reduceNeg, Int.reduceAdd, ↓reduceIte, reduceCtorEq, ite_self, eq_self, if_true, if_false, pack, pid, parN, List.not_mem_nil, List.mem_cons, lid, chkK, apartV, List.map_nil, List.flatMap_nil, List.append_nil, List.nil_append, List.drop_zero, List.length_set, List.length_replicate, List.length_append, List.take_length, List.take_zero, List.drop_length, Option.isNone_none, Heap.none, limb_c, hs, e1, e2, e3, e4, e5]
    simp (disch := omega) only [if_pos, if_neg, List.take_length, take_set_len, take_set2_len, take_rep_len, take_snoc_len, take_app_len]
    exact h9
theorem give_c {uu v : List Int} (hu : Dg.Dig 4294967296 uu) (hv : Dg.Dig 4294967296 v) (hl : uu.length ≤ 35184372088832) :
    ∃ (out : List Int) (c : Int), R FF 141 [.own false 1 (uu.map u), (AV.l 1 (List.map u v))] = some (.back (.tup []) [.own false 1 (out.map u)]) ∧ out.length = uu.length ∧ Dg.Dig 4294967296 out ∧ 0 ≤ c ∧ c ≤ 1 ∧ Dg.vl 4294967296 out + c * 4294967296 ^ uu.length = Dg.vl 4294967296 uu + Dg.vl 4294967296 (v.take uu.length) := by
  obtain ⟨o, c, h1, h2, h3, h4, h5, h6⟩ := give_l0 hu hv hl uu.length 0 uu 0 (by omega) rfl hu (by omega) (by omega) (fun j _ => rfl) (by simp [Dg.vl])
  refine ⟨o, c, ?_, h2, h3, h4, h5, h6⟩
  rw [Int.ofNat_zero] at h1
  rw [R_go FF F141 c141.eq_1]
  simp only [RB, un, St.none, Nat.reduceEqDiff, Nat.reduceAdd, Nat.reduceMul, Nat.reduceLeDiff, Nat.reduceLT, Int.reduceLT, Int.reduceLE, Int.reduceEq, Int.reduceToNat, Int.reduceSub, Int.reduceNeg, Int.reduceAdd, ↓reduceIte, reduceCtorEq, ite_self, eq_self, if_true, if_false, pack, pid, parN, List.not_mem_nil, List.mem_cons, lid, chkK, apartV, List.map_nil, List.flatMap_nil, List.append_nil, List.nil_append, List.drop_zero, List.length_set, List.length_replicate, List.length_append, List.take_length, List.take_zero, List.drop_length, Option.isNone_none, Heap.none, h1]
end Go.Pe
set_option linter.unusedSimpArgs false
set_option linter.unusedVariables false
open Go
namespace Go.Pe
theorem knuth_gt {g U3 P Ul V2 Vl : Int} (hg : 0 ≤ g) (hP : 0 < P) (hUl : Ul < P) (hVl : 0 ≤ Vl) (h : U3 < g * V2) : U3 * P + Ul < g * (V2 * P + Vl) := by
  have h1 : (U3 + 1) * P ≤ g * V2 * P := Int.mul_le_mul_of_nonneg_right (by omega) (by omega)
  have h2 : 0 ≤ g * Vl := Int.mul_nonneg hg hVl
  grind
theorem knuth_le {g U3 P Ul V2 Vl B : Int} (hg : 1 ≤ g) (hgB : g ≤ B) (hP : 0 < P) (hUl : 0 ≤ Ul) (hVl0 : 0 ≤ Vl) (hVl : Vl < P) (hB : B ≤ V2) (h : g * V2 ≤ U3) : (g - 1) * (V2 * P + Vl) ≤ U3 * P + Ul := by
  have h1 : g * V2 * P ≤ U3 * P := Int.mul_le_mul_of_nonneg_right h (by omega)
  have h2 : (g - 1) * Vl ≤ (g - 1) * P := Int.mul_le_mul_of_nonneg_left (by omega) (by omega)
  have h3 : g * P ≤ V2 * P := Int.mul_le_mul_of_nonneg_right (by omega) (by omega)
  grind
theorem vl_three {l : List Int} {p : Nat} (h : l.length = p + 3) : Dg.vl 4294967296 l = (l.getD (p + 2) 0 * 4294967296 * 4294967296 + l.getD (p + 1) 0 * 4294967296 + l.getD p 0) * 4294967296 ^ p + Dg.vl 4294967296 (l.take p) := by
  have h1 : l.take (p + 3) = l := List.take_of_length_le (by omega)
  conv => lhs; rw [← h1]
  rw [Dg.vl_take_succ, Dg.vl_take_succ, Dg.vl_take_succ, Int.pow_succ, Int.pow_succ]
  grind
theorem vl_two {l : List Int} {p : Nat} (h : l.length = p + 2) : Dg.vl 4294967296 l = (l.getD (p + 1) 0 * 4294967296 + l.getD p 0) * 4294967296 ^ p + Dg.vl 4294967296 (l.take p) := by
  have h1 : l.take (p + 2) = l := List.take_of_length_le (by omega)
  conv => lhs; rw [← h1]
  rw [Dg.vl_take_succ, Dg.vl_take_succ, Int.pow_succ]
  grind
theorem digit_loop {uu v : List Int} (hu : Dg.Dig 4294967296 uu) (hv : Dg.Dig 4294967296 v) {p : Nat} (hul : uu.length = p + 3) (hvl : v.length = p + 2) (hl : uu.length ≤ 35184372088832) (hn : 2147483648 ≤ v.getD (p + 1) 0) {q : Int} (hq0 : 0 ≤ q) (hq1 : q ≤ 4294967295)
    (hq : 0 ≤ Dg.vl 4294967296 uu - q * Dg.vl 4294967296 v) (hq2 : Dg.vl 4294967296 uu - q * Dg.vl 4294967296 v < Dg.vl 4294967296 v) : ∀ (d : Nat) (g s : Int), g.toNat ≤ d → q ≤ g → g * v.getD (p + 1) 0 + s = uu.getD (p + 2) 0 * 4294967296 + uu.getD (p + 1) 0 → 0 ≤ s → s < 4294967296 → g ≤ 4294967297 →
    ∃ g', LP FF [(200000, 2), (0, 1), (1, 0), (5, 0), (7, 0), (8, 0)] [(200000, 2), (0, 1), (1, 0), (7, 0)] b138_0 [.own false 1 (uu.map u), .sl 200000 1 0 uu.length, (AV.l 1 (List.map u v)), (AV.i .i64 (((p + 2 : Nat) : Int))), (AV.i .u64 g), (AV.i .u64 s)] = some (.exit 0, [.own false 1 (uu.map u), .sl 200000 1 0 uu.length, (AV.l 1 (List.map u v)), (AV.i .u64 (g'))]) ∧ 0 ≤ g' ∧ g' ≤ 4294967295 ∧ (g' = q ∨ g' = q + 1) := by
  have gu0 := hu.getD (by decide) p
  have gu1 := hu.getD (by decide) (p + 1)
  have gu2 := hu.getD (by decide) (p + 2)
  have gv0 := hv.getD (by decide) p
  have gv1 := hv.getD (by decide) (p + 1)
  have hU := vl_three hul
  have hV := vl_two hvl
  have l0 := Dg.vl_nonneg (hu.take p) (by decide)
  have l1 := Dg.vl_lt (hu.take p) (by decide)
  have m0 := Dg.vl_nonneg (hv.take p) (by decide)
  have m1 := Dg.vl_lt (hv.take p) (by decide)
  rw [List.length_take, Nat.min_eq_left (by omega)] at l1 m1
  have hP : 0 < (4294967296 : Int) ^ p := Int.pow_pos (by decide)
  have e1 : IntKind.i64.wrap (((p + 2 : Nat) : Int) - 2) = (p : Int) := by rw [w64 (by omega) (by omega)]; omega
  have e2 : IntKind.i64.wrap (((p + 2 : Nat) : Int) - 1) = ((p + 1 : Nat) : Int) := by rw [w64 (by omega) (by omega)]; omega
  intro d
  induction d with
  | zero =>
    intro g s hd hqg hgs hs0 hs1 hg
    have hg0 : g = 0 := by omega
    subst hg0
    have e3 : IntKind.u64.wrap (0 * v.getD p 0) = 0 := by rw [Int.zero_mul]; exact u64w (by omega) (by omega)
    have e4 := shl32 (x := s) hs0 (by omega)
    have e5 := or32 (x := s) (y := uu.getD p 0) hs0 (by omega) (by omega) (by omega)
    refine ⟨0, ?_, by omega, by omega, .inl (by omega)⟩
    rw [LP_go FF b138_0.eq_1]
    simp only [RB, un, St.none, Nat.reduceEqDiff, Nat.reduceAdd, Nat.reduceMul, Nat.reduceLeDiff, Nat.reduceLT, Int.reduceLT, Int.reduceLE, Int.reduceEq, Int.reduceToNat, Int.reduceSub, Int.reduceNeg, Int.reduceAdd, ↓reduceIte, reduceCtorEq, ite_self, eq_self, if_true, if_false, pack, pid, parN, List.not_mem_nil, List.mem_cons, lid, chkK, apartV, List.map_nil, List.flatMap_nil, List.append_nil, List.nil_append, List.drop_zero, List.length_set, List.length_replicate, List.length_append, List.take_length, List.take_zero, List.drop_length, Option.isNone_none, Heap.none, e1, e2, e3, e4, e5]
    simp (disch := omega) only [if_pos, if_neg, List.take_length, take_set_len, take_set2_len, take_rep_len, take_snoc_len, take_app_len]
  | succ d ih =>
    intro g s hd hqg hgs hs0 hs1 hg
    have hg0 : 0 ≤ g := by omega
    have e4 := shl32 (x := s) hs0 (by omega)
    have e5 := or32 (x := s) (y := uu.getD p 0) hs0 (by omega) (by omega) (by omega)
    have hgv : 0 ≤ g * v.getD p 0 ∧ g * v.getD p 0 ≤ 4294967297 * 4294967295 :=
      ⟨Int.mul_nonneg hg0 (by omega), Int.le_trans (Int.mul_le_mul_of_nonneg_right hg (by omega)) (Int.mul_le_mul_of_nonneg_left (by omega) (by decide))⟩
    have hgv' : g * v.getD p 0 ≤ 18446744073709551615 := Int.le_trans hgv.2 (by decide)
    have e3 : IntKind.u64.wrap (g * v.getD p 0) = g * v.getD p 0 := u64w hgv.1 hgv'
    have e6 : IntKind.u64.wrap (s + v.getD (p + 1) 0) = s + v.getD (p + 1) 0 := u64w (by omega) (by omega)
    rw [LP_go FF b138_0.eq_1]
    simp only [RB, un, St.none, Nat.reduceEqDiff, Nat.reduceAdd, Nat.reduceMul, Nat.reduceLeDiff, Nat.reduceLT, Int.reduceLT, Int.reduceLE, Int.reduceEq, Int.reduceToNat, Int.reduceSub, Int.reduceNeg, Int.reduceAdd, ↓reduceIte, reduceCtorEq, ite_self, eq_self, if_true, if_false, pack, pid, parN, List.not_mem_nil, List.mem_cons, lid, chkK, apartV, List.map_nil, List.flatMap_nil, List.append_nil, List.nil_append, List.drop_zero, List.length_set, List.length_replicate, List.length_append, List.take_length, List.take_zero, List.drop_length, Option.isNone_none, Heap.none, e1, e2, e3, e4, e5, e6]
    have c1 : (p : Int) < (v.length : Int) := by omega
    have c2 : (p : Int) < (uu.length : Int) := by omega
    have c3 : p < uu.length := by omega
    have c4 : ((p + 1 : Nat) : Int) < (v.length : Int) := by omega
    rw [if_pos (fun _ => ⟨Int.natCast_nonneg p, c1⟩), if_pos (fun _ => ⟨Int.natCast_nonneg p, c2⟩), if_pos (fun _ => c3), if_pos (fun _ => ⟨Int.natCast_nonneg _, c4⟩)]
    clear e1 e2 e3 e4 e5 e6 c1 c2 c3 c4
    have hv0 := Dg.vl_nonneg hv (by decide)
    generalize h_u2 : uu.getD (p + 2) 0 = u2 at *
    generalize h_u1 : uu.getD (p + 1) 0 = u1 at *
    generalize h_u0 : uu.getD p 0 = u0 at *
    generalize h_v1 : v.getD (p + 1) 0 = v1 at *
    generalize h_v0 : v.getD p 0 = v0 at *
    generalize h_UL : Dg.vl 4294967296 (uu.take p) = UL at *
    generalize h_VL : Dg.vl 4294967296 (v.take p) = VL at *
    generalize h_P : (4294967296 : Int) ^ p = P at *
    have htop : u2 * 4294967296 + u1 ≤ v1 * 4294967296 + 4294967295 := by
      have hlt : Dg.vl 4294967296 uu < 4294967296 * Dg.vl 4294967296 v := by
        have : (q + 1) * Dg.vl 4294967296 v ≤ 4294967296 * Dg.vl 4294967296 v := Int.mul_le_mul_of_nonneg_right (by omega) (by
          rw [hV]
          have : 0 ≤ (v1 * 4294967296 + v0) * P := Int.mul_nonneg (by omega) (by omega)
          omega)
        rw [Int.add_mul] at this
        omega
      rw [hU, hV] at hlt
      apply Classical.byContradiction
      intro hc
      have h1 : (v1 + 1) * 4294967296 ≤ u2 * 4294967296 + u1 := by omega
      have h2 : (v1 + 1) * 4294967296 * 4294967296 * P ≤ (u2 * 4294967296 * 4294967296 + u1 * 4294967296 + u0) * P := Int.mul_le_mul_of_nonneg_right (by omega) (by omega)
      have h3 : (v1 * 4294967296 + v0 + 1) * P ≤ (v1 + 1) * 4294967296 * P := Int.mul_le_mul_of_nonneg_right (by omega) (by omega)
      grind
    by_cases hgo : 4294967296 ≤ g ∨ s * 4294967296 + u0 < g * v0
    · rw [if_pos hgo]
      have hlt : q < g := by
        rcases hgo with h | hgt
        · omega
        · have h4 : u2 * 4294967296 * 4294967296 + u1 * 4294967296 + u0 < g * (v1 * 4294967296 + v0) := by
            have h2 : g * (v1 * 4294967296 + v0) = g * v1 * 4294967296 + g * v0 := by grind
            rw [h2]
            generalize g * v1 = X at *
            omega
          have h5 := knuth_gt (Ul := UL) (Vl := VL) hg0 hP l1 m0 h4
          rw [← hU, ← hV] at h5
          apply Classical.byContradiction
          intro hc
          have : g * Dg.vl 4294967296 v ≤ q * Dg.vl 4294967296 v := Int.mul_le_mul_of_nonneg_right (by omega) hv0
          omega
      have hw3 : IntKind.u64.wrap (g - 1) = g - 1 := u64w (by omega) (by omega)
      have hgs2 : (g - 1) * v1 + (s + v1) = u2 * 4294967296 + u1 := by rw [← hgs]; grind
      rw [hw3]
      by_cases hbr : 4294967296 ≤ s + v1
      · rw [if_pos hbr]
        have hgB : g - 1 ≤ 4294967295 := by
          apply Classical.byContradiction
          intro hc
          have : 4294967296 * v1 ≤ (g - 1) * v1 := Int.mul_le_mul_of_nonneg_right (by omega) (by omega)
          omega
        refine ⟨g - 1, rfl, by omega, hgB, ?_⟩
        have hle : (g - 1) * (v1 * 4294967296 + v0) ≤ u2 * 4294967296 * 4294967296 + u1 * 4294967296 + u0 := by
          have h1 : (g - 1) * v0 ≤ 4294967295 * 4294967295 := Int.le_trans (Int.mul_le_mul_of_nonneg_right hgB (by omega)) (Int.mul_le_mul_of_nonneg_left (by omega) (by decide))
          have h2 : (g - 1) * (v1 * 4294967296 + v0) = (g - 1) * v1 * 4294967296 + (g - 1) * v0 := by grind
          rw [h2]
          generalize (g - 1) * v1 = X at *
          generalize (g - 1) * v0 = Y at *
          omega
        rcases Int.lt_or_le 0 (g - 1) with h0 | h0
        · have h5 := knuth_le (g := g - 1) (U3 := u2 * 4294967296 * 4294967296 + u1 * 4294967296 + u0) (P := P) (Ul := UL) (V2 := v1 * 4294967296 + v0) (Vl := VL) (B := 4294967296) (by omega) (by omega) hP l0 m0 m1 (by omega) hle
          rw [← hU, ← hV] at h5
          rcases Int.lt_or_le (g - 1) (q + 2) with h6 | h6
          · omega
          · have : (q + 1) * Dg.vl 4294967296 v ≤ (g - 1 - 1) * Dg.vl 4294967296 v := Int.mul_le_mul_of_nonneg_right (by omega) hv0
            rw [Int.add_mul] at this
            omega
        · omega
      · rw [if_neg hbr]
        exact ih (g - 1) (s + v1) (by omega) (by omega) hgs2 (by omega) (by omega) (by omega)
    · rw [if_neg hgo]
      have hg5 : g ≤ 4294967295 := by omega
      have hgt : g * v0 ≤ s * 4294967296 + u0 := by
        apply Classical.byContradiction
        intro hc
        exact hgo (.inr (by omega))
      refine ⟨g, rfl, hg0, hg5, ?_⟩
      have hle : g * (v1 * 4294967296 + v0) ≤ u2 * 4294967296 * 4294967296 + u1 * 4294967296 + u0 := by
        have h2 : g * (v1 * 4294967296 + v0) = g * v1 * 4294967296 + g * v0 := by grind
        rw [h2]
        generalize g * v1 = X at *
        omega
      rcases Int.lt_or_le 0 g with h0 | h0
      · have h5 := knuth_le (g := g) (U3 := u2 * 4294967296 * 4294967296 + u1 * 4294967296 + u0) (P := P) (Ul := UL) (V2 := v1 * 4294967296 + v0) (Vl := VL) (B := 4294967296) (by omega) (by omega) hP l0 m0 m1 (by omega) hle
        rw [← hU, ← hV] at h5
        rcases Int.lt_or_le g (q + 2) with h6 | h6
        · omega
        · have : (q + 1) * Dg.vl 4294967296 v ≤ (g - 1) * Dg.vl 4294967296 v := Int.mul_le_mul_of_nonneg_right (by omega) hv0
          rw [Int.add_mul] at this
          omega
      · omega
theorem digit_first {uu v : List Int} (hu : Dg.Dig 4294967296 uu) (hv : Dg.Dig 4294967296 v) {p : Nat} (hul : uu.length = p + 3) (hvl : v.length = p + 2) (hn : 2147483648 ≤ v.getD (p + 1) 0) {q : Int} (hq0 : 0 ≤ q) (hq1 : q ≤ 4294967295)
    (hq : 0 ≤ Dg.vl 4294967296 uu - q * Dg.vl 4294967296 v) (hq2 : Dg.vl 4294967296 uu - q * Dg.vl 4294967296 v < Dg.vl 4294967296 v) :
    q ≤ (uu.getD (p + 2) 0 * 4294967296 + uu.getD (p + 1) 0) / v.getD (p + 1) 0 ∧ uu.getD (p + 2) 0 * 4294967296 + uu.getD (p + 1) 0 ≤ v.getD (p + 1) 0 * 4294967296 + 4294967295 := by
  have gu0 := hu.getD (by decide) p
  have gu1 := hu.getD (by decide) (p + 1)
  have gu2 := hu.getD (by decide) (p + 2)
  have gv0 := hv.getD (by decide) p
  have gv1 := hv.getD (by decide) (p + 1)
  have hU := vl_three hul
  have hV := vl_two hvl
  have l0 := Dg.vl_nonneg (hu.take p) (by decide)
  have l1 := Dg.vl_lt (hu.take p) (by decide)
  have m0 := Dg.vl_nonneg (hv.take p) (by decide)
  have m1 := Dg.vl_lt (hv.take p) (by decide)
  rw [List.length_take, Nat.min_eq_left (by omega)] at l1 m1
  have hP : 0 < (4294967296 : Int) ^ p := Int.pow_pos (by decide)
  have hqr := Int.mul_ediv_add_emod (uu.getD (p + 2) 0 * 4294967296 + uu.getD (p + 1) 0) (v.getD (p + 1) 0)
  have r1 := Int.emod_lt_of_pos (uu.getD (p + 2) 0 * 4294967296 + uu.getD (p + 1) 0) (show 0 < v.getD (p + 1) 0 by omega)
  generalize h_u2 : uu.getD (p + 2) 0 = u2 at *
  generalize h_u1 : uu.getD (p + 1) 0 = u1 at *
  generalize h_u0 : uu.getD p 0 = u0 at *
  generalize h_v1 : v.getD (p + 1) 0 = v1 at *
  generalize h_v0 : v.getD p 0 = v0 at *
  generalize h_UL : Dg.vl 4294967296 (uu.take p) = UL at *
  generalize h_VL : Dg.vl 4294967296 (v.take p) = VL at *
  generalize h_P : (4294967296 : Int) ^ p = P at *
  refine ⟨?_, ?_⟩
  rotate_left
  · skip
    have htop : u2 * 4294967296 + u1 ≤ v1 * 4294967296 + 4294967295 := by
      have hlt : Dg.vl 4294967296 uu < 4294967296 * Dg.vl 4294967296 v := by
        have : (q + 1) * Dg.vl 4294967296 v ≤ 4294967296 * Dg.vl 4294967296 v := Int.mul_le_mul_of_nonneg_right (by omega) (by
          rw [hV]
          have : 0 ≤ (v1 * 4294967296 + v0) * P := Int.mul_nonneg (by omega) (by omega)
          omega)
        rw [Int.add_mul] at this
        omega
      rw [hU, hV] at hlt
      apply Classical.byContradiction
      intro hc
      have h1 : (v1 + 1) * 4294967296 ≤ u2 * 4294967296 + u1 := by omega
      have h2 : (v1 + 1) * 4294967296 * 4294967296 * P ≤ (u2 * 4294967296 * 4294967296 + u1 * 4294967296 + u0) * P := Int.mul_le_mul_of_nonneg_right (by omega) (by omega)
      have h3 : (v1 * 4294967296 + v0 + 1) * P ≤ (v1 + 1) * 4294967296 * P := Int.mul_le_mul_of_nonneg_right (by omega) (by omega)
      grind
    exact htop
  · apply Classical.byContradiction
    intro hc
    have h1 : ((u2 * 4294967296 + u1) / v1 + 1) * v1 ≤ q * v1 := Int.mul_le_mul_of_nonneg_right (by omega) (by omega)
    have h2 : u2 * 4294967296 + u1 + 1 ≤ q * v1 := by
      rw [Int.add_mul, Int.mul_comm _ v1] at h1
      omega
    have h3 : u2 * 4294967296 * 4294967296 + u1 * 4294967296 + u0 < q * (v1 * 4294967296 + v0) := by
      have h4 : 0 ≤ q * v0 := Int.mul_nonneg hq0 (by omega)
      have h5 : q * (v1 * 4294967296 + v0) = q * v1 * 4294967296 + q * v0 := by grind
      rw [h5]
      omega
    have h6 := knuth_gt (Ul := UL) (Vl := VL) hq0 hP l1 m0 h3
    rw [← hU, ← hV] at h6
    omega
theorem digit_c {uu v : List Int} (hu : Dg.Dig 4294967296 uu) (hv : Dg.Dig 4294967296 v) {p : Nat} (hul : uu.length = p + 3) (hvl : v.length = p + 2) (hl : uu.length ≤ 35184372088832) (hn : 2147483648 ≤ v.getD (p + 1) 0) {q : Int} (hq0 : 0 ≤ q) (hq1 : q ≤ 4294967295)
    (hq : 0 ≤ Dg.vl 4294967296 uu - q * Dg.vl 4294967296 v) (hq2 : Dg.vl 4294967296 uu - q * Dg.vl 4294967296 v < Dg.vl 4294967296 v) :
    ∃ r : List Int, R FF 138 [.own false 1 (uu.map u), (AV.l 1 (List.map u v))] = some (.back (AV.i .u64 q) [.own false 1 (r.map u)]) ∧ r.length = uu.length ∧ Dg.Dig 4294967296 r ∧ Dg.vl 4294967296 r = Dg.vl 4294967296 uu - q * Dg.vl 4294967296 v := by
  have gu0 := hu.getD (by decide) p
  have gu1 := hu.getD (by decide) (p + 1)
  have gu2 := hu.getD (by decide) (p + 2)
  have gv0 := hv.getD (by decide) p
  have gv1 := hv.getD (by decide) (p + 1)
  have t0 : 0 ≤ uu.getD (p + 2) 0 * 4294967296 + uu.getD (p + 1) 0 := by omega
  have d0 : 0 ≤ (uu.getD (p + 2) 0 * 4294967296 + uu.getD (p + 1) 0) / v.getD (p + 1) 0 := Int.ediv_nonneg t0 (by omega)
  have r0 := Int.emod_nonneg (uu.getD (p + 2) 0 * 4294967296 + uu.getD (p + 1) 0) (show v.getD (p + 1) 0 ≠ 0 by omega)
  have r1 := Int.emod_lt_of_pos (uu.getD (p + 2) 0 * 4294967296 + uu.getD (p + 1) 0) (show 0 < v.getD (p + 1) 0 by omega)
  have hqr := Int.mul_ediv_add_emod (uu.getD (p + 2) 0 * 4294967296 + uu.getD (p + 1) 0) (v.getD (p + 1) 0)
  have hfirst : q ≤ (uu.getD (p + 2) 0 * 4294967296 + uu.getD (p + 1) 0) / v.getD (p + 1) 0 ∧ uu.getD (p + 2) 0 * 4294967296 + uu.getD (p + 1) 0 ≤ v.getD (p + 1) 0 * 4294967296 + 4294967295 := digit_first hu hv hul hvl hn hq0 hq1 hq hq2
  have d1 : (uu.getD (p + 2) 0 * 4294967296 + uu.getD (p + 1) 0) / v.getD (p + 1) 0 ≤ 4294967297 := by
    have : (uu.getD (p + 2) 0 * 4294967296 + uu.getD (p + 1) 0) / v.getD (p + 1) 0 < 4294967298 := by
      apply Int.ediv_lt_of_lt_mul (by omega)
      omega
    omega
  obtain ⟨g, hloop, hg0, hg1, hgq⟩ := digit_loop hu hv hul hvl hl hn hq0 hq1 hq hq2 _ _ _ (Nat.le_refl _) hfirst.1 (by rw [Int.mul_comm]; exact hqr) r0 (by omega) d1
  obtain ⟨o, c, htake, ho, hd, hc0, hc1, hval⟩ := take_c hu hv hl (by omega) hg0 hg1
  have o0 := Dg.vl_nonneg hd (by decide)
  have o1 := Dg.vl_lt hd (by decide)
  rw [ho] at o1
  have v0 := Dg.vl_nonneg hv (by decide)
  have v1 := Dg.vl_lt hv (by decide)
  have v2 : (4294967296 : Int) ^ v.length ≤ 4294967296 ^ uu.length := Dg.pow_mono (by decide) (by omega)
  have e0 : (v.length : Int) = ((p + 2 : Nat) : Int) := by rw [hvl]
  have e2 : IntKind.i64.wrap (((p + 2 : Nat) : Int) - 1) = ((p + 1 : Nat) : Int) := by rw [w64 (by omega) (by omega)]; omega
  have e4 := shl32 (x := uu.getD (p + 2) 0) (by omega) (by omega)
  have e5 := or32 (x := uu.getD (p + 2) 0) (y := uu.getD (p + 1) 0) (by omega) (by omega) (by omega) (by omega)
  have e6 : IntKind.u64.wrap (Int.tdiv (uu.getD (p + 2) 0 * 4294967296 + uu.getD (p + 1) 0) (v.getD (p + 1) 0)) = (uu.getD (p + 2) 0 * 4294967296 + uu.getD (p + 1) 0) / v.getD (p + 1) 0 := by rw [tdiv_pos t0]; exact u64w d0 (by omega)
  have e7 : Int.tmod (uu.getD (p + 2) 0 * 4294967296 + uu.getD (p + 1) 0) (v.getD (p + 1) 0) = (uu.getD (p + 2) 0 * 4294967296 + uu.getD (p + 1) 0) % v.getD (p + 1) 0 := tmod_pos t0
  have c1 : ((p + 1 : Nat) : Int) < ((p + 2 : Nat) : Int) := by omega
  have c2 : ((p + 2 : Nat) : Int) < (uu.length : Int) := by omega
  have c3 : ((p + 1 : Nat) : Int) < (uu.length : Int) := by omega
  have c4 : p + 2 < uu.length := by omega
  have c5 : p + 1 < uu.length := by omega
  have c6 : ¬ v.getD (p + 1) 0 = 0 := by omega
  rw [R_go FF F138 c138.eq_1]
  simp only [RB, un, St.none, Nat.reduceEqDiff, Nat.reduceAdd, Nat.reduceMul, Nat.reduceLeDiff, Nat.reduceLT, Int.reduceLT, Int.reduceLE, Int.reduceEq, Int.reduceToNat, Int.reduceSub, Int.reduceNeg, Int.reduceAdd, ↓reduceIte, reduceCtorEq, ite_self, eq_self, if_true, if_false, pack, pid, parN, List.not_mem_nil, List.mem_cons, lid, chkK, apartV, List.map_nil, List.flatMap_nil, List.append_nil, List.nil_append, List.drop_zero, List.length_set, List.length_replicate, List.length_append, List.take_length, List.take_zero, List.drop_length, Option.isNone_none, Heap.none, e0, e2, e4, e5, e6, e7, hloop, htake]
  rw [if_pos ⟨Int.natCast_nonneg _, c2⟩, if_pos c4, if_pos ⟨Int.natCast_nonneg _, c3⟩, if_pos c5, if_pos ⟨Int.natCast_nonneg _, c1⟩, if_neg c6, if_pos ⟨Int.natCast_nonneg _, c1⟩, if_neg c6]
  have hto : List.take uu.length o = o := by rw [← ho, List.take_length]
  simp only [RB, un, St.none, Nat.reduceEqDiff, Nat.reduceAdd, Nat.reduceMul, Nat.reduceLeDiff, Nat.reduceLT, Int.reduceLT, Int.reduceLE, Int.reduceEq, Int.reduceToNat, Int.reduceSub, Int.reduceNeg, Int.reduceAdd, ↓reduceIte, reduceCtorEq, ite_self, eq_self, if_true, if_false, pack, pid, parN, List.not_mem_nil, List.mem_cons, lid, chkK, apartV, List.map_nil, List.flatMap_nil, List.append_nil, List.nil_append, List.drop_zero, List.length_set, List.length_replicate, List.length_append, List.take_length, List.take_zero, List.drop_length, Option.isNone_none, Heap.none, htake, hto]
  rw [if_pos ho]
  rcases hgq with rfl | rfl
  · have hc : c = 0 := by
      rcases (show c = 0 ∨ c = 1 by omega) with h | h
      · exact h
      · subst h
        omega
    subst hc
    exact ⟨o, by rw [if_neg (by decide)], ho, hd, by omega⟩
  · have hc : c = 1 := by
      rcases (show c = 0 ∨ c = 1 by omega) with h | h
      · subst h
        rw [Int.add_mul] at hval
        omega
      · exact h
    subst hc
    rw [Int.add_mul, Int.one_mul, Int.one_mul] at hval
    obtain ⟨r, c', hgive, h1, h2, h3, h4, h5⟩ := give_c hd hv (by omega)
    have a0 := Dg.vl_nonneg h2 (by decide)
    have a1 := Dg.vl_lt h2 (by decide)
    rw [h1, ho] at a1
    rw [List.take_of_length_le (by omega), hval, ho] at h5
    have hc' : c' = 1 := by
      rcases (show c' = 0 ∨ c' = 1 by omega) with h | h
      · subst h
        omega
      · exact h
    subst hc'
    have hw : IntKind.u64.wrap (q + 1 - 1) = q := by rw [u64w (by omega) (by omega)]; omega
    have htr : List.take uu.length r = r := by rw [← ho, ← h1, List.take_length]
    refine ⟨r, ?_, h1.trans ho, h2, by omega⟩
    rw [if_pos rfl]
    simp only [RB, un, St.none, Nat.reduceEqDiff, Nat.reduceAdd, Nat.reduceMul, Nat.reduceLeDiff, Nat.reduceLT, Int.reduceLT, Int.reduceLE, Int.reduceEq, Int.reduceToNat, Int.reduceSub, Int.reduceNeg, Int.reduceAdd, ↓reduceIte, reduceCtorEq, ite_self, eq_self, if_true, if_false, pack, pid, parN, List.not_mem_nil, List.mem_cons, lid, chkK, apartV, List.map_nil, List.flatMap_nil, List.append_nil, List.nil_append, List.drop_zero, List.length_set, List.length_replicate, List.length_append, List.take_length, List.take_zero, List.drop_length, Option.isNone_none, Heap.none, hgive, hw, htr]
    rw [if_pos (h1.trans ho), List.drop_of_length_le (by omega), List.append_nil]
end Go.Pe
set_option linter.unusedSimpArgs false
set_option linter.unusedVariables false
open Go
namespace Go.Pe
theorem len8_all : ∀ i : Fin 256, i.val = 0 ∨ ((1 ≤ bt len8 (i.val : Int) ∧ bt len8 (i.val : Int) ≤ 8) ∧ 2 ^ ((bt len8 (i.val : Int)).toNat - 1) ≤ i.val ∧ i.val < 2 ^ (bt len8 (i.val : Int)).toNat) := by decide +kernel
theorem len8_c {i : Int} (h0 : 0 < i) (h1 : i < 256) : ∃ m : Nat, bt len8 i = (m : Int) ∧ 1 ≤ m ∧ m ≤ 8 ∧ ((2 ^ (m - 1) : Nat) : Int) ≤ i ∧ i < ((2 ^ m : Nat) : Int) := by
  obtain ⟨n, rfl⟩ := Int.eq_ofNat_of_zero_le (Int.le_of_lt h0)
  have h9 := len8_all ⟨n, by omega⟩
  simp only at h9
  generalize bt len8 (n : Int) = b at *
  rcases h9 with h | ⟨⟨h2, h3⟩, h4, h5⟩
  · omega
  · exact ⟨b.toNat, by omega, by omega, by omega, Int.ofNat_le.2 h4, Int.ofNat_lt.2 h5⟩
theorem fd16 {x : Int} (h : 0 ≤ x) : x.fdiv (2 ^ Nat.min 16 IntKind.u32.bits) = x / 65536 := by
  rw [show Nat.min 16 IntKind.u32.bits = 16 by decide, Int.fdiv_eq_ediv_of_nonneg _ (by decide)]; rfl
theorem fd8 {x : Int} (h : 0 ≤ x) : x.fdiv (2 ^ Nat.min 8 IntKind.u32.bits) = x / 256 := by
  rw [show Nat.min 8 IntKind.u32.bits = 8 by decide, Int.fdiv_eq_ediv_of_nonneg _ (by decide)]; rfl
theorem u8w {x : Int} (h0 : 0 ≤ x) (h1 : x ≤ 255) : IntKind.u8.wrap x = x := by
  simp only [IntKind.wrap, IntKind.bits, IntKind.signed]
  simp
  omega
theorem len8_size : (len8.size : Int) = 256 := by decide +kernel
theorem len32_c {x : Int} (h0 : 0 < x) (h1 : x < 4294967296) {y : Int} {k m : Nat} (hy : (16777216 ≤ x ∧ y = x / 16777216 ∧ k = 24) ∨ (65536 ≤ x ∧ x < 16777216 ∧ y = x / 65536 ∧ k = 16) ∨ (256 ≤ x ∧ x < 65536 ∧ y = x / 256 ∧ k = 8) ∨ (x < 256 ∧ y = x ∧ k = 0)) (hm : bt len8 y = (m : Int)) (m8 : m ≤ 8) :
    R FF 139 [.i .u32 x] = some (AV.i .i64 (((k + m : Nat) : Int))) := by
  have w24 : IntKind.i64.wrap (16 + 8) = 24 := w64 (by omega) (by omega)
  have w8 : IntKind.i64.wrap (0 + 8) = 8 := w64 (by omega) (by omega)
  have wm : IntKind.i64.wrap (m : Int) = m := w64 (by omega) (by omega)
  rw [R_go FF F139 c139.eq_1]
  simp only [RB, un, St.none, Nat.reduceEqDiff, Nat.reduceAdd, Nat.reduceMul, Nat.reduceLeDiff, Nat.reduceLT, Int.reduceLT, Int.reduceLE, Int.reduceEq, Int.reduceToNat, Int.reduceSub, Int.reduceNeg, Int.reduceAdd, ↓reduceIte, reduceCtorEq, ite_self, eq_self, if_true, if_false, pack, pid, parN, List.not_mem_nil, List.mem_cons, lid, chkK, apartV, List.map_nil, List.flatMap_nil, List.append_nil, List.nil_append, List.drop_zero, List.length_set, List.length_replicate, List.length_append, List.take_length, List.take_zero, List.drop_length, Option.isNone_none, Heap.none, fd16 (Int.le_of_lt h0), len8_size]
  rcases hy with ⟨c1, rfl, rfl⟩ | ⟨c1, c2, rfl, rfl⟩ | ⟨c1, c2, rfl, rfl⟩ | ⟨c1, hyx, rfl⟩
  · have a1 : 65536 ≤ x := by omega
    have a2 : 256 ≤ x / 65536 := by omega
    have a3 : x / 65536 / 256 = x / 16777216 := by omega
    simp only [a1, a2, if_true, fd8 (show 0 ≤ x / 65536 by omega), a3, u8w (show 0 ≤ x / 16777216 by omega) (by omega), hm, w24, wm]
    rw [if_pos (by omega), w64 (by omega) (by omega)]
    first | rfl | (congr 2; done) | (congr 2; omega)
  · have a1 : 65536 ≤ x := by omega
    have a2 : ¬ 256 ≤ x / 65536 := by omega
    simp only [a1, a2, if_true, if_false, u8w (show 0 ≤ x / 65536 by omega) (by omega), hm, wm]
    rw [if_pos (by omega), w64 (by omega) (by omega)]
    first | rfl | (congr 2; done) | (congr 2; omega)
  · have a1 : ¬ 65536 ≤ x := by omega
    simp only [a1, c1, if_true, if_false, fd8 (show 0 ≤ x by omega), u8w (show 0 ≤ x / 256 by omega) (by omega), hm, w8, wm]
    rw [if_pos (by omega), w64 (by omega) (by omega)]
    first | rfl | (congr 2; done) | (congr 2; omega)
  · rw [hyx] at hm
    have a1 : ¬ 65536 ≤ x := by omega
    have a2 : ¬ 256 ≤ x := by omega
    simp only [a1, a2, if_true, if_false, u8w (show 0 ≤ x by omega) (by omega), hm, wm]
    rw [if_pos (by omega), w64 (by omega) (by omega)]
    first | rfl | (congr 2; done) | (congr 2; omega)
theorem lz32 {x : Int} (h0 : 0 < x) (h1 : x < 4294967296) : ∃ s : Nat, s ≤ 31 ∧ R FF 137 [.i .u32 x] = some (AV.i .i64 ((s : Int))) ∧ 2147483648 ≤ x * 2 ^ s ∧ x * 2 ^ s < 4294967296 := by
  rcases (show 16777216 ≤ x ∨ (65536 ≤ x ∧ x < 16777216) ∨ (256 ≤ x ∧ x < 65536) ∨ x < 256 by omega) with c | c | c | c
  · obtain ⟨m, hm, m1, m8, hlo, hhi⟩ := len8_c (i := x / 16777216) (by omega) (by omega)
    refine ⟨8 - m, by omega, ?_, ?_⟩
    · have h := len32_c h0 h1 (y := x / 16777216) (k := 24) (.inl ⟨c, rfl, rfl⟩) hm m8
      rw [R_go FF F137 c137.eq_1]
      have e : IntKind.i64.wrap (32 - ((24 + m : Nat) : Int)) = ((8 - m : Nat) : Int) := by rw [w64 (by omega) (by omega)]; omega
      simp only [RB, un, St.none, Nat.reduceEqDiff, Nat.reduceAdd, Nat.reduceMul, Nat.reduceLeDiff, Nat.reduceLT, Int.reduceLT, Int.reduceLE, Int.reduceEq, Int.reduceToNat, Int.reduceSub, Int.reduceNeg, Int.reduceAdd, ↓reduceIte, reduceCtorEq, ite_self, eq_self, if_true, if_false, pack, pid, parN, List.not_mem_nil, List.mem_cons, lid, chkK, apartV, List.map_nil, List.flatMap_nil, List.append_nil, List.nil_append, List.drop_zero, List.length_set, List.length_replicate, List.length_append, List.take_length, List.take_zero, List.drop_length, Option.isNone_none, Heap.none, h, e]
    · rcases (show m = 1 ∨ m = 2 ∨ m = 3 ∨ m = 4 ∨ m = 5 ∨ m = 6 ∨ m = 7 ∨ m = 8 by omega) with rfl | rfl | rfl | rfl | rfl | rfl | rfl | rfl <;> simp only [Nat.reducePow, Nat.reduceSub, Int.reducePow] at * <;> omega
  · obtain ⟨m, hm, m1, m8, hlo, hhi⟩ := len8_c (i := x / 65536) (by omega) (by omega)
    refine ⟨16 - m, by omega, ?_, ?_⟩
    · have h := len32_c h0 h1 (y := x / 65536) (k := 16) (.inr (.inl ⟨c.1, c.2, rfl, rfl⟩)) hm m8
      rw [R_go FF F137 c137.eq_1]
      have e : IntKind.i64.wrap (32 - ((16 + m : Nat) : Int)) = ((16 - m : Nat) : Int) := by rw [w64 (by omega) (by omega)]; omega
      simp only [RB, un, St.none, Nat.reduceEqDiff, Nat.reduceAdd, Nat.reduceMul, Nat.reduceLeDiff, Nat.reduceLT, Int.reduceLT, Int.reduceLE, Int.reduceEq, Int.reduceToNat, Int.reduceSub, Int.reduceNeg, Int.reduceAdd, ↓reduceIte, reduceCtorEq, ite_self, eq_self, if_true, if_false, pack, pid, parN, List.not_mem_nil, List.mem_cons, lid, chkK, apartV, List.map_nil, List.flatMap_nil, List.append_nil, List.nil_append, List.drop_zero, List.length_set, List.length_replicate, List.length_append, List.take_length, List.take_zero, List.drop_length, Option.isNone_none, Heap.none, h, e]
    · rcases (show m = 1 ∨ m = 2 ∨ m = 3 ∨ m = 4 ∨ m = 5 ∨ m = 6 ∨ m = 7 ∨ m = 8 by omega) with rfl | rfl | rfl | rfl | rfl | rfl | rfl | rfl <;> simp only [Nat.reducePow, Nat.reduceSub, Int.reducePow] at * <;> omega
  · obtain ⟨m, hm, m1, m8, hlo, hhi⟩ := len8_c (i := x / 256) (by omega) (by omega)
    refine ⟨24 - m, by omega, ?_, ?_⟩
    · have h := len32_c h0 h1 (y := x / 256) (k := 8) (.inr (.inr (.inl ⟨c.1, c.2, rfl, rfl⟩))) hm m8
      rw [R_go FF F137 c137.eq_1]
      have e : IntKind.i64.wrap (32 - ((8 + m : Nat) : Int)) = ((24 - m : Nat) : Int) := by rw [w64 (by omega) (by omega)]; omega
      simp only [RB, un, St.none, Nat.reduceEqDiff, Nat.reduceAdd, Nat.reduceMul, Nat.reduceLeDiff, Nat.reduceLT, Int.reduceLT, Int.reduceLE, Int.reduceEq, Int.reduceToNat, Int.reduceSub, Int.reduceNeg, Int.reduceAdd, ↓reduceIte, reduceCtorEq, ite_self, eq_self, if_true, if_false, pack, pid, parN, List.not_mem_nil, List.mem_cons, lid, chkK, apartV, List.map_nil, List.flatMap_nil, List.append_nil, List.nil_append, List.drop_zero, List.length_set, List.length_replicate, List.length_append, List.take_length, List.take_zero, List.drop_length, Option.isNone_none, Heap.none, h, e]
    · rcases (show m = 1 ∨ m = 2 ∨ m = 3 ∨ m = 4 ∨ m = 5 ∨ m = 6 ∨ m = 7 ∨ m = 8 by omega) with rfl | rfl | rfl | rfl | rfl | rfl | rfl | rfl <;> simp only [Nat.reducePow, Nat.reduceSub, Int.reducePow] at * <;> omega
  · obtain ⟨m, hm, m1, m8, hlo, hhi⟩ := len8_c (i := x) (by omega) (by omega)
    refine ⟨32 - m, by omega, ?_, ?_⟩
    · have h := len32_c h0 h1 (y := x) (k := 0) (.inr (.inr (.inr ⟨c, rfl, rfl⟩))) hm m8
      rw [R_go FF F137 c137.eq_1]
      have e : IntKind.i64.wrap (32 - (m : Int)) = ((32 - m : Nat) : Int) := by rw [w64 (by omega) (by omega)]; omega
      rw [Nat.zero_add] at h
      simp only [RB, un, St.none, Nat.reduceEqDiff, Nat.reduceAdd, Nat.reduceMul, Nat.reduceLeDiff, Nat.reduceLT, Int.reduceLT, Int.reduceLE, Int.reduceEq, Int.reduceToNat, Int.reduceSub, Int.reduceNeg, Int.reduceAdd, ↓reduceIte, reduceCtorEq, ite_self, eq_self, if_true, if_false, pack, pid, parN, List.not_mem_nil, List.mem_cons, lid, chkK, apartV, List.map_nil, List.flatMap_nil, List.append_nil, List.nil_append, List.drop_zero, List.length_set, List.length_replicate, List.length_append, List.take_length, List.take_zero, List.drop_length, Option.isNone_none, Heap.none, h, e]
    · rcases (show m = 1 ∨ m = 2 ∨ m = 3 ∨ m = 4 ∨ m = 5 ∨ m = 6 ∨ m = 7 ∨ m = 8 by omega) with rfl | rfl | rfl | rfl | rfl | rfl | rfl | rfl <;> simp only [Nat.reducePow, Nat.reduceSub, Int.reducePow] at * <;> omega
end Go.Pe
set_option linter.unusedSimpArgs false
set_option linter.unusedVariables false
open Go
namespace Go.Pe
theorem vl_all_zero {B : Int} {l : List Int} (h : ∀ j, l.getD j 0 = 0) : Dg.vl B l = 0 := by
  induction l with
  | nil => rfl
  | cons x r ih =>
    have h0 := h 0
    simp at h0
    rw [Dg.vl, h0, ih (fun j => by simpa using h (j + 1))]
    simp
theorem getD_drop (l : List Int) (c j : Nat) : (l.drop c).getD j 0 = l.getD (c + j) 0 := by rw [List.getD_eq_getElem?_getD, List.getElem?_drop, ← List.getD_eq_getElem?_getD]
theorem vl_zero_from {B : Int} {l : List Int} {c : Nat} (h : ∀ j, c ≤ j → l.getD j 0 = 0) : Dg.vl B (l.drop c) = 0 := vl_all_zero fun j => by rw [getD_drop]; exact h _ (by omega)
theorem vl_take_zero {B : Int} {l : List Int} {c : Nat} (h : ∀ j, c ≤ j → l.getD j 0 = 0) : Dg.vl B (l.take c) = Dg.vl B l := by
  rw [Dg.vl_take_drop B l c, vl_zero_from h]
  simp
theorem getD_top {n p : Nat} (h : L n = p + 1) : (D n).getD p 0 = ((n / 4294967296 ^ p : Nat) : Int) := by
  have h1 := vl_drop_D n p
  rw [Dg.vl_drop_succ, List.drop_of_length_le (by show L n ≤ p + 1; omega)] at h1
  simpa [Dg.vl] using h1
theorem long_l0 {v : List Int} (hv : Dg.Dig 4294967296 v) {p m s : Nat} (hvl : v.length = p + 2) (hn : 2147483648 ≤ v.getD (p + 1) 0) (hs : s ≤ 31) (hl : m + p + 2 ≤ 17592186044416) {Q R : Nat} (hR : (R * 2 ^ s : Nat) < Dg.vl 4294967296 v) :
    ∀ (t : Nat) (uu q : List Int), t ≤ m → uu.length = m + p + 2 → q.length = m → Dg.Dig 4294967296 uu → Dg.Dig 4294967296 q → Dg.vl 4294967296 (uu.drop t) < Dg.vl 4294967296 v → (∀ j, t + (p + 2) ≤ j → uu.getD j 0 = 0) →
    Dg.vl 4294967296 (q.drop t) * Dg.vl 4294967296 v * 4294967296 ^ t + Dg.vl 4294967296 uu = (Q : Int) * Dg.vl 4294967296 v + (R * 2 ^ s : Nat) →
    ∃ uf qf, LP FF [(8, 1), (10, 1), (6, 0), (7, 0), (9, 0), (11, 0)] [(6, 0), (8, 0), (10, 0)] b131_0 [.own true 1 (uu.map u), .own true 1 (q.map u), (AV.i .i64 ((s : Int))), (AV.l 1 (List.map u v)), (AV.i .i64 (((p + 2 : Nat) : Int))), (AV.i .i64 ((t : Int) - 1))] = some (.exit 0, [(AV.i .i64 ((s : Int))), (AV.l 1 (List.map u uf)), (AV.l 1 (List.map u qf))]) ∧ Dg.Dig 4294967296 uf ∧ Dg.Dig 4294967296 qf ∧ uf.length = m + p + 2 ∧ qf.length = m ∧ Dg.vl 4294967296 qf = Q ∧ Dg.vl 4294967296 uf = (R * 2 ^ s : Nat) := by
  intro t
  have v0 := Dg.vl_nonneg hv (by decide)
  have v1 := Dg.vl_lt hv (by decide)
  induction t with
  | zero =>
    intro uu q ht hul hql hu hq hlt hz hval
    rw [List.drop_zero] at hlt
    rw [List.drop_zero, Int.pow_zero, Int.mul_one] at hval
    have u0 := Dg.vl_nonneg hu (by decide)
    have hQ : Dg.vl 4294967296 q = Q := by
      rcases Int.lt_trichotomy (Dg.vl 4294967296 q) Q with h | h | h
      · have : (Dg.vl 4294967296 q + 1) * Dg.vl 4294967296 v ≤ Q * Dg.vl 4294967296 v := Int.mul_le_mul_of_nonneg_right (by omega) v0
        rw [Int.add_mul] at this
        omega
      · exact h
      · have : ((Q : Int) + 1) * Dg.vl 4294967296 v ≤ Dg.vl 4294967296 q * Dg.vl 4294967296 v := Int.mul_le_mul_of_nonneg_right (by omega) v0
        rw [Int.add_mul] at this
        omega
    rw [hQ] at hval
    refine ⟨uu, q, ?_, hu, hq, hul, hql, hQ, by omega⟩
    rw [LP_go FF b131_0.eq_1]
    simp only [RB, un, St.none, Nat.reduceEqDiff, Nat.reduceAdd, Nat.reduceMul, Nat.reduceLeDiff, Nat.reduceLT, Int.reduceLT, Int.reduceLE, Int.reduceEq, Int.reduceToNat, Int.reduceSub, Int.reduceNeg, Int.reduceAdd, ↓reduceIte, reduceCtorEq, ite_self, eq_self, if_true, if_false, pack, pid, parN, List.not_mem_nil, List.mem_cons, lid, chkK, apartV, List.map_nil, List.flatMap_nil, List.append_nil, List.nil_append, List.drop_zero, List.length_set, List.length_replicate, List.length_append, List.take_length, List.take_zero, List.drop_length, Option.isNone_none, Heap.none]
  | succ t ih =>
    intro uu q ht hul hql hu hq hlt hz hval
    -- the window
    have e0 : ((t + 1 : Nat) : Int) - 1 = (t : Int) := by omega
    have hwl : ((uu.drop t).take (p + 3)).length = p + 3 := by rw [List.length_take, List.length_drop]; omega
    have hwd : Dg.Dig 4294967296 ((uu.drop t).take (p + 3)) := (hu.drop _).take _
    have hz' : ∀ j, t + (p + 3) ≤ j → uu.getD j 0 = 0 := fun j hj => hz j (by omega)
    have hwv : Dg.vl 4294967296 ((uu.drop t).take (p + 3)) = Dg.vl 4294967296 (uu.drop t) := vl_take_zero fun j hj => by rw [getD_drop]; exact hz' _ (by omega)
    have hstep := Dg.vl_drop_succ 4294967296 uu t
    have gu := hu.getD (by decide) t
    have d1 := Dg.vl_nonneg (hu.drop (t + 1)) (by decide)
    have hW0 : 0 ≤ Dg.vl 4294967296 (uu.drop t) := Dg.vl_nonneg (hu.drop t) (by decide)
    have hWlt : Dg.vl 4294967296 (uu.drop t) < 4294967296 * Dg.vl 4294967296 v := by omega
    have hvpos : 0 < Dg.vl 4294967296 v := by omega
    have q0 : 0 ≤ Dg.vl 4294967296 (uu.drop t) / Dg.vl 4294967296 v := Int.ediv_nonneg hW0 v0
    have q1 : Dg.vl 4294967296 (uu.drop t) / Dg.vl 4294967296 v < 4294967296 := Int.ediv_lt_of_lt_mul hvpos hWlt
    have r0 := Int.emod_nonneg (Dg.vl 4294967296 (uu.drop t)) (show Dg.vl 4294967296 v ≠ 0 by omega)
    have r1 := Int.emod_lt_of_pos (Dg.vl 4294967296 (uu.drop t)) hvpos
    have hqr := Int.mul_ediv_add_emod (Dg.vl 4294967296 (uu.drop t)) (Dg.vl 4294967296 v)
    generalize hqd : Dg.vl 4294967296 (uu.drop t) / Dg.vl 4294967296 v = qd at *
    have hcomm : qd * Dg.vl 4294967296 v = Dg.vl 4294967296 v * qd := Int.mul_comm _ _
    obtain ⟨r, hr1, hr2, hr3, hr4⟩ := digit_c hwd hv hwl hvl (by omega) hn (q := qd) q0 (by omega) (by rw [hwv]; omega) (by rw [hwv]; omega)
    rw [hwv] at hr4
    have hrl : r.length = p + 3 := by omega
    -- the new row
    have ht1 : (uu.take t).length = t := by rw [List.length_take]; omega
    have hnl : (uu.take t ++ r ++ uu.drop (t + (p + 3))).length = m + p + 2 := by
      rw [List.length_append, List.length_append, ht1, List.length_drop]
      omega
    have hnd : (uu.take t ++ r ++ uu.drop (t + (p + 3))).drop t = r ++ uu.drop (t + (p + 3)) := by
      rw [List.append_assoc, List.drop_append_of_le_length (by omega), List.drop_of_length_le (by omega), List.nil_append]
    have hrv : Dg.vl 4294967296 (r ++ uu.drop (t + (p + 3))) = Dg.vl 4294967296 r := by
      rw [Dg.vl_append, vl_zero_from hz']
      simp
    have hnv : Dg.vl 4294967296 (uu.take t ++ r ++ uu.drop (t + (p + 3))) = Dg.vl 4294967296 uu - qd * Dg.vl 4294967296 v * 4294967296 ^ t := by
      rw [List.append_assoc, Dg.vl_append, hrv, ht1, hr4, Dg.vl_take_drop 4294967296 uu t]
      grind
    have h9 := ih (uu.take t ++ r ++ uu.drop (t + (p + 3))) (q.set t qd) (by omega) hnl (by rw [List.length_set]; exact hql) (((hu.take t).append hr3).append (hu.drop _)) (hq.set _ q0 q1) ?_ ?_ ?_
    rotate_left
    · rw [hnd, hrv, hr4]
      omega
    · intro j hj
      rw [List.append_assoc, List.getD_eq_getElem?_getD, List.getElem?_append_right (by omega), ht1, ← List.getD_eq_getElem?_getD]
      by_cases hjt : j = t + (p + 2)
      · subst hjt
        rw [List.getD_eq_getElem?_getD, List.getElem?_append_left (by omega), ← List.getD_eq_getElem?_getD, show t + (p + 2) - t = p + 2 by omega]
        -- the rest is below the divisor, so its top limb is 0
        have g := hr3.getD (by decide) (p + 2)
        have h3 : r.take (p + 3) = r := List.take_of_length_le (by omega)
        have h4 := Dg.vl_take_succ 4294967296 r (p + 2)
        rw [h3] at h4
        have h5 := Dg.vl_nonneg (hr3.take (p + 2)) (by decide)
        rw [hvl] at v1
        apply Classical.byContradiction
        intro hc
        have h6 : 1 * 4294967296 ^ (p + 2) ≤ r.getD (p + 2) 0 * 4294967296 ^ (p + 2) := Int.mul_le_mul_of_nonneg_right (by omega) (Int.le_of_lt (Int.pow_pos (by decide)))
        omega
      · rw [List.getD_eq_getElem?_getD, List.getElem?_append_right (by omega), ← List.getD_eq_getElem?_getD, getD_drop]
        exact hz' _ (by omega)
    · rw [hnv, Dg.vl_drop_succ, Dg.vl_drop_set _ _ _ _ _ (Nat.lt_succ_self _), Dg.getD_set _ _ _ _ (by omega), if_pos rfl, ← hval, Int.pow_succ]
      grind
    obtain ⟨uf, qf, h10, h11⟩ := h9
    refine ⟨uf, qf, ?_, h11⟩
    have e1 : IntKind.i64.wrap ((t : Int) + ((p + 2 : Nat) : Int)) = ((t + (p + 2) : Nat) : Int) := w64add (by omega)
    have e2 : IntKind.i64.wrap (((t + (p + 2) : Nat) : Int) + 1) = ((t + (p + 2) + 1 : Nat) : Int) := w64succ (by omega)
    have e3 : IntKind.i64.wrap ((t : Int) - 1) = (t : Int) - 1 := w64 (by omega) (by omega)
    have e4 : t + (p + 2) + 1 - t = p + 3 := by omega
    clear hz hz' hwl hwd hwv hstep hqr hcomm hr4 hnd hrv hnv hval hqd r0 r1 v0 v1 d1 gu hW0 hWlt hvpos
    rw [LP_go FF b131_0.eq_1]
    simp only [RB, un, St.none, Nat.reduceEqDiff, Nat.reduceAdd, Nat.reduceMul, Nat.reduceLeDiff, Nat.reduceLT, Int.reduceLT, Int.reduceLE, Int.reduceEq, Int.reduceToNat, Int.reduceSub, Int.reduceNeg, Int.reduceAdd, ↓reduceIte, reduceCtorEq, ite_self, eq_self, if_true, if_false, pack, pid, parN, List.not_mem_nil, List.mem_cons, lid, chkK, apartV, List.map_nil, List.flatMap_nil, List.append_nil, List.nil_append, List.drop_zero, List.length_set, List.length_replicate, List.length_append, List.take_length, List.take_zero, List.drop_length, Option.isNone_none, Heap.none, e0, e1, e2, e3, e4, hr1]
    have hk : List.take uu.length (uu.take t ++ r ++ uu.drop (t + (p + 3))) = uu.take t ++ r ++ uu.drop (t + (p + 3)) := List.take_of_length_le (by omega)
    simp (disch := omega) only [if_pos, if_neg, List.take_length, take_set_len, take_set2_len, take_rep_len, take_snoc_len, take_app_len, hk]
    exact h10
theorem long_D {a b : Nat} (hb : 4294967296 ≤ b) (hab : b ≤ a) (hl : L a ≤ 4398046511104) : R FF 131 [(AV.l 1 (List.map u (D a))), (AV.l 1 (List.map u (D b)))] = some (.tup [(AV.l 1 (List.map u (D (a / b)))), (AV.l 1 (List.map u (D (a % b))))]) := by
  obtain ⟨p, hp⟩ : ∃ p, L b = p + 2 := by
    refine ⟨L b - 2, ?_⟩
    have h1 := L_lt b
    have h2 : ¬ L b ≤ 1 := fun h => by
      have h3 : 4294967296 ^ L b ≤ 4294967296 ^ 1 := Nat.pow_le_pow_right (by decide) h
      rw [Nat.pow_one] at h3
      omega
    omega
  obtain ⟨m, hm⟩ : ∃ m, L a + 1 = m + p + 2 := ⟨L a + 1 - (p + 2), by have := L_mono hab; omega⟩
  have hbl := L_lt b
  have hal := L_lt a
  have hT := getD_top hp
  have hT1 := D_get b (p + 1)
  have hT2 : (D b).getD (p + 1) 0 ≠ 0 := by
    have := D_top b (by rw [Ne, D_nil]; omega)
    rwa [show (D b).length - 1 = p + 1 by show L b - 1 = p + 1; omega] at this
  obtain ⟨s, hs, hz, hlo, hhi⟩ := lz32 (x := (D b).getD (p + 1) 0) (by omega) (by omega)
  have hT3 : b / 4294967296 ^ (p + 1) * 2 ^ s < 4294967296 := by
    rw [hT] at hhi
    exact Int.ofNat_lt.1 (by rw [Int.natCast_mul, Int.natCast_pow]; exact hhi)
  have hT4 : 2147483648 ≤ b / 4294967296 ^ (p + 1) * 2 ^ s := by
    rw [hT] at hlo
    exact Int.ofNat_le.1 (by rw [Int.natCast_mul, Int.natCast_pow]; exact hlo)
  have hP : 0 < 4294967296 ^ (p + 1) := Nat.pow_pos (by decide)
  have h2s : 2 ^ s * 2 ^ (32 - s) = 4294967296 := by rw [← Nat.pow_add, show s + (32 - s) = 32 by omega]
  have h2p := Nat.two_pow_pos s
  -- the divisor, shifted: as long, its top bit set
  have hb1 : b * 2 ^ s < 4294967296 ^ (p + 2) := by
    have e1 : b / 4294967296 ^ (p + 1) < 2 ^ (32 - s) := by
      have h3 : b / 4294967296 ^ (p + 1) * 2 ^ s < 2 ^ (32 - s) * 2 ^ s := by rw [Nat.mul_comm (2 ^ (32 - s)), h2s]; exact hT3
      exact Nat.lt_of_mul_lt_mul_right h3
    have e2 : b < 2 ^ (32 - s) * 4294967296 ^ (p + 1) := (Nat.div_lt_iff_lt_mul hP).1 e1
    calc b * 2 ^ s < 2 ^ (32 - s) * 4294967296 ^ (p + 1) * 2 ^ s := Nat.mul_lt_mul_of_pos_right e2 h2p
      _ = (2 ^ s * 2 ^ (32 - s)) * 4294967296 ^ (p + 1) := by rw [Nat.mul_right_comm, Nat.mul_comm (2 ^ (32 - s))]
      _ = 4294967296 ^ (p + 2) := by rw [h2s, Nat.pow_succ _ (p + 1), Nat.mul_comm]
  have hbs : b ≤ b * 2 ^ s := Nat.le_mul_of_pos_right _ h2p
  have hvL : L (b * 2 ^ s) = p + 2 := by
    have := L_mono hbs
    have := L_le hb1
    omega
  have hvT : 2147483648 ≤ b * 2 ^ s / 4294967296 ^ (p + 1) := by
    rw [Nat.le_div_iff_mul_le hP]
    calc 2147483648 * 4294967296 ^ (p + 1) ≤ (b / 4294967296 ^ (p + 1) * 2 ^ s) * 4294967296 ^ (p + 1) := Nat.mul_le_mul_right _ hT4
      _ = (b / 4294967296 ^ (p + 1) * 4294967296 ^ (p + 1)) * 2 ^ s := Nat.mul_right_comm _ _ _
      _ ≤ b * 2 ^ s := Nat.mul_le_mul_right _ (Nat.div_mul_le_self _ _)
  have hvB : 2147483648 * 4294967296 ^ (p + 1) ≤ b * 2 ^ s := (Nat.le_div_iff_mul_le hP).1 hvT
  -- the dividend, shifted
  have has : a ≤ a * 2 ^ s := Nat.le_mul_of_pos_right _ h2p
  have h231 : 2 ^ s ≤ 2147483648 := Nat.pow_le_pow_right (by decide) hs
  have ha1 : a * 2 ^ s < 2147483648 * 4294967296 ^ L a := by
    calc a * 2 ^ s < 4294967296 ^ L a * 2 ^ s := Nat.mul_lt_mul_of_pos_right hal h2p
      _ ≤ 4294967296 ^ L a * 2147483648 := Nat.mul_le_mul_left _ h231
      _ = _ := Nat.mul_comm _ _
  have huL : L (a * 2 ^ s) ≤ L a + 1 := L_le (by
    rw [Nat.pow_succ, Nat.mul_comm (4294967296 ^ L a)]
    refine Nat.lt_of_lt_of_le ha1 ?_
    exact Nat.mul_le_mul_right _ (by decide))
  have huL2 := L_mono has
  have hul : ((D (a * 2 ^ s) ++ [0, 0]).take (L a + 1)).length = m + p + 2 := by
    rw [List.length_take, List.length_append]
    show min (L a + 1) (L (a * 2 ^ s) + 2) = _
    omega
  have hu0 : ∀ j, L a + 1 ≤ j → (D (a * 2 ^ s) ++ [0, 0]).getD j 0 = 0 := fun j hj => by
    rw [List.getD_eq_getElem?_getD, List.getElem?_append_right (by show L _ ≤ j; omega), ← List.getD_eq_getElem?_getD]
    exact getD_rep 2 _
  have hDz : Dg.Dig 4294967296 ([0, 0] : List Int) := Dg.Dig.replicate (by decide) 2
  have hud : Dg.Dig 4294967296 ((D (a * 2 ^ s) ++ [0, 0]).take (L a + 1)) := ((D_dig _).append hDz).take _
  have huv : Dg.vl 4294967296 ((D (a * 2 ^ s) ++ [0, 0]).take (L a + 1)) = ((a * 2 ^ s : Nat) : Int) := by
    rw [vl_take_zero hu0, Dg.vl_append, D_vl, show Dg.vl 4294967296 [0, 0] = 0 from rfl, Int.mul_zero, Int.add_zero]
  have hmt : Dg.vl 4294967296 (((D (a * 2 ^ s) ++ [0, 0]).take (L a + 1)).drop m) < ((b * 2 ^ s : Nat) : Int) := by
    have e1 := Dg.vl_take_drop 4294967296 ((D (a * 2 ^ s) ++ [0, 0]).take (L a + 1)) m
    have e2 := Dg.vl_nonneg (hud.take m) (by decide)
    rw [huv] at e1
    have e3 : a * 2 ^ s < b * 2 ^ s * 4294967296 ^ m := by
      refine Nat.lt_of_lt_of_le ha1 ?_
      rw [show L a = p + 1 + m by omega, Nat.pow_add, ← Nat.mul_assoc]
      exact Nat.mul_le_mul_right _ hvB
    have e4 : ((a * 2 ^ s : Nat) : Int) < ((b * 2 ^ s : Nat) : Int) * 4294967296 ^ m := by
      rw [show (4294967296 : Int) ^ m = ((4294967296 ^ m : Nat) : Int) by rw [Int.natCast_pow]; rfl, ← Int.natCast_mul]
      exact Int.ofNat_lt.2 e3
    apply Classical.byContradiction
    intro hc
    have hPm : (0 : Int) ≤ 4294967296 ^ m := Int.le_of_lt (Int.pow_pos (by decide))
    have e5 := Int.mul_le_mul_of_nonneg_right (Int.not_lt.1 hc) hPm
    rw [Int.mul_comm (4294967296 ^ m)] at e1
    generalize (4294967296 : Int) ^ m = Z at *
    omega
  have hR : (((a % b) * 2 ^ s : Nat) : Int) < ((b * 2 ^ s : Nat) : Int) := Int.ofNat_lt.2 (Nat.mul_lt_mul_of_pos_right (Nat.mod_lt _ (by omega)) h2p)
  obtain ⟨uf, qf, hmain, huf, hqf, hufl, hqfl, hqfv, hufv⟩ := long_l0 (D_dig (b * 2 ^ s)) (p := p) (m := m) (s := s) hvL (by rw [getD_top hvL]; exact Int.ofNat_le.2 hvT) hs (by omega) (Q := a / b) (R := a % b) (by rw [D_vl]; exact hR) m _ (List.replicate m 0) (Nat.le_refl _) hul List.length_replicate hud (Dg.Dig.replicate (by decide) m) (by rw [D_vl]; exact hmt)
    (fun j hj => getD_beyond (by rw [hul]; omega)) (by
      rw [List.drop_of_length_le (by rw [List.length_replicate]; exact Nat.le_refl _), huv, D_vl, Dg.vl_nil, Int.zero_mul, Int.zero_mul, Int.zero_add, ← Int.natCast_mul, ← Int.natCast_add]
      refine congrArg _ ?_
      rw [← Nat.mul_assoc, ← Nat.add_mul, Nat.mul_comm (a / b), Nat.div_add_mod])
  have hbL : (D b).length = p + 2 := hp
  have haL : (D a).length = m + p + 1 := by show L a = _; omega
  have hvl : (D (b * 2 ^ s)).length = p + 2 := hvL
  have hal' : (D (a * 2 ^ s)).length ≤ m + p + 2 := by show L (a * 2 ^ s) ≤ _; omega
  have hal2 : m + p + 2 ≤ (D (a * 2 ^ s)).length + 2 := by show _ ≤ L (a * 2 ^ s) + 2; omega
  have hLR : L (a % b * 2 ^ s) ≤ 35184372088832 := by
    have h1 : L (a % b * 2 ^ s) ≤ L (b * 2 ^ s) := L_mono (Nat.le_of_lt (Int.ofNat_lt.1 hR))
    omega
  have t1 := trim_c hqf (by omega) hqfv
  have t2 := trim_c huf (by omega) hufv
  have t3 := shr_D hLR (n := s) (by omega)
  rw [Nat.mul_div_cancel _ h2p] at t3
  have s1 := shl_D (m := b) (n := s) (by omega) (by omega) (by omega)
  have s2 := shl_D (m := a) (n := s) (by omega) (by omega) (by omega)
  have e1 : IntKind.i64.wrap (((p + 2 : Nat) : Int) - 1) = ((p + 1 : Nat) : Int) := by rw [w64 (by omega) (by omega)]; omega
  have e2 : IntKind.i64.wrap (((m + p + 1 : Nat) : Int) + 1) = ((m + p + 2 : Nat) : Int) := by rw [w64succ (by omega)]
  have e3 : IntKind.u32.wrap ((D b).getD (p + 1) 0) = (D b).getD (p + 1) 0 := by
    rw [show IntKind.u32.wrap ((D b).getD (p + 1) 0) = (D b).getD (p + 1) 0 % 4294967296 by simp [IntKind.wrap, IntKind.bits, IntKind.signed]]
    omega
  have e4 : IntKind.i64.wrap (((m + p + 2 : Nat) : Int) - ((p + 2 : Nat) : Int)) = (m : Int) := by rw [w64 (by omega) (by omega)]; omega
  have e5 : IntKind.i64.wrap ((m : Int) - 1) = (m : Int) - 1 := w64 (by omega) (by omega)
  clear hb1 hbs hvT hvB has ha1 hR hmt huv hu0 hhi hlo hT3 hT4 hT h2s hal hbl hP hT2
  rw [R_go FF F131 c131.eq_1]
  rw [show L a + 1 = m + p + 2 by omega] at hmain
  have e6 : List.map u (D (a * 2 ^ s)) ++ [u 0, u 0] = List.map u (D (a * 2 ^ s) ++ [0, 0]) := by rw [List.map_append]; rfl
  have hLL : (D (a * 2 ^ s)).length ≤ 17592186044416 := by show L _ ≤ _; omega
  simp only [RB, un, St.none, Nat.reduceEqDiff, Nat.reduceAdd, Nat.reduceMul, Nat.reduceLeDiff, Nat.reduceLT, Int.reduceLT, Int.reduceLE, Int.reduceEq, Int.reduceToNat, Int.reduceSub, Int.reduceNeg, Int.reduceAdd, ↓reduceIte, reduceCtorEq, ite_self, eq_self, if_true, if_false, pack, pid, parN, List.not_mem_nil, List.mem_cons, lid, chkK, apartV, List.map_nil, List.flatMap_nil, List.append_nil, List.nil_append, List.drop_zero, List.length_set, List.length_replicate, List.length_append, List.take_length, List.take_zero, List.drop_length, Option.isNone_none, Heap.none, hbL, haL, e1, e2, e3, hz, s1, s2, hvl, e4, e5, e6]
  clear h231 h2p hT1 huL2 hLR hvL hp hz s1 s2 huL hufv hqfv hud hDz
  rw [if_pos (by omega), if_pos (by omega), if_pos (by omega), if_pos (by omega)]
  have e7 : List.take (p + 2) (D (b * 2 ^ s)) = D (b * 2 ^ s) := by rw [← hvl, List.take_length]
  simp (disch := omega) only [if_pos, if_neg, List.take_length, take_set_len, take_set2_len, take_rep_len, take_snoc_len, take_app_len, e7]
  rw [hmain]
  simp only [RB, un, St.none, Nat.reduceEqDiff, Nat.reduceAdd, Nat.reduceMul, Nat.reduceLeDiff, Nat.reduceLT, Int.reduceLT, Int.reduceLE, Int.reduceEq, Int.reduceToNat, Int.reduceSub, Int.reduceNeg, Int.reduceAdd, ↓reduceIte, reduceCtorEq, ite_self, eq_self, if_true, if_false, pack, pid, parN, List.not_mem_nil, List.mem_cons, lid, chkK, apartV, List.map_nil, List.flatMap_nil, List.append_nil, List.nil_append, List.drop_zero, List.length_set, List.length_replicate, List.length_append, List.take_length, List.take_zero, List.drop_length, Option.isNone_none, Heap.none, t1, t2, t3]
theorem divmod_c {x y : List Int} (hx : U x) (hy : U y) (hla : x.length ≤ 4398046511104) (hlb : y.length ≤ 4398046511104) : R FF 115 [(AV.l 1 (List.map u x)), (AV.l 1 (List.map u y))] = some (if W y = 0 then .tup [.l 1 [], .l 1 [], (AV.i .i64 2)] else .tup [(AV.l 1 (List.map u (D (W x / W y)))), (AV.l 1 (List.map u (D (W x % W y)))), (AV.i .i64 0)]) := by
  have h1 := clean_c hx (by omega)
  have h2 := clean_c hy (by omega)
  have hl := L_W x
  have hl2 := L_W y
  generalize W x = a at *
  generalize W y = b at *
  have hlen : (D b).length = L b := rfl
  by_cases h0 : b = 0
  · subst h0
    rw [if_pos rfl]
    rw [R_go FF F115 c115.eq_1]
    simp only [RB, un, St.none, Nat.reduceEqDiff, Nat.reduceAdd, Nat.reduceMul, Nat.reduceLeDiff, Nat.reduceLT, Int.reduceLT, Int.reduceLE, Int.reduceEq, Int.reduceToNat, Int.reduceSub, Int.reduceNeg, Int.reduceAdd, ↓reduceIte, reduceCtorEq, ite_self, eq_self, if_true, if_false, pack, pid, parN, List.not_mem_nil, List.mem_cons, lid, chkK, apartV, List.map_nil, List.flatMap_nil, List.append_nil, List.nil_append, List.drop_zero, List.length_set, List.length_replicate, List.length_append, List.take_length, List.take_zero, List.drop_length, Option.isNone_none, Heap.none, h1, h2, D_zero, List.length_nil]
  rw [if_neg h0]
  have hL0 : L b ≠ 0 := fun h => h0 (D_nil.1 (List.eq_nil_of_length_eq_zero h))
  have ho := order_c (m := a) (n := b) (by omega) (by omega)
  have hL1 : ¬ (L b : Int) = 0 := by omega
  by_cases hlt : a < b
  · have hc : cmp a b < 0 := cmp_lt_iff.2 (by omega)
    rw [R_go FF F115 c115.eq_1]
    simp only [RB, un, St.none, Nat.reduceEqDiff, Nat.reduceAdd, Nat.reduceMul, Nat.reduceLeDiff, Nat.reduceLT, Int.reduceLT, Int.reduceLE, Int.reduceEq, Int.reduceToNat, Int.reduceSub, Int.reduceNeg, Int.reduceAdd, ↓reduceIte, reduceCtorEq, ite_self, eq_self, if_true, if_false, pack, pid, parN, List.not_mem_nil, List.mem_cons, lid, chkK, apartV, List.map_nil, List.flatMap_nil, List.append_nil, List.nil_append, List.drop_zero, List.length_set, List.length_replicate, List.length_append, List.take_length, List.take_zero, List.drop_length, Option.isNone_none, Heap.none, h1, h2, hlen, hL1, ho, hc]
    rw [Nat.div_eq_of_lt hlt, Nat.mod_eq_of_lt hlt, D_zero]
    rfl
  have hc : ¬ cmp a b < 0 := fun h => hlt (by have := cmp_lt_iff.1 h; omega)
  by_cases hs : b < 4294967296
  · have hb := D_small h0 hs
    have h3 : (L b : Int) = 1 := by show ((D b).length : Int) = 1; rw [hb]; rfl
    have h4 := small_D (m := a) (d := b) (by omega) (by omega) (by omega)
    have h5 := Nat.mod_lt a (show 0 < b by omega)
    have h6 := of_c (x := ((a % b : Nat) : Int)) (by omega) (by omega) (n := a % b) rfl
    rw [R_go FF F115 c115.eq_1]
    have h7 : (D b).getD 0 0 = (b : Int) := by rw [hb]; rfl
    simp only [RB, un, St.none, Nat.reduceEqDiff, Nat.reduceAdd, Nat.reduceMul, Nat.reduceLeDiff, Nat.reduceLT, Int.reduceLT, Int.reduceLE, Int.reduceEq, Int.reduceToNat, Int.reduceSub, Int.reduceNeg, Int.reduceAdd, ↓reduceIte, reduceCtorEq, ite_self, eq_self, if_true, if_false, pack, pid, parN, List.not_mem_nil, List.mem_cons, lid, chkK, apartV, List.map_nil, List.flatMap_nil, List.append_nil, List.nil_append, List.drop_zero, List.length_set, List.length_replicate, List.length_append, List.take_length, List.take_zero, List.drop_length, Option.isNone_none, Heap.none, h1, h2, hlen, h3, ho, hc, h7, h4, h6]
  · have h3 : ¬ (L b : Int) = 1 := fun h => by
      have := L_lt b
      rw [show L b = 1 by omega, Nat.pow_one] at this
      omega
    have h4 := long_D (a := a) (b := b) (by omega) (by omega) (by omega)
    rw [R_go FF F115 c115.eq_1]
    simp only [RB, un, St.none, Nat.reduceEqDiff, Nat.reduceAdd, Nat.reduceMul, Nat.reduceLeDiff, Nat.reduceLT, Int.reduceLT, Int.reduceLE, Int.reduceEq, Int.reduceToNat, Int.reduceSub, Int.reduceNeg, Int.reduceAdd, ↓reduceIte, reduceCtorEq, ite_self, eq_self, if_true, if_false, pack, pid, parN, List.not_mem_nil, List.mem_cons, lid, chkK, apartV, List.map_nil, List.flatMap_nil, List.append_nil, List.nil_append, List.drop_zero, List.length_set, List.length_replicate, List.length_append, List.take_length, List.take_zero, List.drop_length, Option.isNone_none, Heap.none, h1, h2, hlen, hL1, ho, hc, h3, h4]
theorem divmod_D {a b : Nat} (hl : L a ≤ 4398046511104) (hlb : L b ≤ 4398046511104) : R FF 115 [(AV.l 1 (List.map u (D a))), (AV.l 1 (List.map u (D b)))] = some (if b = 0 then .tup [.l 1 [], .l 1 [], (AV.i .i64 2)] else .tup [(AV.l 1 (List.map u (D (a / b)))), (AV.l 1 (List.map u (D (a % b)))), (AV.i .i64 0)]) := by
  have := divmod_c (D_U a) (D_U b) hl hlb
  rwa [W_D, W_D] at this
end Go.Pe
set_option linter.unusedSimpArgs false
set_option linter.unusedVariables false
open Go
namespace Go.Pe
theorem odd_part : ∀ n : Nat, n ≠ 0 → ∃ k m, n = 2 ^ k * (2 * m + 1) := by
  intro n
  induction n using Nat.strongRecOn with
  | _ n ih =>
    intro hn
    rcases Nat.mod_two_eq_zero_or_one n with h | h
    · obtain ⟨k, m, hk⟩ := ih (n / 2) (by omega) (by omega)
      refine ⟨k + 1, m, ?_⟩
      have : n = 2 * (n / 2) := by omega
      rw [this, hk, Nat.pow_succ]
      simp only [Nat.mul_comm, Nat.mul_left_comm]
    · exact ⟨0, n / 2, by omega⟩
theorem low_and {x k m : Nat} (hx : x = 2 ^ k * (2 * m + 1)) (h : x < 2 ^ 64) : x &&& (2 ^ 64 - x) = 2 ^ k := by
  have hk : k < 64 := by
    rcases Nat.lt_or_ge k 64 with h1 | h1
    · exact h1
    · have h2 : 2 ^ 64 ≤ 2 ^ k := Nat.pow_le_pow_right (by decide) h1
      have h3 : 2 ^ k * 1 ≤ 2 ^ k * (2 * m + 1) := Nat.mul_le_mul_left _ (by omega)
      omega
  have e1 : 2 ^ 64 = 2 ^ k * (2 * 2 ^ (63 - k)) := by
    rw [show 2 * 2 ^ (63 - k) = 2 ^ (64 - k) by rw [show 64 - k = (63 - k) + 1 by omega, Nat.pow_succ, Nat.mul_comm], ← Nat.pow_add, show k + (64 - k) = 64 by omega]
  have hm : m < 2 ^ (63 - k) := by
    rw [hx, e1] at h
    have := Nat.lt_of_mul_lt_mul_left h
    omega
  have e2 : 2 ^ 64 - x = 2 ^ k * (2 * (2 ^ (63 - k) - (m + 1)) + 1) := by
    rw [hx, e1, ← Nat.mul_sub]
    congr 1
    omega
  rw [e2, hx]
  apply Nat.eq_of_testBit_eq
  intro i
  rw [Nat.testBit_and, Nat.testBit_two_pow_mul, Nat.testBit_two_pow_mul, Nat.testBit_two_pow]
  rcases Nat.lt_trichotomy i k with h1 | h1 | h1
  · have : ¬ i ≥ k := by omega
    have h2 : ¬ k = i := by omega
    simp [this, h2]
  · subst h1
    simp
  · have h2 : ¬ k = i := by omega
    obtain ⟨j, hj⟩ : ∃ j, i - k = j + 1 := ⟨i - k - 1, by omega⟩
    rw [hj, Nat.testBit_succ, Nat.testBit_succ, show (2 * m + 1) / 2 = m by omega, show (2 * (2 ^ (63 - k) - (m + 1)) + 1) / 2 = 2 ^ (63 - k) - (m + 1) by omega, Nat.testBit_two_pow_sub_succ hm]
    cases Nat.testBit m j <;> simp [h2]
theorem pow64 : (2 : Nat) ^ 64 = 18446744073709551616 := by decide
theorem low_and' {x k m : Nat} (hx : x = 2 ^ k * (2 * m + 1)) (h : x < 18446744073709551616) : x &&& (18446744073709551616 - x) = 2 ^ k := by
  rw [← pow64] at h ⊢
  exact low_and hx h
def dB (k : Nat) : Int := (IntKind.u64.wrap (((2 ^ k : Nat) : Int) * 285870213051353865)).fdiv (2 ^ Nat.min 58 IntKind.u64.bits)
def tabIs (x k : Int) : Bool := match tab0[x.toNat]? with
  | some (.i .u8 n) => n == k
  | _ => false
theorem tabIs_spec {x k : Int} (h : tabIs x k = true) : tab0[x.toNat]? = some (AV.i .u8 k) := by
  unfold tabIs at h
  split at h
  · rename_i n hn
    rw [hn]
    simp only [beq_iff_eq] at h
    rw [h]
  · cases h
theorem tab_all : ∀ k : Fin 64, tabIs (dB k.val) (k.val : Int) = true ∧ 0 ≤ dB k.val ∧ dB k.val < 64 := by decide +kernel
theorem tab_at {k : Nat} (hk : k < 64) : tab0[(dB k).toNat]? = some (AV.i .u8 (k : Int)) ∧ 0 ≤ dB k ∧ dB k < 64 := ⟨tabIs_spec (tab_all ⟨k, hk⟩).1, (tab_all ⟨k, hk⟩).2⟩
theorem neg64 {y : Nat} (h : y < 18446744073709551616) (h0 : 0 < y) : IntKind.u64.wrap (0 - (y : Int)) = ((18446744073709551616 - y : Nat) : Int) := by
  rw [u64m]
  omega
theorem tz64 {x : Int} {k m : Nat} (hx : x = ((2 ^ k * (2 * m + 1) : Nat) : Int)) (h : x < 18446744073709551616) : R FF 128 [(AV.i .u64 x)] = some (AV.i .i64 ((k : Int))) ∧ k < 64 := by
  have hlt : 2 ^ k * (2 * m + 1) < 18446744073709551616 := by
    rw [hx] at h
    omega
  have hpos : 0 < 2 ^ k * (2 * m + 1) := Nat.mul_pos (Nat.two_pow_pos k) (by omega)
  have hk : k < 64 := by
    rcases Nat.lt_or_ge k 64 with h1 | h1
    · exact h1
    · have h2 : 2 ^ 64 ≤ 2 ^ k := Nat.pow_le_pow_right (by decide) h1
      rw [pow64] at h2
      have h3 : 2 ^ k * 1 ≤ 2 ^ k * (2 * m + 1) := Nat.mul_le_mul_left _ (by omega)
      omega
  have e3 : IntKind.i64.wrap (k : Int) = k := w64 (by omega) (by omega)
  have ha := low_and' (x := 2 ^ k * (2 * m + 1)) rfl hlt
  generalize 2 ^ k * (2 * m + 1) = y at *
  subst hx
  have e1 := neg64 hlt hpos
  have e2 : Go.bits .and .u64 (y : Int) ((18446744073709551616 - y : Nat) : Int) = ((2 ^ k : Nat) : Int) := by
    rw [(bits_nat .u64 64 (by decide) u64_id y (18446744073709551616 - y) (by rw [pow64]; exact hlt) (by rw [pow64]; exact Nat.sub_lt (by decide) hpos)).1, ha]
  have h0 : ¬ (y : Int) = 0 := fun h => by rw [Int.ofNat_eq_zero.1 h] at hpos; exact absurd hpos (by decide)
  obtain ⟨t4, t2, t3⟩ := tab_at hk
  refine ⟨?_, hk⟩
  clear ha hlt hpos
  have t5 : (0 ≤ dB k ∧ dB k < 64) := ⟨t2, t3⟩
  have t6 : ∀ j, ldC false 1 j tab0 = tab0[j]? := fun _ => rfl
  have t7 : (IntKind.u64.wrap (((2 ^ k : Nat) : Int) * 285870213051353865)).fdiv (2 ^ Nat.min 58 IntKind.u64.bits) = dB k := rfl
  rw [R_go FF F128 c128.eq_1]
  simp only [RB, un, St.none, Nat.reduceEqDiff, Nat.reduceAdd, Nat.reduceMul, Nat.reduceLeDiff, Nat.reduceLT, Int.reduceLT, Int.reduceLE, Int.reduceEq, Int.reduceToNat, Int.reduceSub, Int.reduceNeg, Int.reduceAdd, ↓reduceIte, reduceCtorEq, ite_self, eq_self, if_true, if_false, pack, pid, parN, List.not_mem_nil, List.mem_cons, lid, chkK, apartV, List.map_nil, List.flatMap_nil, List.append_nil, List.nil_append, List.drop_zero, List.length_set, List.length_replicate, List.length_append, List.take_length, List.take_zero, List.drop_length, Option.isNone_none, Heap.none, e1, e2, h0, t7, t5, Nat.mul_one, t6, t4, e3]
end Go.Pe
set_option linter.unusedSimpArgs false
set_option linter.unusedVariables false
open Go
namespace Go.Pe
theorem zeros_l0 {n : Nat} (hn : n ≠ 0) (hl : L n ≤ 4398046511104) : ∀ (d i : Nat), i + d = (D n).length → Dg.vl 4294967296 ((D n).take i) = 0 →
    ∃ z m c : Nat, n = 2 ^ z * (2 * m + 1) ∧ z ≤ 32 * L n ∧ LP FF [(3, 0), (6, 0), (7, 0), (8, 0)] [(2, 0), (3, 0)] b108_0 [(AV.i .i64 (((32 * i : Nat) : Int))), (AV.l 1 (List.map u (D n))), (AV.i .i64 (((D n).length : Int))), (AV.i .i64 ((i : Int)))] = some (.ret, [(AV.i .i64 ((z : Int))), (AV.i .i64 ((c : Int)))]) := by
  intro d
  have hl' : (D n).length ≤ 4398046511104 := hl
  induction d with
  | zero =>
    intro i hi hz
    rw [List.take_of_length_le (by omega), D_vl] at hz
    omega
  | succ d ih =>
    intro i hi hz
    have g := D_get n i
    obtain ⟨x, hx⟩ := Int.eq_ofNat_of_zero_le g.1
    have e1 : IntKind.i64.wrap ((i : Int) + 1) = ((i + 1 : Nat) : Int) := w64succ (by omega)
    have e2 : IntKind.i64.wrap (((32 * i : Nat) : Int) + 32) = ((32 * (i + 1) : Nat) : Int) := by rw [w64 (by omega) (by omega)]; omega
    have e3 : IntKind.i64.wrap (32 * (i : Int)) = ((32 * i : Nat) : Int) := by rw [w64 (by omega) (by omega)]; omega
    by_cases h0 : x = 0
    · subst h0
      obtain ⟨z, m, c, h1, h2, h3⟩ := ih (i + 1) (by omega) (by rw [Dg.vl_take_succ, hz, hx]; simp)
      refine ⟨z, m, c, h1, h2, ?_⟩
      rw [LP_go FF b108_0.eq_1]
      simp only [RB, un, St.none, Nat.reduceEqDiff, Nat.reduceAdd, Nat.reduceMul, Nat.reduceLeDiff, Nat.reduceLT, Int.reduceLT, Int.reduceLE, Int.reduceEq, Int.reduceToNat, Int.reduceSub, Int.reduceNeg, Int.reduceAdd, ↓reduceIte, reduceCtorEq, ite_self, eq_self, if_true, if_false, pack, pid, parN, List.not_mem_nil, List.mem_cons, lid, chkK, apartV, List.map_nil, List.flatMap_nil, List.append_nil, List.nil_append, List.drop_zero, List.length_set, List.length_replicate, List.length_append, List.take_length, List.take_zero, List.drop_length, Option.isNone_none, Heap.none, hx, e1, e2, e3]
      simp (disch := omega) only [if_pos, if_neg, List.take_length, take_set_len, take_set2_len, take_rep_len, take_snoc_len, take_app_len]
      exact h3
    · obtain ⟨k, m, hk⟩ := odd_part x h0
      have hxlt : x < 4294967296 := by omega
      obtain ⟨t1, t2⟩ := tz64 (x := (x : Int)) (k := k) (m := m) (by rw [hk]) (by omega)
      have hk32 : k < 32 := by
        rcases Nat.lt_or_ge k 32 with h1 | h1
        · exact h1
        · have h2 : 2 ^ 32 ≤ 2 ^ k := Nat.pow_le_pow_right (by decide) h1
          have h3 : 2 ^ k * 1 ≤ 2 ^ k * (2 * m + 1) := Nat.mul_le_mul_left _ (by omega)
          rw [← hk] at h3
          have : (2 : Nat) ^ 32 = 4294967296 := by decide
          omega
      -- the number
      have hv := D_vl n
      rw [Dg.vl_take_drop 4294967296 (D n) i, hz, Dg.vl_drop_succ, hx] at hv
      obtain ⟨r, hr⟩ := Int.eq_ofNat_of_zero_le (Dg.vl_nonneg ((D_dig n).drop (i + 1)) (by decide))
      rw [hr] at hv
      have hn2 : n = 4294967296 ^ i * (x + 4294967296 * r) := by
        have : ((n : Nat) : Int) = ((4294967296 ^ i * (x + 4294967296 * r) : Nat) : Int) := by
          rw [← hv]
          simp only [Int.natCast_mul, Int.natCast_pow, Int.natCast_add]
          simp
        exact Int.ofNat.inj this
      have hp : (4294967296 : Nat) = 2 ^ k * (2 * 2 ^ (31 - k)) := by
        rw [show 2 * 2 ^ (31 - k) = 2 ^ (32 - k) by rw [show 32 - k = (31 - k) + 1 by omega, Nat.pow_succ, Nat.mul_comm], ← Nat.pow_add, show k + (32 - k) = 32 by omega]
      refine ⟨32 * i + k, m + 2 ^ (31 - k) * r, 32 * i, ?_, ?_, ?_⟩
      · rw [hn2, hk, Nat.pow_add, Nat.pow_mul, show (2 : Nat) ^ 32 = 4294967296 by decide, Nat.mul_assoc]
        congr 1
        conv => lhs; rw [hp]
        grind
      · have : L n = (D n).length := rfl
        omega
      · have e4 : IntKind.i64.wrap (((32 * i : Nat) : Int) + (k : Int)) = ((32 * i + k : Nat) : Int) := w64add (by omega)
        have e5 : ¬ (x : Int) = 0 := by omega
        clear hv hr hn2 hp hk hz hxlt
        rw [LP_go FF b108_0.eq_1]
        simp only [RB, un, St.none, Nat.reduceEqDiff, Nat.reduceAdd, Nat.reduceMul, Nat.reduceLeDiff, Nat.reduceLT, Int.reduceLT, Int.reduceLE, Int.reduceEq, Int.reduceToNat, Int.reduceSub, Int.reduceNeg, Int.reduceAdd, ↓reduceIte, reduceCtorEq, ite_self, eq_self, if_true, if_false, pack, pid, parN, List.not_mem_nil, List.mem_cons, lid, chkK, apartV, List.map_nil, List.flatMap_nil, List.append_nil, List.nil_append, List.drop_zero, List.length_set, List.length_replicate, List.length_append, List.take_length, List.take_zero, List.drop_length, Option.isNone_none, Heap.none, hx, e1, e2, e3, t1, e4, e5]
        simp (disch := omega) only [if_pos, if_neg, List.take_length, take_set_len, take_set2_len, take_rep_len, take_snoc_len, take_app_len]
theorem zeros_c {n : Nat} (hn : n ≠ 0) (hl : L n ≤ 4398046511104) : ∃ z m : Nat, n = 2 ^ z * (2 * m + 1) ∧ z ≤ 32 * L n ∧ R FF 108 [(AV.l 1 (List.map u (D n)))] = some (AV.i .i64 ((z : Int))) := by
  obtain ⟨z, m, c, h1, h2, h3⟩ := zeros_l0 hn hl (D n).length 0 (by omega) (by simp [Dg.vl])
  refine ⟨z, m, h1, h2, ?_⟩
  rw [Nat.mul_zero, Int.ofNat_zero] at h3
  rw [R_go FF F108 c108.eq_1]
  simp only [RB, un, St.none, Nat.reduceEqDiff, Nat.reduceAdd, Nat.reduceMul, Nat.reduceLeDiff, Nat.reduceLT, Int.reduceLT, Int.reduceLE, Int.reduceEq, Int.reduceToNat, Int.reduceSub, Int.reduceNeg, Int.reduceAdd, ↓reduceIte, reduceCtorEq, ite_self, eq_self, if_true, if_false, pack, pid, parN, List.not_mem_nil, List.mem_cons, lid, chkK, apartV, List.map_nil, List.flatMap_nil, List.append_nil, List.nil_append, List.drop_zero, List.length_set, List.length_replicate, List.length_append, List.take_length, List.take_zero, List.drop_length, Option.isNone_none, Heap.none, h3]
theorem to_c {x : List Int} (hx : U x) (hl : x.length ≤ 35184372088832) : R FF 127 [(AV.l 1 (List.map u x))] = some (if W x < 18446744073709551616 then .tup [(AV.i .u64 ((W x : Int))), .b true] else .tup [(AV.i .u64 0), .b false]) := by
  have h1 := clean_c hx hl
  generalize W x = n at *
  by_cases h0 : n = 0
  · subst h0
    rw [R_go FF F127 c127.eq_1]
    simp only [RB, un, St.none, Nat.reduceEqDiff, Nat.reduceAdd, Nat.reduceMul, Nat.reduceLeDiff, Nat.reduceLT, Int.reduceLT, Int.reduceLE, Int.reduceEq, Int.reduceToNat, Int.reduceSub, Int.reduceNeg, Int.reduceAdd, ↓reduceIte, reduceCtorEq, ite_self, eq_self, if_true, if_false, pack, pid, parN, List.not_mem_nil, List.mem_cons, lid, chkK, apartV, List.map_nil, List.flatMap_nil, List.append_nil, List.nil_append, List.drop_zero, List.length_set, List.length_replicate, List.length_append, List.take_length, List.take_zero, List.drop_length, Option.isNone_none, Heap.none, h1, D_zero, List.length_nil]
  by_cases h2 : n < 4294967296
  · rw [D_small h0 h2] at h1
    rw [if_pos (by omega)]
    rw [R_go FF F127 c127.eq_1]
    simp only [RB, un, St.none, Nat.reduceEqDiff, Nat.reduceAdd, Nat.reduceMul, Nat.reduceLeDiff, Nat.reduceLT, Int.reduceLT, Int.reduceLE, Int.reduceEq, Int.reduceToNat, Int.reduceSub, Int.reduceNeg, Int.reduceAdd, ↓reduceIte, reduceCtorEq, ite_self, eq_self, if_true, if_false, pack, pid, parN, List.not_mem_nil, List.mem_cons, lid, chkK, apartV, List.map_nil, List.flatMap_nil, List.append_nil, List.nil_append, List.drop_zero, List.length_set, List.length_replicate, List.length_append, List.take_length, List.take_zero, List.drop_length, Option.isNone_none, Heap.none, h1]
  by_cases h3 : n < 18446744073709551616
  · rw [D_two (by omega) h3] at h1
    rw [if_pos h3]
    have e1 := shl32 (x := ((n / 4294967296 : Nat) : Int)) (by omega) (by omega)
    have e2 := or32 (x := ((n / 4294967296 : Nat) : Int)) (y := ((n % 4294967296 : Nat) : Int)) (by omega) (by omega) (by omega) (by omega)
    rw [R_go FF F127 c127.eq_1]
    simp only [RB, un, St.none, Nat.reduceEqDiff, Nat.reduceAdd, Nat.reduceMul, Nat.reduceLeDiff, Nat.reduceLT, Int.reduceLT, Int.reduceLE, Int.reduceEq, Int.reduceToNat, Int.reduceSub, Int.reduceNeg, Int.reduceAdd, ↓reduceIte, reduceCtorEq, ite_self, eq_self, if_true, if_false, pack, pid, parN, List.not_mem_nil, List.mem_cons, lid, chkK, apartV, List.map_nil, List.flatMap_nil, List.append_nil, List.nil_append, List.drop_zero, List.length_set, List.length_replicate, List.length_append, List.take_length, List.take_zero, List.drop_length, Option.isNone_none, Heap.none, h1, e1, e2]
    congr 4
    omega
  · rw [if_neg h3]
    have h4 := D_more (n := n) (by omega)
    rw [R_go FF F127 c127.eq_1]
    simp only [RB, un, St.none, Nat.reduceEqDiff, Nat.reduceAdd, Nat.reduceMul, Nat.reduceLeDiff, Nat.reduceLT, Int.reduceLT, Int.reduceLE, Int.reduceEq, Int.reduceToNat, Int.reduceSub, Int.reduceNeg, Int.reduceAdd, ↓reduceIte, reduceCtorEq, ite_self, eq_self, if_true, if_false, pack, pid, parN, List.not_mem_nil, List.mem_cons, lid, chkK, apartV, List.map_nil, List.flatMap_nil, List.append_nil, List.nil_append, List.drop_zero, List.length_set, List.length_replicate, List.length_append, List.take_length, List.take_zero, List.drop_length, Option.isNone_none, Heap.none, h1]
    simp (disch := omega) only [if_pos, if_neg, List.take_length, take_set_len, take_set2_len, take_rep_len, take_snoc_len, take_app_len]
theorem to_D {n : Nat} (hl : L n ≤ 35184372088832) : R FF 127 [(AV.l 1 (List.map u (D n)))] = some (if n < 18446744073709551616 then .tup [(AV.i .u64 ((n : Int))), .b true] else .tup [(AV.i .u64 0), .b false]) := by
  have := to_c (D_U n) hl
  rwa [W_D] at this
theorem euclid_l0 : ∀ (n a b : Nat), b ≤ n → a < 18446744073709551616 → b < 18446744073709551616 → LP FF [(5, 0), (7, 0)] [(5, 0)] b107_0 [(AV.i .u64 ((a : Int))), (AV.i .u64 ((b : Int)))] = some (.exit 0, [(AV.i .u64 ((Nat.gcd a b : Int)))]) := by
  intro n
  induction n with
  | zero =>
    intro a b hb ha hb2
    have : b = 0 := by omega
    subst this
    rw [LP_go FF b107_0.eq_1]
    simp only [RB, un, St.none, Nat.reduceEqDiff, Nat.reduceAdd, Nat.reduceMul, Nat.reduceLeDiff, Nat.reduceLT, Int.reduceLT, Int.reduceLE, Int.reduceEq, Int.reduceToNat, Int.reduceSub, Int.reduceNeg, Int.reduceAdd, ↓reduceIte, reduceCtorEq, ite_self, eq_self, if_true, if_false, pack, pid, parN, List.not_mem_nil, List.mem_cons, lid, chkK, apartV, List.map_nil, List.flatMap_nil, List.append_nil, List.nil_append, List.drop_zero, List.length_set, List.length_replicate, List.length_append, List.take_length, List.take_zero, List.drop_length, Option.isNone_none, Heap.none]
    rw [Nat.gcd_zero_right]
  | succ n ih =>
    intro a b hb ha hb2
    by_cases h0 : b = 0
    · subst h0
      rw [LP_go FF b107_0.eq_1]
      simp only [RB, un, St.none, Nat.reduceEqDiff, Nat.reduceAdd, Nat.reduceMul, Nat.reduceLeDiff, Nat.reduceLT, Int.reduceLT, Int.reduceLE, Int.reduceEq, Int.reduceToNat, Int.reduceSub, Int.reduceNeg, Int.reduceAdd, ↓reduceIte, reduceCtorEq, ite_self, eq_self, if_true, if_false, pack, pid, parN, List.not_mem_nil, List.mem_cons, lid, chkK, apartV, List.map_nil, List.flatMap_nil, List.append_nil, List.nil_append, List.drop_zero, List.length_set, List.length_replicate, List.length_append, List.take_length, List.take_zero, List.drop_length, Option.isNone_none, Heap.none]
      rw [Nat.gcd_zero_right]
    · have h1 := Nat.mod_lt a (show 0 < b by omega)
      have h2 := ih b (a % b) (by omega) hb2 (by omega)
      have e1 : Int.tmod (a : Int) (b : Int) = ((a % b : Nat) : Int) := by rw [tmod_pos (by omega)]; omega
      have e2 : ¬ (b : Int) = 0 := by omega
      rw [show Nat.gcd b (a % b) = Nat.gcd a b by rw [Nat.gcd_comm b, ← Nat.gcd_rec, Nat.gcd_comm]] at h2
      rw [LP_go FF b107_0.eq_1]
      simp only [RB, un, St.none, Nat.reduceEqDiff, Nat.reduceAdd, Nat.reduceMul, Nat.reduceLeDiff, Nat.reduceLT, Int.reduceLT, Int.reduceLE, Int.reduceEq, Int.reduceToNat, Int.reduceSub, Int.reduceNeg, Int.reduceAdd, ↓reduceIte, reduceCtorEq, ite_self, eq_self, if_true, if_false, pack, pid, parN, List.not_mem_nil, List.mem_cons, lid, chkK, apartV, List.map_nil, List.flatMap_nil, List.append_nil, List.nil_append, List.drop_zero, List.length_set, List.length_replicate, List.length_append, List.take_length, List.take_zero, List.drop_length, Option.isNone_none, Heap.none, e1, e2]
      exact h2
theorem euclid_c {a b : Nat} (ha : a < 18446744073709551616) (hb : b < 18446744073709551616) : R FF 107 [(AV.l 1 (List.map u (D a))), (AV.l 1 (List.map u (D b)))] = some (AV.l 1 (List.map u (D (Nat.gcd a b)))) := by
  have la : L a ≤ 2 := L_le (by omega)
  have lb : L b ≤ 2 := L_le (by omega)
  have h1 := to_D (n := a) (by omega)
  have h2 := to_D (n := b) (by omega)
  rw [if_pos ha] at h1
  rw [if_pos hb] at h2
  have h3 := euclid_l0 b a b (Nat.le_refl _) ha hb
  have h4 : Nat.gcd a b < 18446744073709551616 := by
    rcases Nat.eq_zero_or_pos a with h | h
    · subst h; rw [Nat.gcd_zero_left]; exact hb
    · exact Nat.lt_of_le_of_lt (Nat.gcd_le_left b h) ha
  have h5 := of_c (x := ((Nat.gcd a b : Nat) : Int)) (by omega) (by omega) rfl
  rw [R_go FF F107 c107.eq_1]
  simp only [RB, un, St.none, Nat.reduceEqDiff, Nat.reduceAdd, Nat.reduceMul, Nat.reduceLeDiff, Nat.reduceLT, Int.reduceLT, Int.reduceLE, Int.reduceEq, Int.reduceToNat, Int.reduceSub, Int.reduceNeg, Int.reduceAdd, ↓reduceIte, reduceCtorEq, ite_self, eq_self, if_true, if_false, pack, pid, parN, List.not_mem_nil, List.mem_cons, lid, chkK, apartV, List.map_nil, List.flatMap_nil, List.append_nil, List.nil_append, List.drop_zero, List.length_set, List.length_replicate, List.length_append, List.take_length, List.take_zero, List.drop_length, Option.isNone_none, Heap.none, h1, h2, h3, h5]
theorem rest_D {a b : Nat} (hb : b ≠ 0) (hl : L a ≤ 4398046511104) (hlb : L b ≤ 4398046511104) : R FF 112 [(AV.l 1 (List.map u (D a))), (AV.l 1 (List.map u (D b)))] = some (.tup [(AV.l 1 (List.map u (D (a / b)))), (AV.l 1 (List.map u (D (a % b))))]) := by
  have h1 := divmod_D hl hlb
  rw [if_neg hb] at h1
  rw [R_go FF F112 c112.eq_1]
  simp only [RB, un, St.none, Nat.reduceEqDiff, Nat.reduceAdd, Nat.reduceMul, Nat.reduceLeDiff, Nat.reduceLT, Int.reduceLT, Int.reduceLE, Int.reduceEq, Int.reduceToNat, Int.reduceSub, Int.reduceNeg, Int.reduceAdd, ↓reduceIte, reduceCtorEq, ite_self, eq_self, if_true, if_false, pack, pid, parN, List.not_mem_nil, List.mem_cons, lid, chkK, apartV, List.map_nil, List.flatMap_nil, List.append_nil, List.nil_append, List.drop_zero, List.length_set, List.length_replicate, List.length_append, List.take_length, List.take_zero, List.drop_length, Option.isNone_none, Heap.none, h1]
theorem odd_gcd {k m b : Nat} (hb : b % 2 = 1) : Nat.gcd (2 ^ k * m) b = Nat.gcd m b := by
  refine Nat.Coprime.gcd_mul_left_cancel m (Nat.Coprime.pow_left k ?_)
  have h : Nat.gcd 2 b ∣ 2 := Nat.gcd_dvd_left 2 b
  have h2 : Nat.gcd 2 b ∣ b := Nat.gcd_dvd_right 2 b
  have h3 := Nat.le_of_dvd (by decide) h
  have h4 : Nat.gcd 2 b ≠ 0 := Nat.gcd_ne_zero_left (by decide)
  show Nat.gcd 2 b = 1
  rcases (show Nat.gcd 2 b = 1 ∨ Nat.gcd 2 b = 2 by omega) with h5 | h5
  · exact h5
  · rw [h5] at h2
    omega
theorem gcd_l0 {x y : Nat} (hx : x ≤ 140737488355328) (hy : y ≤ 140737488355328) : ∀ (n a b : Nat), a + b ≤ n → a % 2 = 1 → b % 2 = 1 → L a ≤ 4398046511104 → L b ≤ 4398046511104 →
    LP FF [(0, 0), (1, 0), (5, 0), (6, 0)] [(4, 0)] b71_0 [(AV.l 1 (List.map u (D a))), (AV.l 1 (List.map u (D b))), (AV.i .i64 ((x : Int))), (AV.i .i64 ((y : Int)))] = some (.ret, [(AV.l 1 (List.map u (D (Nat.gcd a b * 2 ^ min x y))))]) := by
  intro n
  have hmin : (if (y : Int) < (x : Int) then (y : Int) else (x : Int)) = ((min x y : Nat) : Int) := by split <;> omega
  have hm32 : min x y / 32 ≤ 4398046511104 := by omega
  induction n with
  | zero => intro a b h ha; omega
  | succ n ih =>
    intro a b hn ha hb hla hlb
    have go : ∀ a2 s : Nat, a2 ≠ 0 → s % 2 = 1 → a2 + s < a + b → L a2 ≤ 4398046511104 → L s ≤ 4398046511104 → ∃ z m : Nat, R FF 108 [(AV.l 1 (List.map u (D a2)))] = some (AV.i .i64 ((z : Int))) ∧ R FF 109 [(AV.l 1 (List.map u (D a2))), (AV.i .i64 ((z : Int)))] = some (AV.l 1 (List.map u (D (2 * m + 1)))) ∧
        LP FF [(0, 0), (1, 0), (5, 0), (6, 0)] [(4, 0)] b71_0 [(AV.l 1 (List.map u (D (2 * m + 1)))), (AV.l 1 (List.map u (D s))), (AV.i .i64 ((x : Int))), (AV.i .i64 ((y : Int)))] = some (.ret, [(AV.l 1 (List.map u (D (Nat.gcd a2 s * 2 ^ min x y))))]) := by
      intro a2 s h2 hs hlt hL2 hLs
      obtain ⟨z, m, h3, h4, h5⟩ := zeros_c h2 hL2
      have hp := Nat.two_pow_pos z
      have h6 := shr_D (m := a2) (n := z) (by omega) (by omega)
      have h7 : a2 / 2 ^ z = 2 * m + 1 := by rw [h3, Nat.mul_comm, Nat.mul_div_cancel _ hp]
      rw [h7] at h6
      have h8 : 2 * m + 1 ≤ a2 := by rw [← h7]; exact Nat.div_le_self _ _
      have h9 := ih (2 * m + 1) s (by omega) (by omega) hs (Nat.le_trans (L_mono h8) hL2) hLs
      rw [← odd_gcd (k := z) hs, ← h3] at h9
      exact ⟨z, m, h5, h6, h9⟩
    have ho := order_c (m := a) (n := b) (by omega) (by omega)
    have la : (D a).length = L a := rfl
    have lb : (D b).length = L b := rfl
    have w1 : IntKind.i64.wrap ((L b : Int) + 1) = ((L b + 1 : Nat) : Int) := w64succ (by omega)
    have w2 : IntKind.i64.wrap ((L a : Int) + 1) = ((L a + 1 : Nat) : Int) := w64succ (by omega)
    rcases Nat.lt_trichotomy a b with hab | hab | hab
    · have c1 : cmp (a : Int) b = -1 := cmp_lt (by omega)
      rw [c1] at ho
      by_cases hL : L a + 1 < L b
      · have hr := rest_D (a := b) (b := a) (by omega) hlb hla
        have c2 : ((L a + 1 : Nat) : Int) < (L b : Int) := by omega
        by_cases hz : b % a = 0
        · have hs := shl_D (m := a) (n := min x y) (by omega) (by omega) (by omega)
          have hg : Nat.gcd a b = a := Nat.gcd_eq_left (Nat.dvd_of_mod_eq_zero hz)
          rw [hg]
          rw [hz, D_zero] at hr
          rw [LP_go FF b71_0.eq_1]
          simp only [RB, un, St.none, Nat.reduceEqDiff, Nat.reduceAdd, Nat.reduceMul, Nat.reduceLeDiff, Nat.reduceLT, Int.reduceLT, Int.reduceLE, Int.reduceEq, Int.reduceToNat, Int.reduceSub, Int.reduceNeg, Int.reduceAdd, ↓reduceIte, reduceCtorEq, ite_self, eq_self, if_true, if_false, pack, pid, parN, List.not_mem_nil, List.mem_cons, lid, chkK, apartV, List.map_nil, List.flatMap_nil, List.append_nil, List.nil_append, List.drop_zero, List.length_set, List.length_replicate, List.length_append, List.take_length, List.take_zero, List.drop_length, Option.isNone_none, Heap.none, ho, la, lb, w2, c2, hr, List.length_nil, hmin, hs]
        · obtain ⟨z, m, g1, g2, g3⟩ := go (b % a) a hz ha (by have := Nat.mod_lt b (show 0 < a by omega); omega) (Nat.le_trans (L_mono (Nat.mod_le _ _)) hlb) hla
          have hz' : ¬ (L (b % a) : Int) = 0 := fun h => hz (D_nil.1 (List.eq_nil_of_length_eq_zero (by show L _ = 0; omega)))
          have lr : (D (b % a)).length = L (b % a) := rfl
          rw [← Nat.gcd_rec] at g3
          rw [LP_go FF b71_0.eq_1]
          simp only [RB, un, St.none, Nat.reduceEqDiff, Nat.reduceAdd, Nat.reduceMul, Nat.reduceLeDiff, Nat.reduceLT, Int.reduceLT, Int.reduceLE, Int.reduceEq, Int.reduceToNat, Int.reduceSub, Int.reduceNeg, Int.reduceAdd, ↓reduceIte, reduceCtorEq, ite_self, eq_self, if_true, if_false, pack, pid, parN, List.not_mem_nil, List.mem_cons, lid, chkK, apartV, List.map_nil, List.flatMap_nil, List.append_nil, List.nil_append, List.drop_zero, List.length_set, List.length_replicate, List.length_append, List.take_length, List.take_zero, List.drop_length, Option.isNone_none, Heap.none, ho, la, lb, w2, c2, hr, lr, hz', g1, g2]
          exact g3
      · have c2 : ¬ ((L a + 1 : Nat) : Int) < (L b : Int) := by omega
        have hm := nminus_c (m := b) (n := a) (by omega) (by omega)
        obtain ⟨z, m, g1, g2, g3⟩ := go (b - a) a (by omega) ha (by omega) (Nat.le_trans (L_mono (by omega)) hlb) hla
        rw [Nat.gcd_sub_self_left (by omega), Nat.gcd_comm] at g3
        rw [LP_go FF b71_0.eq_1]
        simp only [RB, un, St.none, Nat.reduceEqDiff, Nat.reduceAdd, Nat.reduceMul, Nat.reduceLeDiff, Nat.reduceLT, Int.reduceLT, Int.reduceLE, Int.reduceEq, Int.reduceToNat, Int.reduceSub, Int.reduceNeg, Int.reduceAdd, ↓reduceIte, reduceCtorEq, ite_self, eq_self, if_true, if_false, pack, pid, parN, List.not_mem_nil, List.mem_cons, lid, chkK, apartV, List.map_nil, List.flatMap_nil, List.append_nil, List.nil_append, List.drop_zero, List.length_set, List.length_replicate, List.length_append, List.take_length, List.take_zero, List.drop_length, Option.isNone_none, Heap.none, ho, la, lb, w2, c2, hm, g1, g2]
        exact g3
    · subst hab
      have c1 : cmp (a : Int) a = 0 := cmp_eq rfl
      rw [c1] at ho
      have hs := shl_D (m := a) (n := min x y) (by omega) (by omega) (by omega)
      rw [Nat.gcd_self]
      rw [LP_go FF b71_0.eq_1]
      simp only [RB, un, St.none, Nat.reduceEqDiff, Nat.reduceAdd, Nat.reduceMul, Nat.reduceLeDiff, Nat.reduceLT, Int.reduceLT, Int.reduceLE, Int.reduceEq, Int.reduceToNat, Int.reduceSub, Int.reduceNeg, Int.reduceAdd, ↓reduceIte, reduceCtorEq, ite_self, eq_self, if_true, if_false, pack, pid, parN, List.not_mem_nil, List.mem_cons, lid, chkK, apartV, List.map_nil, List.flatMap_nil, List.append_nil, List.nil_append, List.drop_zero, List.length_set, List.length_replicate, List.length_append, List.take_length, List.take_zero, List.drop_length, Option.isNone_none, Heap.none, ho, hmin, hs]
    · have c1 : cmp (a : Int) b = 1 := cmp_gt (by omega)
      rw [c1] at ho
      by_cases hL : L b + 1 < L a
      · have hr := rest_D (a := a) (b := b) (by omega) hla hlb
        have c2 : ((L b + 1 : Nat) : Int) < (L a : Int) := by omega
        by_cases hz : a % b = 0
        · have hs := shl_D (m := b) (n := min x y) (by omega) (by omega) (by omega)
          have hg : Nat.gcd a b = b := Nat.gcd_eq_right (Nat.dvd_of_mod_eq_zero hz)
          rw [hg]
          rw [hz, D_zero] at hr
          rw [LP_go FF b71_0.eq_1]
          simp only [RB, un, St.none, Nat.reduceEqDiff, Nat.reduceAdd, Nat.reduceMul, Nat.reduceLeDiff, Nat.reduceLT, Int.reduceLT, Int.reduceLE, Int.reduceEq, Int.reduceToNat, Int.reduceSub, Int.reduceNeg, Int.reduceAdd, ↓reduceIte, reduceCtorEq, ite_self, eq_self, if_true, if_false, pack, pid, parN, List.not_mem_nil, List.mem_cons, lid, chkK, apartV, List.map_nil, List.flatMap_nil, List.append_nil, List.nil_append, List.drop_zero, List.length_set, List.length_replicate, List.length_append, List.take_length, List.take_zero, List.drop_length, Option.isNone_none, Heap.none, ho, la, lb, w1, c2, hr, List.length_nil, hmin, hs]
        · obtain ⟨z, m, g1, g2, g3⟩ := go (a % b) b hz hb (by have := Nat.mod_lt a (show 0 < b by omega); omega) (Nat.le_trans (L_mono (Nat.mod_le _ _)) hla) hlb
          have hz' : ¬ (L (a % b) : Int) = 0 := fun h => hz (D_nil.1 (List.eq_nil_of_length_eq_zero (by show L _ = 0; omega)))
          have lr : (D (a % b)).length = L (a % b) := rfl
          rw [← Nat.gcd_rec, Nat.gcd_comm] at g3
          rw [LP_go FF b71_0.eq_1]
          simp only [RB, un, St.none, Nat.reduceEqDiff, Nat.reduceAdd, Nat.reduceMul, Nat.reduceLeDiff, Nat.reduceLT, Int.reduceLT, Int.reduceLE, Int.reduceEq, Int.reduceToNat, Int.reduceSub, Int.reduceNeg, Int.reduceAdd, ↓reduceIte, reduceCtorEq, ite_self, eq_self, if_true, if_false, pack, pid, parN, List.not_mem_nil, List.mem_cons, lid, chkK, apartV, List.map_nil, List.flatMap_nil, List.append_nil, List.nil_append, List.drop_zero, List.length_set, List.length_replicate, List.length_append, List.take_length, List.take_zero, List.drop_length, Option.isNone_none, Heap.none, ho, la, lb, w1, c2, hr, lr, hz', g1, g2]
          exact g3
      · have c2 : ¬ ((L b + 1 : Nat) : Int) < (L a : Int) := by omega
        have hm := nminus_c (m := a) (n := b) (by omega) (by omega)
        obtain ⟨z, m, g1, g2, g3⟩ := go (a - b) b (by omega) hb (by omega) (Nat.le_trans (L_mono (by omega)) hla) hlb
        rw [Nat.gcd_sub_self_left (by omega)] at g3
        rw [LP_go FF b71_0.eq_1]
        simp only [RB, un, St.none, Nat.reduceEqDiff, Nat.reduceAdd, Nat.reduceMul, Nat.reduceLeDiff, Nat.reduceLT, Int.reduceLT, Int.reduceLE, Int.reduceEq, Int.reduceToNat, Int.reduceSub, Int.reduceNeg, Int.reduceAdd, ↓reduceIte, reduceCtorEq, ite_self, eq_self, if_true, if_false, pack, pid, parN, List.not_mem_nil, List.mem_cons, lid, chkK, apartV, List.map_nil, List.flatMap_nil, List.append_nil, List.nil_append, List.drop_zero, List.length_set, List.length_replicate, List.length_append, List.take_length, List.take_zero, List.drop_length, Option.isNone_none, Heap.none, ho, la, lb, w1, c2, hm, g1, g2]
        exact g3
theorem gcd_c {x y : List Int} (hx : U x) (hy : U y) (hla : x.length ≤ 2199023255552) (hlb : y.length ≤ 2199023255552) : R FF 71 [(AV.l 1 (List.map u x)), (AV.l 1 (List.map u y))] = some (AV.l 1 (List.map u (D (Nat.gcd (W x) (W y))))) := by
  have h1 := clean_c hx (by omega)
  have h2 := clean_c hy (by omega)
  have hl := L_W x
  have hl2 := L_W y
  generalize W x = a at *
  generalize W y = b at *
  have la : (D a).length = L a := rfl
  have lb : (D b).length = L b := rfl
  by_cases h3 : a = 0
  · subst h3
    rw [Nat.gcd_zero_left]
    rw [R_go FF F71 c71.eq_1]
    simp only [RB, un, St.none, Nat.reduceEqDiff, Nat.reduceAdd, Nat.reduceMul, Nat.reduceLeDiff, Nat.reduceLT, Int.reduceLT, Int.reduceLE, Int.reduceEq, Int.reduceToNat, Int.reduceSub, Int.reduceNeg, Int.reduceAdd, ↓reduceIte, reduceCtorEq, ite_self, eq_self, if_true, if_false, pack, pid, parN, List.not_mem_nil, List.mem_cons, lid, chkK, apartV, List.map_nil, List.flatMap_nil, List.append_nil, List.nil_append, List.drop_zero, List.length_set, List.length_replicate, List.length_append, List.take_length, List.take_zero, List.drop_length, Option.isNone_none, Heap.none, h1, h2, D_zero, List.length_nil]
  by_cases h4 : b = 0
  · subst h4
    rw [Nat.gcd_zero_right]
    have c1 : ¬ (L a : Int) = 0 := fun h => h3 (D_nil.1 (List.eq_nil_of_length_eq_zero (by show L _ = 0; omega)))
    rw [R_go FF F71 c71.eq_1]
    simp only [RB, un, St.none, Nat.reduceEqDiff, Nat.reduceAdd, Nat.reduceMul, Nat.reduceLeDiff, Nat.reduceLT, Int.reduceLT, Int.reduceLE, Int.reduceEq, Int.reduceToNat, Int.reduceSub, Int.reduceNeg, Int.reduceAdd, ↓reduceIte, reduceCtorEq, ite_self, eq_self, if_true, if_false, pack, pid, parN, List.not_mem_nil, List.mem_cons, lid, chkK, apartV, List.map_nil, List.flatMap_nil, List.append_nil, List.nil_append, List.drop_zero, List.length_set, List.length_replicate, List.length_append, List.take_length, List.take_zero, List.drop_length, Option.isNone_none, Heap.none, h1, h2, la, c1, D_zero, List.length_nil]
  have c1 : ¬ (L a : Int) = 0 := fun h => h3 (D_nil.1 (List.eq_nil_of_length_eq_zero (by show L _ = 0; omega)))
  have c2 : ¬ (L b : Int) = 0 := fun h => h4 (D_nil.1 (List.eq_nil_of_length_eq_zero (by show L _ = 0; omega)))
  by_cases h5 : L a ≤ 2 ∧ L b ≤ 2
  · have k1 : (L a : Int) ≤ 2 := by omega
    have k2 : (L b : Int) ≤ 2 := by omega
    have b1 : a < 18446744073709551616 := by
      have := L_lt a
      have h6 : 4294967296 ^ L a ≤ 4294967296 ^ 2 := Nat.pow_le_pow_right (by decide) h5.1
      have h7 : (4294967296 : Nat) ^ 2 = 18446744073709551616 := by decide
      omega
    have b2 : b < 18446744073709551616 := by
      have := L_lt b
      have h6 : 4294967296 ^ L b ≤ 4294967296 ^ 2 := Nat.pow_le_pow_right (by decide) h5.2
      have h7 : (4294967296 : Nat) ^ 2 = 18446744073709551616 := by decide
      omega
    have h6 := euclid_c b1 b2
    rw [R_go FF F71 c71.eq_1]
    simp only [RB, un, St.none, Nat.reduceEqDiff, Nat.reduceAdd, Nat.reduceMul, Nat.reduceLeDiff, Nat.reduceLT, Int.reduceLT, Int.reduceLE, Int.reduceEq, Int.reduceToNat, Int.reduceSub, Int.reduceNeg, Int.reduceAdd, ↓reduceIte, reduceCtorEq, ite_self, eq_self, if_true, if_false, pack, pid, parN, List.not_mem_nil, List.mem_cons, lid, chkK, apartV, List.map_nil, List.flatMap_nil, List.append_nil, List.nil_append, List.drop_zero, List.length_set, List.length_replicate, List.length_append, List.take_length, List.take_zero, List.drop_length, Option.isNone_none, Heap.none, h1, h2, la, lb, c1, c2, k1, k2, h6]
  · obtain ⟨z, m, g1, g2, g3⟩ := zeros_c h3 (by omega)
    obtain ⟨z', m', g4, g5, g6⟩ := zeros_c h4 (by omega)
    have s1 := shr_D (m := a) (n := z) (by omega) (by omega)
    have s2 := shr_D (m := b) (n := z') (by omega) (by omega)
    rw [show a / 2 ^ z = 2 * m + 1 by rw [g1, Nat.mul_comm, Nat.mul_div_cancel _ (Nat.two_pow_pos z)]] at s1
    rw [show b / 2 ^ z' = 2 * m' + 1 by rw [g4, Nat.mul_comm, Nat.mul_div_cancel _ (Nat.two_pow_pos z')]] at s2
    have le1 : 2 * m + 1 ≤ a := by rw [g1]; exact Nat.le_mul_of_pos_left _ (Nat.two_pow_pos z)
    have le2 : 2 * m' + 1 ≤ b := by rw [g4]; exact Nat.le_mul_of_pos_left _ (Nat.two_pow_pos z')
    have h6 := gcd_l0 (x := z) (y := z') (by omega) (by omega) _ (2 * m + 1) (2 * m' + 1) (Nat.le_refl _) (by omega) (by omega) (Nat.le_trans (L_mono le1) (by omega)) (Nat.le_trans (L_mono le2) (by omega))
    have h7 : Nat.gcd (2 * m + 1) (2 * m' + 1) * 2 ^ min z z' = Nat.gcd a b := by
      have hp : Nat.gcd (2 ^ z) (2 ^ z') = 2 ^ min z z' := by
        rcases Nat.le_total z z' with h | h
        · rw [Nat.min_eq_left h]; exact Nat.gcd_eq_left (Nat.pow_dvd_pow 2 h)
        · rw [Nat.min_eq_right h]; exact Nat.gcd_eq_right (Nat.pow_dvd_pow 2 h)
      rcases Nat.le_total z z' with h | h
      · rw [Nat.min_eq_left h, g1, g4, show z' = z + (z' - z) by omega, Nat.pow_add, Nat.mul_assoc, Nat.gcd_mul_left, Nat.mul_comm (2 ^ z)]
        congr 1
        rw [Nat.gcd_comm (2 * m + 1) (2 ^ (z' - z) * (2 * m' + 1)), odd_gcd (by omega), Nat.gcd_comm]
      · rw [Nat.min_eq_right h, g1, g4, show z = z' + (z - z') by omega, Nat.pow_add, Nat.mul_assoc, Nat.gcd_mul_left, Nat.mul_comm (2 ^ z')]
        congr 1
        rw [odd_gcd (by omega)]
    rw [h7] at h6
    have k1 : ¬ ((L a : Int) ≤ 2 ∧ (L b : Int) ≤ 2) := by omega
    clear g1 g4 h7 le1 le2
    rcases Classical.not_and_iff_not_or_not.1 k1 with k | k
    · rw [R_go FF F71 c71.eq_1]
      simp only [RB, un, St.none, Nat.reduceEqDiff, Nat.reduceAdd, Nat.reduceMul, Nat.reduceLeDiff, Nat.reduceLT, Int.reduceLT, Int.reduceLE, Int.reduceEq, Int.reduceToNat, Int.reduceSub, Int.reduceNeg, Int.reduceAdd, ↓reduceIte, reduceCtorEq, ite_self, eq_self, if_true, if_false, pack, pid, parN, List.not_mem_nil, List.mem_cons, lid, chkK, apartV, List.map_nil, List.flatMap_nil, List.append_nil, List.nil_append, List.drop_zero, List.length_set, List.length_replicate, List.length_append, List.take_length, List.take_zero, List.drop_length, Option.isNone_none, Heap.none, h1, h2, la, lb, c1, c2, k, g3, g6, s1, s2, h6]
    · by_cases k' : (L a : Int) ≤ 2
      · rw [R_go FF F71 c71.eq_1]
        simp only [RB, un, St.none, Nat.reduceEqDiff, Nat.reduceAdd, Nat.reduceMul, Nat.reduceLeDiff, Nat.reduceLT, Int.reduceLT, Int.reduceLE, Int.reduceEq, Int.reduceToNat, Int.reduceSub, Int.reduceNeg, Int.reduceAdd, ↓reduceIte, reduceCtorEq, ite_self, eq_self, if_true, if_false, pack, pid, parN, List.not_mem_nil, List.mem_cons, lid, chkK, apartV, List.map_nil, List.flatMap_nil, List.append_nil, List.nil_append, List.drop_zero, List.length_set, List.length_replicate, List.length_append, List.take_length, List.take_zero, List.drop_length, Option.isNone_none, Heap.none, h1, h2, la, lb, c1, c2, k, k', g3, g6, s1, s2, h6]
      · rw [R_go FF F71 c71.eq_1]
        simp only [RB, un, St.none, Nat.reduceEqDiff, Nat.reduceAdd, Nat.reduceMul, Nat.reduceLeDiff, Nat.reduceLT, Int.reduceLT, Int.reduceLE, Int.reduceEq, Int.reduceToNat, Int.reduceSub, Int.reduceNeg, Int.reduceAdd, ↓reduceIte, reduceCtorEq, ite_self, eq_self, if_true, if_false, pack, pid, parN, List.not_mem_nil, List.mem_cons, lid, chkK, apartV, List.map_nil, List.flatMap_nil, List.append_nil, List.nil_append, List.drop_zero, List.length_set, List.length_replicate, List.length_append, List.take_length, List.take_zero, List.drop_length, Option.isNone_none, Heap.none, h1, h2, la, lb, c1, c2, k', g3, g6, s1, s2, h6]
theorem gcd_D {a b : Nat} (hla : L a ≤ 2199023255552) (hlb : L b ≤ 2199023255552) : R FF 71 [(AV.l 1 (List.map u (D a))), (AV.l 1 (List.map u (D b)))] = some (AV.l 1 (List.map u (D (Nat.gcd a b)))) := by
  have := gcd_c (D_U a) (D_U b) hla hlb
  rwa [W_D, W_D] at this
end Go.Pe
set_option linter.unusedSimpArgs false
set_option linter.unusedVariables false
open Go
namespace Go.Pe
def ng (n : Int) : Bool := decide (n < 0)
def sv (q : Bool) (k : Nat) : Int := if q then -(k : Int) else (k : Int)
def wv (q : Bool) (l : List Int) : Int := sv q (W l)
theorem sv_abs (q : Bool) (k : Nat) : (sv q k).natAbs = k := by unfold sv; cases q <;> simp
theorem sv_ng (q : Bool) (k : Nat) : ng (sv q k) = (q && decide (0 < k)) := by
  unfold sv ng
  cases q
  · simp
  · by_cases h : 0 < k
    · simp [h]
    · have : k = 0 := by omega
      subst this
      simp
theorem sv_self (n : Int) : sv (ng n) n.natAbs = n := by
  unfold sv ng
  by_cases h : n < 0
  · simp [h]; omega
  · simp [h]; omega
theorem wv_ci (n : Int) : wv (ng n) (D n.natAbs) = n := by unfold wv; rw [W_D, sv_self]
theorem ng_true {n : Int} : ng n = true ↔ n < 0 := by unfold ng; simp
theorem ng_false {n : Int} : ng n = false ↔ 0 ≤ n := by unfold ng; simp
theorem wv_L (q : Bool) (l : List Int) : L (wv q l).natAbs ≤ l.length := by unfold wv; rw [sv_abs]; exact L_W l
theorem L_pos {k : Nat} : (0 < (L k : Int)) ↔ 0 < k := by
  have : L k = 0 ↔ k = 0 := by
    show (D k).length = 0 ↔ _
    rw [List.length_eq_zero_iff, D_nil]
  omega
theorem sign_c (q : Bool) (k : Nat) : R FF 92 [.b q, (AV.l 1 (List.map u (D k)))] = some (AV.agg [AV.b (ng (sv q k)), (AV.l 1 (List.map u (D (Int.natAbs (sv q k)))))]) := by
  have h1 : (D k).length = L k := rfl
  rw [sv_abs, sv_ng]
  cases q
  · rw [R_go FF F92 c92.eq_1]
    simp only [RB, un, St.none, Nat.reduceEqDiff, Nat.reduceAdd, Nat.reduceMul, Nat.reduceLeDiff, Nat.reduceLT, Int.reduceLT, Int.reduceLE, Int.reduceEq, Int.reduceToNat, Int.reduceSub, Int.reduceNeg, Int.reduceAdd, ↓reduceIte, reduceCtorEq, ite_self, eq_self, if_true, if_false, pack, pid, parN, List.not_mem_nil, List.mem_cons, lid, chkK, apartV, List.map_nil, List.flatMap_nil, List.append_nil, List.nil_append, List.drop_zero, List.length_set, List.length_replicate, List.length_append, List.take_length, List.take_zero, List.drop_length, Option.isNone_none, Heap.none]
  · have h2 : decide (0 < (L k : Int)) = decide (0 < k) := decide_eq_decide.2 L_pos
    rw [R_go FF F92 c92.eq_1]
    simp only [RB, un, St.none, Nat.reduceEqDiff, Nat.reduceAdd, Nat.reduceMul, Nat.reduceLeDiff, Nat.reduceLT, Int.reduceLT, Int.reduceLE, Int.reduceEq, Int.reduceToNat, Int.reduceSub, Int.reduceNeg, Int.reduceAdd, ↓reduceIte, reduceCtorEq, ite_self, eq_self, if_true, if_false, pack, pid, parN, List.not_mem_nil, List.mem_cons, lid, chkK, apartV, List.map_nil, List.flatMap_nil, List.append_nil, List.nil_append, List.drop_zero, List.length_set, List.length_replicate, List.length_append, List.take_length, List.take_zero, List.drop_length, Option.isNone_none, Heap.none, h1, h2]
theorem wclean_c {q : Bool} {l : List Int} (hu : U l) (hl : l.length ≤ 35184372088832) : R FF 81 [(AV.agg [AV.b q, (AV.l 1 (List.map u l))])] = some (AV.agg [AV.b (ng (wv q l)), (AV.l 1 (List.map u (D (Int.natAbs (wv q l)))))]) := by
  have h1 := clean_c hu hl
  have h2 := sign_c q (W l)
  rw [R_go FF F81 c81.eq_1]
  simp only [RB, un, St.none, Nat.reduceEqDiff, Nat.reduceAdd, Nat.reduceMul, Nat.reduceLeDiff, Nat.reduceLT, Int.reduceLT, Int.reduceLE, Int.reduceEq, Int.reduceToNat, Int.reduceSub, Int.reduceNeg, Int.reduceAdd, ↓reduceIte, reduceCtorEq, ite_self, eq_self, if_true, if_false, pack, pid, parN, List.not_mem_nil, List.mem_cons, lid, chkK, apartV, List.map_nil, List.flatMap_nil, List.append_nil, List.nil_append, List.drop_zero, List.length_set, List.length_replicate, List.length_append, List.take_length, List.take_zero, List.drop_length, Option.isNone_none, Heap.none, h1, h2]
  rfl
theorem wcmp_c {q r : Bool} {l m : List Int} (hu : U l) (hl : l.length ≤ 35184372088832) (hv : U m) (hm : m.length ≤ 35184372088832) : R FF 64 [(AV.agg [AV.b q, (AV.l 1 (List.map u l))]), (AV.agg [AV.b r, (AV.l 1 (List.map u m))])] = some (AV.i .i64 (cmp (wv q l) (wv r m))) := by
  have h1 := wclean_c (q := q) hu hl
  have h2 := wclean_c (q := r) hv hm
  have l1 := wv_L q l
  have l2 := wv_L r m
  generalize wv q l = a at *
  generalize wv r m = b at *
  have la : (D a.natAbs).length = L a.natAbs := rfl
  have lb : (D b.natAbs).length = L b.natAbs := rfl
  have c1 := cmp_c (D_U a.natAbs) (D_U b.natAbs) (by omega) (by omega)
  have c2 := cmp_c (D_U b.natAbs) (D_U a.natAbs) (by omega) (by omega)
  rw [W_D, W_D] at c1 c2
  cases ha : ng a <;> cases hb : ng b <;> rw [ha] at h1 <;> rw [hb] at h2 <;> (first | rw [ng_true] at ha | rw [ng_false] at ha) <;> (first | rw [ng_true] at hb | rw [ng_false] at hb)
  · rw [show ((a.natAbs : Nat) : Int) = a by omega, show ((b.natAbs : Nat) : Int) = b by omega] at c1
    rw [R_go FF F64 c64.eq_1]
    simp only [RB, un, St.none, Nat.reduceEqDiff, Nat.reduceAdd, Nat.reduceMul, Nat.reduceLeDiff, Nat.reduceLT, Int.reduceLT, Int.reduceLE, Int.reduceEq, Int.reduceToNat, Int.reduceSub, Int.reduceNeg, Int.reduceAdd, ↓reduceIte, reduceCtorEq, ite_self, eq_self, if_true, if_false, pack, pid, parN, List.not_mem_nil, List.mem_cons, lid, chkK, apartV, List.map_nil, List.flatMap_nil, List.append_nil, List.nil_append, List.drop_zero, List.length_set, List.length_replicate, List.length_append, List.take_length, List.take_zero, List.drop_length, Option.isNone_none, Heap.none, h1, h2, c1]
  · rw [cmp_gt (by omega)]
    rw [R_go FF F64 c64.eq_1]
    simp only [RB, un, St.none, Nat.reduceEqDiff, Nat.reduceAdd, Nat.reduceMul, Nat.reduceLeDiff, Nat.reduceLT, Int.reduceLT, Int.reduceLE, Int.reduceEq, Int.reduceToNat, Int.reduceSub, Int.reduceNeg, Int.reduceAdd, ↓reduceIte, reduceCtorEq, ite_self, eq_self, if_true, if_false, pack, pid, parN, List.not_mem_nil, List.mem_cons, lid, chkK, apartV, List.map_nil, List.flatMap_nil, List.append_nil, List.nil_append, List.drop_zero, List.length_set, List.length_replicate, List.length_append, List.take_length, List.take_zero, List.drop_length, Option.isNone_none, Heap.none, h1, h2]
  · rw [cmp_lt (by omega)]
    rw [R_go FF F64 c64.eq_1]
    simp only [RB, un, St.none, Nat.reduceEqDiff, Nat.reduceAdd, Nat.reduceMul, Nat.reduceLeDiff, Nat.reduceLT, Int.reduceLT, Int.reduceLE, Int.reduceEq, Int.reduceToNat, Int.reduceSub, Int.reduceNeg, Int.reduceAdd, ↓reduceIte, reduceCtorEq, ite_self, eq_self, if_true, if_false, pack, pid, parN, List.not_mem_nil, List.mem_cons, lid, chkK, apartV, List.map_nil, List.flatMap_nil, List.append_nil, List.nil_append, List.drop_zero, List.length_set, List.length_replicate, List.length_append, List.take_length, List.take_zero, List.drop_length, Option.isNone_none, Heap.none, h1, h2]
  · have e : cmp ((b.natAbs : Nat) : Int) ((a.natAbs : Nat) : Int) = cmp a b := by unfold cmp; split <;> split <;> (try split) <;> (try split) <;> omega
    rw [e] at c2
    rw [R_go FF F64 c64.eq_1]
    simp only [RB, un, St.none, Nat.reduceEqDiff, Nat.reduceAdd, Nat.reduceMul, Nat.reduceLeDiff, Nat.reduceLT, Int.reduceLT, Int.reduceLE, Int.reduceEq, Int.reduceToNat, Int.reduceSub, Int.reduceNeg, Int.reduceAdd, ↓reduceIte, reduceCtorEq, ite_self, eq_self, if_true, if_false, pack, pid, parN, List.not_mem_nil, List.mem_cons, lid, chkK, apartV, List.map_nil, List.flatMap_nil, List.append_nil, List.nil_append, List.drop_zero, List.length_set, List.length_replicate, List.length_append, List.take_length, List.take_zero, List.drop_length, Option.isNone_none, Heap.none, h1, h2, c2]
end Go.Pe
set_option linter.unusedSimpArgs false
set_option linter.unusedVariables false
open Go
namespace Go.Pe
theorem sv_xor_mul (a b : Int) : sv (ng a != ng b) (a.natAbs * b.natAbs) = a * b := by
  rw [← Int.natAbs_mul]
  have h := sv_self (a * b)
  cases ha : ng a <;> cases hb : ng b <;> (first | rw [ng_true] at ha | rw [ng_false] at ha) <;> (first | rw [ng_true] at hb | rw [ng_false] at hb) <;> unfold sv <;> simp
  · have := Int.mul_nonneg ha hb
    omega
  · have := Int.mul_nonneg ha (show 0 ≤ -b by omega)
    rw [Int.mul_neg] at this
    omega
  · have := Int.mul_nonneg (show 0 ≤ -a by omega) hb
    rw [Int.neg_mul] at this
    omega
  · have := Int.mul_nonneg (show 0 ≤ -a by omega) (show 0 ≤ -b by omega)
    rw [Int.neg_mul_neg] at this
    omega
theorem wmul_c {q r : Bool} {l m : List Int} (hu : U l) (hl : l.length ≤ 17592186044416) (hv : U m) (hm : m.length ≤ 17592186044416) : R FF 65 [(AV.agg [AV.b q, (AV.l 1 (List.map u l))]), (AV.agg [AV.b r, (AV.l 1 (List.map u m))])] = some (AV.agg [AV.b (ng (wv q l * wv r m)), (AV.l 1 (List.map u (D (Int.natAbs (wv q l * wv r m)))))]) := by
  have h1 := wclean_c (q := q) hu (by omega)
  have h2 := wclean_c (q := r) hv (by omega)
  have l1 := wv_L q l
  have l2 := wv_L r m
  generalize wv q l = a at *
  generalize wv r m = b at *
  have s1 := mul_D (m := a.natAbs) (n := b.natAbs) (by omega)
  have g1 := sign_c (ng a != ng b) (a.natAbs * b.natAbs)
  rw [sv_xor_mul] at g1
  cases ha : ng a <;> cases hb : ng b <;> rw [ha] at h1 g1 <;> rw [hb] at h2 g1 <;> simp only [bne, boolq, Bool.not_true, Bool.not_false] at g1
  all_goals
    rw [R_go FF F65 c65.eq_1]
    simp only [RB, un, St.none, Nat.reduceEqDiff, Nat.reduceAdd, Nat.reduceMul, Nat.reduceLeDiff, Nat.reduceLT, Int.reduceLT, Int.reduceLE, Int.reduceEq, Int.reduceToNat, Int.reduceSub, Int.reduceNeg, Int.reduceAdd, ↓reduceIte, reduceCtorEq, ite_self, eq_self, if_true, if_false, pack, pid, parN, List.not_mem_nil, List.mem_cons, lid, chkK, apartV, List.map_nil, List.flatMap_nil, List.append_nil, List.nil_append, List.drop_zero, List.length_set, List.length_replicate, List.length_append, List.take_length, List.take_zero, List.drop_length, Option.isNone_none, Heap.none, h1, h2, s1, g1]
end Go.Pe
set_option linter.unusedVariables false
namespace Go.Pe
abbrev maxL : Nat := 9223372036854775807
theorem row_rules {α : Type} (f : α → List AV) (d : α) (z : Nat) (hz : ∀ x, (f x).length = z) (ht : ∀ h x, (f x).map (tellC h) = f x) :
    (∀ (l : List α) j, idxV z (.l z (l.map f)) j = if 0 ≤ j ∧ j < (l.length : Int) then some (.tp (f (l.getD j.toNat d)) 0) else none) ∧
    (∀ ap e (l : List α), Row.at e (.sl ap z (l.map f)) = if e < l.length then some (f (l.getD e d)) else none) ∧ (∀ e (l : List α), Row.at e (.fsl z (l.map f)) = if e < l.length then some (f (l.getD e d)) else none) ∧
    (∀ (l : List α) e x, putC z (l.map f) e 0 (f x) = (l.set e x).map f) ∧ (∀ (l : List α) x, l.map f ++ [f x] = (l ++ [x]).map f) := by
  refine ⟨fun l j => idxV_map f d z l j, fun ap e l => at_map f d ap z e l, fun e l => at_map f d true z e l, fun l e x => putC_map f z l e x (hz x), fun l x => by rw [List.map_append]; rfl⟩
end Go.Pe
set_option linter.unusedSimpArgs false
set_option linter.unusedVariables false
open Go
namespace Go.Pe
theorem take_U {l : List Int} (h : U l) (n : Nat) : U (l.take n) := fun x hx => h x (List.mem_of_mem_take hx)
end Go.Pe
set_option linter.unusedSimpArgs false
set_option linter.unusedVariables false
open Go
namespace Go.Pe
theorem getD_mem' {α : Type} {l : List α} {k : Nat} (d : α) (h : k < l.length) : l.getD k d ∈ l := by
  rw [List.getD_eq_getElem?_getD, List.getElem?_eq_getElem h]
  exact List.getElem_mem _
end Go.Pe
set_option linter.unusedSimpArgs false
set_option linter.unusedVariables false
open Go
namespace Go.Pe
def qv (q : Bool) (l d : List Int) : Rat := mkRat (wv q l) (W d)
theorem mk_num {n : Int} {d : Nat} (hd : d ≠ 0) : (mkRat n d).num.natAbs = n.natAbs / Nat.gcd n.natAbs d ∧ ng (mkRat n d).num = ng n ∧ (mkRat n d).den = d / Nat.gcd n.natAbs d := by
  rw [Rat.num_mkRat, Rat.den_mkRat, if_neg hd, if_neg hd, Nat.gcd_comm d]
  have hg : 0 < Nat.gcd n.natAbs d := Nat.gcd_pos_of_pos_right _ (Nat.pos_of_ne_zero hd)
  obtain ⟨m, hm⟩ := Int.ofNat_dvd_left.2 (Nat.gcd_dvd_left n.natAbs d)
  generalize Nat.gcd n.natAbs d = g at *
  subst hm
  have g0 : (g : Int) ≠ 0 := by omega
  rw [Int.mul_ediv_cancel_left _ g0, Int.natAbs_mul, Int.natAbs_natCast, Nat.mul_div_cancel_left _ hg]
  refine ⟨rfl, ?_, rfl⟩
  unfold ng
  rw [decide_eq_decide]
  constructor
  · intro h; exact Int.mul_neg_of_pos_of_neg (by omega) h
  · intro h
    rcases Int.lt_or_le m 0 with k | k
    · exact k
    · have := Int.mul_nonneg (show (0 : Int) ≤ g by omega) k; omega
theorem form_c {n : Int} {d : Nat} (hd : d ≠ 0) (hn : L n.natAbs ≤ 1000000) (hl : L d ≤ 1000000) : R FF 75 [(AV.agg [AV.b (ng n), (AV.l 1 (List.map u (D (Int.natAbs n))))]), (AV.l 1 (List.map u (D d)))] = some (AV.agg [AV.b (ng (Rat.num (mkRat n d))), (AV.l 1 (List.map u (D (Int.natAbs (Rat.num (mkRat n d)))))), (AV.l 1 (List.map u (D (Rat.den (mkRat n d)))))]) := by
  obtain ⟨k1, k2, k3⟩ := mk_num (n := n) hd
  rw [k1, k2, k3]
  have o1 := of_c (x := 1) (by omega) (by omega) (n := 1) rfl
  by_cases h0 : n = 0
  · subst h0
    rw [ng_false.2 (Int.le_refl _), Int.natAbs_zero, Nat.zero_div, Nat.gcd_zero_left, Nat.div_self (Nat.pos_of_ne_zero hd), D_zero]
    rw [R_go FF F75 c75.eq_1]
    simp only [RB, un, St.none, Nat.reduceEqDiff, Nat.reduceAdd, Nat.reduceMul, Nat.reduceLeDiff, Nat.reduceLT, Int.reduceLT, Int.reduceLE, Int.reduceEq, Int.reduceToNat, Int.reduceSub, Int.reduceNeg, Int.reduceAdd, ↓reduceIte, reduceCtorEq, ite_self, eq_self, if_true, if_false, pack, pid, parN, List.not_mem_nil, List.mem_cons, lid, chkK, apartV, List.map_nil, List.flatMap_nil, List.append_nil, List.nil_append, List.drop_zero, List.length_set, List.length_replicate, List.length_append, List.take_length, List.take_zero, List.drop_length, Option.isNone_none, Heap.none, o1]
  · have g1 := gcd_D (a := n.natAbs) (b := d) (by omega) (by omega)
    have hg : 0 < Nat.gcd n.natAbs d := Nat.gcd_pos_of_pos_right _ (Nat.pos_of_ne_zero hd)
    have c1 : ¬ (((D n.natAbs).length : Nat) : Int) = 0 := by have := (L_pos (k := n.natAbs)).2 (by omega); show ¬ (L n.natAbs : Int) = 0; omega
    have hgl : L (Nat.gcd n.natAbs d) ≤ 1000000 := Nat.le_trans (L_mono (Nat.gcd_le_right _ (Nat.pos_of_ne_zero hd))) hl
    have d1 := divmod_c (D_U n.natAbs) (D_U (Nat.gcd n.natAbs d)) (show L _ ≤ _ by omega) (show L _ ≤ _ by omega)
    have d2 := divmod_c (D_U d) (D_U (Nat.gcd n.natAbs d)) (show L _ ≤ _ by omega) (show L _ ≤ _ by omega)
    rw [W_D, W_D, if_neg (by omega)] at d1 d2
    generalize Nat.gcd n.natAbs d = g at *
    by_cases h1 : g = 1
    · subst h1
      have e1 : D 1 = [1] := by decide +kernel
      rw [Nat.div_one, Nat.div_one]
      rw [e1] at g1
      rw [R_go FF F75 c75.eq_1]
      simp only [RB, un, St.none, Nat.reduceEqDiff, Nat.reduceAdd, Nat.reduceMul, Nat.reduceLeDiff, Nat.reduceLT, Int.reduceLT, Int.reduceLE, Int.reduceEq, Int.reduceToNat, Int.reduceSub, Int.reduceNeg, Int.reduceAdd, ↓reduceIte, reduceCtorEq, ite_self, eq_self, if_true, if_false, pack, pid, parN, List.not_mem_nil, List.mem_cons, lid, chkK, apartV, List.map_nil, List.flatMap_nil, List.append_nil, List.nil_append, List.drop_zero, List.length_set, List.length_replicate, List.length_append, List.take_length, List.take_zero, List.drop_length, Option.isNone_none, Heap.none, c1, g1]
    · by_cases h2 : ((L g : Nat) : Int) = 1
      · obtain ⟨x, hx⟩ := List.length_eq_one_iff.1 (show (D g).length = 1 from by have : (D g).length = L g := rfl; omega)
        have e1 : x = (g : Int) := by
          have h3 := D_vl g
          rw [hx] at h3
          simpa [Dg.vl] using h3
        have c2 : ¬ x = 1 := by omega
        rw [hx] at g1 d1 d2
        simp only [List.map_cons, List.map_nil] at g1 d1 d2
        rw [R_go FF F75 c75.eq_1]
        simp only [RB, un, St.none, Nat.reduceEqDiff, Nat.reduceAdd, Nat.reduceMul, Nat.reduceLeDiff, Nat.reduceLT, Int.reduceLT, Int.reduceLE, Int.reduceEq, Int.reduceToNat, Int.reduceSub, Int.reduceNeg, Int.reduceAdd, ↓reduceIte, reduceCtorEq, ite_self, eq_self, if_true, if_false, pack, pid, parN, List.not_mem_nil, List.mem_cons, lid, chkK, apartV, List.map_nil, List.flatMap_nil, List.append_nil, List.nil_append, List.drop_zero, List.length_set, List.length_replicate, List.length_append, List.take_length, List.take_zero, List.drop_length, Option.isNone_none, Heap.none, c1, g1, c2, d1, d2]
      · have c2 : ¬ (((D g).length : Nat) : Int) = 1 := h2
        rw [R_go FF F75 c75.eq_1]
        simp only [RB, un, St.none, Nat.reduceEqDiff, Nat.reduceAdd, Nat.reduceMul, Nat.reduceLeDiff, Nat.reduceLT, Int.reduceLT, Int.reduceLE, Int.reduceEq, Int.reduceToNat, Int.reduceSub, Int.reduceNeg, Int.reduceAdd, ↓reduceIte, reduceCtorEq, ite_self, eq_self, if_true, if_false, pack, pid, parN, List.not_mem_nil, List.mem_cons, lid, chkK, apartV, List.map_nil, List.flatMap_nil, List.append_nil, List.nil_append, List.drop_zero, List.length_set, List.length_replicate, List.length_append, List.take_length, List.take_zero, List.drop_length, Option.isNone_none, Heap.none, c1, g1, c2, d1, d2]
def sq (x : Rat) : Nat := max (L x.num.natAbs) (L x.den)
theorem sq_num (x : Rat) : L x.num.natAbs ≤ sq x := Nat.le_max_left _ _
theorem sq_den (x : Rat) : L x.den ≤ sq x := Nat.le_max_right _ _
theorem sq_mk {n : Int} {d : Nat} (hd : d ≠ 0) : sq (mkRat n d) ≤ max (L n.natAbs) (L d) := by
  obtain ⟨k1, _, k3⟩ := mk_num (n := n) hd
  unfold sq
  rw [k1, k3]
  have h1 := L_mono (Nat.div_le_self n.natAbs (Nat.gcd n.natAbs d))
  have h2 := L_mono (Nat.div_le_self d (Nat.gcd n.natAbs d))
  omega
theorem qv_cq (x : Rat) : qv (ng x.num) (D x.num.natAbs) (D x.den) = x := by unfold qv; rw [wv_ci, W_D, Rat.mkRat_self]
theorem qv_sq {q : Bool} {l d : List Int} {k : Nat} (h1 : l.length ≤ k) (h2 : d.length ≤ k) (hk : 1 ≤ k) : sq (qv q l d) ≤ k := by
  unfold qv
  by_cases h0 : W d = 0
  · rw [h0, Rat.mkRat_zero]
    have a1 : L (0 : Rat).num.natAbs ≤ 0 := L_le (n := 0) (k := 0) (by decide)
    have a2 : L (0 : Rat).den ≤ 1 := L_le (n := 1) (k := 1) (by decide)
    unfold sq
    omega
  · have := sq_mk (n := wv q l) h0
    have := wv_L q l
    have := L_W d
    omega
theorem qzero_c : R FF 54 [] = some (AV.agg [AV.b (ng (Rat.num ((0 : Rat)))), (AV.l 1 (List.map u (D (Int.natAbs (Rat.num ((0 : Rat))))))), (AV.l 1 (List.map u (D (Rat.den ((0 : Rat))))))]) := by
  have o1 := of_c (x := 1) (by omega) (by omega) (n := 1) rfl
  show R FF 54 [] = some (.agg [.b (ng 0), (AV.l 1 (List.map u (D 0))), (AV.l 1 (List.map u (D 1)))])
  rw [ng_false.2 (Int.le_refl _), D_zero]
  rw [R_go FF F54 c54.eq_1]
  simp only [RB, un, St.none, Nat.reduceEqDiff, Nat.reduceAdd, Nat.reduceMul, Nat.reduceLeDiff, Nat.reduceLT, Int.reduceLT, Int.reduceLE, Int.reduceEq, Int.reduceToNat, Int.reduceSub, Int.reduceNeg, Int.reduceAdd, ↓reduceIte, reduceCtorEq, ite_self, eq_self, if_true, if_false, pack, pid, parN, List.not_mem_nil, List.mem_cons, lid, chkK, apartV, List.map_nil, List.flatMap_nil, List.append_nil, List.nil_append, List.drop_zero, List.length_set, List.length_replicate, List.length_append, List.take_length, List.take_zero, List.drop_length, Option.isNone_none, Heap.none, o1]
theorem qclean_c {q : Bool} {l d : List Int} (hu : U l) (hl : l.length ≤ 1000000) (hv : U d) (hd : d.length ≤ 1000000) : R FF 63 [(AV.agg [AV.b q, (AV.l 1 (List.map u l)), (AV.l 1 (List.map u d))])] = some (AV.agg [AV.b (ng (Rat.num (qv q l d))), (AV.l 1 (List.map u (D (Int.natAbs (Rat.num (qv q l d)))))), (AV.l 1 (List.map u (D (Rat.den (qv q l d)))))]) := by
  have c1 := clean_c hv (by omega)
  have c2 := wclean_c (q := q) hu (by omega)
  unfold qv
  have l1 := wv_L q l
  have l2 := L_W d
  by_cases h0 : W d = 0
  · have z1 := qzero_c
    rw [h0] at c1
    rw [h0, Rat.mkRat_zero]
    rw [D_zero] at c1
    rw [R_go FF F63 c63.eq_1]
    simp only [RB, un, St.none, Nat.reduceEqDiff, Nat.reduceAdd, Nat.reduceMul, Nat.reduceLeDiff, Nat.reduceLT, Int.reduceLT, Int.reduceLE, Int.reduceEq, Int.reduceToNat, Int.reduceSub, Int.reduceNeg, Int.reduceAdd, ↓reduceIte, reduceCtorEq, ite_self, eq_self, if_true, if_false, pack, pid, parN, List.not_mem_nil, List.mem_cons, lid, chkK, apartV, List.map_nil, List.flatMap_nil, List.append_nil, List.nil_append, List.drop_zero, List.length_set, List.length_replicate, List.length_append, List.take_length, List.take_zero, List.drop_length, Option.isNone_none, Heap.none, c1, z1]
  · have f1 := form_c (n := wv q l) h0 (by omega) (by omega)
    have c3 : ¬ (((D (W d)).length : Nat) : Int) = 0 := by have := (L_pos (k := W d)).2 (Nat.pos_of_ne_zero h0); show ¬ (L (W d) : Int) = 0; omega
    rw [R_go FF F63 c63.eq_1]
    simp only [RB, un, St.none, Nat.reduceEqDiff, Nat.reduceAdd, Nat.reduceMul, Nat.reduceLeDiff, Nat.reduceLT, Int.reduceLT, Int.reduceLE, Int.reduceEq, Int.reduceToNat, Int.reduceSub, Int.reduceNeg, Int.reduceAdd, ↓reduceIte, reduceCtorEq, ite_self, eq_self, if_true, if_false, pack, pid, parN, List.not_mem_nil, List.mem_cons, lid, chkK, apartV, List.map_nil, List.flatMap_nil, List.append_nil, List.nil_append, List.drop_zero, List.length_set, List.length_replicate, List.length_append, List.take_length, List.take_zero, List.drop_length, Option.isNone_none, Heap.none, c1, c2, c3, f1]
theorem qden_c {q : Bool} {l d : List Int} : R FF 66 [(AV.agg [AV.b q, (AV.l 1 (List.map u l)), (AV.l 1 (List.map u d))])] = some (AV.agg [AV.b false, (AV.l 1 (List.map u d))]) := by
  rw [R_go FF F66 c66.eq_1]
  simp only [RB, un, St.none, Nat.reduceEqDiff, Nat.reduceAdd, Nat.reduceMul, Nat.reduceLeDiff, Nat.reduceLT, Int.reduceLT, Int.reduceLE, Int.reduceEq, Int.reduceToNat, Int.reduceSub, Int.reduceNeg, Int.reduceAdd, ↓reduceIte, reduceCtorEq, ite_self, eq_self, if_true, if_false, pack, pid, parN, List.not_mem_nil, List.mem_cons, lid, chkK, apartV, List.map_nil, List.flatMap_nil, List.append_nil, List.nil_append, List.drop_zero, List.length_set, List.length_replicate, List.length_append, List.take_length, List.take_zero, List.drop_length, Option.isNone_none, Heap.none]
def qcmp (x y : Rat) : Int := cmp (x.num * y.den) (y.num * x.den)
theorem qcmp_lt {x y : Rat} : qcmp x y < 0 ↔ x < y := by unfold qcmp; rw [cmp_lt_iff, Rat.lt_iff]
theorem qcmp_ge {x y : Rat} : 0 ≤ qcmp x y ↔ y ≤ x := by have := qcmp_lt (x := x) (y := y); have := Rat.not_lt (a := x) (b := y); grind
theorem den_ci (d : Nat) : wv false (D d) = (d : Int) := by unfold wv sv; rw [W_D]; rfl
theorem qcmp_c {q r : Bool} {l d m e : List Int} (hu : U l) (hl : l.length ≤ 1000000) (hv : U d) (hd : d.length ≤ 1000000) (hu2 : U m) (hl2 : m.length ≤ 1000000) (hv2 : U e) (hd2 : e.length ≤ 1000000) :
    R FF 14 [(AV.agg [AV.b q, (AV.l 1 (List.map u l)), (AV.l 1 (List.map u d))]), (AV.agg [AV.b r, (AV.l 1 (List.map u m)), (AV.l 1 (List.map u e))])] = some (AV.i .i64 (qcmp (qv q l d) (qv r m e))) := by
  have c1 := qclean_c (q := q) hu hl hv hd
  have c2 := qclean_c (q := r) hu2 hl2 hv2 hd2
  have s1 := qv_sq (q := q) (l := l) (d := d) (k := 1000000) hl hd (by omega)
  have s2 := qv_sq (q := r) (l := m) (d := e) (k := 1000000) hl2 hd2 (by omega)
  generalize qv q l d = x at *
  generalize qv r m e = y at *
  have e1 := qden_c (q := ng x.num) (l := D x.num.natAbs) (d := D x.den)
  have e2 := qden_c (q := ng y.num) (l := D y.num.natAbs) (d := D y.den)
  have n1 := sq_num x
  have n2 := sq_num y
  have n3 := sq_den x
  have n4 := sq_den y
  have m1 := wmul_c (q := ng x.num) (r := false) (D_U x.num.natAbs) (show L _ ≤ _ by omega) (D_U y.den) (show L _ ≤ _ by omega)
  have m2 := wmul_c (q := ng y.num) (r := false) (D_U y.num.natAbs) (show L _ ≤ _ by omega) (D_U x.den) (show L _ ≤ _ by omega)
  rw [wv_ci, den_ci] at m1 m2
  have b1 : L (x.num * y.den).natAbs ≤ 2000000 := by rw [Int.natAbs_mul, Int.natAbs_natCast]; have := L_mul x.num.natAbs y.den; omega
  have b2 : L (y.num * x.den).natAbs ≤ 2000000 := by rw [Int.natAbs_mul, Int.natAbs_natCast]; have := L_mul y.num.natAbs x.den; omega
  have k1 := wcmp_c (q := ng (x.num * y.den)) (r := ng (y.num * x.den)) (D_U (x.num * y.den).natAbs) (show L _ ≤ _ by omega) (D_U (y.num * x.den).natAbs) (show L _ ≤ _ by omega)
  rw [wv_ci, wv_ci] at k1
  unfold qcmp
  rw [R_go FF F14 c14.eq_1]
  simp only [RB, un, St.none, Nat.reduceEqDiff, Nat.reduceAdd, Nat.reduceMul, Nat.reduceLeDiff, Nat.reduceLT, Int.reduceLT, Int.reduceLE, Int.reduceEq, Int.reduceToNat, Int.reduceSub, Int.reduceNeg, Int.reduceAdd, ↓reduceIte, reduceCtorEq, ite_self, eq_self, if_true, if_false, pack, pid, parN, List.not_mem_nil, List.mem_cons, lid, chkK, apartV, List.map_nil, List.flatMap_nil, List.append_nil, List.nil_append, List.drop_zero, List.length_set, List.length_replicate, List.length_append, List.take_length, List.take_zero, List.drop_length, Option.isNone_none, Heap.none, c1, c2, e1, e2, m1, m2, k1]
end Go.Pe
set_option linter.unusedVariables false
namespace Go.Pe
abbrev RQt := Bool × List Int × List Int
def eQ (x : RQt) : List AV := [.b x.1, .l 1 (x.2.1.map u), .l 1 (x.2.2.map u)]
def OkQ (x : RQt) : Prop := (U x.2.1 ∧ x.2.1.length ≤ maxL) ∧ U x.2.2 ∧ x.2.2.length ≤ maxL
abbrev RC := Bool × RQt
def eC (c : RC) : List AV := [.b c.1, .b c.2.1, .l 1 (c.2.2.1.map u), .l 1 (c.2.2.2.map u)]
def OkC (c : RC) : Prop := OkQ c.2
theorem eC_rules : (∀ x, (eC x).length = 4) ∧ (∀ h x, (eC x).map (tellC h) = eC x) ∧ (∀ h x, (eC x).map (tell0 h) = eC x) ∧ (∀ h x, (eC x).flatMap (refC h) = []) ∧ (∀ x, (eC x).flatMap ref0 = []) ∧ (∀ x, ldC true 4 0 (eC x) = some (.agg [.b x.1, .b x.2.1, .l 1 (x.2.2.1.map u), .l 1 (x.2.2.2.map u)])) ∧ (∀ x, ldC true 3 1 (eC x) = some (.agg [.b x.2.1, .l 1 (x.2.2.1.map u), .l 1 (x.2.2.2.map u)])) ∧ (∀ x, ldC false 1 0 (eC x) = some (.b x.1)) := by
  refine ⟨?_, ?_, ?_, ?_, ?_, ?_, ?_, ?_⟩ <;> intros <;> rfl
theorem eC_row : type_of% (row_rules eC (false, false, [], []) 4 (fun _ => rfl) (fun _ _ => rfl)) := row_rules eC (false, false, [], []) 4 (fun _ => rfl) (fun _ _ => rfl)
end Go.Pe
set_option linter.unusedSimpArgs false
set_option linter.unusedVariables false
open Go
namespace Go.Pe
def Sm (l d : List Int) (k : Nat) : Prop := (U l ∧ l.length ≤ k) ∧ U d ∧ d.length ≤ k
theorem Sm.take {l d : List Int} {k : Nat} (h : Sm l d k) (n : Nat) : Sm (l.take n) (d.take n) n := ⟨⟨take_U h.1.1 n, List.length_take_le _ _⟩, take_U h.2.1 n, List.length_take_le _ _⟩
theorem Sm.mono {l d : List Int} {k m : Nat} (h : Sm l d k) (hm : k ≤ m) : Sm l d m := ⟨⟨h.1.1, Nat.le_trans h.1.2 hm⟩, h.2.1, Nat.le_trans h.2.2 hm⟩
theorem sm_cq {x : Rat} {k : Nat} (h : sq x ≤ k) : Sm (D x.num.natAbs) (D x.den) k := ⟨⟨D_U _, Nat.le_trans (sq_num x) h⟩, D_U _, Nat.le_trans (sq_den x) h⟩
theorem Sm.sq {q : Bool} {l d : List Int} {k : Nat} (h : Sm l d k) (hk : 1 ≤ k) : sq (qv q l d) ≤ k := qv_sq h.1.2 h.2.2 hk
theorem OkQ.sm {q : Bool} {l d : List Int} (h : OkQ (q, l, d)) : Sm l d maxL := h
theorem qclean_s {q : Bool} {l d : List Int} {k : Nat} (h : Sm l d k) (hk : k ≤ 1000000) : R FF 63 [(AV.agg [AV.b q, (AV.l 1 (List.map u l)), (AV.l 1 (List.map u d))])] = some (AV.agg [AV.b (ng (Rat.num (qv q l d))), (AV.l 1 (List.map u (D (Int.natAbs (Rat.num (qv q l d)))))), (AV.l 1 (List.map u (D (Rat.den (qv q l d)))))]) := qclean_c h.1.1 (Nat.le_trans h.1.2 hk) h.2.1 (Nat.le_trans h.2.2 hk)
theorem qcmp_s {q r : Bool} {l d m e : List Int} {k j : Nat} (h : Sm l d k) (h2 : Sm m e j) (hk : k ≤ 1000000) (hj : j ≤ 1000000) : R FF 14 [(AV.agg [AV.b q, (AV.l 1 (List.map u l)), (AV.l 1 (List.map u d))]), (AV.agg [AV.b r, (AV.l 1 (List.map u m)), (AV.l 1 (List.map u e))])] = some (AV.i .i64 (qcmp (qv q l d) (qv r m e))) :=
  qcmp_c h.1.1 (Nat.le_trans h.1.2 hk) h.2.1 (Nat.le_trans h.2.2 hk) h2.1.1 (Nat.le_trans h2.1.2 hj) h2.2.1 (Nat.le_trans h2.2.2 hj)
theorem number09_c {q : Bool} {l d : List Int} (hl : l.length ≤ maxL) (hd : d.length ≤ maxL) : R FF 74 [(AV.agg [AV.b q, (AV.l 1 (List.map u l)), (AV.l 1 (List.map u d))])] = some (AV.agg [AV.b q, (AV.l 1 (List.map u (((l.take 3))))), (AV.l 1 (List.map u (((d.take 3)))))]) := by
  have e3 : (3 : Int).toNat = 3 := rfl
  by_cases c1 : 3 < (l.length : Int)
  · have c3 : (3 : Int) ≤ (l.length : Int) := by omega
    by_cases c2 : 3 < (d.length : Int)
    · have c4 : (3 : Int) ≤ (d.length : Int) := by omega
      rw [R_go FF F74 c74.eq_1]
      simp only [RB, un, St.none, Nat.reduceEqDiff, Nat.reduceAdd, Nat.reduceMul, Nat.reduceLeDiff, Nat.reduceLT, Int.reduceLT, Int.reduceLE, Int.reduceEq, Int.reduceToNat, Int.reduceSub, Int.reduceNeg, Int.reduceAdd, ↓reduceIte, reduceCtorEq, ite_self, eq_self, if_true, if_false, pack, pid, parN, List.not_mem_nil, List.mem_cons, lid, chkK, apartV, List.map_nil, List.flatMap_nil, List.append_nil, List.nil_append, List.drop_zero, List.length_set, List.length_replicate, List.length_append, List.take_length, List.take_zero, List.drop_length, Option.isNone_none, Heap.none, c1, c2, c3, c4]
    · have t2 : d.take 3 = d := List.take_of_length_le (by omega)
      rw [t2]
      rw [R_go FF F74 c74.eq_1]
      simp only [RB, un, St.none, Nat.reduceEqDiff, Nat.reduceAdd, Nat.reduceMul, Nat.reduceLeDiff, Nat.reduceLT, Int.reduceLT, Int.reduceLE, Int.reduceEq, Int.reduceToNat, Int.reduceSub, Int.reduceNeg, Int.reduceAdd, ↓reduceIte, reduceCtorEq, ite_self, eq_self, if_true, if_false, pack, pid, parN, List.not_mem_nil, List.mem_cons, lid, chkK, apartV, List.map_nil, List.flatMap_nil, List.append_nil, List.nil_append, List.drop_zero, List.length_set, List.length_replicate, List.length_append, List.take_length, List.take_zero, List.drop_length, Option.isNone_none, Heap.none, c1, c2, c3]
  · have t1 : l.take 3 = l := List.take_of_length_le (by omega)
    rw [t1]
    by_cases c2 : 3 < (d.length : Int)
    · have c4 : (3 : Int) ≤ (d.length : Int) := by omega
      rw [R_go FF F74 c74.eq_1]
      simp only [RB, un, St.none, Nat.reduceEqDiff, Nat.reduceAdd, Nat.reduceMul, Nat.reduceLeDiff, Nat.reduceLT, Int.reduceLT, Int.reduceLE, Int.reduceEq, Int.reduceToNat, Int.reduceSub, Int.reduceNeg, Int.reduceAdd, ↓reduceIte, reduceCtorEq, ite_self, eq_self, if_true, if_false, pack, pid, parN, List.not_mem_nil, List.mem_cons, lid, chkK, apartV, List.map_nil, List.flatMap_nil, List.append_nil, List.nil_append, List.drop_zero, List.length_set, List.length_replicate, List.length_append, List.take_length, List.take_zero, List.drop_length, Option.isNone_none, Heap.none, c1, c2, c4]
    · have t2 : d.take 3 = d := List.take_of_length_le (by omega)
      rw [t2]
      rw [R_go FF F74 c74.eq_1]
      simp only [RB, un, St.none, Nat.reduceEqDiff, Nat.reduceAdd, Nat.reduceMul, Nat.reduceLeDiff, Nat.reduceLT, Int.reduceLT, Int.reduceLE, Int.reduceEq, Int.reduceToNat, Int.reduceSub, Int.reduceNeg, Int.reduceAdd, ↓reduceIte, reduceCtorEq, ite_self, eq_self, if_true, if_false, pack, pid, parN, List.not_mem_nil, List.mem_cons, lid, chkK, apartV, List.map_nil, List.flatMap_nil, List.append_nil, List.nil_append, List.drop_zero, List.length_set, List.length_replicate, List.length_append, List.take_length, List.take_zero, List.drop_length, Option.isNone_none, Heap.none, c1, c2]
def t3 (c : RC) : RC := (c.1, c.2.1, c.2.2.1.take 3, c.2.2.2.take 3)
theorem few09_l0 {l : List RC} {n : Nat} (hn : n ≤ 1000000) (hu : ∀ x ∈ l, OkC x) (hl : l.length ≤ maxL) : ∀ (d i : Nat), i + d = min l.length n →
    LP FF [(5, 1), (0, 0), (1, 0), (6, 0)] [(5, 0)] b29_0 [.own true 4 (((l.take i).map t3).map eC), .l 4 (l.map eC), (AV.i .i64 ((n : Int))), (AV.i .i64 ((i : Int)))] = some (.exit 0, [.l 4 (((l.take n).map t3).map eC)]) := by
  intro d
  induction d with
  | zero =>
    intro i hi
    have h2 : l.take i = l.take n := by
      rw [show i = min l.length n by omega]
      rcases Nat.le_total l.length n with h | h
      · rw [Nat.min_eq_left h, List.take_of_length_le (Nat.le_refl _), List.take_of_length_le h]
      · rw [Nat.min_eq_right h]
    rw [h2, show i = min l.length n by omega]
    by_cases c1 : ((min l.length n : Nat) : Int) < (l.length : Int)
    · have c2 : ¬ ((min l.length n : Nat) : Int) < (n : Int) := by omega
      rw [LP_go FF b29_0.eq_1]
      simp only [RB, un, St.none, Nat.reduceEqDiff, Nat.reduceAdd, Nat.reduceMul, Nat.reduceLeDiff, Nat.reduceLT, Int.reduceLT, Int.reduceLE, Int.reduceEq, Int.reduceToNat, Int.reduceSub, Int.reduceNeg, Int.reduceAdd, ↓reduceIte, reduceCtorEq, ite_self, eq_self, if_true, if_false, pack, pid, parN, List.not_mem_nil, List.mem_cons, lid, chkK, apartV, List.map_nil, List.flatMap_nil, List.append_nil, List.nil_append, List.drop_zero, List.length_set, List.length_replicate, List.length_append, List.take_length, List.take_zero, List.drop_length, Option.isNone_none, Heap.none, c1, c2]
    · rw [LP_go FF b29_0.eq_1]
      simp only [RB, un, St.none, Nat.reduceEqDiff, Nat.reduceAdd, Nat.reduceMul, Nat.reduceLeDiff, Nat.reduceLT, Int.reduceLT, Int.reduceLE, Int.reduceEq, Int.reduceToNat, Int.reduceSub, Int.reduceNeg, Int.reduceAdd, ↓reduceIte, reduceCtorEq, ite_self, eq_self, if_true, if_false, pack, pid, parN, List.not_mem_nil, List.mem_cons, lid, chkK, apartV, List.map_nil, List.flatMap_nil, List.append_nil, List.nil_append, List.drop_zero, List.length_set, List.length_replicate, List.length_append, List.take_length, List.take_zero, List.drop_length, Option.isNone_none, Heap.none, c1]
  | succ d ih =>
    intro i hi
    have hlt : i < l.length := by omega
    have h9 := ih (i + 1) (by omega)
    have hx := hu _ (getD_mem' (false, false, [], []) hlt)
    have f1 := number09_c (q := (l.getD i (false, false, [], [])).2.1) hx.1.2 hx.2.2
    have ht : (l.take (i + 1)).map t3 = (l.take i).map t3 ++ [t3 (l.getD i (false, false, [], []))] := by
      rw [List.take_add_one, List.getElem?_eq_getElem hlt, List.map_append, List.getD_eq_getElem?_getD, List.getElem?_eq_getElem hlt]
      rfl
    rw [ht] at h9
    have hlen : (List.map t3 (List.take i l)).length = i := by rw [List.length_map, List.length_take]; omega
    have c1 : (i : Int) < (l.length : Int) := by omega
    have c2 : (i : Int) < (n : Int) := by omega
    have e2 : IntKind.i64.wrap ((i : Int) + 1) = ((i + 1 : Nat) : Int) := w64succ (by omega)
    have b2 : (i + 1) * 64 ≤ 140737488355328 := by omega
    have m2 : List.take (i + 1) (List.map t3 (List.take i l) ++ [t3 (l.getD i (false, false, [], []))]) = List.map t3 (List.take i l) ++ [t3 (l.getD i (false, false, [], []))] := List.take_of_length_le (by rw [List.length_append, hlen]; simp)
    have m3 : List.take i (List.map t3 (List.take i l)) = List.map t3 (List.take i l) := List.take_of_length_le (by omega)
    have m1 : List.map eC (List.map t3 (List.take i l)) ++ [[AV.b (l.getD i (false, false, [], [])).1, AV.b (l.getD i (false, false, [], [])).2.1, AV.l 1 (List.map u ((l.getD i (false, false, [], [])).2.2.1.take 3)), AV.l 1 (List.map u ((l.getD i (false, false, [], [])).2.2.2.take 3))]] = List.map eC (List.map t3 (List.take i l) ++ [t3 (l.getD i (false, false, [], []))]) := by rw [List.map_append]; rfl
    rw [LP_go FF b29_0.eq_1]
    simp only [RB, un, St.none, Nat.reduceEqDiff, Nat.reduceAdd, Nat.reduceMul, Nat.reduceLeDiff, Nat.reduceLT, Int.reduceLT, Int.reduceLE, Int.reduceEq, Int.reduceToNat, Int.reduceSub, Int.reduceNeg, Int.reduceAdd, ↓reduceIte, reduceCtorEq, ite_self, eq_self, if_true, if_false, pack, pid, parN, List.not_mem_nil, List.mem_cons, lid, chkK, apartV, List.map_nil, List.flatMap_nil, List.append_nil, List.nil_append, List.drop_zero, List.length_set, List.length_replicate, List.length_append, List.take_length, List.take_zero, List.drop_length, Option.isNone_none, Heap.none, c1, c2, eC_rules, eC_row, Int.natCast_nonneg, f1, e2, hlen, b2, m3, m1, m2]
    exact h9
theorem few09_c {l : List RC} {n : Nat} (hn : n ≤ 1000000) (hu : ∀ x ∈ l, OkC x) (hl : l.length ≤ maxL) : R FF 29 [.l 4 (l.map eC), (AV.i .i64 ((n : Int)))] = some (.l 4 (((l.take n).map t3).map eC)) := by
  have h1 := few09_l0 hn hu hl (min l.length n) 0 (by omega)
  rw [List.take_zero, Int.ofNat_zero] at h1
  simp only [List.map_nil] at h1
  rw [R_go FF F29 c29.eq_1]
  simp only [RB, un, St.none, Nat.reduceEqDiff, Nat.reduceAdd, Nat.reduceMul, Nat.reduceLeDiff, Nat.reduceLT, Int.reduceLT, Int.reduceLE, Int.reduceEq, Int.reduceToNat, Int.reduceSub, Int.reduceNeg, Int.reduceAdd, ↓reduceIte, reduceCtorEq, ite_self, eq_self, if_true, if_false, pack, pid, parN, List.not_mem_nil, List.mem_cons, lid, chkK, apartV, List.map_nil, List.flatMap_nil, List.append_nil, List.nil_append, List.drop_zero, List.length_set, List.length_replicate, List.length_append, List.take_length, List.take_zero, List.drop_length, Option.isNone_none, Heap.none, h1]
theorem cell23_c {a q : Bool} {l d : List Int} (h : Sm l d maxL) : R FF 13 [.agg [.b a, .b q, (AV.l 1 (List.map u l)), (AV.l 1 (List.map u d))]] = some (.agg [.b a, .b q, (AV.l 1 (List.map u ((l.take 3)))), (AV.l 1 (List.map u ((d.take 3))))]) := by
  have h1 := few09_c (l := [(a, q, l, d)]) (n := 1) (by omega) (by intro x hx; rw [List.mem_singleton.1 hx]; exact h) (show 1 ≤ maxL by decide)
  change R FF 29 [.l 4 [[.b a, .b q, (AV.l 1 (List.map u l)), (AV.l 1 (List.map u d))]], (AV.i .i64 1)] = some (.l 4 [[.b a, .b q, (AV.l 1 (List.map u ((l.take 3)))), (AV.l 1 (List.map u ((d.take 3))))]]) at h1
  rw [R_go FF F13 c13.eq_1]
  simp only [RB, un, St.none, Nat.reduceEqDiff, Nat.reduceAdd, Nat.reduceMul, Nat.reduceLeDiff, Nat.reduceLT, Int.reduceLT, Int.reduceLE, Int.reduceEq, Int.reduceToNat, Int.reduceSub, Int.reduceNeg, Int.reduceAdd, ↓reduceIte, reduceCtorEq, ite_self, eq_self, if_true, if_false, pack, pid, parN, List.not_mem_nil, List.mem_cons, lid, chkK, apartV, List.map_nil, List.flatMap_nil, List.append_nil, List.nil_append, List.drop_zero, List.length_set, List.length_replicate, List.length_append, List.take_length, List.take_zero, List.drop_length, Option.isNone_none, Heap.none, h1]
theorem number23_c {q : Bool} {l d : List Int} (h : Sm l d maxL) : R FF 12 [(AV.agg [AV.b q, (AV.l 1 (List.map u l)), (AV.l 1 (List.map u d))])] = some (AV.agg [AV.b q, (AV.l 1 (List.map u (((l.take 3))))), (AV.l 1 (List.map u (((d.take 3)))))]) := by
  have h1 := cell23_c (a := false) (q := q) h
  rw [R_go FF F12 c12.eq_1]
  simp only [RB, un, St.none, Nat.reduceEqDiff, Nat.reduceAdd, Nat.reduceMul, Nat.reduceLeDiff, Nat.reduceLT, Int.reduceLT, Int.reduceLE, Int.reduceEq, Int.reduceToNat, Int.reduceSub, Int.reduceNeg, Int.reduceAdd, ↓reduceIte, reduceCtorEq, ite_self, eq_self, if_true, if_false, pack, pid, parN, List.not_mem_nil, List.mem_cons, lid, chkK, apartV, List.map_nil, List.flatMap_nil, List.append_nil, List.nil_append, List.drop_zero, List.length_set, List.length_replicate, List.length_append, List.take_length, List.take_zero, List.drop_length, Option.isNone_none, Heap.none, h1]
def inS (hl hh : Bool) (lo hi : Rat) (ms m : Bool) (v : Rat) : Bool := if m then ms else (!(hl && decide (v < lo))) && (!hh || decide (v < hi))
theorem Has23_c {hl hh ms m q1 q2 q3 : Bool} {l1 d1 l2 d2 l3 d3 : List Int} {k : Nat} (hk : k ≤ 1000000) (h1 : Sm l1 d1 k) (h2 : Sm l2 d2 k) (h3 : Sm l3 d3 k) :
    R FF 67 [.agg [.b hl, .b hh, .b q1, (AV.l 1 (List.map u l1)), (AV.l 1 (List.map u d1)), .b q2, (AV.l 1 (List.map u l2)), (AV.l 1 (List.map u d2)), .b ms], .agg [.b m, .b q3, (AV.l 1 (List.map u l3)), (AV.l 1 (List.map u d3))]] = some (.b (inS hl hh (qv q1 l1 d1) (qv q2 l2 d2) ms m (qv q3 l3 d3))) := by
  have c1 := qcmp_s (q := q3) (r := q1) h3 h1 hk hk
  have c2 := qcmp_s (q := q3) (r := q2) h3 h2 hk hk
  have e1 := qcmp_lt (x := qv q3 l3 d3) (y := qv q1 l1 d1)
  have e2 := qcmp_lt (x := qv q3 l3 d3) (y := qv q2 l2 d2)
  generalize qv q1 l1 d1 = lo at *
  generalize qv q2 l2 d2 = hi at *
  generalize qv q3 l3 d3 = v at *
  unfold inS
  cases m
  · cases hl <;> cases hh <;> by_cases a1 : v < lo <;> by_cases a2 : v < hi <;> simp only [a1, a2, iff_true, iff_false] at e1 e2 <;>
    (rw [R_go FF F67 c67.eq_1]
     simp only [RB, un, St.none, Nat.reduceEqDiff, Nat.reduceAdd, Nat.reduceMul, Nat.reduceLeDiff, Nat.reduceLT, Int.reduceLT, Int.reduceLE, Int.reduceEq, Int.reduceToNat, Int.reduceSub, Int.reduceNeg, Int.reduceAdd, ↓reduceIte, reduceCtorEq, ite_self, eq_self, if_true, if_false, pack, pid, parN, List.not_mem_nil, List.mem_cons, lid, chkK, apartV, List.map_nil, List.flatMap_nil, List.append_nil, List.nil_append, List.drop_zero, List.length_set, List.length_replicate, List.length_append, List.take_length, List.take_zero, List.drop_length, Option.isNone_none, Heap.none, c1, c2, e1, e2, a1, a2])
  · rw [R_go FF F67 c67.eq_1]
    simp only [RB, un, St.none, Nat.reduceEqDiff, Nat.reduceAdd, Nat.reduceMul, Nat.reduceLeDiff, Nat.reduceLT, Int.reduceLT, Int.reduceLE, Int.reduceEq, Int.reduceToNat, Int.reduceSub, Int.reduceNeg, Int.reduceAdd, ↓reduceIte, reduceCtorEq, ite_self, eq_self, if_true, if_false, pack, pid, parN, List.not_mem_nil, List.mem_cons, lid, chkK, apartV, List.map_nil, List.flatMap_nil, List.append_nil, List.nil_append, List.drop_zero, List.length_set, List.length_replicate, List.length_append, List.take_length, List.take_zero, List.drop_length, Option.isNone_none, Heap.none]
theorem has23_c {hl hh ms m q1 q2 q3 : Bool} {l1 d1 l2 d2 l3 d3 : List Int} {k : Nat} (hk : k ≤ 1000000) (h1 : Sm l1 d1 k) (h2 : Sm l2 d2 k) (h3 : Sm l3 d3 k) :
    R FF 15 [.agg [.b hl, .b hh, .b q1, (AV.l 1 (List.map u l1)), (AV.l 1 (List.map u d1)), .b q2, (AV.l 1 (List.map u l2)), (AV.l 1 (List.map u d2)), .b ms], .agg [.b m, .b q3, (AV.l 1 (List.map u l3)), (AV.l 1 (List.map u d3))]] = some (.b (inS hl hh (qv q1 l1 d1) (qv q2 l2 d2) ms m (qv q3 l3 d3))) := by
  have c1 := Has23_c (hl := hl) (hh := hh) (ms := ms) (m := m) (q1 := q1) (q2 := q2) (q3 := q3) hk h1 h2 h3
  rw [R_go FF F15 c15.eq_1]
  simp only [RB, un, St.none, Nat.reduceEqDiff, Nat.reduceAdd, Nat.reduceMul, Nat.reduceLeDiff, Nat.reduceLT, Int.reduceLT, Int.reduceLE, Int.reduceEq, Int.reduceToNat, Int.reduceSub, Int.reduceNeg, Int.reduceAdd, ↓reduceIte, reduceCtorEq, ite_self, eq_self, if_true, if_false, pack, pid, parN, List.not_mem_nil, List.mem_cons, lid, chkK, apartV, List.map_nil, List.flatMap_nil, List.append_nil, List.nil_append, List.drop_zero, List.length_set, List.length_replicate, List.length_append, List.take_length, List.take_zero, List.drop_length, Option.isNone_none, Heap.none, c1]
theorem bfrom_c {q r : Bool} {l d m e : List Int} {k : Nat} (hk : k ≤ 1000000) (h1 : Sm l d k) (h2 : Sm m e k) :
    R FF 16 [(AV.agg [AV.b q, (AV.l 1 (List.map u l)), (AV.l 1 (List.map u d))]), (AV.agg [AV.b r, (AV.l 1 (List.map u m)), (AV.l 1 (List.map u e))])] = some (.agg [.b true, .b true, .b (ng (qv q l d).num), (AV.l 1 (List.map u (D (qv q l d).num.natAbs))), (AV.l 1 (List.map u (D (qv q l d).den))), .b (ng (qv r m e).num), (AV.l 1 (List.map u (D (qv r m e).num.natAbs))), (AV.l 1 (List.map u (D (qv r m e).den))), .b false]) := by
  have c1 := qclean_s (q := q) h1 hk
  have c2 := qclean_s (q := r) h2 hk
  rw [R_go FF F16 c16.eq_1]
  simp only [RB, un, St.none, Nat.reduceEqDiff, Nat.reduceAdd, Nat.reduceMul, Nat.reduceLeDiff, Nat.reduceLT, Int.reduceLT, Int.reduceLE, Int.reduceEq, Int.reduceToNat, Int.reduceSub, Int.reduceNeg, Int.reduceAdd, ↓reduceIte, reduceCtorEq, ite_self, eq_self, if_true, if_false, pack, pid, parN, List.not_mem_nil, List.mem_cons, lid, chkK, apartV, List.map_nil, List.flatMap_nil, List.append_nil, List.nil_append, List.drop_zero, List.length_set, List.length_replicate, List.length_append, List.take_length, List.take_zero, List.drop_length, Option.isNone_none, Heap.none, c1, c2]
theorem awake23 : R FF 17 [] = some (.b true) := (R_some FF).2 ⟨60, by kernel_rfl⟩
theorem law_BoxFroms (x : RQt) (hx : OkQ x) (y : RQt) (hy : OkQ y) (c : RC) (hc : OkC c) : R FF 1 [.agg (eQ x), .agg (eQ y), .agg (eC c)] = some (.b true) := by
  obtain ⟨q, l, d⟩ := x
  obtain ⟨r, m, e⟩ := y
  obtain ⟨a, q3, l3, d3⟩ := c
  show R FF 1 [(AV.agg [AV.b q, (AV.l 1 (List.map u l)), (AV.l 1 (List.map u d))]), (AV.agg [AV.b r, (AV.l 1 (List.map u m)), (AV.l 1 (List.map u e))]), .agg [.b a, .b q3, (AV.l 1 (List.map u l3)), (AV.l 1 (List.map u d3))]] = some (.b true)
  have f1 := number23_c (q := q) hx.sm
  have f2 := number23_c (q := r) hy.sm
  have f3 := cell23_c (a := a) (q := q3) hc
  have s1 := hx.sm.take 3
  have s2 := hy.sm.take 3
  have s3 := Sm.take (k := maxL) hc 3
  simp only at s1 s2 s3
  generalize l.take 3 = l at *
  generalize d.take 3 = d at *
  generalize m.take 3 = m at *
  generalize e.take 3 = e at *
  generalize l3.take 3 = l3 at *
  generalize d3.take 3 = d3 at *
  have k1 := qcmp_s (q := q3) (r := q) s3 s1 (by omega) (by omega)
  have k2 := qcmp_s (q := q3) (r := r) s3 s2 (by omega) (by omega)
  have b1 := bfrom_c (q := q) (r := r) (k := 3) (by omega) s1 s2
  have t1 := Sm.sq (q := q) s1 (by omega)
  have t2 := Sm.sq (q := r) s2 (by omega)
  have h1 := has23_c (hl := true) (hh := true) (ms := false) (m := a) (q1 := ng (qv q l d).num) (q2 := ng (qv r m e).num) (q3 := q3) (k := 3) (by omega) (sm_cq t1) (sm_cq t2) s3
  rw [qv_cq, qv_cq] at h1
  generalize qv q l d = x at *
  generalize qv r m e = y at *
  generalize qv q3 l3 d3 = v at *
  have e1 := qcmp_ge (x := v) (y := x)
  have e2 := qcmp_lt (x := v) (y := y)
  have e3 := Rat.not_lt (a := v) (b := x)
  unfold inS at h1
  cases a
  · by_cases a1 : v < x <;> by_cases a2 : v < y <;> simp only [a1, a2, iff_true, iff_false, not_true, not_false_iff, true_iff, false_iff] at e1 e2 e3 h1 <;>
    (simp only [e3, iff_true, iff_false] at e1
     rw [R_go FF F1 c1.eq_1]
     simp only [RB, un, St.none, Nat.reduceEqDiff, Nat.reduceAdd, Nat.reduceMul, Nat.reduceLeDiff, Nat.reduceLT, Int.reduceLT, Int.reduceLE, Int.reduceEq, Int.reduceToNat, Int.reduceSub, Int.reduceNeg, Int.reduceAdd, ↓reduceIte, reduceCtorEq, ite_self, eq_self, if_true, if_false, pack, pid, parN, List.not_mem_nil, List.mem_cons, lid, chkK, apartV, List.map_nil, List.flatMap_nil, List.append_nil, List.nil_append, List.drop_zero, List.length_set, List.length_replicate, List.length_append, List.take_length, List.take_zero, List.drop_length, Option.isNone_none, Heap.none, f1, f2, f3, k1, k2, b1, h1, e1, e2, a1, a2, awake23])
  · rw [R_go FF F1 c1.eq_1]
    simp only [RB, un, St.none, Nat.reduceEqDiff, Nat.reduceAdd, Nat.reduceMul, Nat.reduceLeDiff, Nat.reduceLT, Int.reduceLT, Int.reduceLE, Int.reduceEq, Int.reduceToNat, Int.reduceSub, Int.reduceNeg, Int.reduceAdd, ↓reduceIte, reduceCtorEq, ite_self, eq_self, if_true, if_false, pack, pid, parN, List.not_mem_nil, List.mem_cons, lid, chkK, apartV, List.map_nil, List.flatMap_nil, List.append_nil, List.nil_append, List.drop_zero, List.length_set, List.length_replicate, List.length_append, List.take_length, List.take_zero, List.drop_length, Option.isNone_none, Heap.none, f1, f2, f3, k1, k2, b1, h1, awake23]
end Go.Pe
set_option linter.unusedVariables false
set_option linter.unusedSimpArgs false
namespace Go.Pe
open Go
structure Pl where
  z : Nat
  n : Nat
  loc : Option (Nat × Nat)
abbrev Rho := Nat → Option Pl
def Rho.none : Rho := fun _ => .none
theorem add_at (b o n : Nat) : (⟨b, o, none⟩ : Addr).add n = ⟨b, o + n, none⟩ := by unfold Addr.add; split <;> simp_all
inductive Rv (w : World) (T : Nat → Prop) : Rho → AV → Value → Prop
  | junk {ρ v} : Rv w T ρ .junk v
  | b {ρ x} : Rv w T ρ (.b x) (.bool x)
  | i {ρ k n} : Rv w T ρ (.i k n) (.int k n)
  | s {ρ x} : Rv w T ρ (.s x) (.string x)
  | np {ρ} : Rv w T ρ .np (.pointer none)
  | ns {ρ z} : Rv w T ρ (.ns z) (.slice none 0 0)
  | lnil {ρ z a cap} (ha : a = none → cap = 0) (hm : cap ≤ maxLen) : Rv w T ρ (.l z []) (.slice a 0 cap)
  | l {ρ z es b base cap} (g : Nat → Nat → Value) (hT : ¬ T b) (hb : b < w.heap.size) (hc : es.length ≤ cap) (hm : cap ≤ maxLen) (hz : ∀ j, j < es.length → (es.getD j []).length = z)
      (hcell : ∀ j c, j < es.length → c < z → w.cell? ⟨b, base + j * z + c, none⟩ = some (g j c) ∧ (g j c).oneCell' = true)
      (hv : ∀ j c, j < es.length → c < z → Rv w T Rho.none ((es.getD j []).getD c .junk) (g j c)) : Rv w T ρ (.l z es) (.slice (some ⟨b, base, none⟩) es.length cap)
  | tp {ρ cs o b base} (g : Nat → Value) (hT : ¬ T b) (hb : b < w.heap.size)
      (hcell : ∀ c, c < cs.length → w.cell? ⟨b, base + c, none⟩ = some (g c) ∧ (g c).oneCell' = true)
      (hv : ∀ c, c < cs.length → Rv w T Rho.none (cs.getD c .junk) (g c)) : Rv w T ρ (.tp cs o) (.pointer (some ⟨b, base + o, none⟩))
  | sl {ρ r z o n m b base cap} (hr : ρ r = some ⟨z, m, some (b, base)⟩) (hn : o + n ≤ m) (hc : n ≤ cap) (hm : cap ≤ maxLen)
      (hs : ∃ cur e fr, w.heap[b]? = some (Obj.cells cur e fr) ∧ base + (o + cap) * z ≤ cur.size) : Rv w T ρ (.sl r z o n) (.slice (some ⟨b, base + o * z, none⟩) n cap)
  | slz {ρ r z o m b base off} (hr : ρ r = some ⟨z, m, some (b, base)⟩) (hn : o ≤ m) : Rv w T ρ (.sl r z o 0) (.slice (some ⟨b, off, none⟩) 0 0)
  | slnil {ρ r z} (hr : ρ r = some ⟨z, 0, none⟩) : Rv w T ρ (.sl r z 0 0) (.slice none 0 0)
  | p {ρ r e o z m b base} (hr : ρ r = some ⟨z, m, some (b, base)⟩) : Rv w T ρ (.p r e o) (.pointer (some ⟨b, base + e * z + o, none⟩))
  | agg {ρ cs} (vs : Array Value) (hl : vs.size = cs.length) (h1 : ∀ c, c < cs.length → (vs.getD c undef).oneCell' = true)
      (hv : ∀ c, c < cs.length → Rv w T ρ (cs.getD c .junk) (vs.getD c undef)) : Rv w T ρ (.agg cs) (.agg vs)
  | tup {ρ cs} (vs : Array Value) (hl : vs.size = cs.length) (hv : ∀ c, c < cs.length → Rv w T ρ (cs.getD c .junk) (vs.getD c undef)) : Rv w T ρ (.tup cs) (.tuple vs)
theorem Rv.lnil0 {w : World} {T : Nat → Prop} {ρ : Rho} {z : Nat} : Rv w T ρ (.l z []) (.slice none 0 0) := .lnil (fun _ => rfl) (Nat.zero_le _)
structure Same (T : Nat → Prop) (w w' : World) : Prop where
  size : w.heap.size ≤ w'.heap.size
  same : ∀ (b : Nat), b < w.heap.size → ¬ T b → w'.heap[b]? = w.heap[b]?
  shape : ∀ (b : Nat) cur e fr, w.heap[b]? = some (Obj.cells cur e fr) → ∃ cur', w'.heap[b]? = some (Obj.cells cur' e fr) ∧ cur'.size = cur.size
theorem Same.refl (T : Nat → Prop) (w : World) : Same T w w := ⟨Nat.le_refl _, fun _ _ _ => rfl, fun _ cur _ _ h => ⟨cur, h, rfl⟩⟩
theorem lt_of_cells {w : World} {b : Nat} {o : Obj} (h : w.heap[b]? = some o) : b < w.heap.size := (Array.getElem?_eq_some_iff.1 h).1
theorem Same.trans {T : Nat → Prop} {w w' w'' : World} (h : Same T w w') (k : Same T w' w'') : Same T w w'' := by
  refine ⟨Nat.le_trans h.size k.size, fun b hb ht => ?_, fun b cur e fr hb => ?_⟩
  · rw [k.same b (Nat.lt_of_lt_of_le hb h.size) ht, h.same b hb ht]
  · obtain ⟨c1, h1, s1⟩ := h.shape b cur e fr hb
    obtain ⟨c2, h2, s2⟩ := k.shape b c1 e fr h1
    exact ⟨c2, h2, s2.trans s1⟩
theorem Same.cell {T : Nat → Prop} {w w' : World} (h : Same T w w') {b o : Nat} (hb : b < w.heap.size) (ht : ¬ T b) : w'.cell? ⟨b, o, none⟩ = w.cell? ⟨b, o, none⟩ := by
  simp only [World.cell?, h.same b hb ht]
theorem Rv.mono {w w' : World} {T T' : Nat → Prop} (hk : Same T w w') (hT : ∀ b, b < w.heap.size → T' b → T b) {ρ : Rho} {av : AV} {v : Value} (h : Rv w T ρ av v) :
    ∀ {ρ' : Rho}, (∀ r p, ρ r = some p → ρ' r = some p) → Rv w' T' ρ' av v := by
  induction h with
  | junk => intro ρ' hρ; exact .junk
  | b => intro ρ' hρ; exact .b
  | i => intro ρ' hρ; exact .i
  | s => intro ρ' hρ; exact .s
  | np => intro ρ' hρ; exact .np
  | ns => intro ρ' hρ; exact .ns
  | lnil ha hm => intro ρ' hρ; exact .lnil ha hm
  | @l ρ z es b base cap g hTb hb hc hm hz hcell hv ih =>
    intro ρ' hρ
    refine .l g (fun h => hTb (hT b hb h)) (Nat.lt_of_lt_of_le hb hk.size) hc hm hz (fun j c hj hc => ?_) (fun j c hj hc => ih j c hj hc fun r p h => h)
    rw [hk.cell hb hTb]
    exact hcell j c hj hc
  | @tp ρ cs o b base g hTb hb hcell hv ih =>
    intro ρ' hρ
    refine .tp g (fun h => hTb (hT b hb h)) (Nat.lt_of_lt_of_le hb hk.size) (fun c hc => ?_) (fun c hc => ih c hc fun r p h => h)
    rw [hk.cell hb hTb]
    exact hcell c hc
  | sl hr hn hc hm hs =>
    intro ρ' hρ
    obtain ⟨cur, e, fr, h1, h2⟩ := hs
    obtain ⟨cur', h3, h4⟩ := hk.shape _ cur e fr h1
    exact .sl (hρ _ _ hr) hn hc hm ⟨cur', e, fr, h3, by rw [h4]; exact h2⟩
  | slz hr hn => intro ρ' hρ; exact .slz (hρ _ _ hr) hn
  | slnil hr => intro ρ' hρ; exact .slnil (hρ _ _ hr)
  | p hr => intro ρ' hρ; exact .p (hρ _ _ hr)
  | agg vs hl h1 hv ih => intro ρ' hρ; exact .agg vs hl h1 fun c hc => ih c hc hρ
  | tup vs hl hv ih => intro ρ' hρ; exact .tup vs hl fun c hc => ih c hc hρ
structure RowAt (w : World) (b base z : Nat) (es : List (List AV)) (R : AV → Value → Prop) : Prop where
  len : ∀ j, j < es.length → (es.getD j []).length = z
  cell : ∀ j c, j < es.length → c < z → ∃ v, w.cell? ⟨b, base + j * z + c, none⟩ = some v ∧ v.oneCell' = true ∧ R ((es.getD j []).getD c .junk) v
def RowOk (w : World) (T : Nat → Prop) (ρ : Rho) (r : Nat) : Row → Prop
  | .sl ap z es => (es = [] ∧ True ∧ ρ r = some ⟨z, 0, none⟩) ∨ ∃ b base cur e, ρ r = some ⟨z, es.length, some (b, base)⟩ ∧ T b ∧ w.heap[b]? = some (Obj.cells cur e (0, 0)) ∧ base + es.length * z ≤ cur.size ∧ (ap = true → base = 0) ∧ RowAt w b base z es (Rv w T Rho.none)
  | .st cs => ∃ b base cur e, ρ r = some ⟨cs.length, 1, some (b, base)⟩ ∧ T b ∧ w.heap[b]? = some (Obj.cells cur e (0, 0)) ∧ base + cs.length ≤ cur.size ∧ RowAt w b base cs.length [cs] (Rv w T ρ)
  | .fsl z es => (es = [] ∧ ρ r = some ⟨z, 0, none⟩) ∨ ∃ b base, ρ r = some ⟨z, es.length, some (b, base)⟩ ∧ ¬ T b ∧ b < w.heap.size ∧ RowAt w b base z es (Rv w T Rho.none)
  | .fst cs => ∃ b base, ρ r = some ⟨cs.length, 1, some (b, base)⟩ ∧ ¬ T b ∧ b < w.heap.size ∧ RowAt w b base cs.length [cs] (Rv w T ρ)
  | .dead => True
theorem RowAt.mono {w w' : World} {b base z : Nat} {es : List (List AV)} {R R' : AV → Value → Prop} (h : RowAt w b base z es R) (hc : ∀ o, w'.cell? ⟨b, o, none⟩ = w.cell? ⟨b, o, none⟩) (hR : ∀ av v, R av v → R' av v) : RowAt w' b base z es R' := by
  refine ⟨h.len, fun j c hj hc' => ?_⟩
  obtain ⟨v, h1, h2, h3⟩ := h.cell j c hj hc'
  exact ⟨v, by rw [hc]; exact h1, h2, hR _ _ h3⟩
end Go.Pe
set_option linter.unusedVariables false
set_option linter.unusedSimpArgs false
namespace Go.Pe
open Go
def Row.live : Row → Bool
  | .sl _ _ _ | .st _ => true
  | _ => false
def Row.isAp : Row → Bool
  | .sl ap _ _ => ap
  | _ => false
structure Keeps (W : Nat → Nat → Prop) (w w' : World) : Prop where
  os : w'.os = w.os
  tape : w'.tape = w.tape
  output : w'.output = w.output
  size : w.heap.size ≤ w'.heap.size
  block : ∀ (b : Nat), b < w.heap.size → w'.heap[b]? = w.heap[b]? ∨ ∃ c c' e fr, w.heap[b]? = some (Obj.cells c e fr) ∧ w'.heap[b]? = some (Obj.cells c' e fr) ∧ c'.size = c.size ∧ ∀ o : Nat, ¬ W b o → c'[o]? = c[o]?
theorem Keeps.refl (W : Nat → Nat → Prop) (w : World) : Keeps W w w := ⟨rfl, rfl, rfl, Nat.le_refl _, fun _ _ => .inl rfl⟩
theorem Keeps.trans {W W' : Nat → Nat → Prop} {w w' w'' : World} (h : Keeps W w w') (k : Keeps W' w' w'') (hW : ∀ b o, b < w.heap.size → W' b o → W b o) : Keeps W w w'' := by
  refine ⟨k.os.trans h.os, k.tape.trans h.tape, k.output.trans h.output, Nat.le_trans h.size k.size, fun b hb => ?_⟩
  rcases h.block b hb with h1 | ⟨c, c', e, fr, h1, h2, h3, h4⟩
  · rcases k.block b (Nat.lt_of_lt_of_le hb h.size) with k1 | ⟨d, d', e', fr', k1, k2, k3, k4⟩
    · exact .inl (k1.trans h1)
    · exact .inr ⟨d, d', e', fr', h1.symm.trans k1, k2, k3, fun o ho => k4 o fun hw => ho (hW b o hb hw)⟩
  · rcases k.block b (Nat.lt_of_lt_of_le hb h.size) with k1 | ⟨d, d', e', fr', k1, k2, k3, k4⟩
    · exact .inr ⟨c, c', e, fr, h1, k1.trans h2, h3, h4⟩
    · rw [h2] at k1
      cases k1
      exact .inr ⟨c, d', _, _, h1, k2, k3.trans h3, fun o ho => (k4 o fun hw => ho (hW b o hb hw)).trans (h4 o ho)⟩
theorem Keeps.same {W : Nat → Nat → Prop} {T : Nat → Prop} {w w' : World} (h : Keeps W w w') (hW : ∀ b o, b < w.heap.size → W b o → T b) : Same T w w' := by
  refine ⟨h.size, fun b hb ht => ?_, fun b cur e fr hb => ?_⟩
  · rcases h.block b hb with h1 | ⟨c, c', e, fr, h1, h2, h3, h4⟩
    · exact h1
    · rw [h1, h2]
      have : c' = c := by
        apply Array.ext_getElem?
        intro o
        exact h4 o fun hw => ht (hW b o hb hw)
      rw [this]
  · rcases h.block b (lt_of_cells hb) with h1 | ⟨c, c', e', fr', h1, h2, h3, h4⟩
    · exact ⟨cur, h1.trans hb, rfl⟩
    · rw [hb] at h1
      cases h1
      exact ⟨c', h2, h3⟩
structure Old (w w' : World) : Prop where
  os : w'.os = w.os
  tape : w'.tape = w.tape
  output : w'.output = w.output
  size : w.heap.size ≤ w'.heap.size
  block : ∀ (b : Nat), b < w.heap.size → w'.heap[b]? = w.heap[b]?
theorem Old.refl (w : World) : Old w w := ⟨rfl, rfl, rfl, Nat.le_refl _, fun _ _ => rfl⟩
theorem Old.keeps {w w' : World} (h : Old w w') (W : Nat → Nat → Prop) : Keeps W w w' := ⟨h.os, h.tape, h.output, h.size, fun b hb => .inl (h.block b hb)⟩
theorem Old.same {w w' : World} (h : Old w w') (T : Nat → Prop) : Same T w w' := (h.keeps fun _ _ => False).same fun _ _ _ h => h.elim
theorem Old.cell {w w' : World} (h : Old w w') {b o : Nat} (hb : b < w.heap.size) : w'.cell? ⟨b, o, none⟩ = w.cell? ⟨b, o, none⟩ := by simp only [World.cell?, h.block b hb]
theorem Old.trans {w w' w'' : World} (h : Old w w') (k : Old w' w'') : Old w w'' := ⟨k.os.trans h.os, k.tape.trans h.tape, k.output.trans h.output, Nat.le_trans h.size k.size, fun b hb => (k.block b (Nat.lt_of_lt_of_le hb h.size)).trans (h.block b hb)⟩
theorem Old.alloc (w : World) (o : Obj) : Old w (w.alloc o) := ⟨rfl, rfl, rfl, by simp, fun b hb => Go.RowKit.Below.heap_alloc w o b hb⟩
theorem Old.drew (w : World) : Old w w.drew := ⟨rfl, rfl, rfl, Nat.le_refl _, fun _ _ => rfl⟩
theorem RowOk.inT {w : World} {T : Nat → Prop} {ρ : Rho} {r : Nat} {x : Row} (h : RowOk w T ρ r x) (hx : x.live = true) : ∀ p b base, ρ r = some p → p.loc = some (b, base) → T b := by
  intro p b base hp hl
  cases x with
  | sl ap z es =>
    rcases h with ⟨_, _, h⟩ | ⟨b', base', cur, e, h, ht, _⟩
    · rw [h] at hp; cases hp; cases hl
    · rw [h] at hp; cases hp; cases hl; exact ht
  | st cs =>
    obtain ⟨b', base', cur, e, h, ht, _⟩ := h
    rw [h] at hp; cases hp; cases hl; exact ht
  | fsl => cases hx
  | fst => cases hx
  | dead => cases hx
theorem RowOk.mono {w w' : World} {T T' : Nat → Prop} {ρ ρ' : Rho} {r : Nat} {x : Row} (h : RowOk w T ρ r x) (hs : Same T w w') (hT : ∀ b, b < w.heap.size → T' b → T b) (hρ : ∀ q p, ρ q = some p → ρ' q = some p)
    (hb : ∀ p b base, ρ r = some p → p.loc = some (b, base) → x.live = true → w'.heap[b]? = w.heap[b]? ∧ T' b) : RowOk w' T' ρ' r x := by
  have hR : ∀ av v, Rv w T Rho.none av v → Rv w' T' Rho.none av v := fun av v h => h.mono hs hT fun _ _ h => h
  have hR' : ∀ av v, Rv w T ρ av v → Rv w' T' ρ' av v := fun av v h => h.mono hs hT hρ
  cases x with
  | sl ap z es =>
    rcases h with ⟨h1, h2, h3⟩ | ⟨b, base, cur, e, h1, h2, h3, h4, h5, h6⟩
    · exact .inl ⟨h1, h2, hρ _ _ h3⟩
    · obtain ⟨k1, k2⟩ := hb _ _ _ h1 rfl rfl
      exact .inr ⟨b, base, cur, e, hρ _ _ h1, k2, k1.trans h3, h4, h5, h6.mono (fun o => by simp only [World.cell?, k1]) hR⟩
  | st cs =>
    obtain ⟨b, base, cur, e, h1, h2, h3, h4, h5⟩ := h
    obtain ⟨k1, k2⟩ := hb _ _ _ h1 rfl rfl
    exact ⟨b, base, cur, e, hρ _ _ h1, k2, k1.trans h3, h4, h5.mono (fun o => by simp only [World.cell?, k1]) hR'⟩
  | fsl z es =>
    rcases h with ⟨h1, h2⟩ | ⟨b, base, h1, h2, h3, h4⟩
    · exact .inl ⟨h1, hρ _ _ h2⟩
    · exact .inr ⟨b, base, hρ _ _ h1, fun h => h2 (hT b h3 h), Nat.lt_of_lt_of_le h3 hs.size, h4.mono (fun o => hs.cell h3 h2) hR⟩
  | fst cs =>
    obtain ⟨b, base, h1, h2, h3, h4⟩ := h
    exact ⟨b, base, hρ _ _ h1, fun h => h2 (hT b h3 h), Nat.lt_of_lt_of_le h3 hs.size, h4.mono (fun o => hs.cell h3 h2) hR'⟩
  | dead => trivial
structure Fr where
  w0 : World
  W0 : Nat → Nat → Prop
  T0 : Nat → Prop
  lids : List Nat
  pl0 : Nat → Pl
  tabs : List (Nat × List AV)
structure WInv (f : Fr) (w : World) (T : Nat → Prop) (ρ : Rho) (h : Heap) : Prop where
  keeps : Keeps f.W0 f.w0 w
  tlt : ∀ b, T b → b < w.heap.size
  rows : ∀ r x, h r = some x → RowOk w T ρ r x
  dom : ∀ r, h r = none → ρ r = none
  sep : ∀ r r' x x', r ≠ r' → h r = some x → h r' = some x' → x.live = true → x'.live = true → ∀ p p' b base b' base', ρ r = some p → ρ r' = some p' → p.loc = some (b, base) → p'.loc = some (b', base') → b ≠ b'
  wr : ∀ r x p b base, h r = some x → x.live = true → ρ r = some p → p.loc = some (b, base) → f.w0.heap.size ≤ b ∨ ((∀ o, base ≤ o → o < base + p.n * p.z → f.W0 b o) ∧ (x.isAp = true → ∀ o, f.W0 b o))
  t0 : ∀ b, f.T0 b → T b ∨ ∃ r ∈ f.lids, ∀ x, h r = some x → x.live = false
  lp : ∀ r ∈ f.lids, ρ r = some (f.pl0 r)
  own : ∀ r x p b base, r ∉ f.lids → h r = some x → x.live = true → ρ r = some p → p.loc = some (b, base) → f.w0.heap.size ≤ b
  t0lt : ∀ b, f.T0 b → b < f.w0.heap.size
  la : ∀ r ∈ f.lids, ∀ x, h r = some x → x.isAp = false
  tab : ∀ p ∈ f.tabs, Rv w T Rho.none (.tp p.2 0) (.pointer (some ⟨p.1, 0, none⟩))
structure Goes (w w' : World) (T T' : Nat → Prop) (ρ ρ' : Rho) : Prop where
  same : Same T w w'
  less : ∀ b, b < w.heap.size → T' b → T b
  more : ∀ r p, ρ r = some p → ρ' r = some p
theorem Goes.refl (w : World) (T : Nat → Prop) (ρ : Rho) : Goes w w T T ρ ρ := ⟨Same.refl _ _, fun _ _ h => h, fun _ _ h => h⟩
theorem Goes.rv {w w' : World} {T T' : Nat → Prop} {ρ ρ' : Rho} (g : Goes w w' T T' ρ ρ') {av : AV} {v : Value} (h : Rv w T ρ av v) : Rv w' T' ρ' av v := h.mono g.same g.less g.more
theorem Goes.rv0 {w w' : World} {T T' : Nat → Prop} {ρ ρ' : Rho} (g : Goes w w' T T' ρ ρ') {av : AV} {v : Value} (h : Rv w T Rho.none av v) : Rv w' T' Rho.none av v := h.mono g.same g.less fun _ _ h => h
theorem Goes.trans {w w' w'' : World} {T T' T'' : Nat → Prop} {ρ ρ' ρ'' : Rho} (h : Goes w w' T T' ρ ρ') (k : Goes w' w'' T' T'' ρ' ρ'') : Goes w w'' T T'' ρ ρ'' := by
  refine ⟨⟨Nat.le_trans h.same.size k.same.size, fun b hb ht => ?_, fun b cur e fr hb => ?_⟩, fun b hb ht => h.less b hb (k.less b (Nat.lt_of_lt_of_le hb h.same.size) ht), fun r p hp => k.more r p (h.more r p hp)⟩
  · rw [k.same.same b (Nat.lt_of_lt_of_le hb h.same.size) (fun h' => ht (h.less b hb h')), h.same.same b hb ht]
  · obtain ⟨c1, h1, s1⟩ := h.same.shape b cur e fr hb
    obtain ⟨c2, h2, s2⟩ := k.same.shape b c1 e fr h1
    exact ⟨c2, h2, s2.trans s1⟩
section
variable {f : Fr} {w : World} {T : Nat → Prop} {ρ : Rho} {h : Heap}
theorem WInv.old (k : WInv f w T ρ h) {w' : World} (ho : Old w w') : WInv f w' T ρ h := by
  refine ⟨k.keeps.trans (ho.keeps fun _ _ => False) (fun _ _ _ h => h.elim), fun b hb => Nat.lt_of_lt_of_le (k.tlt b hb) ho.size, fun r x hx => ?_, k.dom, k.sep, k.wr, k.t0, k.lp, k.own, k.t0lt, k.la, fun p hp => (k.tab p hp).mono (ho.same T) (fun _ _ h => h) fun _ _ h => h⟩
  exact (k.rows r x hx).mono (ho.same T) (fun _ _ h => h) (fun _ _ h => h) fun p b base hp hl hlv => ⟨ho.block b (k.tlt b ((k.rows r x hx).inT hlv p b base hp hl)), (k.rows r x hx).inT hlv p b base hp hl⟩
theorem Goes.old {w' : World} (ho : Old w w') : Goes w w' T T ρ ρ := ⟨ho.same T, fun _ _ h => h, fun _ _ h => h⟩
theorem WInv.new' (k : WInv f w T ρ h) {w' : World} (ho : Old w w') {id : Nat} (hid : h id = none) {x : Row} {z n base : Nat} (hsz : w.heap.size < w'.heap.size)
    {b : Nat} (hb : w.heap.size ≤ b) (hb' : b < w'.heap.size)
    (hx : RowOk w' (fun a => T a ∨ a = b) (fun r => if r = id then some ⟨z, n, some (b, base)⟩ else ρ r) id x) :
    WInv f w' (fun a => T a ∨ a = b) (fun r => if r = id then some ⟨z, n, some (b, base)⟩ else ρ r) (h.put id x) ∧ Goes w w' T (fun a => T a ∨ a = b) ρ (fun r => if r = id then some ⟨z, n, some (b, base)⟩ else ρ r) := by
  have more : ∀ r p, ρ r = some p → (if r = id then some ⟨z, n, some (b, base)⟩ else ρ r) = some p := by
    intro r p hp
    split
    · rename_i hr
      subst hr
      rw [k.dom _ hid] at hp
      cases hp
    · exact hp
  have less : ∀ a, a < w.heap.size → (T a ∨ a = b) → T a := fun a ha ht => ht.elim (fun h => h) fun e => by omega
  refine ⟨⟨k.keeps.trans (ho.keeps fun _ _ => False) (fun _ _ _ h => h.elim), ?_, ?_, ?_, ?_, ?_, ?_, ?_, ?_, k.t0lt, fun r hr y hy => by
    simp only [Heap.put] at hy
    split at hy
    · rename_i e
      subst e
      have := k.lp r hr
      rw [k.dom r hid] at this
      cases this
    · exact k.la r hr y hy, fun p hp => (k.tab p hp).mono (ho.same T) less fun _ _ h => h⟩, ho.same T, less, more⟩
  · rintro a (ha | rfl)
    · exact Nat.lt_of_lt_of_le (k.tlt a ha) ho.size
    · exact hb'
  · intro r y hy
    simp only [Heap.put] at hy
    split at hy
    · rename_i hr
      subst hr
      cases hy
      exact hx
    · rename_i hr
      exact (k.rows r y hy).mono (ho.same T) less more fun p b base hp hl hlv => ⟨ho.block b (k.tlt b ((k.rows r y hy).inT hlv p b base hp hl)), .inl ((k.rows r y hy).inT hlv p b base hp hl)⟩
  · intro r hr
    simp only [Heap.put] at hr
    split at hr
    · cases hr
    · rename_i hne
      simp only [hne, if_false]
      exact k.dom r hr
  · intro r r' y y' hne hy hy' hl hl' p p' c base c' base' hp hp' hc hc'
    simp only [Heap.put] at hy hy'
    by_cases h1 : r = id
    · by_cases h2 : r' = id
      · exact absurd (h1.trans h2.symm) hne
      · rw [if_pos h1] at hp
        cases hp
        cases hc
        rw [if_neg h2] at hp' hy'
        have := k.tlt c' ((k.rows r' y' hy').inT hl' p' c' base' hp' hc')
        omega
    · by_cases h2 : r' = id
      · rw [if_pos h2] at hp'
        cases hp'
        cases hc'
        rw [if_neg h1] at hp hy
        have := k.tlt c ((k.rows r y hy).inT hl p c base hp hc)
        omega
      · rw [if_neg h1] at hp hy
        rw [if_neg h2] at hp' hy'
        exact k.sep r r' y y' hne hy hy' hl hl' p p' c base c' base' hp hp' hc hc'
  · intro r y p c base hy hl hp hc
    simp only [Heap.put] at hy
    by_cases h1 : r = id
    · rw [if_pos h1] at hp
      cases hp
      cases hc
      have := k.keeps.size
      exact .inl (by omega)
    · rw [if_neg h1] at hp hy
      exact k.wr r y p c base hy hl hp hc
  · intro a ha
    rcases k.t0 a ha with h1 | ⟨r, hr, hx⟩
    · exact .inl (.inl h1)
    · refine .inr ⟨r, hr, fun x hx' => ?_⟩
      simp only [Heap.put] at hx'
      split at hx'
      · rename_i e
        subst e
        have := k.lp r hr
        rw [k.dom r hid] at this
        cases this
      · exact hx x hx'
  · intro r hr
    exact more _ _ (k.lp r hr)
  · intro r y p c base hr hy hl hp hc
    simp only [Heap.put] at hy
    by_cases h1 : r = id
    · rw [if_pos h1] at hp
      cases hp
      cases hc
      have h2 := k.keeps.size
      omega
    · rw [if_neg h1] at hp hy
      exact k.own r y p c base hr hy hl hp hc
theorem WInv.new (k : WInv f w T ρ h) {w' : World} (ho : Old w w') {id : Nat} (hid : h id = none) {x : Row} {z n base : Nat} (hsz : w.heap.size < w'.heap.size)
    {b : Nat} (hb : w.heap.size ≤ b) (hb' : b < w'.heap.size)
    (hx : ∀ T' ρ', T' b → (∀ a, a < w.heap.size → T' a → T a) → (∀ r p, ρ r = some p → ρ' r = some p) → ρ' id = some ⟨z, n, some (b, base)⟩ → RowOk w' T' ρ' id x) :
    WInv f w' (fun a => T a ∨ a = b) (fun r => if r = id then some ⟨z, n, some (b, base)⟩ else ρ r) (h.put id x) ∧ Goes w w' T (fun a => T a ∨ a = b) ρ (fun r => if r = id then some ⟨z, n, some (b, base)⟩ else ρ r) := by
  refine k.new' ho hid hsz hb hb' (hx _ _ (.inr rfl) (fun a ha ht => ht.elim (fun h => h) fun e => by omega) (fun r p hp => ?_) (if_pos rfl))
  show (if r = id then some (⟨z, n, some (b, base)⟩ : Pl) else ρ r) = some p
  split
  · rename_i hr
    subst hr
    rw [k.dom _ hid] at hp
    cases hp
  · exact hp
end
end Go.Pe
set_option linter.unusedVariables false
set_option linter.unusedSimpArgs false
namespace Go.Pe
open Go
def rowBlk (h : Heap) (ρ : Rho) (r b : Nat) : Prop := ∃ x p base, h r = some x ∧ x.live = true ∧ ρ r = some p ∧ p.loc = some (b, base)
theorem freeze_live {x : Row} : x.freeze.live = false := by cases x <;> rfl
section
variable {f : Fr} {w : World} {T : Nat → Prop} {ρ : Rho} {h : Heap}
theorem WInv.freeze1 (k : WInv f w T ρ h) (r : Nat) :
    WInv f w (fun b => T b ∧ ¬ rowBlk h ρ r b) ρ (fun q => if q = r then (h q).map Row.freeze else h q) ∧ Goes w w T (fun b => T b ∧ ¬ rowBlk h ρ r b) ρ ρ := by
  have less : ∀ b, b < w.heap.size → (T b ∧ ¬ rowBlk h ρ r b) → T b := fun b _ hb => hb.1
  have hmap : ∀ q x, (if q = r then (h q).map Row.freeze else h q) = some x → (q ≠ r ∧ h q = some x) ∨ (q = r ∧ ∃ y, h r = some y ∧ x = y.freeze) := by
    intro q x hx
    split at hx
    · rename_i hq
      subst hq
      cases hy : h q with
      | none => rw [hy] at hx; cases hx
      | some y => rw [hy] at hx; exact .inr ⟨rfl, y, rfl, (Option.some.inj hx).symm⟩
    · rename_i hq
      exact .inl ⟨hq, hx⟩
  have hlive : ∀ q x, (if q = r then (h q).map Row.freeze else h q) = some x → x.live = true → q ≠ r ∧ h q = some x := by
    intro q x hx hl
    rcases hmap q x hx with h1 | ⟨_, y, _, rfl⟩
    · exact h1
    · rw [freeze_live] at hl
      cases hl
  refine ⟨⟨k.keeps, fun b hb => k.tlt b hb.1, ?_, ?_, ?_, ?_, ?_, k.lp, ?_, k.t0lt, fun q hq x hx => by
    rcases hmap q x hx with ⟨_, h1⟩ | ⟨_, y, _, rfl⟩
    · exact k.la q hq x h1
    · cases y <;> rfl, fun p hp => (k.tab p hp).mono (Same.refl _ _) less fun _ _ h => h⟩, Same.refl _ _, less, fun _ _ h => h⟩
  · intro q x hx
    rcases hmap q x hx with ⟨hq, hy⟩ | ⟨rfl, y, hy, rfl⟩
    · refine (k.rows q x hy).mono (Same.refl _ _) less (fun _ _ h => h) fun p b base hp hl hlv => ⟨rfl, (k.rows q x hy).inT hlv p b base hp hl, ?_⟩
      rintro ⟨z, p', base', hz, hzl, hp', hl'⟩
      exact k.sep q r x z hq hy hz hlv hzl p p' b base b base' hp hp' hl hl' rfl
    · have hR : ∀ av v, Rv w T Rho.none av v → Rv w (fun b => T b ∧ ¬ rowBlk h ρ q b) Rho.none av v := fun av v hh => hh.mono (Same.refl _ _) less fun _ _ h => h
      have hR' : ∀ av v, Rv w T ρ av v → Rv w (fun b => T b ∧ ¬ rowBlk h ρ q b) ρ av v := fun av v hh => hh.mono (Same.refl _ _) less fun _ _ h => h
      have ok := k.rows q y hy
      cases y with
      | sl ap z es =>
        rcases ok with ⟨h1, h2, h3⟩ | ⟨b, base, cur, e, h1, h2, h3, h4, h5, h6⟩
        · exact .inl ⟨h1, h3⟩
        · exact .inr ⟨b, base, h1, fun hh => hh.2 ⟨_, _, _, hy, rfl, h1, rfl⟩, lt_of_cells h3, h6.mono (fun _ => rfl) hR⟩
      | st cs =>
        obtain ⟨b, base, cur, e, h1, h2, h3, h4, h5⟩ := ok
        exact ⟨b, base, h1, fun hh => hh.2 ⟨_, _, _, hy, rfl, h1, rfl⟩, lt_of_cells h3, h5.mono (fun _ => rfl) hR'⟩
      | fsl z es => exact ok.mono (Same.refl _ _) less (fun _ _ h => h) fun _ _ _ _ _ h => by cases h
      | fst cs => exact ok.mono (Same.refl _ _) less (fun _ _ h => h) fun _ _ _ _ _ h => by cases h
      | dead => trivial
  · intro q hq
    split at hq
    · rename_i e
      subst e
      cases hy : h q with
      | none => exact k.dom q hy
      | some y => rw [hy] at hq; cases hq
    · exact k.dom q hq
  · intro q q' x x' hne hx hx' hl hl'
    obtain ⟨_, h1⟩ := hlive q x hx hl
    obtain ⟨_, h2⟩ := hlive q' x' hx' hl'
    exact k.sep q q' x x' hne h1 h2 hl hl'
  · intro q x p b base hx hl
    obtain ⟨_, h1⟩ := hlive q x hx hl
    exact k.wr q x p b base h1 hl
  · intro b hb
    rcases k.t0 b hb with h1 | ⟨q, hq, hx⟩
    · by_cases hr : rowBlk h ρ r b
      · obtain ⟨x, p, base, hx, hl, hp, hloc⟩ := hr
        by_cases hm : r ∈ f.lids
        · refine .inr ⟨r, hm, fun y hy => ?_⟩
          rcases hmap r y hy with ⟨h2, _⟩ | ⟨_, y', _, rfl⟩
          · exact absurd rfl h2
          · exact freeze_live
        · exact absurd (k.t0lt b hb) (Nat.not_lt.2 (k.own r x p b base hm hx hl hp hloc))
      · exact .inl ⟨h1, hr⟩
    · refine .inr ⟨q, hq, fun y hy => ?_⟩
      rcases hmap q y hy with ⟨_, h2⟩ | ⟨_, y', _, rfl⟩
      · exact hx y h2
      · exact freeze_live
  · intro q x p b base hq hx hl
    obtain ⟨_, h1⟩ := hlive q x hx hl
    exact k.own q x p b base hq h1 hl
theorem freeze_none {rs : List Nat} {q : Nat} : (h.freeze rs) q = none ↔ h q = none := by
  induction rs with
  | nil => exact Iff.rfl
  | cons r rs ih =>
    simp only [Heap.freeze]
    split
    · simp only [Option.map_eq_none_iff, ih]
    · exact ih
theorem freeze_live' {rs : List Nat} {q : Nat} {x : Row} (hx : (h.freeze rs) q = some x) (hl : x.live = true) : h q = some x ∧ q ∉ rs := by
  induction rs generalizing x with
  | nil => exact ⟨hx, by simp⟩
  | cons r rs ih =>
    simp only [Heap.freeze] at hx
    split at hx
    · cases hy : h.freeze rs q with
      | none => rw [hy] at hx; cases hx
      | some y =>
        rw [hy] at hx
        cases hx
        rw [freeze_live] at hl
        cases hl
    · rename_i hne
      obtain ⟨h1, h2⟩ := ih hx hl
      exact ⟨h1, by simp [hne, h2]⟩
theorem WInv.freeze (k : WInv f w T ρ h) (rs : List Nat) : ∃ T', WInv f w T' ρ (h.freeze rs) ∧ Goes w w T T' ρ ρ ∧ (∀ r ∈ rs, ∀ b, rowBlk h ρ r b → ¬ T' b) ∧ ∀ b, T b → T' b ∨ ∃ r ∈ rs, rowBlk h ρ r b := by
  induction rs with
  | nil => exact ⟨T, k, Goes.refl _ _ _, fun r hr => (by cases hr), fun b hb => .inl hb⟩
  | cons r rs ih =>
    obtain ⟨T1, k1, g1, h1, h1'⟩ := ih
    obtain ⟨k2, g2⟩ := k1.freeze1 r
    refine ⟨_, k2, g1.trans g2, fun q hq b hb => ?_, fun b hb => ?_⟩
    rotate_left
    · rcases h1' b hb with h2 | ⟨q, hq, hqb⟩
      · by_cases hr : rowBlk (h.freeze rs) ρ r b
        · obtain ⟨x, p, base, hx, hl, hp, hloc⟩ := hr
          exact .inr ⟨r, List.mem_cons_self, x, p, base, (freeze_live' hx hl).1, hl, hp, hloc⟩
        · exact .inl ⟨h2, hr⟩
      · exact .inr ⟨q, List.mem_cons_of_mem _ hq, hqb⟩
    rcases List.mem_cons.1 hq with rfl | hq
    · rintro ⟨t1, t2⟩
      obtain ⟨x, p, base, hx, hl, hp, hloc⟩ := hb
      cases hy : h.freeze rs q with
      | none => rw [freeze_none] at hy; rw [hx] at hy; cases hy
      | some y =>
        by_cases hyl : y.live = true
        · exact t2 ⟨y, p, base, hy, hyl, hp, hloc⟩
        · -- it was frozen before
          have hmem : q ∈ rs := by
            by_cases hm : q ∈ rs
            · exact hm
            · have : ∀ rs : List Nat, q ∉ rs → h.freeze rs q = h q := by
                intro rs
                induction rs with
                | nil => intro _; rfl
                | cons a rs ih =>
                  intro hm
                  simp only [Heap.freeze]
                  rw [if_neg (fun e => hm (by rw [e]; exact List.mem_cons_self))]
                  exact ih fun hh => hm (List.mem_cons_of_mem _ hh)
              rw [this rs hm, hx] at hy
              cases hy
              exact absurd hl hyl
          exact h1 q hmem b ⟨x, p, base, hx, hl, hp, hloc⟩ t1
    · exact fun ht => h1 q hq b hb ht.1
end
theorem getD_drop_take {α : Type} (es : List α) (o n j : Nat) (d : α) (hj : j < n) : ((es.drop o).take n).getD j d = es.getD (o + j) d := by
  simp only [List.getD_eq_getElem?_getD]
  rw [List.getElem?_take_of_lt hj, List.getElem?_drop]
theorem getD_map_lt {α β : Type} (f : α → β) (l : List α) (j : Nat) (d : β) (d' : α) (hj : j < l.length) : (l.map f).getD j d = f (l.getD j d') := by
  simp only [List.getD_eq_getElem?_getD, List.getElem?_map, List.getElem?_eq_getElem hj]
  rfl
section
variable {w : World} {T T' : Nat → Prop} {ρ : Rho} {h : Heap}
theorem Rv.less {av : AV} {v : Value} (k : Rv w T ρ av v) (hT : ∀ b, b < w.heap.size → T' b → T b) : Rv w T' ρ av v := k.mono (Same.refl _ _) hT fun _ _ h => h
theorem Rv.any {av : AV} {v : Value} (k : Rv w T Rho.none av v) : Rv w T ρ av v := k.mono (Same.refl _ _) (fun _ _ h => h) fun _ _ h => by cases h
theorem tell_win {b base z : Nat} {es : List (List AV)} {o n cap : Nat} (hT : ¬ T' b) (hb : b < w.heap.size) (hless : ∀ b, b < w.heap.size → T' b → T b) (hr : RowAt w b base z es (Rv w T Rho.none)) (hn : o + n ≤ es.length) (hc : n ≤ cap) (hm : cap ≤ maxLen) :
    Rv w T' Rho.none (.l z ((es.drop o).take n)) (.slice (some ⟨b, base + o * z, none⟩) n cap) := by
  have hl : ((es.drop o).take n).length = n := by rw [List.length_take, List.length_drop]; omega
  have key : ∀ j c, base + o * z + j * z + c = base + (o + j) * z + c := by intro j c; rw [Nat.add_mul]; omega
  have := Rv.l (w := w) (T := T') (ρ := Rho.none) (z := z) (es := (es.drop o).take n) (b := b) (base := base + o * z) (cap := cap) (fun j c => (w.cell? ⟨b, base + o * z + j * z + c, none⟩).getD undef) hT hb (by rw [hl]; exact hc) hm
    (fun j hj => by
      rw [hl] at hj
      rw [getD_drop_take _ _ _ _ _ hj]
      exact hr.len _ (by omega))
    (fun j c hj hc => by
      rw [hl] at hj
      obtain ⟨v, h1, h2, h3⟩ := hr.cell (o + j) c (by omega) hc
      rw [key, h1]
      exact ⟨rfl, h2⟩)
    (fun j c hj hc => by
      rw [hl] at hj
      obtain ⟨v, h1, h2, h3⟩ := hr.cell (o + j) c (by omega) hc
      rw [getD_drop_take _ _ _ _ _ hj, key, h1]
      exact h3.less hless)
  rw [hl] at this
  exact this
theorem tell0_none {av : AV} {v : Value} (k : Rv w T Rho.none av v) : Rv w T Rho.none (tell0 h av) v := by
  cases k with
  | ns => exact .lnil0
  | sl hr => cases hr
  | slz hr => cases hr
  | slnil hr => cases hr
  | p hr => cases hr
  | junk => exact .junk
  | b => exact .b
  | i => exact .i
  | s => exact .s
  | np => exact .np
  | lnil ha hm => exact .lnil ha hm
  | l g hT hb hc hm hz hcell hv => exact .l g hT hb hc hm hz hcell hv
  | tp g hT hb hcell hv => exact .tp g hT hb hcell hv
  | agg vs hl h1 hv => exact .agg vs hl h1 hv
  | tup vs hl hv => exact .tup vs hl hv
theorem tell0_rv (hrows : ∀ r x, h r = some x → RowOk w T ρ r x) (hless : ∀ b, b < w.heap.size → T' b → T b) {av : AV} {v : Value} (k : Rv w T ρ av v) (hr : ∀ r ∈ ref0 av, ∀ b, rowBlk h ρ r b → ¬ T' b) :
    (∀ r e o, av ≠ .p r e o) → (∀ cs, av ≠ .agg cs) → (∀ cs, av ≠ .tup cs) → Rv w T' Rho.none (tell0 h av) v := by
  intro n1 n2 n3
  cases k with
  | ns => exact .lnil0
  | p => exact absurd rfl (n1 _ _ _)
  | agg => exact absurd rfl (n2 _)
  | tup => exact absurd rfl (n3 _)
  | junk => exact .junk
  | b => exact .b
  | i => exact .i
  | s => exact .s
  | np => exact .np
  | lnil ha hm => exact .lnil ha hm
  | l g hT hb hc hm hz hcell hv => exact (Rv.l g hT hb hc hm hz hcell hv : Rv w T Rho.none _ _).less hless
  | tp g hT hb hcell hv => exact (Rv.tp g hT hb hcell hv : Rv w T Rho.none _ _).less hless
  | @sl _ r z o n m b base cap h1 hn hc hm hs =>
    simp only [tell0]
    cases hx : h r with
    | none => exact .junk
    | some x =>
      have ok := hrows r x hx
      cases x with
      | sl ap z' es =>
        rcases ok with ⟨_, _, h3⟩ | ⟨b', base', cur, e, h3, h4, h5, h6, h7, h8⟩
        · rw [h1] at h3; cases h3
        · rw [h1] at h3
          cases h3
          exact tell_win (hr r List.mem_cons_self b ⟨_, _, _, hx, rfl, h1, rfl⟩) (lt_of_cells h5) hless h8 hn hc hm
      | fsl z' es =>
        rcases ok with ⟨_, h3⟩ | ⟨b', base', h3, h4, h5, h6⟩
        · rw [h1] at h3; cases h3
        · rw [h1] at h3
          cases h3
          exact tell_win (fun ht => h4 (hless b h5 ht)) h5 hless h6 hn hc hm
      | st cs => exact .junk
      | fst cs => exact .junk
      | dead => exact .junk
  | @slz _ r z o m b base off h1 hn =>
    simp only [tell0]
    cases hx : h r with
    | none => exact .junk
    | some x =>
      have ok := hrows r x hx
      have mk : ∀ es : List (List AV), ¬ T' b → b < w.heap.size → Rv w T' Rho.none (.l z ((es.drop o).take 0)) (.slice (some ⟨b, off, none⟩) 0 0) := by
        intro es ht hb
        rw [List.take_zero]
        exact Rv.l (es := []) (fun _ _ => undef) ht hb (Nat.zero_le _) (Nat.zero_le _) (fun j hj => by cases hj) (fun j c hj => by cases hj) (fun j c hj => by cases hj)
      cases x with
      | sl ap z' es =>
        rcases ok with ⟨_, _, h3⟩ | ⟨b', base', cur, e, h3, h4, h5, h6, h7, h8⟩
        · rw [h1] at h3; cases h3
        · rw [h1] at h3
          cases h3
          exact mk es (hr r List.mem_cons_self b ⟨_, _, _, hx, rfl, h1, rfl⟩) (lt_of_cells h5)
      | fsl z' es =>
        rcases ok with ⟨_, h3⟩ | ⟨b', base', h3, h4, h5, h6⟩
        · rw [h1] at h3; cases h3
        · rw [h1] at h3
          cases h3
          exact mk es (fun ht => h4 (hless b h5 ht)) h5
      | st cs => exact .junk
      | fst cs => exact .junk
      | dead => exact .junk
  | @slnil _ r z h1 =>
    simp only [tell0]
    cases hx : h r with
    | none => exact .junk
    | some x =>
      cases x with
      | sl ap z' es => simp only [Option.bind_some, Row.win, List.drop_zero, List.take_zero]; exact .lnil0
      | fsl z' es => simp only [Option.bind_some, Row.win, List.drop_zero, List.take_zero]; exact .lnil0
      | st cs => exact .junk
      | fst cs => exact .junk
      | dead => exact .junk
end
end Go.Pe
set_option linter.unusedVariables false
set_option linter.unusedSimpArgs false
namespace Go.Pe
open Go
section
variable {w : World} {T T' : Nat → Prop} {ρ : Rho} {h : Heap}
theorem tell_cells {b base : Nat} {cs : List AV} {o : Nat} (hT : ¬ T' b) (hb : b < w.heap.size)
    (hc : ∀ c, c < cs.length → ∃ v, w.cell? ⟨b, base + c, none⟩ = some v ∧ v.oneCell' = true ∧ Rv w T' Rho.none (tell0 h (cs.getD c .junk)) v) :
    Rv w T' Rho.none (.tp (cs.map (tell0 h)) o) (.pointer (some ⟨b, base + o, none⟩)) := by
  refine Rv.tp (fun c => (w.cell? ⟨b, base + c, none⟩).getD undef) hT hb (fun c h1 => ?_) (fun c h1 => ?_)
  · rw [List.length_map] at h1
    obtain ⟨v, h2, h3, h4⟩ := hc c h1
    rw [h2]
    exact ⟨rfl, h3⟩
  · rw [List.length_map] at h1
    obtain ⟨v, h2, h3, h4⟩ := hc c h1
    rw [getD_map_lt (tell0 h) cs c .junk .junk h1, h2]
    exact h4
theorem tell0_cell (hrows : ∀ r x, h r = some x → RowOk w T ρ r x) (hless : ∀ b, b < w.heap.size → T' b → T b) {av : AV} {v : Value} (h1 : v.oneCell' = true) (k : Rv w T ρ av v) (hr : ∀ r ∈ ref0 av, ∀ b, rowBlk h ρ r b → ¬ T' b) : Rv w T' Rho.none (tell0 h av) v := by
  cases k with
  | p => exact .junk
  | agg vs hl => cases h1
  | tup vs hl => cases h1
  | junk => exact .junk
  | b => exact .b
  | i => exact .i
  | s => exact .s
  | np => exact .np
  | ns => exact .lnil0
  | lnil ha hm => exact .lnil ha hm
  | l g hT hb hc hm hz hcell hv => exact (Rv.l g hT hb hc hm hz hcell hv : Rv w T Rho.none _ _).less hless
  | tp g hT hb hcell hv => exact (Rv.tp g hT hb hcell hv : Rv w T Rho.none _ _).less hless
  | sl hr' hn hc hm hs => exact tell0_rv hrows hless (.sl hr' hn hc hm hs) hr (by intros; simp) (by intros; simp) (by intros; simp)
  | slz hr' hn => exact tell0_rv hrows hless (.slz hr' hn) hr (by intros; simp) (by intros; simp) (by intros; simp)
  | slnil hr' => exact tell0_rv hrows hless (.slnil hr') hr (by intros; simp) (by intros; simp) (by intros; simp)
theorem tellC_rv (hrows : ∀ r x, h r = some x → RowOk w T ρ r x) (hless : ∀ b, b < w.heap.size → T' b → T b) {av : AV} {v : Value} (k : Rv w T ρ av v) (hr : ∀ r ∈ refC h av, ∀ b, rowBlk h ρ r b → ¬ T' b) (n2 : ∀ cs, av ≠ .agg cs) (n3 : ∀ cs, av ≠ .tup cs) :
    Rv w T' Rho.none (tellC h av) v := by
  cases k with
  | @p _ r e o z m b base h1 =>
    simp only [tellC]
    cases hx : h r with
    | none => exact .junk
    | some x =>
      have ok := hrows r x hx
      have hblk : x.live = true → ¬ T' b := fun hl => hr r List.mem_cons_self b ⟨x, _, _, hx, hl, h1, rfl⟩
      have hsl : ∀ z' (es : List (List AV)) cs, es[e]? = some cs → z' = z → RowAt w b base z' es (Rv w T Rho.none) → ¬ T' b → b < w.heap.size → Rv w T' Rho.none (.tp (cs.map (tell0 h)) o) (.pointer (some ⟨b, base + e * z + o, none⟩)) := by
        intro z' es cs he hz hra ht hb
        subst hz
        have hlt : e < es.length := by
          rcases Nat.lt_or_ge e es.length with h2 | h2
          · exact h2
          · rw [List.getElem?_eq_none h2] at he; cases he
        have hcs : es.getD e [] = cs := by rw [List.getD_eq_getElem?_getD, he]; rfl
        refine tell_cells ht hb fun c hc => ?_
        have hlen := hra.len e hlt
        rw [hcs] at hlen
        obtain ⟨v, h2, h3, h4⟩ := hra.cell e c hlt (by omega)
        rw [hcs] at h4
        exact ⟨v, h2, h3, tell0_none (h4.less hless)⟩
      have hst : ∀ cs, e = 0 → RowAt w b base cs.length [cs] (Rv w T ρ) → (∀ r' ∈ cs.flatMap ref0, ∀ b, rowBlk h ρ r' b → ¬ T' b) → ¬ T' b → b < w.heap.size → Rv w T' Rho.none (.tp (cs.map (tell0 h)) o) (.pointer (some ⟨b, base + e * z + o, none⟩)) := by
        intro cs he hra hrr ht hb
        subst he
        rw [Nat.zero_mul, Nat.add_zero]
        refine tell_cells ht hb fun c hc => ?_
        obtain ⟨v, h2, h3, h4⟩ := hra.cell 0 c (by simp) hc
        rw [Nat.zero_mul, Nat.add_zero] at h2
        refine ⟨v, h2, h3, tell0_cell hrows hless h3 h4 fun r' hr' => hrr r' ?_⟩
        rw [List.mem_flatMap]
        refine ⟨_, ?_, hr'⟩
        show cs.getD c .junk ∈ cs
        rw [List.getD_eq_getElem?_getD, List.getElem?_eq_getElem hc]
        exact List.getElem_mem hc
      cases x with
      | sl ap z' es =>
        simp only [Option.bind_some, Row.at]
        cases he : es[e]? with
        | none => exact .junk
        | some cs =>
          rcases ok with ⟨h2, _, _⟩ | ⟨b', base', cur, e', h3, h4, h5, h6, h7, h8⟩
          · subst h2; cases he
          · rw [h1] at h3
            cases h3
            exact hsl z es cs he rfl h8 (hblk rfl) (lt_of_cells h5)
      | fsl z' es =>
        simp only [Option.bind_some, Row.at]
        cases he : es[e]? with
        | none => exact .junk
        | some cs =>
          rcases ok with ⟨h2, _⟩ | ⟨b', base', h3, h4, h5, h6⟩
          · subst h2; cases he
          · rw [h1] at h3
            cases h3
            exact hsl z es cs he rfl h6 (fun ht => h4 (hless b h5 ht)) h5
      | st cs =>
        simp only [Option.bind_some, Row.at]
        by_cases he : e = 0
        · rw [if_pos he]
          obtain ⟨b', base', cur, e', h3, h4, h5, h6, h7⟩ := ok
          rw [h1] at h3
          cases h3
          refine hst cs he h7 (fun r' hr' => hr r' ?_) (hblk rfl) (lt_of_cells h5)
          simp only [refC, hx, Option.bind_some, Row.at, if_pos he]
          exact List.mem_cons_of_mem _ hr'
        · rw [if_neg he]; exact .junk
      | fst cs =>
        simp only [Option.bind_some, Row.at]
        by_cases he : e = 0
        · rw [if_pos he]
          obtain ⟨b', base', h3, h4, h5, h6⟩ := ok
          rw [h1] at h3
          cases h3
          refine hst cs he h6 (fun r' hr' => hr r' ?_) (fun ht => h4 (hless b h5 ht)) h5
          simp only [refC, hx, Option.bind_some, Row.at, if_pos he]
          exact List.mem_cons_of_mem _ hr'
        · rw [if_neg he]; exact .junk
      | dead => exact .junk
  | agg => exact absurd rfl (n2 _)
  | tup => exact absurd rfl (n3 _)
  | junk => exact .junk
  | b => exact .b
  | i => exact .i
  | s => exact .s
  | np => exact .np
  | ns => exact .lnil0
  | lnil ha hm => exact .lnil ha hm
  | l g hT hb hc hm hz hcell hv => exact (Rv.l g hT hb hc hm hz hcell hv : Rv w T Rho.none _ _).less hless
  | tp g hT hb hcell hv => exact (Rv.tp g hT hb hcell hv : Rv w T Rho.none _ _).less hless
  | sl hr' hn hc hm hs => exact tell0_rv hrows hless (.sl hr' hn hc hm hs) hr (by intros; simp) (by intros; simp) (by intros; simp)
  | slz hr' hn => exact tell0_rv hrows hless (.slz hr' hn) hr (by intros; simp) (by intros; simp) (by intros; simp)
  | slnil hr' => exact tell0_rv hrows hless (.slnil hr') hr (by intros; simp) (by intros; simp) (by intros; simp)
theorem getD_mem {α : Type} {l : List α} {c : Nat} (d : α) (hc : c < l.length) : l.getD c d ∈ l := by
  rw [List.getD_eq_getElem?_getD, List.getElem?_eq_getElem hc]
  exact List.getElem_mem hc
theorem one_of_cell {av : AV} {v : Value} (k : Rv w T ρ av v) (h1 : v.oneCell' = true) : (∀ cs, av ≠ .agg cs) ∧ (∀ cs, av ≠ .tup cs) := by
  refine ⟨?_, ?_⟩ <;> (intro cs e; subst e; cases k; cases h1)
theorem tell1_rv (hrows : ∀ r x, h r = some x → RowOk w T ρ r x) (hless : ∀ b, b < w.heap.size → T' b → T b) {av : AV} {v : Value} (k : Rv w T ρ av v) (hr : ∀ r ∈ ref1 h av, ∀ b, rowBlk h ρ r b → ¬ T' b) :
    Rv w T' Rho.none (tell1 h av) v := by
  cases k with
  | @agg _ cs vs hl h1 hv =>
    simp only [tell1]
    refine .agg vs (by rw [List.length_map]; exact hl) (fun c hc => h1 c (by rwa [List.length_map] at hc)) fun c hc => ?_
    rw [List.length_map] at hc
    rw [getD_map_lt (tellC h) cs c .junk .junk hc]
    refine tellC_rv hrows hless (hv c hc) (fun r hr' => hr r ?_) (one_of_cell (hv c hc) (h1 c hc)).1 (one_of_cell (hv c hc) (h1 c hc)).2
    exact List.mem_flatMap.2 ⟨_, getD_mem _ hc, hr'⟩
  | tup => exact .junk
  | junk => exact .junk
  | b => exact .b
  | i => exact .i
  | s => exact .s
  | np => exact .np
  | ns => exact .lnil0
  | lnil ha hm => exact .lnil ha hm
  | l g hT hb hc hm hz hcell hv => exact (Rv.l g hT hb hc hm hz hcell hv : Rv w T Rho.none _ _).less hless
  | tp g hT hb hcell hv => exact (Rv.tp g hT hb hcell hv : Rv w T Rho.none _ _).less hless
  | sl hr' hn hc hm hs => exact tellC_rv hrows hless (.sl hr' hn hc hm hs) hr (by intros; simp) (by intros; simp)
  | slz hr' hn => exact tellC_rv hrows hless (.slz hr' hn) hr (by intros; simp) (by intros; simp)
  | slnil hr' => exact tellC_rv hrows hless (.slnil hr') hr (by intros; simp) (by intros; simp)
  | p hr' => exact tellC_rv hrows hless (.p hr') hr (by intros; simp) (by intros; simp)
theorem tell_rv (hrows : ∀ r x, h r = some x → RowOk w T ρ r x) (hless : ∀ b, b < w.heap.size → T' b → T b) {av : AV} {v : Value} (k : Rv w T ρ av v) (hr : ∀ r ∈ ref h av, ∀ b, rowBlk h ρ r b → ¬ T' b) :
    Rv w T' Rho.none (tell h av) v := by
  cases k with
  | @tup _ cs vs hl hv =>
    simp only [tell]
    refine .tup vs (by rw [List.length_map]; exact hl) fun c hc => ?_
    rw [List.length_map] at hc
    rw [getD_map_lt (tell1 h) cs c .junk .junk hc]
    exact tell1_rv hrows hless (hv c hc) fun r hr' => hr r (List.mem_flatMap.2 ⟨_, getD_mem _ hc, hr'⟩)
  | agg vs hl h1 hv => exact tell1_rv hrows hless (.agg vs hl h1 hv) hr
  | junk => exact .junk
  | b => exact .b
  | i => exact .i
  | s => exact .s
  | np => exact .np
  | ns => exact .lnil0
  | lnil ha hm => exact .lnil ha hm
  | l g hT hb hc hm hz hcell hv => exact (Rv.l g hT hb hc hm hz hcell hv : Rv w T Rho.none _ _).less hless
  | tp g hT hb hcell hv => exact (Rv.tp g hT hb hcell hv : Rv w T Rho.none _ _).less hless
  | sl hr' hn hc hm hs => exact tell1_rv hrows hless (.sl hr' hn hc hm hs) hr
  | slz hr' hn => exact tell1_rv hrows hless (.slz hr' hn) hr
  | slnil hr' => exact tell1_rv hrows hless (.slnil hr') hr
  | p hr' => exact tell1_rv hrows hless (.p hr') hr
end
end Go.Pe
set_option linter.unusedVariables false
set_option linter.unusedSimpArgs false
namespace Go.Pe
open Go
def mv1 : Value → AV → Bool
  | .bool a, .b b => a == b
  | .int k n, .i k' n' => k == k' && n == n'
  | .string s, .s s' => decide (s = s')
  | .slice none 0 0, .ns _ => true
  | .pointer none, .np => true
  | _, _ => false
def mvs : List Value → List AV → Bool
  | [], [] => true
  | v :: vs, c :: cs => mv1 v c && mvs vs cs
  | _, _ => false
def mv : Value → AV → Bool
  | .agg vs, .agg cs => mvs vs.toList cs
  | v, c => mv1 v c
section
variable {w : World} {T : Nat → Prop} {ρ : Rho}
theorem mv1_rv {v : Value} {c : AV} (h : mv1 v c = true) : Rv w T ρ c v ∧ v.oneCell' = true := by
  unfold mv1 at h
  split at h
  · rw [beq_iff_eq] at h; subst h; exact ⟨.b, rfl⟩
  · simp only [Bool.and_eq_true, beq_iff_eq] at h; obtain ⟨rfl, rfl⟩ := h; exact ⟨.i, rfl⟩
  · simp only [decide_eq_true_eq] at h; subst h; exact ⟨.s, rfl⟩
  · exact ⟨.ns, rfl⟩
  · exact ⟨.np, rfl⟩
  · cases h
theorem mvs_rv : ∀ {vs : List Value} {cs : List AV}, mvs vs cs = true → vs.length = cs.length ∧ ∀ c, c < cs.length → Rv w T ρ (cs.getD c .junk) (vs.getD c undef) ∧ (vs.getD c undef).oneCell' = true
  | [], [], _ => ⟨rfl, fun c hc => by cases hc⟩
  | v :: vs, c :: cs, h => by
    simp only [mvs, Bool.and_eq_true] at h
    obtain ⟨h1, h2⟩ := mvs_rv h.2
    refine ⟨by simp [h1], fun i hi => ?_⟩
    cases i with
    | zero => exact mv1_rv h.1
    | succ i => exact h2 i (by simpa using hi)
  | [], _ :: _, h => by simp [mvs] at h
  | _ :: _, [], h => by simp [mvs] at h
theorem toList_getD (vs : Array Value) (c : Nat) : vs.getD c undef = vs.toList.getD c undef := by simp [List.getD_eq_getElem?_getD]
theorem mv_rv {v : Value} {c : AV} (h : mv v c = true) : Rv w T ρ c v := by
  unfold mv at h
  split at h
  · rename_i vs cs
    obtain ⟨h1, h2⟩ := mvs_rv (w := w) (T := T) (ρ := ρ) h
    refine .agg vs (by rw [← h1]; simp) (fun c hc => ?_) fun c hc => ?_
    · rw [toList_getD]; exact (h2 c hc).2
    · rw [toList_getD]; exact (h2 c hc).1
  · exact (mv1_rv h).1
end
def ma (tabs : List (Nat × List AV)) : Operand → At → Bool
  | .tmp t, .t s => t == s
  | .const v, .c a => mv v a
  | .global g, .c (.tp cs 0) => tabs.any fun p => p.1 == g && p.2.length == cs.length && mtab p.2 cs
  | _, _ => false
where
  mtab : List AV → List AV → Bool
  | [], [] => true
  | .i k n :: xs, .i k' n' :: ys => k == k' && n == n' && mtab xs ys
  | _, _ => false
theorem mtab_eq : ∀ {xs ys : List AV}, ma.mtab xs ys = true → xs = ys
  | [], [], _ => rfl
  | x :: xs, y :: ys, h => by
    unfold ma.mtab at h
    split at h
    · rename_i h1 h2; cases h1
    · rename_i k n xs' k' n' ys' h1 h2
      cases h1; cases h2
      simp only [Bool.and_eq_true, beq_iff_eq] at h
      obtain ⟨⟨rfl, rfl⟩, h3⟩ := h
      rw [mtab_eq h3]
    · cases h
  | [], _ :: _, h => by simp [ma.mtab] at h
  | _ :: _, [], h => by simp [ma.mtab] at h
def Env (w : World) (T : Nat → Prop) (ρ : Rho) (e : Nat → AV) (a : Act) : Prop := ∀ t, Rv w T ρ (e t) (a.tmps.getD t undef)
theorem Env.goes {w w' : World} {T T' : Nat → Prop} {ρ ρ' : Rho} {e : Nat → AV} {a : Act} (h : Env w T ρ e a) (g : Goes w w' T T' ρ ρ') : Env w' T' ρ' e a := fun t => g.rv (h t)
theorem ma_rv {f : Fr} {w : World} {T : Nat → Prop} {ρ : Rho} {h : Heap} (k : WInv f w T ρ h) {e : Nat → AV} {a : Act} (he : Env w T ρ e a) {x : Operand} {y : At} (hm : ma f.tabs x y = true) : Rv w T ρ (y.ev e) (a.eval x) := by
  unfold ma at hm
  split at hm
  · rw [beq_iff_eq] at hm; subst hm; exact he _
  · exact mv_rv hm
  · rename_i g cs
    rw [List.any_eq_true] at hm
    obtain ⟨p, hp, hq⟩ := hm
    simp only [Bool.and_eq_true, beq_iff_eq] at hq
    obtain ⟨⟨rfl, _⟩, h2⟩ := hq
    rw [← mtab_eq h2]
    exact (k.tab p hp).any
  · cases hm
def szT (P : Program) (t : TypeId) : Option Nat := (P.info? t).map (·.size)
section
variable {P : Program} {w : World}
theorem run_typeInfo {t : TypeId} {i : TypeInfo} (h : P.info? t = some i) : (typeInfo t).run P w = .ok i w := by simp [typeInfo, h]
theorem run_sizeOf' {t : TypeId} {n : Nat} (h : szT P t = some n) : (sizeOf t).run P w = .ok n w := by
  unfold szT at h
  cases hi : P.info? t with
  | none => rw [hi] at h; cases h
  | some i => rw [hi] at h; cases h; simp [sizeOf, run_typeInfo hi]
theorem run_zeroValue {t : TypeId} {i : TypeInfo} {z : Value} (h : P.info? t = some i) (hz : i.zero = some z) : (zeroValue t).run P w = .ok z w := by simp [zeroValue, run_typeInfo h, hz]
end
def Gives (P : Program) (o : Oper) (a : Act) (w : World) (v : Value) : Prop := (execOp a.eval o).run P w = .ok (.value v) w
section
variable {P : Program} {f : Fr} {w : World} {T : Nat → Prop} {ρ : Rho} {h : Heap} {e : Nat → AV} {a : Act} {o : Oper}
theorem op_move (k : WInv f w T ρ h) (he : Env w T ρ e a) {x : Operand} {y : At} (ho : o.op = .move x ∨ o.op = .assign x) (hm : ma f.tabs x y = true) : ∃ v, Gives P o a w v ∧ Rv w T ρ (y.ev e) v := by
  refine ⟨a.eval x, ?_, ma_rv k he hm⟩
  rcases ho with ho | ho <;> simp [Gives, execOp, ho]
theorem inv_b {q : Bool} {v : Value} (k : Rv w T ρ (.b q) v) : v = .bool q := by cases k; rfl
theorem inv_i {q : IntKind} {n : Int} {v : Value} (k : Rv w T ρ (.i q n) v) : v = .int q n := by cases k; rfl
theorem inv_s {s : ByteArray} {v : Value} (k : Rv w T ρ (.s s) v) : v = .string s := by cases k; rfl
theorem op_pick (k : WInv f w T ρ h) (he : Env w T ρ e a) {x y z : Operand} {x' y' z' : At} {av : AV} {h' : Heap} (call : Call) (ho : o.op = .pick x y z) (h1 : ma f.tabs x x' = true) (h2 : ma f.tabs y y' = true) (h3 : ma f.tabs z z' = true)
    (hv : PO.ev call (.pick x' y' z') e h = some (av, h')) : h' = h ∧ ∃ v, Gives P o a w v ∧ Rv w T ρ av v := by
  have r1 := ma_rv k he h1
  have r2 := ma_rv k he h2
  have r3 := ma_rv k he h3
  simp only [PO.ev] at hv
  split at hv
  · rename_i q hq
    rw [hq] at r1
    cases hv
    refine ⟨rfl, (if q then a.eval y else a.eval z), ?_, ?_⟩
    · simp only [Gives, execOp, ho, inv_b r1, asBool]
      cases q <;> simp
    · cases q
      · exact r3
      · exact r2
  · cases hv
theorem op_not (k : WInv f w T ρ h) (he : Env w T ρ e a) {x : Operand} {x' : At} {t : TypeId} {av : AV} {h' : Heap} (call : Call) (ho : o.op = .unOp .not t x) (h1 : ma f.tabs x x' = true)
    (hv : PO.ev call (.not x') e h = some (av, h')) : h' = h ∧ ∃ v, Gives P o a w v ∧ Rv w T ρ av v := by
  have r1 := ma_rv k he h1
  simp only [PO.ev] at hv
  split at hv
  · rename_i q hq
    rw [hq] at r1
    cases hv
    exact ⟨rfl, .bool (!q), by simp [Gives, execOp, ho, inv_b r1, Op.unary], .b⟩
  · cases hv
theorem op_neg (k : WInv f w T ρ h) (he : Env w T ρ e a) {x : Operand} {x' : At} {t : TypeId} {av : AV} {h' : Heap} (call : Call) (ho : o.op = .unOp .neg t x) (h1 : ma f.tabs x x' = true)
    (hv : PO.ev call (.neg x') e h = some (av, h')) : h' = h ∧ ∃ v, Gives P o a w v ∧ Rv w T ρ av v := by
  have r1 := ma_rv k he h1
  simp only [PO.ev] at hv
  split at hv
  · rename_i q n hq
    rw [hq] at r1
    cases hv
    exact ⟨rfl, .int q (q.wrap (0 - n)), by simp [Gives, execOp, ho, inv_i r1, Op.unary, Op.intArith], .i⟩
  · cases hv
theorem op_conv (k : WInv f w T ρ h) (he : Env w T ρ e a) {x : Operand} {x' : At} {s d : TypeId} {q q' : IntKind} {av : AV} {h' : Heap} (call : Call) (ho : o.op = .convert s d x) (hs : P.underlying s = some (.int q')) (hd : P.underlying d = some (.int q)) (h1 : ma f.tabs x x' = true)
    (hv : PO.ev call (.conv q x') e h = some (av, h')) : h' = h ∧ ∃ v, Gives P o a w v ∧ Rv w T ρ av v := by
  have r1 := ma_rv k he h1
  simp only [PO.ev] at hv
  split at hv
  · rename_i q'' n hq
    rw [hq] at r1
    cases hv
    exact ⟨rfl, .int q (q.wrap n), by simp [Gives, execOp, ho, inv_i r1, convert, run_underlying hs, run_underlying hd, Conv.intToInt], .i⟩
  · cases hv
theorem eqG (op : BinOp) (t : TypeId) (x y : Operand) (q : IntKind) (n : Int) (v : Value) : eqGuard op t x y (.int q n) v = pure () := by cases op <;> rfl
theorem bits_def (op : BinOp) (k : IntKind) (x y : Int) (h : op = .and ∨ op = .or ∨ op = .xor) : (Op.intBits op k x y).run P w = .ok (.int k (Go.bits op k x y)) w := by
  rcases h with rfl | rfl | rfl <;> simp [Op.intBits, Go.bits]
theorem run_binI {op : BinOp} {q : IntKind} {x y : Int} {t : TypeId} {av : AV} (hv : binI op q x y = some av) (hop : op ≠ .shl ∧ op ≠ .shr) : ∃ v, (binOp op t (.int q x) (.int q y)).run P w = .ok v w ∧ Rv w T ρ av v := by
  cases op <;> simp only [binI] at hv <;> try (cases hv)
  case add => exact ⟨_, by simp [binOp, Op.intArith], .i⟩
  case sub => exact ⟨_, by simp [binOp, Op.intArith], .i⟩
  case mul => exact ⟨_, by simp [binOp, Op.intArith], .i⟩
  case quo =>
    split at hv
    · cases hv
    · rename_i hy
      cases hv
      exact ⟨_, by simp [binOp, Op.intDiv, hy], .i⟩
  case rem =>
    split at hv
    · cases hv
    · rename_i hy
      cases hv
      exact ⟨_, by simp [binOp, Op.intDiv, hy], .i⟩
  case and => exact ⟨_, by simp only [binOp, if_false, ne_eq, not_true_eq_false]; exact bits_def _ _ _ _ (by simp), .i⟩
  case or => exact ⟨_, by simp only [binOp, if_false, ne_eq, not_true_eq_false]; exact bits_def _ _ _ _ (by simp), .i⟩
  case xor => exact ⟨_, by simp only [binOp, if_false, ne_eq, not_true_eq_false]; exact bits_def _ _ _ _ (by simp), .i⟩
  case eql => exact ⟨.bool (decide (x = y)), by simp [binOp, Op.intCmp]; rfl, .b⟩
  case neq => exact ⟨.bool (!decide (x = y)), by simp [binOp, Op.intCmp, bne]; rfl, .b⟩
  case lss => exact ⟨_, by simp [binOp, Op.intCmp], .b⟩
  case leq => exact ⟨_, by simp [binOp, Op.intCmp], .b⟩
  case gtr => exact ⟨_, by simp [binOp, Op.intCmp], .b⟩
  case geq => exact ⟨_, by simp [binOp, Op.intCmp], .b⟩
theorem run_shI {op : BinOp} {q q' : IntKind} {x y : Int} {t : TypeId} {av : AV} (hv : shI op q x y = some av) (hop : op = .shl ∨ op = .shr) : ∃ v, (binOp op t (.int q x) (.int q' y)).run P w = .ok v w ∧ Rv w T ρ av v := by
  unfold shI at hv
  split at hv
  · cases hv
  · rename_i hy
    rcases hop with rfl | rfl
    · cases hv
      exact ⟨_, by simp [binOp, Op.shift, hy], .i⟩
    · cases hv
      exact ⟨_, by simp [binOp, Op.shift, hy], .i⟩
theorem beqL (x y : List UInt8) : (x == y) = decide (x = y) := by by_cases h : x = y <;> simp [h]
theorem op_bin (k : WInv f w T ρ h) (he : Env w T ρ e a) {op : BinOp} {x y : Operand} {x' y' : At} {t t' : TypeId} {av : AV} {h' : Heap} (call : Call) (ho : o.op = .binOp op t x y t') (h1 : ma f.tabs x x' = true) (h2 : ma f.tabs y y' = true)
    (hv : PO.ev call (.bin op x' y') e h = some (av, h')) : h' = h ∧ ∃ v, Gives P o a w v ∧ Rv w T ρ av v := by
  have r1 := ma_rv k he h1
  have r2 := ma_rv k he h2
  simp only [PO.ev, Option.map_eq_some_iff] at hv
  obtain ⟨c, hc, hcv⟩ := hv
  cases hcv
  refine ⟨rfl, ?_⟩
  have fin : ∀ v u1 u2, a.eval x = u1 → a.eval y = u2 → (eqGuard op t x y u1 u2 = pure ()) → (binOp op t u1 u2).run P w = .ok v w → Gives P o a w v := by
    intro v u1 u2 e1 e2 hg hr
    simp only [Gives, execOp, ho, e1, e2, hg, Sem.run_bind, Sem.run_pure, Result.andThen_ok, hr]
  unfold binV at hc
  split at hc
  · rename_i q n q' m hx hy
    rw [hx] at r1
    rw [hy] at r2
    have e1 := inv_i r1
    have e2 := inv_i r2
    split at hc
    · obtain ⟨v, h3, h4⟩ := run_shI (P := P) (w := w) (T := T) (ρ := ρ) (q' := q') (t := t) hc (by simp)
      exact ⟨v, fin _ _ _ e1 e2 rfl h3, h4⟩
    · obtain ⟨v, h3, h4⟩ := run_shI (P := P) (w := w) (T := T) (ρ := ρ) (q' := q') (t := t) hc (by simp)
      exact ⟨v, fin _ _ _ e1 e2 rfl h3, h4⟩
    · rename_i n1 n2
      split at hc
      · rename_i hqq
        subst hqq
        obtain ⟨v, h3, h4⟩ := run_binI (P := P) (w := w) (T := T) (ρ := ρ) (t := t) hc ⟨fun e => n1 e, fun e => n2 e⟩
        exact ⟨v, fin _ _ _ e1 e2 (eqG ..) h3, h4⟩
      · cases hc
  · rename_i p q hx hy
    rw [hx] at r1
    rw [hy] at r2
    have e1 := inv_s r1
    have e2 := inv_s r2
    split at hc
    · cases hc
      exact ⟨_, fin _ _ _ e1 e2 rfl (by simp [binOp, Op.stringOp, beqL]), .b⟩
    · cases hc
      exact ⟨_, fin _ _ _ e1 e2 rfl (by simp [binOp, Op.stringOp, beqL]), .b⟩
    · split at hc
      · rename_i hsz
        cases hc
        exact ⟨_, fin _ _ _ e1 e2 rfl (by simp only [binOp, Op.stringOp]; rw [if_neg (by rw [IntKind.max_i64]; omega)]; rfl), .s⟩
      · cases hc
    · cases hc
  · cases hc
theorem op_eqb (k : WInv f w T ρ h) (he : Env w T ρ e a) {neg : Bool} {x y : Operand} {x' y' : At} {t t' : TypeId} {av : AV} {h' : Heap} (call : Call) (ho : o.op = .binOp (if neg then .neq else .eql) t x y t') (ht : P.underlying t = some .bool) (h1 : ma f.tabs x x' = true) (h2 : ma f.tabs y y' = true)
    (hv : PO.ev call (.eqb neg x' y') e h = some (av, h')) : h' = h ∧ ∃ v, Gives P o a w v ∧ Rv w T ρ av v := by
  have r1 := ma_rv k he h1
  have r2 := ma_rv k he h2
  simp only [PO.ev, Option.map_eq_some_iff] at hv
  obtain ⟨c, hc, hcv⟩ := hv
  cases hcv
  refine ⟨rfl, ?_⟩
  unfold eqbV at hc
  split at hc
  · rename_i p q hx hy
    rw [hx] at r1
    rw [hy] at r2
    cases hc
    cases neg
    · exact ⟨.bool (p == q), by simp only [Gives, execOp, ho, inv_b r1, inv_b r2, Bool.false_eq_true, if_false]; simp [eqGuard, run_eql_bool w t p q ht], .b⟩
    · exact ⟨.bool (!(p == q)), by simp only [Gives, execOp, ho, inv_b r1, inv_b r2, if_true]; simp [eqGuard, binOp, run_equal_bool w t p q ht], .b⟩
  · cases hc
end
end Go.Pe
set_option linter.unusedVariables false
set_option linter.unusedSimpArgs false
namespace Go.Pe
open Go
def aggT (P : Program) (t : TypeId) : Option Bool := (P.underlying t).map fun d => match d with
  | .struct _ | .array _ _ => true
  | _ => false
section
variable {P : Program} {f : Fr} {w : World} {T : Nat → Prop} {ρ : Rho} {h : Heap} {e : Nat → AV} {a : Act} {o : Oper}
theorem ptr_cells (k : WInv f w T ρ h) {x : AV} {v : Value} (r : Rv w T ρ x v) {cs : List AV} {c : Nat} (hp : ptrAt h x = some (cs, c)) :
    ∃ b base, v = .pointer (some ⟨b, base + c, none⟩) ∧ ∀ i, i < cs.length → ∃ u, w.cell? ⟨b, base + i, none⟩ = some u ∧ u.oneCell' = true ∧ Rv w T ρ (cs.getD i .junk) u := by
  cases r with
  | @tp _ cs' o' b base g hT hb hcell hv =>
    simp only [ptrAt, Option.some.injEq, Prod.mk.injEq] at hp
    obtain ⟨rfl, rfl⟩ := hp
    exact ⟨b, base, rfl, fun i hi => ⟨g i, (hcell i hi).1, (hcell i hi).2, (hv i hi).any⟩⟩
  | @p _ r e' o' z m b base h1 =>
    simp only [ptrAt, Option.map_eq_some_iff, Option.bind_eq_some_iff] at hp
    obtain ⟨cs', ⟨row, hrow, hat⟩, hq⟩ := hp
    cases hq
    have ok := k.rows r row hrow
    have hsl : ∀ (es : List (List AV)), es[e']? = some cs → RowAt w b base z es (Rv w T Rho.none) → ∀ i, i < cs.length → ∃ u, w.cell? ⟨b, base + e' * z + i, none⟩ = some u ∧ u.oneCell' = true ∧ Rv w T ρ (cs.getD i .junk) u := by
      intro es he hra i hi
      have hlt : e' < es.length := by
        rcases Nat.lt_or_ge e' es.length with h2 | h2
        · exact h2
        · rw [List.getElem?_eq_none h2] at he; cases he
      have hcs : es.getD e' [] = cs := by rw [List.getD_eq_getElem?_getD, he]; rfl
      have hlen := hra.len e' hlt
      rw [hcs] at hlen
      obtain ⟨u, h2, h3, h4⟩ := hra.cell e' i hlt (by omega)
      rw [hcs] at h4
      exact ⟨u, h2, h3, h4.any⟩
    have hst : ∀ cs, e' = 0 → RowAt w b base cs.length [cs] (Rv w T ρ) → ∀ i, i < cs.length → ∃ u, w.cell? ⟨b, base + e' * z + i, none⟩ = some u ∧ u.oneCell' = true ∧ Rv w T ρ (cs.getD i .junk) u := by
      intro cs he hra i hi
      subst he
      obtain ⟨u, h2, h3, h4⟩ := hra.cell 0 i (by simp) hi
      refine ⟨u, ?_, h3, h4⟩
      rw [Nat.zero_mul, Nat.add_zero] at h2 ⊢
      exact h2
    refine ⟨b, base + e' * z, rfl, ?_⟩
    cases row with
    | sl ap z' es =>
      rcases ok with ⟨h2, _, _⟩ | ⟨b', base', cur, e'', h3, h4, h5, h6, h7, h8⟩
      · subst h2; cases hat
      · rw [h1] at h3
        cases h3
        exact hsl es hat h8
    | fsl z' es =>
      rcases ok with ⟨h2, _⟩ | ⟨b', base', h3, h4, h5, h6⟩
      · subst h2; cases hat
      · rw [h1] at h3
        cases h3
        exact hsl es hat h6
    | st cs' =>
      obtain ⟨b', base', cur, e'', h3, h4, h5, h6, h7⟩ := ok
      rw [h1] at h3
      cases h3
      simp only [Row.at] at hat
      split at hat
      · rename_i he
        cases hat
        exact hst cs he h7
      · cases hat
    | fst cs' =>
      obtain ⟨b', base', h3, h4, h5, h6⟩ := ok
      rw [h1] at h3
      cases h3
      simp only [Row.at] at hat
      split at hat
      · rename_i he
        cases hat
        exact hst cs he h6
      · cases hat
    | dead => cases hat
  | _ => simp [ptrAt] at hp
theorem ldC_agg {sz c : Nat} {cs : List AV} {av : AV} (h : ldC true sz c cs = some av) : av = .agg ((cs.drop c).take sz) ∧ c + sz ≤ cs.length := by
  unfold ldC at h
  simp only [if_true] at h
  split at h
  · rename_i h1
    cases h
    obtain ⟨rfl, rfl⟩ := h1
    simp
  · split at h
    · rename_i h1
      cases h
      exact ⟨rfl, h1⟩
    · cases h
theorem load_var {t : TypeId} {sz b base c : Nat} {ag : Bool} {cs : List AV} {av : AV} (hag : aggT P t = some ag) (hsz : szT P t = some sz)
    (hc : ∀ i, i < cs.length → ∃ u, w.cell? ⟨b, base + i, none⟩ = some u ∧ u.oneCell' = true ∧ Rv w T ρ (cs.getD i .junk) u) (hv : ldC ag sz c cs = some av) :
    ∃ v, (loadVar t ⟨b, base + c, none⟩).run P w = .ok v w ∧ Rv w T ρ av v ∧ (ag = false → v.oneCell' = true) := by
  unfold aggT at hag
  cases hu : P.underlying t with
  | none => rw [hu] at hag; cases hag
  | some d =>
    rw [hu] at hag
    cases ag with
    | true =>
      obtain ⟨rfl, hle⟩ := ldC_agg hv
      have hd : d.isRow = true := by cases d <;> simp_all [TypeDesc.isRow]
      have hr : w.rangeAt b (base + c) ((List.range sz).map fun i => (w.cell? ⟨b, base + c + i, none⟩).getD undef) := by
        intro j v hj
        rw [List.getElem?_map] at hj
        rcases Nat.lt_or_ge j sz with h1 | h1
        · obtain ⟨u, h2, h3, h4⟩ := hc (c + j) (by omega)
          rw [List.getElem?_range h1] at hj
          simp only [Option.map_some, Option.some.injEq] at hj
          rw [← Nat.add_assoc] at h2
          rw [h2] at hj
          rw [h2, ← hj]
          rfl
        · rw [List.getElem?_eq_none (by simpa using h1)] at hj
          cases hj
      refine ⟨_, run_loadVar_mid w b (base + c) t _ d hr hu hd (by rw [List.length_map, List.length_range]; exact hsz), ?_, fun h => by cases h⟩
      have hl : ((cs.drop c).take sz).length = sz := by rw [List.length_take, List.length_drop]; omega
      refine .agg _ (by rw [hl]; simp) (fun i hi => ?_) fun i hi => ?_
      all_goals
        rw [hl] at hi
        obtain ⟨u, h2, h3, h4⟩ := hc (c + i) (by omega)
        rw [← Nat.add_assoc] at h2
        have e1 : (((List.range sz).map fun i => (w.cell? ⟨b, base + c + i, none⟩).getD undef).toArray).getD i undef = u := by
          simp [List.getElem?_range hi, h2]
        rw [e1]
      · exact h3
      · rw [show ((cs.drop c).take sz).getD i .junk = cs.getD (c + i) .junk by
          simp only [List.getD_eq_getElem?_getD]
          rw [List.getElem?_take_of_lt hi, List.getElem?_drop]]
        exact h4
    | false =>
      have hd : (isAgg t).run P w = .ok false w := by
        unfold isAgg
        rw [Sem.run_bind, run_underlying hu w]
        cases d <;> simp_all
      simp only [ldC, Bool.false_eq_true, if_false] at hv
      have hlt : c < cs.length := by
        rcases Nat.lt_or_ge c cs.length with h2 | h2
        · exact h2
        · rw [List.getElem?_eq_none h2] at hv; cases hv
      obtain ⟨u, h2, h3, h4⟩ := hc c hlt
      have : cs.getD c .junk = av := by rw [List.getD_eq_getElem?_getD, hv]; rfl
      rw [this] at h4
      exact ⟨u, by simp [loadVar, hd, h2], h4, fun _ => h3⟩
theorem op_ld (k : WInv f w T ρ h) (he : Env w T ρ e a) {x : Operand} {x' : At} {t : TypeId} {ag : Bool} {sz : Nat} {av : AV} {h' : Heap} (call : Call) (ho : o.op = .load t x) (hag : aggT P t = some ag) (hsz : szT P t = some sz) (h1 : ma f.tabs x x' = true)
    (hv : PO.ev call (.ld ag sz x') e h = some (av, h')) : h' = h ∧ ∃ v, Gives P o a w v ∧ Rv w T ρ av v := by
  have r1 := ma_rv k he h1
  simp only [PO.ev, ldV, Option.map_eq_some_iff, Option.bind_eq_some_iff] at hv
  obtain ⟨c, ⟨⟨cs, i⟩, hp, hc⟩, hcv⟩ := hv
  cases hcv
  obtain ⟨b, base, hx, hcell⟩ := ptr_cells k r1 hp
  obtain ⟨v, h2, h3, _⟩ := load_var hag hsz hcell hc
  exact ⟨rfl, v, by simp [Gives, execOp, ho, hx, Instr.loadAt, Instr.sureAddr, h2], h3⟩
theorem inv_p {r q c : Nat} {v : Value} (k : Rv w T ρ (.p r q c) v) : ∃ p, v = .pointer (some p) := by cases k; exact ⟨_, rfl⟩
theorem inv_tp {cs : List AV} {c : Nat} {v : Value} (k : Rv w T ρ (.tp cs c) v) : ∃ p, v = .pointer (some p) := by cases k; exact ⟨_, rfl⟩
theorem op_nck (k : WInv f w T ρ h) (he : Env w T ρ e a) {x : Operand} {x' : At} {av : AV} {h' : Heap} (call : Call) (ho : o.op = .nilCheck x) (h1 : ma f.tabs x x' = true)
    (hv : PO.ev call (.nck x') e h = some (av, h')) : h' = h ∧ ∃ v, Gives P o a w v ∧ Rv w T ρ av v := by
  have r1 := ma_rv k he h1
  simp only [PO.ev] at hv
  split at hv
  · rename_i r q c hq
    cases hv
    rw [hq] at r1
    obtain ⟨p, hp⟩ := inv_p r1
    exact ⟨rfl, a.eval x, by simp [Gives, execOp, ho, hp], r1⟩
  · rename_i cs c hq
    cases hv
    rw [hq] at r1
    obtain ⟨p, hp⟩ := inv_tp r1
    exact ⟨rfl, a.eval x, by simp [Gives, execOp, ho, hp], r1⟩
  · cases hv
theorem fld_p {r q c d : Nat} {v : Value} (k : Rv w T ρ (.p r q c) v) : ∃ b i, v = .pointer (some ⟨b, i, none⟩) ∧ Rv w T ρ (.p r q (c + d)) (.pointer (some ⟨b, i + d, none⟩)) := by
  cases k with
  | p h1 => exact ⟨_, _, rfl, by rw [Nat.add_assoc]; exact .p h1⟩
theorem fld_tp {cs : List AV} {c d : Nat} {v : Value} (k : Rv w T ρ (.tp cs c) v) : ∃ b i, v = .pointer (some ⟨b, i, none⟩) ∧ Rv w T ρ (.tp cs (c + d)) (.pointer (some ⟨b, i + d, none⟩)) := by
  cases k with
  | tp g hT hb hcell hv => exact ⟨_, _, rfl, by rw [Nat.add_assoc]; exact .tp g hT hb hcell hv⟩
theorem op_fld (k : WInv f w T ρ h) (he : Env w T ρ e a) {x : Operand} {x' : At} {t : TypeId} {i d n : Nat} {fs : Array Field} {fl : Field} {av : AV} {h' : Heap} (call : Call) (ho : o.op = .fieldAddr t x i) (hu : P.underlying t = some (.struct fs)) (hf : fs[i]? = some fl) (hd : fl.offset = d) (hn : szT P fl.type = some (n + 1)) (h1 : ma f.tabs x x' = true)
    (hv : PO.ev call (.fld d x') e h = some (av, h')) : h' = h ∧ ∃ v, Gives P o a w v ∧ Rv w T ρ av v := by
  have r1 := ma_rv k he h1
  have fin : ∀ b j, a.eval x = .pointer (some ⟨b, j, none⟩) → Gives P o a w (.pointer (some ⟨b, j + d, none⟩)) := by
    intro b j hx
    simp only [Gives, execOp, ho, hx, Instr.fieldAt, Sem.run_bind, run_underlying hu w, Result.andThen_ok, hf, Instr.sureAddr, Sem.run_pure, fieldPlace, run_sizeOf' hn, Nat.add_one_ne_zero, if_false, add_at, hd]
  simp only [PO.ev] at hv
  split at hv
  · rename_i r q c hq
    cases hv
    rw [hq] at r1
    obtain ⟨b, j, hx, h2⟩ := fld_p (d := d) r1
    exact ⟨rfl, _, fin b j hx, h2⟩
  · rename_i cs c hq
    cases hv
    rw [hq] at r1
    obtain ⟨b, j, hx, h2⟩ := fld_tp (d := d) r1
    exact ⟨rfl, _, fin b j hx, h2⟩
  · cases hv
theorem intV_i {x : AV} {n : Int} {v : Value} (hi : intV x = some n) (k : Rv w T ρ x v) : ∃ q, v = .int q n := by
  unfold intV at hi
  split at hi
  · cases hi
    exact ⟨_, inv_i k⟩
  · cases hi
theorem op_idx (k : WInv f w T ρ h) (he : Env w T ρ e a) {x y : Operand} {x' y' : At} {t el : TypeId} {z : Nat} {av : AV} {h' : Heap} (call : Call) (ho : o.op = .indexAddr t x y) (hu : P.underlying t = some (.slice el)) (hz : szT P el = some z) (h1 : ma f.tabs x x' = true) (h2 : ma f.tabs y y' = true)
    (hv : PO.ev call (.idx z x' y') e h = some (av, h')) : h' = h ∧ ∃ v, Gives P o a w v ∧ Rv w T ρ av v := by
  have r1 := ma_rv k he h1
  have r2 := ma_rv k he h2
  simp only [PO.ev, Option.bind_eq_some_iff, Option.map_eq_some_iff] at hv
  obtain ⟨j, hj, c, hc, hcv⟩ := hv
  cases hcv
  obtain ⟨q, hy⟩ := intV_i hj r2
  have fin : ∀ b i n cap, a.eval x = .slice (some ⟨b, i, none⟩) n cap → 0 ≤ j → j < (n : Int) → Gives P o a w (.pointer (some ⟨b, i + j.toNat * z, none⟩)) := by
    intro b i n cap hx h3 h4
    simp only [Gives, execOp, ho, hx, hy, Instr.indexAt, asIntOf, Sem.run_bind, run_underlying hu w, Result.andThen_ok, Sem.run_pure, run_sizeOf' hz, add_at]
    rw [if_pos ⟨h3, h4⟩]
    simp only [Sem.run_bind, run_sizeOf' hz, Result.andThen_ok, Sem.run_pure, add_at]
  refine ⟨rfl, ?_⟩
  unfold idxV at hc
  split at hc
  · rename_i r z' ofs n hq
    split at hc
    · rename_i hcond
      obtain ⟨rfl, h3, h4⟩ := hcond
      cases hc
      rw [hq] at r1
      generalize hx : a.eval x = v at r1
      cases r1 with
      | @sl _ _ _ _ _ m b base cap hr hn hcap hm hs =>
        refine ⟨_, fin b _ n cap hx h3 h4, ?_⟩
        have := Rv.p (w := w) (T := T) (ρ := ρ) (e := ofs + j.toNat) (o := 0) hr
        rw [Nat.add_zero, Nat.add_mul, ← Nat.add_assoc] at this
        exact this
      | slz => omega
      | slnil => omega
    · cases hc
  · rename_i z' es hq
    split at hc
    · rename_i hcond
      obtain ⟨rfl, h3, h4⟩ := hcond
      cases hc
      rw [hq] at r1
      generalize hx : a.eval x = v at r1
      cases r1 with
      | lnil => simp at h4; omega
      | @l _ _ _ b base cap g hT hb hcap hm hz' hcell hv =>
        have hlt : j.toNat < es.length := by omega
        refine ⟨_, fin b base es.length cap hx h3 h4, ?_⟩
        have hlen := hz' _ hlt
        have := Rv.tp (w := w) (T := T) (ρ := ρ) (cs := es.getD j.toNat []) (o := 0) (b := b) (base := base + j.toNat * z') (fun c => g j.toNat c) hT hb (fun c hc => by rw [hlen] at hc; exact hcell _ c hlt hc) (fun c hc => by rw [hlen] at hc; exact hv _ c hlt hc)
        rw [Nat.add_zero] at this
        exact this
    · cases hc
  · cases hc
theorem op_idxa (k : WInv f w T ρ h) (he : Env w T ρ e a) {x y : Operand} {x' y' : At} {t el : TypeId} {n z : Nat} {av : AV} {h' : Heap} (call : Call) (ho : o.op = .indexAddr t x y) (hu : P.underlying t = some (.array n el)) (hz : szT P el = some z) (h1 : ma f.tabs x x' = true) (h2 : ma f.tabs y y' = true)
    (hv : PO.ev call (.idxa n z x' y') e h = some (av, h')) : h' = h ∧ ∃ v, Gives P o a w v ∧ Rv w T ρ av v := by
  have r1 := ma_rv k he h1
  have r2 := ma_rv k he h2
  simp only [PO.ev] at hv
  have fin : ∀ b i j, intV (y'.ev e) = some j → a.eval x = .pointer (some ⟨b, i, none⟩) → 0 ≤ j → j < (n : Int) → Gives P o a w (.pointer (some ⟨b, i + j.toNat * z, none⟩)) := by
    intro b i j hj hx h3 h4
    obtain ⟨q, hy⟩ := intV_i hj r2
    simp only [Gives, execOp, ho, hx, hy, Instr.indexAt, Instr.sureAddr, asIntOf, Sem.run_bind, run_underlying hu w, Result.andThen_ok, Sem.run_pure, run_sizeOf' hz, add_at]
    rw [if_pos ⟨h3, h4⟩]
    simp only [Sem.run_bind, run_sizeOf' hz, Result.andThen_ok, Sem.run_pure, add_at]
  split at hv
  · rename_i j r q c hj hq
    split at hv
    · rename_i hcond
      cases hv
      rw [hq] at r1
      obtain ⟨b, i, hx, h3⟩ := fld_p (d := j.toNat * z) r1
      exact ⟨rfl, _, fin b i j hj hx hcond.1 hcond.2, h3⟩
    · cases hv
  · rename_i j cs c hj hq
    split at hv
    · rename_i hcond
      cases hv
      rw [hq] at r1
      obtain ⟨b, i, hx, h3⟩ := fld_tp (d := j.toNat * z) r1
      exact ⟨rfl, _, fin b i j hj hx hcond.1 hcond.2, h3⟩
    · cases hv
  · cases hv
theorem op_ext (k : WInv f w T ρ h) (he : Env w T ρ e a) {x : Operand} {x' : At} {n : Nat} {av : AV} {h' : Heap} (call : Call) (ho : o.op = .extract x n) (h1 : ma f.tabs x x' = true)
    (hv : PO.ev call (.ext n x') e h = some (av, h')) : h' = h ∧ ∃ v, Gives P o a w v ∧ Rv w T ρ av v := by
  have r1 := ma_rv k he h1
  simp only [PO.ev] at hv
  split at hv
  · rename_i vs hq
    simp only [Option.map_eq_some_iff] at hv
    obtain ⟨c, hc, hcv⟩ := hv
    cases hcv
    rw [hq] at r1
    generalize hx : a.eval x = v at r1
    cases r1 with
    | tup us hl hu =>
      have hlt : n < vs.length := by
        rcases Nat.lt_or_ge n vs.length with h2 | h2
        · exact h2
        · rw [List.getElem?_eq_none h2] at hc; cases hc
      have h2 := hu n hlt
      rw [show vs.getD n .junk = av by rw [List.getD_eq_getElem?_getD, hc]; rfl] at h2
      refine ⟨rfl, us.getD n undef, ?_, h2⟩
      have h3 : us[n]? = some (us.getD n undef) := by
        have : n < us.size := by omega
        simp [this]
      simp only [Gives, execOp, ho, hx, Instr.extract, h3, Sem.run_bind, Sem.run_pure, Result.andThen_ok]
  · cases hv
theorem op_len (k : WInv f w T ρ h) (he : Env w T ρ e a) {x : Operand} {x' : At} {c : Go.Call} {t el : TypeId} {av : AV} {h' : Heap} (call : Call) (ho : o.op = .call c) (hc : c.callee = .builtin .len) (hx : c.args = #[x]) (ht : c.argTypes = #[t]) (hu : P.underlying t = some (.slice el)) (h1 : ma f.tabs x x' = true)
    (hv : PO.ev call (.len x') e h = some (av, h')) : h' = h ∧ ∃ v, Gives P o a w v ∧ Rv w T ρ av v := by
  have r1 := ma_rv k he h1
  simp only [PO.ev, Option.map_eq_some_iff] at hv
  obtain ⟨n, hn, hcv⟩ := hv
  cases hcv
  have fin : ∀ b cap, a.eval x = .slice b n cap → Gives P o a w (.int .i64 (n : Int)) := by
    intro b cap hxv
    simp [Gives, execOp, ho, resolve, hc, hx, ht, invoke, builtin, Builtin.len_, run_underlying hu, hxv, goInt]
  refine ⟨rfl, _, ?_, .i⟩
  unfold lenV at hn
  generalize hxv : a.eval x = v at r1
  split at hn
  · rename_i hq
    rw [hq] at r1
    cases hn
    cases r1 with
    | sl => exact fin _ _ hxv
    | slz => exact fin _ _ hxv
    | slnil => exact fin _ _ hxv
  · rename_i hq
    rw [hq] at r1
    cases hn
    cases r1 with
    | lnil => exact fin _ _ hxv
    | l => exact fin _ _ hxv
  · rename_i hq
    rw [hq] at r1
    cases hn
    cases r1
    exact fin _ _ hxv
  · cases hn
theorem op_slen (k : WInv f w T ρ h) (he : Env w T ρ e a) {x : Operand} {x' : At} {c : Go.Call} {t : TypeId} {av : AV} {h' : Heap} (call : Call) (ho : o.op = .call c) (hc : c.callee = .builtin .len) (hx : c.args = #[x]) (ht : c.argTypes = #[t]) (hu : P.underlying t = some .string) (h1 : ma f.tabs x x' = true)
    (hv : PO.ev call (.slen x') e h = some (av, h')) : h' = h ∧ ∃ v, Gives P o a w v ∧ Rv w T ρ av v := by
  have r1 := ma_rv k he h1
  simp only [PO.ev] at hv
  split at hv
  · rename_i s hq
    cases hv
    rw [hq] at r1
    refine ⟨rfl, .int .i64 (s.size : Int), ?_, .i⟩
    simp [Gives, execOp, ho, resolve, hc, hx, ht, invoke, builtin, Builtin.len_, run_underlying hu, inv_s r1, goInt]
  · cases hv
theorem op_min (k : WInv f w T ρ h) (he : Env w T ρ e a) {x y : Operand} {x' y' : At} {c : Go.Call} {av : AV} {h' : Heap} (call : Call) (ho : o.op = .call c) (hc : c.callee = .builtin .min) (hx : c.args = #[x, y]) (h1 : ma f.tabs x x' = true) (h2 : ma f.tabs y y' = true)
    (hv : PO.ev call (.min x' y') e h = some (av, h')) : h' = h ∧ ∃ v, Gives P o a w v ∧ Rv w T ρ av v := by
  have r1 := ma_rv k he h1
  have r2 := ma_rv k he h2
  simp only [PO.ev] at hv
  split at hv
  · rename_i q n q' m hq hq'
    cases hv
    rw [hq] at r1
    rw [hq'] at r2
    exact ⟨rfl, .int q (if m < n then m else n), by simp [Gives, execOp, ho, resolve, hc, hx, invoke, builtin, Builtin.min_, Builtin.min2, inv_i r1, inv_i r2], .i⟩
  · cases hv
theorem op_max (k : WInv f w T ρ h) (he : Env w T ρ e a) {x y : Operand} {x' y' : At} {c : Go.Call} {av : AV} {h' : Heap} (call : Call) (ho : o.op = .call c) (hc : c.callee = .builtin .max) (hx : c.args = #[x, y]) (h1 : ma f.tabs x x' = true) (h2 : ma f.tabs y y' = true)
    (hv : PO.ev call (.max x' y') e h = some (av, h')) : h' = h ∧ ∃ v, Gives P o a w v ∧ Rv w T ρ av v := by
  have r1 := ma_rv k he h1
  have r2 := ma_rv k he h2
  simp only [PO.ev] at hv
  split at hv
  · rename_i q n q' m hq hq'
    cases hv
    rw [hq] at r1
    rw [hq'] at r2
    exact ⟨rfl, .int q (if m > n then m else n), by simp [Gives, execOp, ho, resolve, hc, hx, invoke, builtin, Builtin.max_, Builtin.max2, inv_i r1, inv_i r2], .i⟩
  · cases hv
theorem op_sidx (k : WInv f w T ρ h) (he : Env w T ρ e a) {x y : Operand} {x' y' : At} {t : TypeId} {av : AV} {h' : Heap} (call : Call) (ho : o.op = .index t x y) (hu : P.underlying t = some .string) (h1 : ma f.tabs x x' = true) (h2 : ma f.tabs y y' = true)
    (hv : PO.ev call (.sidx x' y') e h = some (av, h')) : h' = h ∧ ∃ v, Gives P o a w v ∧ Rv w T ρ av v := by
  have r1 := ma_rv k he h1
  have r2 := ma_rv k he h2
  simp only [PO.ev] at hv
  split at hv
  · rename_i s j hq hj
    split at hv
    · rename_i hcond
      cases hv
      rw [hq] at r1
      obtain ⟨q, hy⟩ := intV_i hj r2
      refine ⟨rfl, .int .u8 _, ?_, .i⟩
      have hg : s[j.toNat]? = some (s[j.toNat]'hcond.2) := getElem?_pos s j.toNat hcond.2
      simp only [Gives, execOp, ho, Instr.index, hy, asIntOf, inv_s r1, Sem.run_bind, Sem.run_pure, Result.andThen_ok, run_underlying hu w, if_pos hcond.1, hg]
    · cases hv
  · cases hv
def mo2 (tabs : List (Nat × List AV)) : Option Operand → Option At → Bool
  | none, none => true
  | some x, some y => ma tabs x y
  | _, _ => false
theorem run_bounds {isS : Bool} {len cap : Nat} {lo hi mx : Option Value} {l u m : Int} (hl : (lo = none ∧ l = 0) ∨ ∃ q, lo = some (.int q l)) (hu : (hi = none ∧ mx = none ∧ u = len) ∨ ∃ q, hi = some (.int q u)) (hm : (mx = none ∧ m = cap) ∨ ∃ q, mx = some (.int q m))
    (h0 : 0 ≤ l) (h1 : l ≤ u) (h2 : u ≤ m) (h3 : m ≤ (cap : Int)) : (Instr.sliceBounds isS len cap lo hi mx).run P w = .ok (l.toNat, u.toNat, m.toNat) w := by
  have e1 : (m.toNat : Int) = m := Int.toNat_of_nonneg (by omega)
  have e2 : (u.toNat : Int) = u := Int.toNat_of_nonneg (by omega)
  have p1 : 0 ≤ m := by omega
  have p2 : 0 ≤ u := by omega
  rcases hl with ⟨rfl, rfl⟩ | ⟨q, rfl⟩ <;> rcases hm with ⟨rfl, rfl⟩ | ⟨q', rfl⟩ <;> rcases hu with ⟨rfl, h9, rfl⟩ | ⟨q'', rfl⟩ <;> first
    | (cases h9; done)
    | simp [Instr.sliceBounds, Instr.sliceBound, asIntOf, *]
theorem opt_l (k : WInv f w T ρ h) (he : Env w T ρ e a) {lo : Option Operand} {lo' : Option At} {d l : Int} (hm : mo2 f.tabs lo lo' = true) (hl : optI e (some d) lo' = some l) : (lo.map a.eval = none ∧ lo = none ∧ l = d) ∨ ∃ q, lo.map a.eval = some (.int q l) := by
  cases lo with
  | none =>
    cases lo' with
    | none => simp only [optI, Option.some.injEq] at hl; exact .inl ⟨rfl, rfl, hl.symm⟩
    | some y => cases hm
  | some x =>
    cases lo' with
    | none => cases hm
    | some y =>
      obtain ⟨q, hq⟩ := intV_i hl (ma_rv k he hm)
      exact .inr ⟨q, by simp [hq]⟩
theorem op_cut (k : WInv f w T ρ h) (he : Env w T ρ e a) {x : Operand} {x' : At} {lo hi mx : Option Operand} {lo' hi' mx' : Option At} {t el : TypeId} {z : Nat} {av : AV} {h' : Heap} (call : Call) (ho : o.op = .slice t x lo hi mx) (hu : P.underlying t = some (.slice el)) (hz : szT P el = some z)
    (h1 : ma f.tabs x x' = true) (hlo : mo2 f.tabs lo lo' = true) (hhi : mo2 f.tabs hi hi' = true) (hmx : mo2 f.tabs mx mx' = true) (hmh : mx = none ∨ ∃ y, hi = some y)
    (hv : PO.ev call (.cut z x' lo' hi' mx') e h = some (av, h')) : h' = h ∧ ∃ v, Gives P o a w v ∧ Rv w T ρ av v := by
  have r1 := ma_rv k he h1
  simp only [PO.ev, Option.bind_eq_some_iff] at hv
  obtain ⟨l, hl, u, hu', m, hm, hv⟩ := hv
  split at hv
  rotate_left
  · cases hv
  rename_i hmu
  subst hmu
  simp only [Option.map_eq_some_iff] at hv
  obtain ⟨c, hc, hcv⟩ := hv
  cases hcv
  refine ⟨rfl, ?_⟩
  have hL : (lo.map a.eval = none ∧ l = 0) ∨ ∃ q, lo.map a.eval = some (.int q l) := by
    rcases opt_l k he hlo hl with ⟨h2, _, h3⟩ | h2
    · exact .inl ⟨h2, h3⟩
    · exact .inr h2
  have fin : ∀ (ad : Option Addr) (n cap : Nat), a.eval x = .slice ad n cap → lenV (x'.ev e) = some n → n ≤ cap → 0 ≤ l → l ≤ m → m ≤ (n : Int) →
      ∃ mm : Nat, m.toNat ≤ mm ∧ mm ≤ cap ∧ Gives P o a w (.slice (if mm = l.toNat then ad else ad.map (·.add (l.toNat * z))) (m.toNat - l.toNat) (mm - l.toNat)) := by
    intro ad n cap hx hlen hnc g0 g1 g2
    have hU : (hi.map a.eval = none ∧ mx.map a.eval = none ∧ m = n) ∨ ∃ q, hi.map a.eval = some (.int q m) := by
      rw [hlen] at hu'
      rcases opt_l k he hhi hu' with ⟨h2, h3, h4⟩ | h2
      · rcases hmh with rfl | ⟨y, hy⟩
        · exact .inl ⟨h2, rfl, h4⟩
        · rw [h3] at hy; cases hy
      · exact .inr h2
    have hM : ∃ mm : Int, ((mx.map a.eval = none ∧ mm = cap) ∨ ∃ q, mx.map a.eval = some (.int q mm)) ∧ m ≤ mm ∧ mm ≤ (cap : Int) := by
      rcases opt_l k he hmx hm with ⟨h2, _, _⟩ | h2
      · exact ⟨cap, .inl ⟨h2, rfl⟩, by omega, by omega⟩
      · exact ⟨m, .inr h2, by omega, by omega⟩
    obtain ⟨mm, hM, g3, g4⟩ := hM
    have hb := run_bounds (P := P) (w := w) (isS := true) hL hU hM g0 g1 g3 g4
    refine ⟨mm.toNat, by omega, by omega, ?_⟩
    simp only [Gives, execOp, ho, hx, Instr.sliceAt, Instr.slice, Sem.run_bind, run_underlying hu w, Result.andThen_ok, hb, run_sizeOf' hz, Sem.run_pure]
  unfold cutV at hc
  split at hc
  · rename_i r z' ofs n hq
    split at hc
    · rename_i hcond
      obtain ⟨rfl, g0, g1, g2⟩ := hcond
      cases hc
      have hlen : lenV (x'.ev e) = some n := by rw [hq]; rfl
      rw [hq] at r1
      generalize hx : a.eval x = v at r1
      cases r1 with
      | @sl _ _ _ _ _ mx b base cap hr hn hcap hm hs =>
        obtain ⟨mm, g3, g4, hg⟩ := fin _ n cap hx hlen hcap g0 g1 g2
        refine ⟨_, hg, ?_⟩
        split
        · rename_i hml
          have e1 : m.toNat - l.toNat = 0 := by omega
          have e2 : mm - l.toNat = 0 := by omega
          rw [e1, e2]
          exact .slz hr (by omega)
        · obtain ⟨cur, e', fr, hb, hsz⟩ := hs
          simp only [Option.map_some, add_at]
          have := Rv.sl (w := w) (T := T) (ρ := ρ) (o := ofs + l.toNat) (n := m.toNat - l.toNat) (cap := mm - l.toNat) hr (by omega) (by omega) (by omega) ⟨cur, e', fr, hb, Nat.le_trans (Nat.add_le_add_left (Nat.mul_le_mul_right _ (by omega)) _) hsz⟩
          rw [Nat.add_mul, ← Nat.add_assoc] at this
          exact this
      | @slz _ _ _ _ mx b base off hr hn =>
        obtain ⟨mm, g3, g4, hg⟩ := fin _ 0 0 hx hlen (Nat.le_refl _) g0 g1 g2
        refine ⟨_, hg, ?_⟩
        have e0 : l.toNat = 0 := by omega
        have e1 : m.toNat - l.toNat = 0 := by omega
        have e2 : mm = 0 := by omega
        rw [e1, e2, e0]
        exact .slz hr (by omega)
      | slnil hr =>
        obtain ⟨mm, g3, g4, hg⟩ := fin _ 0 0 hx hlen (Nat.le_refl _) g0 g1 g2
        refine ⟨_, hg, ?_⟩
        have e0 : l.toNat = 0 := by omega
        have e1 : m.toNat - l.toNat = 0 := by omega
        have e2 : mm = 0 := by omega
        rw [e1, e2, e0]
        exact .slnil hr
    · cases hc
  · rename_i z' es hq
    split at hc
    · rename_i hcond
      obtain ⟨rfl, g0, g1, g2⟩ := hcond
      cases hc
      have hlen : lenV (x'.ev e) = some es.length := by rw [hq]; rfl
      rw [hq] at r1
      generalize hx : a.eval x = v at r1
      cases r1 with
      | @lnil _ _ ad cap ha hm =>
        obtain ⟨mm, g3, g4, hg⟩ := fin _ 0 _ hx hlen (Nat.zero_le _) g0 g1 g2
        refine ⟨_, hg, ?_⟩
        have e0 : l.toNat = 0 := by simp at g2; omega
        have e1 : m.toNat - l.toNat = 0 := by simp at g2; omega
        rw [e1, e0]
        refine .lnil (fun hn => ?_) (by omega)
        have : ad = none := by
          split at hn
          · exact hn
          · simpa using hn
        have := ha this
        omega
      | @l _ _ _ b base cap g hT hb hcap hm hz' hcell hv =>
        obtain ⟨mm, g3, g4, hg⟩ := fin _ es.length cap hx hlen hcap g0 g1 g2
        refine ⟨_, hg, ?_⟩
        have hlen2 : ((es.drop l.toNat).take (m.toNat - l.toNat)).length = m.toNat - l.toNat := by rw [List.length_take, List.length_drop]; omega
        split
        · rename_i hml
          have e1 : m.toNat - l.toNat = 0 := by omega
          have e2 : mm - l.toNat = 0 := by omega
          rw [e1, e2, List.take_zero]
          exact Rv.l (es := []) (fun _ _ => undef) hT hb (Nat.zero_le _) (Nat.zero_le _) (fun j hj => by cases hj) (fun j c hj => by cases hj) (fun j c hj => by cases hj)
        · simp only [Option.map_some, add_at]
          have key : ∀ j c, base + l.toNat * z' + j * z' + c = base + (l.toNat + j) * z' + c := by intro j c; rw [Nat.add_mul]; omega
          have := Rv.l (w := w) (T := T) (ρ := ρ) (z := z') (es := (es.drop l.toNat).take (m.toNat - l.toNat)) (b := b) (base := base + l.toNat * z') (cap := mm - l.toNat) (fun j c => g (l.toNat + j) c) hT hb (by rw [hlen2]; omega) (by omega)
            (fun j hj => by rw [hlen2] at hj; rw [getD_drop_take _ _ _ _ _ hj]; exact hz' _ (by omega))
            (fun j c hj hc => by rw [hlen2] at hj; rw [key]; exact hcell _ c (by omega) hc)
            (fun j c hj hc => by rw [hlen2] at hj; rw [getD_drop_take _ _ _ _ _ hj]; exact hv _ c (by omega) hc)
          rw [hlen2] at this
          exact this
    · cases hc
  · rename_i z' hq
    split at hc
    · rename_i hcond
      obtain ⟨rfl, rfl⟩ := hcond
      cases hc
      have hlen : lenV (x'.ev e) = some 0 := by rw [hq]; rfl
      rw [hq] at r1
      generalize hx : a.eval x = v at r1
      cases r1
      obtain ⟨mm, g3, g4, hg⟩ := fin _ 0 0 hx hlen (Nat.le_refl _) (Int.le_refl _) (Int.le_refl _) (Int.le_refl _)
      refine ⟨_, hg, ?_⟩
      have e2 : mm = 0 := by omega
      rw [e2]
      exact .ns
    · cases hc
  · cases hc
end
end Go.Pe
set_option linter.unusedVariables false
set_option linter.unusedSimpArgs false
namespace Go.Pe
open Go
def Turns (P : Program) (f : Fr) (o : Oper) (a : Act) (w : World) (T : Nat → Prop) (ρ : Rho) (av : AV) (h' : Heap) : Prop :=
  ∃ v w' T' ρ', ((execOp a.eval o).run P w = .ok (.value v) w' ∨ ((execOp a.eval o).run P w = .ok .skip w' ∧ v = undef)) ∧ WInv f w' T' ρ' h' ∧ Goes w w' T T' ρ ρ' ∧ Rv w' T' ρ' av v
section
variable {P : Program} {f : Fr} {w : World} {T : Nat → Prop} {ρ : Rho} {h : Heap} {e : Nat → AV} {a : Act} {o : Oper}
theorem cell_new (w : World) (c : Array Value) (t : TypeId) (i : Nat) : (w.alloc (.cells c t)).cell? ⟨w.heap.size, i, none⟩ = c[i]? := World.cell?_alloc_new w c t i
theorem new_st (k : WInv f w T ρ h) {id : Nat} (hid : h id = none) {cs : List AV} {vs : Array Value} {t : TypeId} (hl : vs.size = cs.length)
    (hv : ∀ c, c < cs.length → Rv w T ρ (cs.getD c .junk) (vs.getD c undef) ∧ (vs.getD c undef).oneCell' = true) :
    ∃ T' ρ', WInv f (w.alloc (.cells vs t)) T' ρ' (h.put id (.st cs)) ∧ Goes w (w.alloc (.cells vs t)) T T' ρ ρ' ∧ Rv (w.alloc (.cells vs t)) T' ρ' (.p id 0 0) (.pointer (some ⟨w.heap.size, 0, none⟩)) := by
  have ho := Old.alloc w (.cells vs t)
  obtain ⟨k', g⟩ := k.new ho hid (x := .st cs) (z := cs.length) (n := 1) (base := 0) (b := w.heap.size) (by simp) (Nat.le_refl _) (by simp) (fun T' ρ' ht hless hmore hρ => by
    refine ⟨w.heap.size, 0, vs, t, hρ, ht, heap_alloc_new w _, by omega, ⟨fun j hj => ?_, fun j c hj hc => ?_⟩⟩
    · cases j with
      | zero => rfl
      | succ j => simp at hj
    · cases j with
      | zero =>
        have h1 : vs[c]? = some (vs.getD c undef) := by
          have : c < vs.size := by omega
          simp [this]
        refine ⟨vs.getD c undef, ?_, (hv c hc).2, (hv c hc).1.mono (ho.same T) hless hmore⟩
        rw [Nat.zero_mul, Nat.add_zero, Nat.zero_add, cell_new, h1]
      | succ j => simp at hj)
  refine ⟨_, _, k', g, ?_⟩
  have := Rv.p (w := w.alloc (.cells vs t)) (T := fun a => T a ∨ a = w.heap.size) (ρ := fun r => if r = id then some ⟨cs.length, 1, some (w.heap.size, 0)⟩ else ρ r) (e := 0) (o := 0) (if_pos rfl)
  simpa using this
theorem op_alloc (k : WInv f w T ρ h) {t : TypeId} {i : TypeInfo} {zv : Value} {id : Nat} {z : List AV} {av : AV} {h' : Heap} (call : Call) (ho : o.op = .alloc t) (hi : P.info? t = some i) (hz : i.zero = some zv) (hm : mvs zv.cells.toList z = true)
    (hv : PO.ev call (.alloc id z) e h = some (av, h')) : Turns P f o a w T ρ av h' := by
  simp only [PO.ev] at hv
  split at hv
  · rename_i hid
    cases hv
    obtain ⟨h1, h2⟩ := mvs_rv (w := w) (T := T) (ρ := ρ) hm
    obtain ⟨T', ρ', k', g, r⟩ := new_st (t := t) k (by simpa using hid) (cs := z) (vs := zv.cells) (by rw [← h1]; simp) fun c hc => by rw [toList_getD]; exact h2 c hc
    refine ⟨_, _, T', ρ', .inl ?_, k', g, r⟩
    simp [execOp, ho, Instr.alloc, run_zeroValue hi hz, newVar, newRow]
  · cases hv
theorem cells_rv {x : AV} {v : Value} (r : Rv w T ρ x v) (hp0 : 0 < x.cells.length) : v.cells.size = x.cells.length ∧ ∀ c, c < x.cells.length → Rv w T ρ (x.cells.getD c .junk) (v.cells.getD c undef) ∧ (v.cells.getD c undef).oneCell' = true := by
  have one : ∀ {y : AV} {u : Value}, Rv w T ρ y u → y.cells = [y] → u.cells = #[u] → u.oneCell' = true → u.cells.size = y.cells.length ∧ ∀ c, c < y.cells.length → Rv w T ρ (y.cells.getD c .junk) (u.cells.getD c undef) ∧ (u.cells.getD c undef).oneCell' = true := by
    intro y u hr h1 h2 h3
    rw [h1, h2]
    refine ⟨rfl, fun c hc => ?_⟩
    cases c with
    | zero => exact ⟨hr, h3⟩
    | succ c => simp at hc
  cases r with
  | agg vs hl h1 hv => exact ⟨hl, fun c hc => ⟨hv c hc, h1 c hc⟩⟩
  | junk => simp [AV.cells] at hp0
  | tup => simp [AV.cells] at hp0
  | b => exact one .b rfl rfl rfl
  | i => exact one .i rfl rfl rfl
  | s => exact one .s rfl rfl rfl
  | np => exact one .np rfl rfl rfl
  | ns => exact one .ns rfl rfl rfl
  | lnil ha hm => exact one (.lnil ha hm) rfl rfl rfl
  | l g hT hb hc hm hz hcell hv => exact one (.l g hT hb hc hm hz hcell hv) rfl rfl rfl
  | tp g hT hb hcell hv => exact one (.tp g hT hb hcell hv) rfl rfl rfl
  | sl hr hn hc hm hs => exact one (.sl hr hn hc hm hs) rfl rfl rfl
  | slz hr hn => exact one (.slz hr hn) rfl rfl rfl
  | slnil hr => exact one (.slnil hr) rfl rfl rfl
  | p hr => exact one (.p hr) rfl rfl rfl
theorem op_box (k : WInv f w T ρ h) (he : Env w T ρ e a) {t : TypeId} {x : Operand} {x' : At} {id sz : Nat} {av : AV} {h' : Heap} (call : Call) (ho : o.op = .box t x) (hsz : 0 < sz) (h1 : ma f.tabs x x' = true)
    (hv : PO.ev call (.box id sz x') e h = some (av, h')) : Turns P f o a w T ρ av h' := by
  have r1 := ma_rv k he h1
  simp only [PO.ev] at hv
  split at hv
  · rename_i hid
    cases hv
    obtain ⟨h2, h3⟩ := cells_rv r1 (by omega)
    obtain ⟨T', ρ', k', g, r⟩ := new_st (t := t) k (by simpa using hid.2) (cs := (x'.ev e).cells) (vs := (a.eval x).cells) h2 h3
    refine ⟨_, _, T', ρ', .inl ?_, k', g, r⟩
    simp [execOp, ho, Instr.box, newVar, newRow]
  · cases hv
theorem new_sl (k : WInv f w T ρ h) {w' : World} (ho : Old w w') {id : Nat} (hid : h id = none) {z : Nat} {es : List (List AV)} {cur : Array Value} {t : TypeId} {b : Nat} (hb : w.heap.size ≤ b) (hcur : w'.heap[b]? = some (Obj.cells cur t (0, 0))) (hsz : es.length * z ≤ cur.size) {cap : Nat} (hcap : es.length ≤ cap) (hm : cap ≤ maxLen) (hcs : cap * z ≤ cur.size)
    (hl : ∀ j, j < es.length → (es.getD j []).length = z) (hv : ∀ j c, j < es.length → c < z → Rv w T Rho.none ((es.getD j []).getD c .junk) (cur.getD (j * z + c) undef) ∧ (cur.getD (j * z + c) undef).oneCell' = true) :
    ∃ T' ρ', WInv f w' T' ρ' (h.put id (.sl true z es)) ∧ Goes w w' T T' ρ ρ' ∧ Rv w' T' ρ' (.sl id z 0 es.length) (.slice (some ⟨b, 0, none⟩) es.length cap) := by
  have hlt := lt_of_cells hcur
  obtain ⟨k', g⟩ := k.new ho hid (x := .sl true z es) (z := z) (n := es.length) (base := 0) (b := b) (by omega) hb hlt (fun T' ρ' ht hless hmore hρ => by
    refine .inr ⟨b, 0, cur, t, hρ, ht, hcur, by omega, fun _ => rfl, ⟨hl, fun j c hj hc => ?_⟩⟩
    have hlt2 : j * z + c < cur.size := by
      have := Nat.mul_le_mul_right z (show j + 1 ≤ es.length by omega)
      rw [Nat.add_mul] at this
      omega
    have h1 : cur[j * z + c]? = some (cur.getD (j * z + c) undef) := by simp [hlt2]
    refine ⟨cur.getD (j * z + c) undef, ?_, (hv j c hj hc).2, (hv j c hj hc).1.mono (ho.same T) hless fun _ _ h => h⟩
    simp only [World.cell?, hcur, Nat.zero_add]
    exact h1)
  refine ⟨_, _, k', g, ?_⟩
  have := Rv.sl (w := w') (T := fun a => T a ∨ a = b) (ρ := fun r => if r = id then some ⟨z, es.length, some (b, 0)⟩ else ρ r) (r := id) (o := 0) (n := es.length) (cap := cap) (if_pos rfl) (by omega) hcap hm ⟨cur, t, (0, 0), hcur, by rw [Nat.zero_add, Nat.zero_add]; exact hcs⟩
  simpa using this
theorem getD_replicate {α : Type} (n : Nat) (x d : α) (j : Nat) (hj : j < n) : (List.replicate n x).getD j d = x := by
  rw [List.getD_eq_getElem?_getD, List.getElem?_replicate, if_pos hj]; rfl
theorem made_getD (z : Array Value) (n j c : Nat) (hc : c < z.size) (hj : j * z.size + c < n) : (madeCells z n).getD (j * z.size + c) undef = z.getD c undef := by
  unfold madeCells
  have h0 : (j * z.size + c) % z.size = c := by rw [Nat.mul_comm, Nat.mul_add_mod, Nat.mod_eq_of_lt hc]
  have h1 : ((Array.range n).map (fun i => z[i % z.size]!))[j * z.size + c]? = some (z[c]!) := by
    rw [Array.getElem?_map, Array.getElem?_range]
    simp [hj, h0]
  rw [show ((Array.range n).map (fun i => z[i % z.size]!)).getD (j * z.size + c) undef = z[c]! by
    rw [← Array.getElem?_eq_some_iff.1 h1 |>.2]
    simp [hj]]
  simp [hc]
theorem op_mk (k : WInv f w T ρ h) (he : Env w T ρ e a) {t el : TypeId} {i : TypeInfo} {zv : Value} {x : Operand} {x' : At} {id sz bytes : Nat} {z : List AV} {av : AV} {h' : Heap} (call : Call) (ho : o.op = .makeSlice t x x) (hu : P.underlying t = some (.slice el)) (hi : P.info? el = some i) (hz : i.zero = some zv)
    (hsz : i.size = sz) (hpos : 0 < sz) (hby : i.bytes = bytes) (hbp : 0 < bytes) (hm : mvs zv.cells.toList z = true) (hzl : z.length = sz) (h1 : ma f.tabs x x' = true)
    (hv : PO.ev call (.mk id sz bytes z x') e h = some (av, h')) : Turns P f o a w T ρ av h' := by
  have r1 := ma_rv k he h1
  simp only [PO.ev] at hv
  split at hv
  · rename_i n hq
    split at hv
    · rename_i hcond
      obtain ⟨g0, g1, hid⟩ := hcond
      cases hv
      rw [hq] at r1
      obtain ⟨h2, h3⟩ := mvs_rv (w := w) (T := T) (ρ := Rho.none) hm
      have hzs : zv.cells.size = sz := by rw [← hzl, ← h2]; simp
      have hnb : (i.bytes : Int) * n ≤ 281474976710656 := by
        rw [hby]
        have : ((n.toNat * bytes : Nat) : Int) ≤ 281474976710656 := Int.ofNat_le.2 g1
        rw [Int.natCast_mul, Int.toNat_of_nonneg g0, Int.mul_comm] at this
        exact this
      have hn63 : n.toNat ≤ 281474976710656 := Nat.le_trans (Nat.le_mul_of_pos_right _ hbp) g1
      have hr := run_make (P := P) w t el i zv hu hi hz .i64 .i64 n n g0 (Int.le_refl _) hnb (by omega)
      rw [hsz] at hr
      have hcurs : (madeCells zv.cells (n.toNat * sz)).size = n.toNat * sz := size_madeCells _ _
      obtain ⟨T', ρ', k', g, r⟩ := new_sl (w' := w.alloc (.cells (madeCells zv.cells (n.toNat * sz)) el)) (t := el) k (Old.alloc w _) (by simpa using hid) (z := sz) (es := List.replicate n.toNat z) (Nat.le_refl _) (heap_alloc_new w _) (by rw [List.length_replicate, hcurs]; exact Nat.le_refl _) (cap := n.toNat) (by rw [List.length_replicate]; exact Nat.le_refl _) (by simp only [maxLen]; omega) (by rw [hcurs]; exact Nat.le_refl _)
        (fun j hj => by rw [List.length_replicate] at hj; rw [getD_replicate _ _ _ _ hj]; exact hzl)
        (fun j c hj hc => by
          rw [List.length_replicate] at hj
          rw [getD_replicate _ _ _ _ hj]
          have hlt : j * sz + c < n.toNat * sz := by
            have := Nat.mul_le_mul_right sz (show j + 1 ≤ n.toNat by omega)
            rw [Nat.add_mul] at this
            omega
          have := made_getD zv.cells (n.toNat * sz) j c (by omega) (by rw [hzs]; exact hlt)
          rw [hzs] at this
          rw [this, toList_getD]
          exact h3 c (by omega))
      rw [List.length_replicate] at r
      refine ⟨_, _, T', ρ', .inl ?_, k', g, r⟩
      simp only [execOp, ho, inv_i r1, Sem.run_bind, hr, Result.andThen_ok, Sem.run_pure]
    · cases hv
  · cases hv
end
end Go.Pe
set_option linter.unusedVariables false
set_option linter.unusedSimpArgs false
namespace Go.Pe
open Go
def mparts (tabs : List (Nat × List AV)) : List (Nat × Operand) → List (Nat × At) → Bool
  | [], [] => true
  | (i, x) :: l, (j, y) :: m => i == j && ma tabs x y && mparts tabs l m
  | _, _ => false
def laid (off : Nat) (vs : Array Value) (C : Array Value) : Array Value := vs.zipIdx.foldl (fun cs (c, j) => cs.setIfInBounds (off + j) c) C
theorem laid_list (off : Nat) : ∀ (l : List Value) (k : Nat) (C : Array Value),
    ((l.zipIdx k).foldl (fun cs (p : Value × Nat) => cs.setIfInBounds (off + p.2) p.1) C).size = C.size ∧
    ∀ m, ((l.zipIdx k).foldl (fun cs (p : Value × Nat) => cs.setIfInBounds (off + p.2) p.1) C)[m]? = if off + k ≤ m ∧ m < off + k + l.length ∧ m < C.size then l[m - (off + k)]? else C[m]?
  | [], k, C => ⟨rfl, fun m => by simp; intro h1 h2; omega⟩
  | v :: l, k, C => by
    obtain ⟨h1, h2⟩ := laid_list off l (k + 1) (C.setIfInBounds (off + k) v)
    simp only [List.zipIdx_cons, List.foldl_cons]
    refine ⟨by rw [h1]; simp, fun m => ?_⟩
    rw [h2]
    simp only [Array.size_setIfInBounds, List.length_cons]
    by_cases hm : m = off + k
    · subst hm
      rw [if_neg (by omega)]
      by_cases hs : off + k < C.size
      · rw [if_pos (by omega), Array.getElem?_setIfInBounds_self_of_lt hs]
        simp
      · rw [if_neg (by omega), Array.getElem?_eq_none (by simp; omega), Array.getElem?_eq_none (by omega)]
    · by_cases hin : off + (k + 1) ≤ m ∧ m < off + (k + 1) + l.length ∧ m < C.size
      · rw [if_pos hin, if_pos (by omega), show m - (off + k) = (m - (off + (k + 1))) + 1 by omega, List.getElem?_cons_succ]
      · rw [if_neg hin, if_neg (by omega), Array.getElem?_setIfInBounds_ne (by omega)]
theorem laid_get (off : Nat) (vs C : Array Value) : (laid off vs C).size = C.size ∧ ∀ m, (laid off vs C)[m]? = if off ≤ m ∧ m < off + vs.size ∧ m < C.size then vs[m - off]? else C[m]? := by
  have h := laid_list off vs.toList 0 C
  have e : laid off vs C = ((vs.toList.zipIdx 0).foldl (fun cs (p : Value × Nat) => cs.setIfInBounds (off + p.2) p.1) C) := by
    unfold laid
    rw [← Array.foldl_toList]
    rw [Array.toList_zipIdx]
  rw [e]
  refine ⟨h.1, fun m => ?_⟩
  rw [h.2 m]
  simp
theorem fill_cons (place : Nat → Option (Nat × Nat)) (C : Array Value) (i : Nat) (v : Value) (rest : List (Nat × Value)) {off sz : Nat} (hp : place i = some (off, sz)) (h1 : v.cells.size = sz) (h2 : off + sz ≤ C.size) :
    Instr.fill place C ((i, v) :: rest) = Instr.fill place (laid off v.cells C) rest := by
  simp only [Instr.fill, hp, h1, laid]
  rw [if_neg]
  simp only [ne_eq, not_true_eq_false, decide_false, Bool.false_or, decide_eq_true_eq, Bool.or_eq_true, false_or]
  omega
section
variable {P : Program} {f : Fr} {w : World} {T T' : Nat → Prop} {ρ : Rho} {h : Heap} {e : Nat → AV} {a : Act} {o : Oper}
structure Good (w : World) (T : Nat → Prop) (n z : Nat) (L : List (List AV)) (C : Array Value) : Prop where
  len : L.length = n
  size : C.size = n * z
  el : ∀ j, j < n → (L.getD j []).length = z
  rv : ∀ j c, j < n → c < z → Rv w T Rho.none ((L.getD j []).getD c .junk) (C.getD (j * z + c) undef) ∧ (C.getD (j * z + c) undef).oneCell' = true
theorem getD_of {C : Array Value} {m : Nat} {v : Value} (h : C[m]? = some v) : C.getD m undef = v := by
  have := (Array.getElem?_eq_some_iff.1 h)
  simp [this.1, this.2]
theorem in_row {n z j c : Nat} (hj : j < n) (hc : c < z) : j * z + c < n * z := by
  have := Nat.mul_le_mul_right z (show j + 1 ≤ n by omega)
  rw [Nat.add_mul] at this
  omega
theorem other_row {z i j c : Nat} (hne : i ≠ j) (hc : c < z) : ¬ (i * z ≤ j * z + c ∧ j * z + c < i * z + z) := by
  rintro ⟨h1, h2⟩
  rcases Nat.lt_or_gt_of_ne hne with h3 | h3
  · have := Nat.mul_le_mul_right z (show i + 1 ≤ j by omega)
    rw [Nat.add_mul] at this
    omega
  · have := Nat.mul_le_mul_right z (show j + 1 ≤ i by omega)
    rw [Nat.add_mul] at this
    omega
theorem getD_set_same {α : Type} {L : List α} {j : Nat} (x d : α) (h : j < L.length) : (L.set j x).getD j d = x := by
  rw [List.getD_eq_getElem?_getD, List.getElem?_set_self h]; rfl
theorem getD_set_other {α : Type} {L : List α} {i j : Nat} (x d : α) (h : i ≠ j) : (L.set i x).getD j d = L.getD j d := by
  rw [List.getD_eq_getElem?_getD, List.getElem?_set_ne h, ← List.getD_eq_getElem?_getD]
theorem Good.part {n z : Nat} {L : List (List AV)} {C : Array Value} (g : Good w T n z L C) {j : Nat} (hj : j < n) {cs : List AV} {vs : Array Value} (hl : vs.size = z) (hc : cs.length = z) (hv : ∀ c, c < z → Rv w T Rho.none (cs.getD c .junk) (vs.getD c undef) ∧ (vs.getD c undef).oneCell' = true) :
    Good w T n z (L.set j cs) (laid (j * z) vs C) := by
  obtain ⟨h1, h2⟩ := laid_get (j * z) vs C
  refine ⟨by rw [List.length_set]; exact g.len, h1.trans g.size, fun i hi => ?_, fun i c hi hc' => ?_⟩
  · by_cases hij : j = i
    · subst hij
      rw [getD_set_same _ _ (by rw [g.len]; exact hj)]
      exact hc
    · rw [getD_set_other _ _ hij]
      exact g.el i hi
  · have hlt := in_row hi hc'
    by_cases hij : j = i
    · subst hij
      rw [getD_set_same _ _ (by rw [g.len]; exact hj)]
      have : (laid (j * z) vs C)[j * z + c]? = some (vs.getD c undef) := by
        rw [h2, if_pos (by rw [g.size]; omega), Nat.add_sub_cancel_left]
        have : c < vs.size := by omega
        simp [this]
      rw [getD_of this]
      exact hv c hc'
    · rw [getD_set_other _ _ hij]
      have : (laid (j * z) vs C)[i * z + c]? = some (C.getD (i * z + c) undef) := by
        rw [h2, if_neg (fun hh => other_row hij hc' ⟨hh.1, by omega⟩)]
        have : i * z + c < C.size := by rw [g.size]; exact hlt
        simp [this]
      rw [getD_of this]
      exact g.rv i c hi hc'
theorem bsl_fill (k : WInv f w T ρ h) (he : Env w T ρ e a) (hless : ∀ b, b < w.heap.size → T' b → T b) {n z : Nat} (hz : 0 < z) : ∀ (parts : List (Nat × Operand)) (ps : List (Nat × At)) (L : List (List AV)) (C : Array Value) {L' : List (List AV)},
    mparts f.tabs parts ps = true → (∀ p ∈ ps, ∀ r ∈ ref1 h (p.2.ev e), ∀ b, rowBlk h ρ r b → ¬ T' b) → Good w T' n z L C → bslV e h z L ps = some L' →
    ∃ C', Instr.fill (fun i => some (i * z, z)) C (parts.map fun p => (p.1, a.eval p.2)) = some C' ∧ Good w T' n z L' C'
  | [], [], L, C, L', _, _, g, hb => by
    simp only [bslV, Option.some.injEq] at hb
    subst hb
    exact ⟨C, rfl, g⟩
  | (i, x) :: parts, (j, y) :: ps, L, C, L', hm, hr, g, hb => by
    simp only [mparts, Bool.and_eq_true, beq_iff_eq] at hm
    obtain ⟨⟨rfl, hm1⟩, hm2⟩ := hm
    simp only [bslV] at hb
    split at hb
    · rename_i hcond
      obtain ⟨c1, c2⟩ := hcond
      have r1 := ma_rv k he hm1
      obtain ⟨h2, h3⟩ := cells_rv r1 (by omega)
      rw [g.len] at c2
      have g' := g.part c2 (vs := (a.eval x).cells) (cs := (y.ev e).cells.map (tellC h)) (by omega) (by rw [List.length_map]; exact c1) fun c hc => by
        rw [getD_map_lt (tellC h) _ c .junk .junk (by omega)]
        obtain ⟨h4, h5⟩ := h3 c (by omega)
        refine ⟨tellC_rv k.rows hless h4 (fun r hr' => hr _ List.mem_cons_self r ?_) (one_of_cell h4 h5).1 (one_of_cell h4 h5).2, h5⟩
        have hmem : (y.ev e).cells.getD c .junk ∈ (y.ev e).cells := getD_mem _ (by omega)
        show r ∈ ref1 h (y.ev e)
        revert hmem hr'
        generalize (y.ev e).cells.getD c .junk = q
        generalize y.ev e = u
        intro hr' hmem
        cases u <;> simp only [AV.cells, List.mem_singleton] at hmem <;> first
          | (subst hmem; exact hr')
          | exact List.mem_flatMap.2 ⟨q, hmem, hr'⟩
          | cases hmem
      obtain ⟨C', h6, h7⟩ := bsl_fill k he hless hz parts ps _ _ hm2 (fun p hp => hr p (List.mem_cons_of_mem _ hp)) g' hb
      refine ⟨C', ?_, h7⟩
      show Instr.fill _ _ ((i, a.eval x) :: _) = _
      rw [fill_cons (fun i => some (i * z, z)) C i (a.eval x) _ rfl (by omega) (by rw [g.size]; have := in_row c2 (show z - 1 < z by omega); omega)]
      exact h6
    · cases hb
  | [], _ :: _, _, _, _, hm, _, _, _ => by simp [mparts] at hm
  | _ :: _, [], _, _, _, hm, _, _, _ => by simp [mparts] at hm
theorem op_bsl (k : WInv f w T ρ h) (he : Env w T ρ e a) {t el : TypeId} {n : Nat} {parts : Array (Nat × Operand)} {i : TypeInfo} {zv : Value} {id sz : Nat} {z : List AV} {ps : List (Nat × At)} {av : AV} {h' : Heap} (call : Call) (ho : o.op = .buildSlice t n parts) (hu : P.underlying t = some (.slice el)) (hi : P.info? el = some i) (hz : i.zero = some zv)
    (hsz : i.size = sz) (hpos : 0 < sz) (hsmall : n * sz ≤ 16777216) (hm : mvs zv.cells.toList z = true) (hzl : z.length = sz) (hp : mparts f.tabs parts.toList ps = true)
    (hv : PO.ev call (.bsl id sz z n ps) e h = some (av, h')) : Turns P f o a w T ρ av h' := by
  simp only [PO.ev] at hv
  split at hv
  · rename_i hid
    simp only [Option.map_eq_some_iff] at hv
    obtain ⟨es, hb, hcv⟩ := hv
    cases hcv
    obtain ⟨T1, k1, g1, hfree, _⟩ := k.freeze (ps.flatMap fun p => ref1 h (p.2.ev e))
    obtain ⟨h2, h3⟩ := mvs_rv (w := w) (T := T1) (ρ := Rho.none) hm
    have hzs : zv.cells.size = sz := by rw [← hzl, ← h2]; simp
    have good0 : Good w T1 n sz (List.replicate n z) (madeCells zv.cells (n * sz)) := by
      refine ⟨List.length_replicate, size_madeCells _ _, fun j hj => by rw [getD_replicate _ _ _ _ hj]; exact hzl, fun j c hj hc => ?_⟩
      rw [getD_replicate _ _ _ _ hj]
      have := made_getD zv.cells (n * sz) j c (by omega) (by rw [hzs]; exact in_row hj hc)
      rw [hzs] at this
      rw [this, toList_getD]
      exact h3 c (by omega)
    obtain ⟨C', hf, gd⟩ := bsl_fill k he g1.less hpos parts.toList ps _ _ hp (fun p hp r hr => hfree r (List.mem_flatMap.2 ⟨p, hp, hr⟩)) good0 hb
    obtain ⟨T2, ρ2, k2, g2, r2⟩ := new_sl (w' := w.alloc (.cells C' el)) (t := el) k1 (Old.alloc w _) (id := id) (by rw [freeze_none]; simpa using hid) (z := sz) (es := es) (Nat.le_refl _) (heap_alloc_new w _) (by rw [gd.size, gd.len]; exact Nat.le_refl _) (cap := n) (by rw [gd.len]; exact Nat.le_refl _) (by have := Nat.le_mul_of_pos_right n hpos; simp only [maxLen]; omega) (by rw [gd.size]; exact Nat.le_refl _)
      (fun j hj => gd.el j (by rw [← gd.len]; exact hj)) (fun j c hj hc => gd.rv j c (by rw [← gd.len]; exact hj) hc)
    rw [gd.len] at r2
    refine ⟨_, _, T2, ρ2, .inl ?_, k2, g1.trans g2, r2⟩
    have hr : (Instr.buildSlice t n (parts.map fun (i, x) => (i, a.eval x))).run P w = .ok (.slice (some ⟨w.heap.size, 0, none⟩) n n) (w.alloc (.cells C' el)) := by
      by_cases hn : n * i.size = 0
      · have hn0 : n = 0 := by
          rcases Nat.mul_eq_zero.1 hn with h9 | h9
          · exact h9
          · omega
        subst hn0
        have hps : parts.toList = [] := by
          cases hpl : parts.toList with
          | nil => rfl
          | cons p l =>
            rw [hpl] at hp
            cases ps with
            | nil => simp [mparts] at hp
            | cons q ps =>
              simp only [bslV, List.replicate_zero, List.length_nil, Nat.not_lt_zero, and_false, if_false] at hb
              cases hb
        have hpa : parts = #[] := by
          apply Array.ext'
          rw [hps]
        subst hpa
        have hC : C' = #[] := by
          apply Array.eq_empty_of_size_eq_zero
          rw [gd.size]; simp
        subst hC
        simp [Instr.buildSlice, run_underlying hu, run_sizeOf' (show szT P el = some i.size by simp [szT, hi]), Instr.fill, newRow]
        have h0 : Array.range 0 = #[] := rfl
        rw [h0, Array.map_empty]
      · refine run_buildSlice w t el n _ C' i zv hu hi hz (by rw [hsz]; omega) hn ?_
        rw [hsz]
        have : (parts.map fun (i, x) => (i, a.eval x)).toList = parts.toList.map fun p => (p.1, a.eval p.2) := by simp
        rw [this]
        exact hf
    simp only [execOp, ho, Sem.run_bind, hr, Result.andThen_ok, Sem.run_pure]
  · cases hv
end
end Go.Pe
set_option linter.unusedVariables false
set_option linter.unusedSimpArgs false
namespace Go.Pe
open Go
section
variable {P : Program} {f : Fr} {w : World} {T T' : Nat → Prop} {ρ : Rho} {h : Heap} {e : Nat → AV} {a : Act} {o : Oper}
theorem run_places (fs : Array Field) (g : Field → Nat) (hs : ∀ x ∈ fs.toList, szT P x.type = some (g x)) : (fs.mapM fun x => (do pure (x.offset, ← sizeOf x.type) : Sem (Nat × Nat))).run P w = .ok (fs.map fun x => (x.offset, g x)) w := by
  have key : ∀ l : List Field, (∀ x ∈ l, szT P x.type = some (g x)) → (l.mapM fun x => (do pure (x.offset, ← sizeOf x.type) : Sem (Nat × Nat))).run P w = .ok (l.map fun x => (x.offset, g x)) w := by
    intro l
    induction l with
    | nil => intro _; simp
    | cons x l ih =>
      intro hl
      simp only [List.mapM_cons, Sem.run_bind, run_sizeOf' (hl x List.mem_cons_self), Result.andThen_ok, Sem.run_pure, ih fun y hy => hl y (List.mem_cons_of_mem _ hy), List.map_cons]
  rw [Array.mapM_eq_mapM_toList, Sem.run_map, key fs.toList hs]
  simp only [Result.andThen_ok]
  congr 1
  apply Array.ext'
  simp
def mfields (P : Program) (tabs : List (Nat × List AV)) (place : Nat → Option (Nat × Nat)) : List (Nat × Operand) → List (Nat × Nat × At) → Bool
  | [], [] => true
  | (i, x) :: l, (off, sz, y) :: m => decide (place i = some (off, sz)) && ma tabs x y && mfields P tabs place l m && decide (0 < sz)
  | _, _ => false
structure GoodB (w : World) (T : Nat → Prop) (ρ : Rho) (z : List AV) (C : Array Value) : Prop where
  size : C.size = z.length
  rv : ∀ c, c < z.length → Rv w T ρ (z.getD c .junk) (C.getD c undef) ∧ (C.getD c undef).oneCell' = true
theorem fillC_get {z cs : List AV} {off : Nat} (hle : off + cs.length ≤ z.length) : (fillC z off cs).length = z.length ∧ ∀ c, (fillC z off cs).getD c .junk = if off ≤ c ∧ c < off + cs.length then cs.getD (c - off) .junk else z.getD c .junk := by
  refine ⟨by simp [fillC]; omega, fun c => ?_⟩
  simp only [fillC, List.getD_eq_getElem?_getD]
  by_cases h1 : c < off
  · rw [if_neg (by omega), List.append_assoc, List.getElem?_append_left (by rw [List.length_take]; omega), List.getElem?_take_of_lt h1]
  · by_cases h2 : c < off + cs.length
    · rw [if_pos (by omega), List.append_assoc, List.getElem?_append_right (by rw [List.length_take]; omega), List.length_take, Nat.min_eq_left (by omega), List.getElem?_append_left (by omega)]
    · rw [if_neg (by omega), List.getElem?_append_right (by rw [List.length_append, List.length_take]; omega), List.getElem?_drop]
      congr 2
      rw [List.length_append, List.length_take]
      omega
theorem GoodB.part {z : List AV} {C : Array Value} (g : GoodB w T ρ z C) {off : Nat} {cs : List AV} {vs : Array Value} (hl : vs.size = cs.length) (hle : off + cs.length ≤ z.length) (hv : ∀ c, c < cs.length → Rv w T ρ (cs.getD c .junk) (vs.getD c undef) ∧ (vs.getD c undef).oneCell' = true) :
    GoodB w T ρ (fillC z off cs) (laid off vs C) := by
  obtain ⟨h1, h2⟩ := laid_get off vs C
  obtain ⟨h3, h4⟩ := fillC_get hle
  refine ⟨by rw [h1, h3, g.size], fun c hc => ?_⟩
  rw [h3] at hc
  rw [h4]
  by_cases hin : off ≤ c ∧ c < off + cs.length
  · rw [if_pos hin]
    have : (laid off vs C)[c]? = some (vs.getD (c - off) undef) := by
      rw [h2, if_pos (by rw [g.size]; omega)]
      have : c - off < vs.size := by omega
      simp [this]
    rw [getD_of this]
    exact hv _ (by omega)
  · rw [if_neg hin]
    have : (laid off vs C)[c]? = some (C.getD c undef) := by
      rw [h2, if_neg (by rw [hl]; omega)]
      have : c < C.size := by rw [g.size]; exact hc
      simp [this]
    rw [getD_of this]
    exact g.rv c hc
theorem build_fill (k : WInv f w T ρ h) (he : Env w T ρ e a) (place : Nat → Option (Nat × Nat)) : ∀ (parts : List (Nat × Operand)) (ps : List (Nat × Nat × At)) (z : List AV) (C : Array Value) {z' : List AV},
    mfields P f.tabs place parts ps = true → GoodB w T ρ z C → buildV e z ps = some z' →
    ∃ C', Instr.fill place C (parts.map fun p => (p.1, a.eval p.2)) = some C' ∧ GoodB w T ρ z' C'
  | [], [], z, C, z', _, g, hb => by
    simp only [buildV, Option.some.injEq] at hb
    subst hb
    exact ⟨C, rfl, g⟩
  | (i, x) :: parts, (off, sz, y) :: ps, z, C, z', hm, g, hb => by
    simp only [mfields, Bool.and_eq_true, decide_eq_true_eq] at hm
    obtain ⟨⟨⟨hp, hm1⟩, hm2⟩, hsz⟩ := hm
    simp only [buildV] at hb
    split at hb
    · rename_i hcond
      obtain ⟨c1, c2⟩ := hcond
      obtain ⟨h2, h3⟩ := cells_rv (ma_rv k he hm1) (by omega)
      have g' := g.part (off := off) (vs := (a.eval x).cells) (cs := (y.ev e).cells) (by omega) (by omega) h3
      obtain ⟨C', h6, h7⟩ := build_fill k he place parts ps _ _ hm2 g' hb
      refine ⟨C', ?_, h7⟩
      show Instr.fill _ _ ((i, a.eval x) :: _) = _
      rw [fill_cons place C i (a.eval x) _ hp (by omega) (by rw [g.size]; omega)]
      exact h6
    · cases hb
  | [], _ :: _, _, _, _, hm, _, _ => by simp [mfields] at hm
  | _ :: _, [], _, _, _, hm, _, _ => by simp [mfields] at hm
theorem GoodB.agg {z : List AV} {C : Array Value} (g : GoodB w T ρ z C) : Rv w T ρ (.agg z) (.agg C) := .agg C g.size (fun c hc => (g.rv c hc).2) fun c hc => (g.rv c hc).1
def placeS (P : Program) (fs : Array Field) (i : Nat) : Option (Nat × Nat) := (fs[i]?).bind fun x => (szT P x.type).map fun n => (x.offset, n)
theorem op_build (k : WInv f w T ρ h) (he : Env w T ρ e a) {t : TypeId} {parts : Array (Nat × Operand)} {i : TypeInfo} {zv : Value} {z : List AV} {ps : List (Nat × Nat × At)} {av : AV} {h' : Heap} (call : Call) (ho : o.op = .build t parts) (hi : P.info? t = some i) (hz : i.zero = some zv) (hm : mvs zv.cells.toList z = true)
    {place : Nat → Option (Nat × Nat)} (hp : mfields P f.tabs place parts.toList ps = true)
    (hk : (∃ fs, P.underlying t = some (.struct fs) ∧ (∀ x ∈ fs.toList, (szT P x.type).isSome = true) ∧ place = placeS P fs) ∨ ∃ n el sz, P.underlying t = some (.array n el) ∧ szT P el = some sz ∧ place = fun i => some (i * sz, sz))
    (hv : PO.ev call (.build z ps) e h = some (av, h')) : h' = h ∧ ∃ v, Gives P o a w v ∧ Rv w T ρ av v := by
  simp only [PO.ev, Option.map_eq_some_iff] at hv
  obtain ⟨cs, hb, hcv⟩ := hv
  cases hcv
  obtain ⟨h2, h3⟩ := mvs_rv (w := w) (T := T) (ρ := ρ) hm
  have g0 : GoodB w T ρ z zv.cells := ⟨by rw [← h2]; simp, fun c hc => by rw [toList_getD]; exact h3 c hc⟩
  obtain ⟨C', hf, gd⟩ := build_fill k he place parts.toList ps z zv.cells hp g0 hb
  refine ⟨rfl, .agg C', ?_, gd.agg⟩
  have hparts : (parts.map fun (i, x) => (i, a.eval x)).toList = parts.toList.map fun p => (p.1, a.eval p.2) := by simp
  rcases hk with ⟨fs, hu, hs, rfl⟩ | ⟨n, el, sz, hu, hs, rfl⟩
  · have hr := run_places (P := P) (w := w) fs (fun x => (szT P x.type).getD 0) fun x hx => by
      obtain ⟨n, hn⟩ := Option.isSome_iff_exists.1 (hs x hx)
      rw [hn]; rfl
    have hpl : (fun i => (fs.map fun x => (x.offset, (szT P x.type).getD 0))[i]?) = placeS P fs := by
      funext i
      simp only [placeS, Array.getElem?_map]
      cases hx : fs[i]? with
      | none => rfl
      | some x =>
        obtain ⟨n, hn⟩ := Option.isSome_iff_exists.1 (hs x (by simpa using Array.mem_of_getElem? hx))
        simp [hn]
    simp only [Gives, execOp, ho, Instr.build, Sem.run_bind, run_zeroValue hi hz, Result.andThen_ok, run_underlying hu w, hr, hpl, hparts, hf, Sem.run_pure]
  · simp only [Gives, execOp, ho, Instr.build, Sem.run_bind, run_zeroValue hi hz, Result.andThen_ok, run_underlying hu w, run_sizeOf' hs, hparts, hf, Sem.run_pure]
end
end Go.Pe
