/- Proved: It shows which data and rules may be, or what is wrong with them. No conditions. -/
import Derived.Test.YtmdlpmhkpnobeaaDoorBGrowRights4
import Derived.Test.YtmdlpmhkpnobeaaDoorChecked
import Derived.KernelRfl
import Derived.Test.YtmdlpmhkpnobeaaDoorRows
import Derived.WalkKit
import Derived.ProofKit
import Derived.OpenShut
import Derived.ShutString
import Derived.ChangeOld
import Derived.Below
import Derived.SizedLaws
import Derived.Test.YtmdlpmhkpnobeaaDoorCards
import Derived.Test.YtmdlpmhkpnobeaaDoorTie
import Derived.LaidMore
import Derived.Lay
import Derived.SevenTiedAt
import Derived.Stop.Joined
import Derived.Handed
import Derived.LaidLaws
set_option linter.unusedVariables false
set_option linter.unusedSimpArgs false
set_option linter.unusedSimpArgs false
set_option linter.unusedVariables false
open Go
namespace Go.Pe
def SzF (f : Fn) (k : Nat) : Prop := ∃ e : Int, e ≠ 0 ∧ L e.natAbs ≤ k ∧ ∀ i, ∃ n : Int, L n.natAbs ≤ k ∧ f i * (e : Rat) = (n : Rat)
theorem cast_ne {e : Int} (h : e ≠ 0) : (e : Rat) ≠ 0 := fun k => h (by have := congrArg Rat.num k; simpa using this)
theorem sq_div {x : Rat} {e n : Int} {k : Nat} (he : e ≠ 0) (h1 : L e.natAbs ≤ k) (h2 : L n.natAbs ≤ k) (h : x * (e : Rat) = (n : Rat)) : sq x ≤ k := by
  have h0 := cast_ne he
  have hx : x = Rat.divInt n e := by
    rw [Rat.divInt_eq_div, Rat.div_def, ← h, Rat.mul_assoc, Rat.mul_inv_cancel _ h0, Rat.mul_one]
  rw [hx]
  rcases Int.lt_or_le e 0 with c | c
  · have e1 : e = -((e.natAbs : Nat) : Int) := by omega
    rw [e1, Rat.divInt_neg', Rat.divInt_ofNat]
    have := sq_mk (n := -n) (d := e.natAbs) (by omega)
    rw [Int.natAbs_neg] at this
    omega
  · have e1 : e = ((e.natAbs : Nat) : Int) := by omega
    rw [e1, Rat.divInt_ofNat]
    have := sq_mk (n := n) (d := e.natAbs) (by omega)
    omega
theorem SzF.sq {f : Fn} {k : Nat} (h : SzF f k) : SzE f k := by
  obtain ⟨e, he, h1, h2⟩ := h
  intro i
  obtain ⟨n, hn, h3⟩ := h2 i
  exact sq_div he h1 hn h3
theorem SzF.mono {f : Fn} {k m : Nat} (h : SzF f k) (hm : k ≤ m) : SzF f m := by
  obtain ⟨e, he, h1, h2⟩ := h
  exact ⟨e, he, by omega, fun i => by obtain ⟨n, hn, h3⟩ := h2 i; exact ⟨n, by omega, h3⟩⟩
theorem L_imul (a b : Int) : L (a * b).natAbs ≤ L a.natAbs + L b.natAbs := by rw [Int.natAbs_mul]; exact L_mul _ _
theorem L_isub (a b : Int) {k : Nat} (ha : L a.natAbs ≤ k) (hb : L b.natAbs ≤ k) : L (a - b).natAbs ≤ k + 1 := by
  have h1 := L_mono (Int.natAbs_sub_le a b)
  have h2 := L_add a.natAbs b.natAbs
  omega
theorem num_den (x : Rat) : x * ((x.den : Int) : Rat) = (x.num : Rat) := by
  have h0 : ((x.den : Int) : Rat) ≠ 0 := cast_ne (by have := x.den_nz; omega)
  have h := Rat.num_divInt_den x
  rw [Rat.divInt_eq_div, Rat.div_def] at h
  generalize ((x.den : Int) : Rat) = d at *
  generalize ((x.num : Int) : Rat) = n at *
  rw [← h, Rat.mul_assoc, Rat.inv_mul_cancel _ h0, Rat.mul_one]
theorem szF_of {f : Fn} {k : Nat} (h : SzE f k) : ∀ n, ∃ e : Int, e ≠ 0 ∧ L e.natAbs ≤ n * k + 1 ∧ ∀ i, i < n → ∃ m : Int, L m.natAbs ≤ n * k + 1 ∧ f i * (e : Rat) = (m : Rat) := by
  intro n
  induction n with
  | zero => exact ⟨1, by decide, by have : L 1 ≤ 1 := L_le (n := 1) (k := 1) (by decide); show L 1 ≤ _; omega, fun i hi => by omega⟩
  | succ n ih =>
    obtain ⟨e, he, h1, h2⟩ := ih
    have hn := h n
    have a1 := sq_num (f n)
    have a2 := sq_den (f n)
    have b1 := L_imul e ((f n).den : Int)
    rw [Int.natAbs_natCast] at b1
    rw [Nat.add_mul, Nat.one_mul]
    refine ⟨e * ((f n).den : Int), Int.mul_ne_zero he (by have := (f n).den_nz; omega), by omega, fun i hi => ?_⟩
    have hd := num_den (f n)
    by_cases c : i = n
    · refine ⟨(f n).num * e, ?_, ?_⟩
      · have := L_imul (f n).num e; omega
      · rw [c, Rat.intCast_mul, Rat.intCast_mul]; grind
    · obtain ⟨m, hm, h3⟩ := h2 i (by omega)
      refine ⟨m * ((f n).den : Int), ?_, ?_⟩
      · have := L_imul m ((f n).den : Int); rw [Int.natAbs_natCast] at this; omega
      · rw [Rat.intCast_mul, Rat.intCast_mul]; grind
theorem SzE.f {f : Fn} {k n : Nat} (h : SzE f k) (hd : Dg f n) : SzF f (n * k + 1) := by
  obtain ⟨e, he, h1, h2⟩ := szF_of h n
  refine ⟨e, he, h1, fun i => ?_⟩
  by_cases c : i < n
  · exact h2 i c
  · refine ⟨0, Nat.le_trans (L_le (n := 0) (k := 0) (by decide)) (Nat.zero_le _), ?_⟩
    rw [hd i (by omega)]
    show (0 : Rat) * _ = 0
    grind
theorem SzF.step {g b : Fn} {k m s t i : Nat} (hg : SzF g k) (hb : SzF b m) (h0 : b t ≠ 0) : SzF (fun j => g j - (if i ≤ j then g s * (b t)⁻¹ * b (j - i) else 0)) (k + m + 1) := by
  obtain ⟨e, he, h1, h2⟩ := hg
  obtain ⟨d, hd, k1, k2⟩ := hb
  obtain ⟨N, hN, hN2⟩ := h2 s
  obtain ⟨M, hM, hM2⟩ := k2 t
  have hM0 : M ≠ 0 := fun h => by
    rw [h] at hM2
    rcases Rat.mul_eq_zero.1 hM2 with h | h
    · exact h0 h
    · exact cast_ne hd h
  have hi := Rat.inv_mul_cancel _ h0
  refine ⟨e * M, Int.mul_ne_zero he hM0, by have := L_imul e M; omega, fun j => ?_⟩
  obtain ⟨n, hn, hn2⟩ := h2 j
  by_cases c : i ≤ j
  · obtain ⟨m', hm, hm2⟩ := k2 (j - i)
    refine ⟨n * M - N * m', L_isub _ _ (by have := L_imul n M; omega) (by have := L_imul N m'; omega), ?_⟩
    show (g j - (if i ≤ j then g s * (b t)⁻¹ * b (j - i) else 0)) * _ = _
    rw [if_pos c, Rat.intCast_mul, Rat.intCast_sub, Rat.intCast_mul, Rat.intCast_mul, ← hn2, ← hN2, ← hM2, ← hm2]
    generalize (b t)⁻¹ = v at *
    generalize (e : Rat) = e at *
    generalize (d : Rat) = d at *
    generalize b t = bt at *
    generalize g s = gs at *
    generalize g j = gj at *
    generalize b (j - i) = bj at *
    have e1 : (gj - gs * v * bj) * (e * (bt * d)) = gj * e * (bt * d) - gs * e * (bj * d) * (v * bt) := by grind
    rw [e1, hi]; grind
  · refine ⟨n * M, by have := L_imul n M; omega, ?_⟩
    show (g j - (if i ≤ j then g s * (b t)⁻¹ * b (j - i) else 0)) * _ = _
    rw [if_neg c, Rat.intCast_mul, Rat.intCast_mul, ← hn2]
    grind
theorem dvG_sz {A B : Fn} {k m n t : Nat} (hA : SzF A k) (hB : SzF B m) (h0 : B t ≠ 0) : ∀ s, SzF (dvG A B t n s) (k + s * (m + 1)) := by
  intro s
  induction s with
  | zero => exact hA.mono (by omega)
  | succ s ih => exact (SzF.step ih hB h0).mono (by rw [Nat.add_mul]; omega)
theorem sq_inv (x : Rat) : sq x⁻¹ ≤ sq x + 1 := by
  unfold sq
  rw [Rat.num_inv, Rat.den_inv, Int.natAbs_mul, Int.natAbs_natCast]
  have h1 : L (x.num.sign.natAbs * x.den) ≤ L x.den := L_mono (by
    have : x.num.sign.natAbs ≤ 1 := by rcases Int.lt_trichotomy x.num 0 with h | h | h
                                       · rw [Int.sign_eq_neg_one_of_neg h]; decide
                                       · rw [h]; decide
                                       · rw [Int.sign_eq_one_of_pos h]; decide
    calc x.num.sign.natAbs * x.den ≤ 1 * x.den := Nat.mul_le_mul_right _ this
      _ = x.den := Nat.one_mul _)
  split
  · have : L 1 ≤ 1 := L_le (n := 1) (k := 1) (by decide)
    omega
  · omega
theorem dvR_sz {A B : List Rat} {k : Nat} (hA : SzF (co A) k) (hB : SzF (co B) k) (hc : Ca B) (hb : B ≠ []) : SzF (co (dvR A B)) (k + (A.length - B.length + 1) * (k + 1)) := by
  unfold dvR
  split
  · exact hA.mono (Nat.le_add_right _ _)
  · rename_i c
    have hl : 0 < B.length := by cases B with | nil => exact absurd rfl hb | cons _ _ => simp
    have h2 := dvG_dg (A := co A) (B := co B) (m := B.length - 1) (n := A.length - B.length + 1) (fun i hi => co_dg A i (by omega)) (fun i hi => co_dg B i (by omega)) (ca_top hc hb) (A.length - B.length + 1) (Nat.le_refl _)
    rw [co_tk (h2.mono (by omega))]
    exact dvG_sz hA hB (ca_top hc hb) _
theorem euc_sz {a b : List Rat} {k : Nat} (ha : Ca a) (hb : Ca b) (h1 : SzF (co a) k) (h2 : SzF (co b) k) (h0 : b ≠ []) (c : b.length ≤ a.length) :
    ∃ k', k ≤ k' ∧ SzF (co b) k' ∧ SzF (co (dvR a b)) k' ∧ (k' + 1) * 2 ^ (b.length + (dvR a b).length) ≤ (k + 1) * 2 ^ (a.length + b.length) := by
  have hr := dvR_len ha hb h0
  have h3 := dvR_sz h1 h2 hb h0
  refine ⟨_, Nat.le_add_right _ _, h2.mono (Nat.le_add_right k _), h3, ?_⟩
  have e1 : k + (a.length - b.length + 1) * (k + 1) + 1 = (a.length - b.length + 2) * (k + 1) := by rw [Nat.add_mul, Nat.add_mul (a.length - b.length) 2]; omega
  rw [e1]
  have e2 : a.length - b.length + 2 ≤ 2 ^ (a.length - b.length + 1) := by
    have : a.length - b.length + 1 < 2 ^ (a.length - b.length + 1) := Nat.lt_two_pow_self
    omega
  have e3 : 2 ^ (b.length + (dvR a b).length) ≤ 2 ^ (b.length + b.length - 1) := Nat.pow_le_pow_right (by omega) (by omega)
  calc (a.length - b.length + 2) * (k + 1) * 2 ^ (b.length + (dvR a b).length) ≤ 2 ^ (a.length - b.length + 1) * (k + 1) * 2 ^ (b.length + b.length - 1) := Nat.mul_le_mul (Nat.mul_le_mul_right _ e2) e3
    _ = (k + 1) * (2 ^ (a.length - b.length + 1) * 2 ^ (b.length + b.length - 1)) := by rw [Nat.mul_comm (2 ^ _) (k + 1), Nat.mul_assoc]
    _ = (k + 1) * 2 ^ (a.length + b.length) := by
      have hl : 0 < b.length := by cases b with | nil => exact absurd rfl h0 | cons _ _ => simp
      rw [← Nat.pow_add, show a.length - b.length + 1 + (b.length + b.length - 1) = a.length + b.length by omega]
theorem k_pow (k n : Nat) : k ≤ (k + 1) * 2 ^ n := by
  have hp : 1 ≤ 2 ^ n := Nat.one_le_two_pow
  have := Nat.mul_le_mul_left (k + 1) hp
  omega
theorem SzF.scm {f : Fn} {k : Nat} (h : SzF f k) : SzF (fun i => f i * (-1)) k := by
  obtain ⟨e, he, h1, h2⟩ := h
  refine ⟨e, he, h1, fun i => ?_⟩
  obtain ⟨n, hn, h3⟩ := h2 i
  refine ⟨-n, by rw [Int.natAbs_neg]; exact hn, ?_⟩
  rw [Rat.intCast_neg, ← h3]; grind
end Go.Pe
set_option linter.unusedSimpArgs false
set_option linter.unusedVariables false
open Go
namespace Go.Pe
theorem sq_int (n : Int) (h : n.natAbs < 4294967296) : sq (n : Rat) ≤ 1 := by
  unfold sq
  rw [Rat.num_intCast, Rat.den_intCast]
  have h1 : L n.natAbs ≤ 1 := L_le (n := n.natAbs) (k := 1) (by omega)
  have h2 : L 1 ≤ 1 := L_le (n := 1) (k := 1) (by decide)
  omega
end Go.Pe
set_option linter.unusedSimpArgs false
set_option linter.unusedVariables false
open Go
namespace Go.Pe
theorem qmake_c {n d : Int} (hn : L n.natAbs ≤ 100000000000) (hd : L d.natAbs ≤ 100000000000) (h0 : d ≠ 0) : R FF 122 [(AV.agg [AV.b (ng n), (AV.l 1 (List.map u (D (Int.natAbs n))))]), (AV.agg [AV.b (ng d), (AV.l 1 (List.map u (D (Int.natAbs d))))])] = some (.tup [(AV.agg [AV.b (ng (Rat.num ((Rat.divInt n d)))), (AV.l 1 (List.map u (D (Int.natAbs (Rat.num ((Rat.divInt n d))))))), (AV.l 1 (List.map u (D (Rat.den ((Rat.divInt n d))))))]), (AV.i .i64 0)]) := by
  have k1 := wclean_c (q := ng n) (D_U n.natAbs) (show L _ ≤ _ by omega)
  have k2 := wclean_c (q := ng d) (D_U d.natAbs) (show L _ ≤ _ by omega)
  have s1 := wsign_c (q := ng d) (D_U d.natAbs) (show L _ ≤ _ by omega)
  have m1 := wneg_c (q := ng n) (D_U n.natAbs) (show L _ ≤ _ by omega)
  rw [wv_ci] at k1 k2 s1 m1
  have c0 : ¬ cmp d 0 = 0 := fun h => h0 (cmp_eq_iff.1 h)
  rcases Int.lt_or_le d 0 with c | c
  · have e1 : d = -((d.natAbs : Nat) : Int) := by omega
    have e2 : Rat.divInt n d = mkRat (-n) d.natAbs := by
      conv => lhs; rw [e1]
      rw [Rat.divInt_neg', Rat.divInt_ofNat]
    have f1 := form_c (n := -n) (d := d.natAbs) (by omega) (by rw [Int.natAbs_neg]; omega) hd
    have b1 : ng d = true := by unfold ng; exact decide_eq_true c
    rw [e2]
    rw [b1] at k2 s1 ⊢
    generalize mkRat (-n) d.natAbs = z at *
    rw [R_go FF F122 c122.eq_1]
    simp only [RB, un, St.none, Nat.reduceEqDiff, Nat.reduceAdd, Nat.reduceMul, Nat.reduceMod, Nat.reduceLeDiff, Nat.reduceLT, Int.reduceLT, Int.reduceLE, Int.reduceEq, Int.reduceToNat, Int.reduceSub, Int.reduceNeg, Int.reduceAdd, ↓reduceIte, reduceCtorEq, ite_self, eq_self, if_true, if_false, pack, pid, parN, List.not_mem_nil, List.mem_cons, lid, chkK, apartV, List.map_nil, List.flatMap_nil, List.append_nil, List.nil_append, List.drop_zero, List.length_set, List.length_replicate, List.length_append, List.take_length, List.take_zero, List.drop_length, Option.isNone_none, Heap.none, k1, k2, s1, m1, c0, f1]
  · have e1 : d = ((d.natAbs : Nat) : Int) := by omega
    have e2 : Rat.divInt n d = mkRat n d.natAbs := by
      conv => lhs; rw [e1]
      rw [Rat.divInt_ofNat]
    have f1 := form_c (n := n) (d := d.natAbs) (by omega) hn hd
    have b1 : ng d = false := ng_false.2 c
    rw [e2]
    rw [b1] at k2 s1 ⊢
    generalize mkRat n d.natAbs = z at *
    rw [R_go FF F122 c122.eq_1]
    simp only [RB, un, St.none, Nat.reduceEqDiff, Nat.reduceAdd, Nat.reduceMul, Nat.reduceMod, Nat.reduceLeDiff, Nat.reduceLT, Int.reduceLT, Int.reduceLE, Int.reduceEq, Int.reduceToNat, Int.reduceSub, Int.reduceNeg, Int.reduceAdd, ↓reduceIte, reduceCtorEq, ite_self, eq_self, if_true, if_false, pack, pid, parN, List.not_mem_nil, List.mem_cons, lid, chkK, apartV, List.map_nil, List.flatMap_nil, List.append_nil, List.nil_append, List.drop_zero, List.length_set, List.length_replicate, List.length_append, List.take_length, List.take_zero, List.drop_length, Option.isNone_none, Heap.none, k1, k2, s1, m1, c0, f1]
theorem qfrac_c {i : Nat} (hi : i < 1000000) : R FF 95 [(AV.i .i64 1), (AV.i .i64 (((i + 1 : Nat) : Int)))] = some (AV.agg [AV.b (ng (Rat.num (((((i + 1 : Nat) : Int) : Rat)⁻¹)))), (AV.l 1 (List.map u (D (Int.natAbs (Rat.num (((((i + 1 : Nat) : Int) : Rat)⁻¹))))))), (AV.l 1 (List.map u (D (Rat.den (((((i + 1 : Nat) : Int) : Rat)⁻¹))))))]) := by
  have o1 := wof_c (x := 1) (by omega) (by omega)
  have o2 := wof_c (x := ((i + 1 : Nat) : Int)) (by omega) (by omega)
  have m1 := qmake_c (n := 1) (d := ((i + 1 : Nat) : Int)) (Nat.le_trans (L_le (n := 1) (k := 1) (by decide)) (by omega)) (Nat.le_trans (L_le (n := i + 1) (k := 1) (by omega)) (by omega)) (by omega)
  have e : Rat.divInt 1 ((i + 1 : Nat) : Int) = (((i + 1 : Nat) : Int) : Rat)⁻¹ := by rw [Rat.inv_def]; rfl
  rw [e] at m1
  have s0 := sq_int ((i + 1 : Nat) : Int) (by omega)
  have s1 := sq_inv ((((i + 1 : Nat) : Int)) : Rat)
  generalize ((((i + 1 : Nat) : Int)) : Rat)⁻¹ = y at *
  have k1 := qclean_s (q := ng y.num) (sm_cq (x := y) (k := 2) (by omega)) (by omega)
  rw [qv_cq] at k1
  rw [R_go FF F95 c95.eq_1]
  simp only [RB, un, St.none, Nat.reduceEqDiff, Nat.reduceAdd, Nat.reduceMul, Nat.reduceMod, Nat.reduceLeDiff, Nat.reduceLT, Int.reduceLT, Int.reduceLE, Int.reduceEq, Int.reduceToNat, Int.reduceSub, Int.reduceNeg, Int.reduceAdd, ↓reduceIte, reduceCtorEq, ite_self, eq_self, if_true, if_false, pack, pid, parN, List.not_mem_nil, List.mem_cons, lid, chkK, apartV, List.map_nil, List.flatMap_nil, List.append_nil, List.nil_append, List.drop_zero, List.length_set, List.length_replicate, List.length_append, List.take_length, List.take_zero, List.drop_length, Option.isNone_none, Heap.none, o1, o2, m1, k1]
end Go.Pe
set_option linter.unusedSimpArgs false
set_option linter.unusedVariables false
open Go
namespace Go.Pe
theorem SzE.two {c d : Rat} {k : Nat} (h1k : 1 ≤ k) (h1 : sq c ≤ k) (h2 : sq d ≤ k) : SzE (co [c, d]) k := fun i => by
  match i with
  | 0 => exact h1
  | 1 => exact h2
  | i + 2 => rw [co_big (by simp)]; exact Nat.le_trans sq_zero h1k
theorem SzE.scT {a : List Rat} {k m : Nat} (ha : SzE (co a) k) {c : Rat} (hc : sq c ≤ m) : SzE (co (scT a c)) (k + m) := by rw [co_scT]; exact SzE.sc ha hc
theorem SzE.single {c : Rat} {k : Nat} (h1k : 1 ≤ k) (h : sq c ≤ k) : SzE (co [c]) k := fun i => by
  match i with
  | 0 => exact h
  | i + 1 => rw [co_big (by simp)]; exact Nat.le_trans sq_zero h1k
theorem scT_len {a : List Rat} {c : Rat} (h : Ca a) (hc : c ≠ 0) : (scT a c).length = a.length := by
  have h1 : (scT a c).length ≤ a.length := tk_le _ _
  rcases h with h | h
  · omega
  · rcases Nat.lt_or_ge (scT a c).length a.length with k | k
    · have h2 := co_dg (scT a c) (a.length - 1) (by omega)
      rw [co_scT] at h2
      rcases Rat.mul_eq_zero.1 h2 with h3 | h3
      · exact absurd h3 h
      · exact absurd h3 hc
    · omega
end Go.Pe
set_option linter.unusedSimpArgs false
set_option linter.unusedVariables false
open Go
namespace Go.Pe
structure ChZ (p q : List Rat) (n K : Nat) : Prop where
  cp : Ca p
  cq : Ca q
  lt : q.length < p.length
  ln : q.length ≤ n
  lp : p.length ≤ n + 1
  z : ∃ k, SzF (co p) k ∧ SzF (co q) k ∧ (k + 1) * 2 ^ (p.length + q.length) ≤ K
theorem ChZ.next {p q : List Rat} {n K : Nat} (h : ChZ p q (n + 1) K) (h0 : q ≠ []) : ChZ q (scT (dvR p q) (-1)) n K ∧ SzF (co (dvR p q)) K := by
  have hr := dvR_len h.cp h.cq h0
  have hlt := h.lt
  have hln := h.ln
  obtain ⟨k, k1, k2, k3⟩ := h.z
  obtain ⟨k', _, h3, h4, h5⟩ := euc_sz h.cp h.cq k1 k2 h0 (by omega)
  have hs : (scT (dvR p q) (-1)).length = (dvR p q).length := scT_len (dvR_ca q h.cp) (by decide)
  refine ⟨⟨h.cq, ca_tk _ _, by omega, by omega, by omega, k', h3, ?_, ?_⟩, ?_⟩
  · rw [co_scT]; exact SzF.scm h4
  · rw [hs]; exact Nat.le_trans h5 k3
  · have := k_pow k' (q.length + (dvR p q).length)
    exact h4.mono (by omega)
end Go.Pe
set_option linter.unusedVariables false
set_option linter.unusedSimpArgs false
open Go
namespace Go.Pe
def fD (d : RD) : RD := (d.1, (d.2.1.take 6).map (fw 4), (d.2.2.take 6).map tQ)
theorem few1_c {q : Bool} {l d : List Int} (h : OkQ (q, l, d)) : R FF 29 [.l 4 [[.b false, .b q, .l 1 (l.map u), .l 1 (d.map u)]], (AV.i .i64 1)] = some (.l 4 [[.b false, .b q, .l 1 ((l.take 3).map u), .l 1 ((d.take 3).map u)]]) :=
  few09_c (l := [(false, q, l, d)]) (n := 1) (by omega) (fun x hx => by rw [List.mem_singleton.1 hx]; exact h) (by rw [List.length_singleton]; decide)
theorem nJ (ls : List Nat) (y : AV) (g : Heap) (xs : List AV) : nestJ ls (some (y, g)) xs = (nestL ls g xs).map fun q => (y :: q.1, q.2) := rfl
theorem nK (h : Heap) (q z o n : Nat) (ap : Bool) (z' : Nat) (es : List (List AV)) : nestK h q z o n (some (.sl ap z' es)) = some (.own (ap && decide (o = 0)) z ((es.drop o).take n), h.put q .dead) := rfl
theorem few26_l0 {f : Int} {rs rows : List (List AV)} {l : List RQt} (hu : ∀ x ∈ l, OkQ x) (hl : l.length ≤ maxL) : ∀ (d i : Nat), i + d = min l.length 6 →
    LP FF [(2, 1), (3, 4), (1, 0), (4, 0)] [(2, 1), (3, 0)] b167_0 [.ownp [(AV.i .i64 0), .l 1 [], .l 3 []], .ownp [(AV.i .i64 f), .l 1 rows, .own true 3 (((l.take i).map tQ).map eQ)], .tp [(AV.i .i64 f), .l 1 rs, .l 3 (l.map eQ)] 0, (AV.i .i64 ((i : Int)))] = some (.exit 0, [.ownp [(AV.i .i64 0), .l 1 [], .l 3 []], .tp [(AV.i .i64 f), .l 1 rows, .l 3 (((l.take 6).map tQ).map eQ)] 0]) := by
  intro d
  induction d with
  | zero =>
    intro i hi
    have h2 : l.take i = l.take 6 := by
      rw [show i = min l.length 6 by omega]
      rcases Nat.le_total l.length 6 with h | h
      · rw [Nat.min_eq_left h, List.take_of_length_le (Nat.le_refl _), List.take_of_length_le h]
      · rw [Nat.min_eq_right h]
    rw [h2]
    by_cases c1 : (i : Int) < (l.length : Int)
    · have c2 : ¬ (i : Int) < 6 := by omega
      rw [LP_go FF b167_0.eq_1]
      simp only [RB, un, St.none, Nat.reduceEqDiff, Nat.reduceAdd, Nat.reduceMul, Nat.reduceMod, Nat.reduceLeDiff, Nat.reduceLT, Int.reduceLT, Int.reduceLE, Int.reduceEq, Int.reduceToNat, Int.reduceSub, Int.reduceNeg, Int.reduceAdd, ↓reduceIte, reduceCtorEq, ite_self, eq_self, if_true, if_false, pack, pid, parN, List.not_mem_nil, List.mem_cons, lid, chkK, apartV, List.map_nil, List.flatMap_nil, List.append_nil, List.nil_append, List.drop_zero, List.length_set, List.length_replicate, List.length_append, List.take_length, List.take_zero, List.drop_length, Option.isNone_none, Heap.none, c1, c2, nJ, nK]
    · rw [LP_go FF b167_0.eq_1]
      simp only [RB, un, St.none, Nat.reduceEqDiff, Nat.reduceAdd, Nat.reduceMul, Nat.reduceMod, Nat.reduceLeDiff, Nat.reduceLT, Int.reduceLT, Int.reduceLE, Int.reduceEq, Int.reduceToNat, Int.reduceSub, Int.reduceNeg, Int.reduceAdd, ↓reduceIte, reduceCtorEq, ite_self, eq_self, if_true, if_false, pack, pid, parN, List.not_mem_nil, List.mem_cons, lid, chkK, apartV, List.map_nil, List.flatMap_nil, List.append_nil, List.nil_append, List.drop_zero, List.length_set, List.length_replicate, List.length_append, List.take_length, List.take_zero, List.drop_length, Option.isNone_none, Heap.none, c1, nJ, nK]
  | succ d ih =>
    intro i hi
    have hlt : i < l.length := by omega
    have h9 := ih (i + 1) (by omega)
    have hx := hu _ (getD_mem' dQ hlt)
    have f1 := few1_c (q := (l.getD i dQ).1) (l := (l.getD i dQ).2.1) (d := (l.getD i dQ).2.2) hx
    have ht : (l.take (i + 1)).map tQ = (l.take i).map tQ ++ [tQ (l.getD i dQ)] := by
      rw [List.take_add_one, List.getElem?_eq_getElem hlt, List.map_append, List.getD_eq_getElem?_getD, List.getElem?_eq_getElem hlt]
      rfl
    rw [ht] at h9
    have hlen : (List.map tQ (List.take i l)).length = i := by rw [List.length_map, List.length_take]; omega
    have c1 : (i : Int) < (l.length : Int) := by omega
    have c2 : (i : Int) < 6 := by omega
    have e2 : IntKind.i64.wrap ((i : Int) + 1) = ((i + 1 : Nat) : Int) := w64succ (by omega)
    have b2 : (i + 1) * 56 ≤ 140737488355328 := by omega
    have m2 : List.take (i + 1) (List.map tQ (List.take i l) ++ [tQ (l.getD i dQ)]) = List.map tQ (List.take i l) ++ [tQ (l.getD i dQ)] := List.take_of_length_le (by rw [List.length_append, hlen]; simp)
    have m3 : List.take i (List.map tQ (List.take i l)) = List.map tQ (List.take i l) := List.take_of_length_le (by omega)
    have m1 : List.map eQ (List.map tQ (List.take i l)) ++ [[AV.b (l.getD i dQ).1, AV.l 1 (List.map u ((l.getD i dQ).2.1.take 3)), AV.l 1 (List.map u ((l.getD i dQ).2.2.take 3))]] = List.map eQ (List.map tQ (List.take i l) ++ [tQ (l.getD i dQ)]) := by rw [List.map_append]; rfl
    rw [LP_go FF b167_0.eq_1]
    simp only [RB, un, St.none, Nat.reduceEqDiff, Nat.reduceAdd, Nat.reduceMul, Nat.reduceMod, Nat.reduceLeDiff, Nat.reduceLT, Int.reduceLT, Int.reduceLE, Int.reduceEq, Int.reduceToNat, Int.reduceSub, Int.reduceNeg, Int.reduceAdd, ↓reduceIte, reduceCtorEq, ite_self, eq_self, if_true, if_false, pack, pid, parN, List.not_mem_nil, List.mem_cons, lid, chkK, apartV, List.map_nil, List.flatMap_nil, List.append_nil, List.nil_append, List.drop_zero, List.length_set, List.length_replicate, List.length_append, List.take_length, List.take_zero, List.drop_length, Option.isNone_none, Heap.none, c1, c2, nJ, nK, eQ_rules, eQ_row, Int.natCast_nonneg, f1, e2, hlen, b2, m3, m1, m2]


    exact h9
theorem few26_c {d : RD} (h : OkD d) : R FF 167 [.agg (eD d)] = some (.agg (eD (fD d))) := by
  obtain ⟨f, rows, vals⟩ := d
  have f1 : R FF 97 [.l 1 (rows.map eRw), (AV.i .i64 6), (AV.i .i64 4)] = _ := all09_c (n := 6) (w := 4) (by omega) (by omega) h.2.1.2 h.2.1.1
  have l0 := few26_l0 (f := f) (l := vals) (rs := rows.map eRw) (rows := ((rows.take 6).map (fw 4)).map eRw) h.2.2.2 h.2.2.1 (min vals.length 6) 0 (by omega)
  rw [List.take_zero, Int.ofNat_zero] at l0
  simp only [List.map_nil] at l0
  simp only [eD, fD]
  rw [R_go FF F167 c167.eq_1]
  simp only [RB, un, St.none, Nat.reduceEqDiff, Nat.reduceAdd, Nat.reduceMul, Nat.reduceMod, Nat.reduceLeDiff, Nat.reduceLT, Int.reduceLT, Int.reduceLE, Int.reduceEq, Int.reduceToNat, Int.reduceSub, Int.reduceNeg, Int.reduceAdd, ↓reduceIte, reduceCtorEq, ite_self, eq_self, if_true, if_false, pack, pid, parN, List.not_mem_nil, List.mem_cons, lid, chkK, apartV, List.map_nil, List.flatMap_nil, List.append_nil, List.nil_append, List.drop_zero, List.length_set, List.length_replicate, List.length_append, List.take_length, List.take_zero, List.drop_length, Option.isNone_none, Heap.none, f1, l0, nJ, nK, n64]
end Go.Pe
set_option linter.unusedVariables false
set_option linter.unusedSimpArgs false
open Go
namespace Go.Pe
def badL (f : Int) (r : List RC) : Bool := decide ((r.length : Int) ≠ f)
def rtV (d : RD) (r : RR) : Int :=
  if d.1 < 0 ∨ 64 < d.1 ∨ r.1 < 0 ∨ 7 < r.1 ∨ r.2 < 1 then 8 else if d.2.1.length ≠ d.2.2.length then 14 else if d.2.1.length = 0 then 15 else if d.2.1.any (badL d.1) then 14 else 0
theorem any_drop {α : Type} {p : α → Bool} {l : List α} {i : Nat} (d : α) (h : i < l.length) : (l.drop i).any p = (p (l.getD i d) || (l.drop (i + 1)).any p) := by
  rw [List.drop_eq_getElem_cons h, List.any_cons, List.getD_eq_getElem?_getD, List.getElem?_eq_getElem h]; rfl
theorem gright_l0 {f : Int} {rows : List (List RC)} {es : List (List AV)} (hl : rows.length ≤ 1000) : ∀ (d i : Nat), i + d = rows.length →
    LP FF [(2, 0), (50, 0), (51, 0), (52, 0)] [(4, 0)] b168_0 [.tp [(AV.i .i64 f), .l 1 (rows.map eRw), .l 3 es] 0, .l 1 (rows.map eRw), (AV.i .i64 ((rows.length : Int))), (AV.i .i64 ((i : Int)))] = if (rows.drop i).any (badL f) then some (.ret, [(AV.i .i64 14)]) else some (.exit 1, [.junk]) := by
  intro d
  induction d with
  | zero =>
    intro i hi
    have c1 : ¬ (i : Int) < (rows.length : Int) := by omega
    rw [List.drop_of_length_le (by omega)]
    rw [LP_go FF b168_0.eq_1]
    simp only [RB, un, St.none, Nat.reduceEqDiff, Nat.reduceAdd, Nat.reduceMul, Nat.reduceMod, Nat.reduceLeDiff, Nat.reduceLT, Int.reduceLT, Int.reduceLE, Int.reduceEq, Int.reduceToNat, Int.reduceSub, Int.reduceNeg, Int.reduceAdd, ↓reduceIte, reduceCtorEq, ite_self, eq_self, if_true, if_false, pack, pid, parN, List.not_mem_nil, List.mem_cons, lid, chkK, apartV, List.map_nil, List.flatMap_nil, List.append_nil, List.nil_append, List.drop_zero, List.length_set, List.length_replicate, List.length_append, List.take_length, List.take_zero, List.drop_length, Option.isNone_none, Heap.none, c1]
    simp
  | succ d ih =>
    intro i hi
    have h9 := ih (i + 1) (by omega)
    have hlt : i < rows.length := by omega
    have c1 : (i : Int) < (rows.length : Int) := by omega
    have e2 : IntKind.i64.wrap ((i : Int) + 1) = ((i + 1 : Nat) : Int) := w64succ (by omega)
    rw [any_drop [] hlt]
    by_cases c2 : ((rows.getD i []).length : Int) = f
    · rw [show badL f (rows.getD i []) = false from by simp only [badL, c2, ne_eq, not_true_eq_false, not_false_eq_true, decide_true, decide_false], Bool.false_or]
      rw [LP_go FF b168_0.eq_1]
      simp only [RB, un, St.none, Nat.reduceEqDiff, Nat.reduceAdd, Nat.reduceMul, Nat.reduceMod, Nat.reduceLeDiff, Nat.reduceLT, Int.reduceLT, Int.reduceLE, Int.reduceEq, Int.reduceToNat, Int.reduceSub, Int.reduceNeg, Int.reduceAdd, ↓reduceIte, reduceCtorEq, ite_self, eq_self, if_true, if_false, pack, pid, parN, List.not_mem_nil, List.mem_cons, lid, chkK, apartV, List.map_nil, List.flatMap_nil, List.append_nil, List.nil_append, List.drop_zero, List.length_set, List.length_replicate, List.length_append, List.take_length, List.take_zero, List.drop_length, Option.isNone_none, Heap.none, c1, c2, e2, eRw_rules, eRw_row, Int.natCast_nonneg]
      exact h9
    · rw [show badL f (rows.getD i []) = true from by simp only [badL, c2, ne_eq, not_true_eq_false, not_false_eq_true, decide_true, decide_false], Bool.true_or, if_pos rfl]
      rw [LP_go FF b168_0.eq_1]
      simp only [RB, un, St.none, Nat.reduceEqDiff, Nat.reduceAdd, Nat.reduceMul, Nat.reduceMod, Nat.reduceLeDiff, Nat.reduceLT, Int.reduceLT, Int.reduceLE, Int.reduceEq, Int.reduceToNat, Int.reduceSub, Int.reduceNeg, Int.reduceAdd, ↓reduceIte, reduceCtorEq, ite_self, eq_self, if_true, if_false, pack, pid, parN, List.not_mem_nil, List.mem_cons, lid, chkK, apartV, List.map_nil, List.flatMap_nil, List.append_nil, List.nil_append, List.drop_zero, List.length_set, List.length_replicate, List.length_append, List.take_length, List.take_zero, List.drop_length, Option.isNone_none, Heap.none, c1, c2, e2, eRw_rules, eRw_row, Int.natCast_nonneg]
theorem right26_l0 {f : Int} {rows : List (List RC)} {es : List (List AV)} (hl : rows.length ≤ 1000) : ∀ (d i : Nat), i + d = rows.length →
    LP FF [(2, 0), (5, 0)] [(4, 0)] b169_0 [.tp [(AV.i .i64 f), .l 1 (rows.map eRw), .l 3 es] 0, (AV.i .i64 ((i : Int)))] = if (rows.drop i).any (badL f) then some (.ret, [(AV.i .i64 14)]) else some (.exit 0, [.junk]) := by
  intro d
  induction d with
  | zero =>
    intro i hi
    have c1 : ¬ (i : Int) < (rows.length : Int) := by omega
    rw [List.drop_of_length_le (by omega)]
    rw [LP_go FF b169_0.eq_1]
    simp only [RB, un, St.none, Nat.reduceEqDiff, Nat.reduceAdd, Nat.reduceMul, Nat.reduceMod, Nat.reduceLeDiff, Nat.reduceLT, Int.reduceLT, Int.reduceLE, Int.reduceEq, Int.reduceToNat, Int.reduceSub, Int.reduceNeg, Int.reduceAdd, ↓reduceIte, reduceCtorEq, ite_self, eq_self, if_true, if_false, pack, pid, parN, List.not_mem_nil, List.mem_cons, lid, chkK, apartV, List.map_nil, List.flatMap_nil, List.append_nil, List.nil_append, List.drop_zero, List.length_set, List.length_replicate, List.length_append, List.take_length, List.take_zero, List.drop_length, Option.isNone_none, Heap.none, c1]
    simp
  | succ d ih =>
    intro i hi
    have h9 := ih (i + 1) (by omega)
    have hlt : i < rows.length := by omega
    have c1 : (i : Int) < (rows.length : Int) := by omega
    have e2 : IntKind.i64.wrap ((i : Int) + 1) = ((i + 1 : Nat) : Int) := w64succ (by omega)
    rw [any_drop [] hlt]
    by_cases c2 : ((rows.getD i []).length : Int) = f
    · rw [show badL f (rows.getD i []) = false from by simp only [badL, c2, ne_eq, not_true_eq_false, not_false_eq_true, decide_true, decide_false], Bool.false_or]
      rw [LP_go FF b169_0.eq_1]
      simp only [RB, un, St.none, Nat.reduceEqDiff, Nat.reduceAdd, Nat.reduceMul, Nat.reduceMod, Nat.reduceLeDiff, Nat.reduceLT, Int.reduceLT, Int.reduceLE, Int.reduceEq, Int.reduceToNat, Int.reduceSub, Int.reduceNeg, Int.reduceAdd, ↓reduceIte, reduceCtorEq, ite_self, eq_self, if_true, if_false, pack, pid, parN, List.not_mem_nil, List.mem_cons, lid, chkK, apartV, List.map_nil, List.flatMap_nil, List.append_nil, List.nil_append, List.drop_zero, List.length_set, List.length_replicate, List.length_append, List.take_length, List.take_zero, List.drop_length, Option.isNone_none, Heap.none, c1, c2, e2, eRw_rules, eRw_row, Int.natCast_nonneg]
      exact h9
    · rw [show badL f (rows.getD i []) = true from by simp only [badL, c2, ne_eq, not_true_eq_false, not_false_eq_true, decide_true, decide_false], Bool.true_or, if_pos rfl]
      rw [LP_go FF b169_0.eq_1]
      simp only [RB, un, St.none, Nat.reduceEqDiff, Nat.reduceAdd, Nat.reduceMul, Nat.reduceMod, Nat.reduceLeDiff, Nat.reduceLT, Int.reduceLT, Int.reduceLE, Int.reduceEq, Int.reduceToNat, Int.reduceSub, Int.reduceNeg, Int.reduceAdd, ↓reduceIte, reduceCtorEq, ite_self, eq_self, if_true, if_false, pack, pid, parN, List.not_mem_nil, List.mem_cons, lid, chkK, apartV, List.map_nil, List.flatMap_nil, List.append_nil, List.nil_append, List.drop_zero, List.length_set, List.length_replicate, List.length_append, List.take_length, List.take_zero, List.drop_length, Option.isNone_none, Heap.none, c1, c2, e2, eRw_rules, eRw_row, Int.natCast_nonneg]
theorem gright_c {d : RD} {r : RR} (h : d.2.1.length ≤ 1000) : R FF 168 [.agg (eD d), .agg (eR r)] = some (AV.i .i64 (rtV d r)) := by
  obtain ⟨f, rows, vals⟩ := d
  obtain ⟨dep, lst⟩ := r
  have l0 := gright_l0 (f := f) (rows := rows) (es := vals.map eQ) (by simpa using h) rows.length 0 (by omega)
  rw [List.drop_zero, Int.ofNat_zero] at l0
  simp only at h
  have c0 : ¬ (1000 : Int) < (rows.length : Int) := by omega
  simp only [eD, eR, rtV]
  by_cases b : f < 0 ∨ 64 < f ∨ dep < 0 ∨ 7 < dep ∨ lst < 1
  · rw [if_pos b]
    by_cases b1 : f < 0
    · rw [R_go FF F168 c168.eq_1]
      simp only [RB, un, St.none, Nat.reduceEqDiff, Nat.reduceAdd, Nat.reduceMul, Nat.reduceMod, Nat.reduceLeDiff, Nat.reduceLT, Int.reduceLT, Int.reduceLE, Int.reduceEq, Int.reduceToNat, Int.reduceSub, Int.reduceNeg, Int.reduceAdd, ↓reduceIte, reduceCtorEq, ite_self, eq_self, if_true, if_false, pack, pid, parN, List.not_mem_nil, List.mem_cons, lid, chkK, apartV, List.map_nil, List.flatMap_nil, List.append_nil, List.nil_append, List.drop_zero, List.length_set, List.length_replicate, List.length_append, List.take_length, List.take_zero, List.drop_length, Option.isNone_none, Heap.none, b1]
    by_cases b2 : 64 < f
    · rw [R_go FF F168 c168.eq_1]
      simp only [RB, un, St.none, Nat.reduceEqDiff, Nat.reduceAdd, Nat.reduceMul, Nat.reduceMod, Nat.reduceLeDiff, Nat.reduceLT, Int.reduceLT, Int.reduceLE, Int.reduceEq, Int.reduceToNat, Int.reduceSub, Int.reduceNeg, Int.reduceAdd, ↓reduceIte, reduceCtorEq, ite_self, eq_self, if_true, if_false, pack, pid, parN, List.not_mem_nil, List.mem_cons, lid, chkK, apartV, List.map_nil, List.flatMap_nil, List.append_nil, List.nil_append, List.drop_zero, List.length_set, List.length_replicate, List.length_append, List.take_length, List.take_zero, List.drop_length, Option.isNone_none, Heap.none, b1, b2]
    by_cases b3 : dep < 0
    · rw [R_go FF F168 c168.eq_1]
      simp only [RB, un, St.none, Nat.reduceEqDiff, Nat.reduceAdd, Nat.reduceMul, Nat.reduceMod, Nat.reduceLeDiff, Nat.reduceLT, Int.reduceLT, Int.reduceLE, Int.reduceEq, Int.reduceToNat, Int.reduceSub, Int.reduceNeg, Int.reduceAdd, ↓reduceIte, reduceCtorEq, ite_self, eq_self, if_true, if_false, pack, pid, parN, List.not_mem_nil, List.mem_cons, lid, chkK, apartV, List.map_nil, List.flatMap_nil, List.append_nil, List.nil_append, List.drop_zero, List.length_set, List.length_replicate, List.length_append, List.take_length, List.take_zero, List.drop_length, Option.isNone_none, Heap.none, b1, b2, b3]
    by_cases b4 : 7 < dep
    · rw [R_go FF F168 c168.eq_1]
      simp only [RB, un, St.none, Nat.reduceEqDiff, Nat.reduceAdd, Nat.reduceMul, Nat.reduceMod, Nat.reduceLeDiff, Nat.reduceLT, Int.reduceLT, Int.reduceLE, Int.reduceEq, Int.reduceToNat, Int.reduceSub, Int.reduceNeg, Int.reduceAdd, ↓reduceIte, reduceCtorEq, ite_self, eq_self, if_true, if_false, pack, pid, parN, List.not_mem_nil, List.mem_cons, lid, chkK, apartV, List.map_nil, List.flatMap_nil, List.append_nil, List.nil_append, List.drop_zero, List.length_set, List.length_replicate, List.length_append, List.take_length, List.take_zero, List.drop_length, Option.isNone_none, Heap.none, b1, b2, b3, b4]
    have b5 : lst < 1 := by omega
    rw [R_go FF F168 c168.eq_1]
    simp only [RB, un, St.none, Nat.reduceEqDiff, Nat.reduceAdd, Nat.reduceMul, Nat.reduceMod, Nat.reduceLeDiff, Nat.reduceLT, Int.reduceLT, Int.reduceLE, Int.reduceEq, Int.reduceToNat, Int.reduceSub, Int.reduceNeg, Int.reduceAdd, ↓reduceIte, reduceCtorEq, ite_self, eq_self, if_true, if_false, pack, pid, parN, List.not_mem_nil, List.mem_cons, lid, chkK, apartV, List.map_nil, List.flatMap_nil, List.append_nil, List.nil_append, List.drop_zero, List.length_set, List.length_replicate, List.length_append, List.take_length, List.take_zero, List.drop_length, Option.isNone_none, Heap.none, b1, b2, b3, b4, b5]
  rw [if_neg b]
  have b1 : ¬ f < 0 := by omega
  have b2 : ¬ 64 < f := by omega
  have b3 : ¬ dep < 0 := by omega
  have b4 : ¬ 7 < dep := by omega
  have b5 : ¬ lst < 1 := by omega
  by_cases h1 : rows.length = vals.length
  · have h1' : (rows.length : Int) = (vals.length : Int) := by omega
    rw [if_neg (by omega)]
    by_cases h2 : rows.length = 0
    · rw [if_pos h2]
      have h2' : (rows.length : Int) = 0 := by omega
      have h2'' : (vals.length : Int) = 0 := by omega
      rw [R_go FF F168 c168.eq_1]
      simp only [RB, un, St.none, Nat.reduceEqDiff, Nat.reduceAdd, Nat.reduceMul, Nat.reduceMod, Nat.reduceLeDiff, Nat.reduceLT, Int.reduceLT, Int.reduceLE, Int.reduceEq, Int.reduceToNat, Int.reduceSub, Int.reduceNeg, Int.reduceAdd, ↓reduceIte, reduceCtorEq, ite_self, eq_self, if_true, if_false, pack, pid, parN, List.not_mem_nil, List.mem_cons, lid, chkK, apartV, List.map_nil, List.flatMap_nil, List.append_nil, List.nil_append, List.drop_zero, List.length_set, List.length_replicate, List.length_append, List.take_length, List.take_zero, List.drop_length, Option.isNone_none, Heap.none, b1, b2, b3, b4, b5, h1', h2', h2'']
    · rw [if_neg h2]
      have h2' : ¬ (rows.length : Int) = 0 := by omega
      have h2'' : ¬ (vals.length : Int) = 0 := by omega
      rw [h1'] at c0 l0
      by_cases h3 : rows.any (badL f) = true
      · rw [if_pos h3] at l0 ⊢
        rw [R_go FF F168 c168.eq_1]
        simp only [RB, un, St.none, Nat.reduceEqDiff, Nat.reduceAdd, Nat.reduceMul, Nat.reduceMod, Nat.reduceLeDiff, Nat.reduceLT, Int.reduceLT, Int.reduceLE, Int.reduceEq, Int.reduceToNat, Int.reduceSub, Int.reduceNeg, Int.reduceAdd, ↓reduceIte, reduceCtorEq, ite_self, eq_self, if_true, if_false, pack, pid, parN, List.not_mem_nil, List.mem_cons, lid, chkK, apartV, List.map_nil, List.flatMap_nil, List.append_nil, List.nil_append, List.drop_zero, List.length_set, List.length_replicate, List.length_append, List.take_length, List.take_zero, List.drop_length, Option.isNone_none, Heap.none, b1, b2, b3, b4, b5, h1', h2', h2'', l0, c0]
      · rw [if_neg h3] at l0 ⊢
        rw [R_go FF F168 c168.eq_1]
        simp only [RB, un, St.none, Nat.reduceEqDiff, Nat.reduceAdd, Nat.reduceMul, Nat.reduceMod, Nat.reduceLeDiff, Nat.reduceLT, Int.reduceLT, Int.reduceLE, Int.reduceEq, Int.reduceToNat, Int.reduceSub, Int.reduceNeg, Int.reduceAdd, ↓reduceIte, reduceCtorEq, ite_self, eq_self, if_true, if_false, pack, pid, parN, List.not_mem_nil, List.mem_cons, lid, chkK, apartV, List.map_nil, List.flatMap_nil, List.append_nil, List.nil_append, List.drop_zero, List.length_set, List.length_replicate, List.length_append, List.take_length, List.take_zero, List.drop_length, Option.isNone_none, Heap.none, b1, b2, b3, b4, b5, h1', h2', h2'', l0, c0]
  · rw [if_pos h1]
    have h1' : ¬ (rows.length : Int) = (vals.length : Int) := by omega
    rw [R_go FF F168 c168.eq_1]
    simp only [RB, un, St.none, Nat.reduceEqDiff, Nat.reduceAdd, Nat.reduceMul, Nat.reduceMod, Nat.reduceLeDiff, Nat.reduceLT, Int.reduceLT, Int.reduceLE, Int.reduceEq, Int.reduceToNat, Int.reduceSub, Int.reduceNeg, Int.reduceAdd, ↓reduceIte, reduceCtorEq, ite_self, eq_self, if_true, if_false, pack, pid, parN, List.not_mem_nil, List.mem_cons, lid, chkK, apartV, List.map_nil, List.flatMap_nil, List.append_nil, List.nil_append, List.drop_zero, List.length_set, List.length_replicate, List.length_append, List.take_length, List.take_zero, List.drop_length, Option.isNone_none, Heap.none, b1, b2, b3, b4, b5, h1']
theorem right26_c {d : RD} {r : RR} (h : d.2.1.length ≤ 1000) : R FF 169 [.agg (eD d), .agg (eR r)] = some (AV.i .i64 (rtV d r)) := by
  obtain ⟨f, rows, vals⟩ := d
  obtain ⟨dep, lst⟩ := r
  have l0 := right26_l0 (f := f) (rows := rows) (es := vals.map eQ) (by simpa using h) rows.length 0 (by omega)
  rw [List.drop_zero, Int.ofNat_zero] at l0
  simp only [eD, eR, rtV]
  by_cases b : f < 0 ∨ 64 < f ∨ dep < 0 ∨ 7 < dep ∨ lst < 1
  · rw [if_pos b]
    by_cases b1 : f < 0
    · rw [R_go FF F169 c169.eq_1]
      simp only [RB, un, St.none, Nat.reduceEqDiff, Nat.reduceAdd, Nat.reduceMul, Nat.reduceMod, Nat.reduceLeDiff, Nat.reduceLT, Int.reduceLT, Int.reduceLE, Int.reduceEq, Int.reduceToNat, Int.reduceSub, Int.reduceNeg, Int.reduceAdd, ↓reduceIte, reduceCtorEq, ite_self, eq_self, if_true, if_false, pack, pid, parN, List.not_mem_nil, List.mem_cons, lid, chkK, apartV, List.map_nil, List.flatMap_nil, List.append_nil, List.nil_append, List.drop_zero, List.length_set, List.length_replicate, List.length_append, List.take_length, List.take_zero, List.drop_length, Option.isNone_none, Heap.none, b1]
    by_cases b2 : 64 < f
    · rw [R_go FF F169 c169.eq_1]
      simp only [RB, un, St.none, Nat.reduceEqDiff, Nat.reduceAdd, Nat.reduceMul, Nat.reduceMod, Nat.reduceLeDiff, Nat.reduceLT, Int.reduceLT, Int.reduceLE, Int.reduceEq, Int.reduceToNat, Int.reduceSub, Int.reduceNeg, Int.reduceAdd, ↓reduceIte, reduceCtorEq, ite_self, eq_self, if_true, if_false, pack, pid, parN, List.not_mem_nil, List.mem_cons, lid, chkK, apartV, List.map_nil, List.flatMap_nil, List.append_nil, List.nil_append, List.drop_zero, List.length_set, List.length_replicate, List.length_append, List.take_length, List.take_zero, List.drop_length, Option.isNone_none, Heap.none, b1, b2]
    by_cases b3 : dep < 0
    · rw [R_go FF F169 c169.eq_1]
      simp only [RB, un, St.none, Nat.reduceEqDiff, Nat.reduceAdd, Nat.reduceMul, Nat.reduceMod, Nat.reduceLeDiff, Nat.reduceLT, Int.reduceLT, Int.reduceLE, Int.reduceEq, Int.reduceToNat, Int.reduceSub, Int.reduceNeg, Int.reduceAdd, ↓reduceIte, reduceCtorEq, ite_self, eq_self, if_true, if_false, pack, pid, parN, List.not_mem_nil, List.mem_cons, lid, chkK, apartV, List.map_nil, List.flatMap_nil, List.append_nil, List.nil_append, List.drop_zero, List.length_set, List.length_replicate, List.length_append, List.take_length, List.take_zero, List.drop_length, Option.isNone_none, Heap.none, b1, b2, b3]
    by_cases b4 : 7 < dep
    · rw [R_go FF F169 c169.eq_1]
      simp only [RB, un, St.none, Nat.reduceEqDiff, Nat.reduceAdd, Nat.reduceMul, Nat.reduceMod, Nat.reduceLeDiff, Nat.reduceLT, Int.reduceLT, Int.reduceLE, Int.reduceEq, Int.reduceToNat, Int.reduceSub, Int.reduceNeg, Int.reduceAdd, ↓reduceIte, reduceCtorEq, ite_self, eq_self, if_true, if_false, pack, pid, parN, List.not_mem_nil, List.mem_cons, lid, chkK, apartV, List.map_nil, List.flatMap_nil, List.append_nil, List.nil_append, List.drop_zero, List.length_set, List.length_replicate, List.length_append, List.take_length, List.take_zero, List.drop_length, Option.isNone_none, Heap.none, b1, b2, b3, b4]
    have b5 : lst < 1 := by omega
    rw [R_go FF F169 c169.eq_1]
    simp only [RB, un, St.none, Nat.reduceEqDiff, Nat.reduceAdd, Nat.reduceMul, Nat.reduceMod, Nat.reduceLeDiff, Nat.reduceLT, Int.reduceLT, Int.reduceLE, Int.reduceEq, Int.reduceToNat, Int.reduceSub, Int.reduceNeg, Int.reduceAdd, ↓reduceIte, reduceCtorEq, ite_self, eq_self, if_true, if_false, pack, pid, parN, List.not_mem_nil, List.mem_cons, lid, chkK, apartV, List.map_nil, List.flatMap_nil, List.append_nil, List.nil_append, List.drop_zero, List.length_set, List.length_replicate, List.length_append, List.take_length, List.take_zero, List.drop_length, Option.isNone_none, Heap.none, b1, b2, b3, b4, b5]
  rw [if_neg b]
  have b1 : ¬ f < 0 := by omega
  have b2 : ¬ 64 < f := by omega
  have b3 : ¬ dep < 0 := by omega
  have b4 : ¬ 7 < dep := by omega
  have b5 : ¬ lst < 1 := by omega
  by_cases h1 : rows.length = vals.length
  · have h1' : (rows.length : Int) = (vals.length : Int) := by omega
    rw [if_neg (by omega)]
    by_cases h2 : rows.length = 0
    · rw [if_pos h2]
      have h2' : (rows.length : Int) = 0 := by omega
      have h2'' : (vals.length : Int) = 0 := by omega
      rw [R_go FF F169 c169.eq_1]
      simp only [RB, un, St.none, Nat.reduceEqDiff, Nat.reduceAdd, Nat.reduceMul, Nat.reduceMod, Nat.reduceLeDiff, Nat.reduceLT, Int.reduceLT, Int.reduceLE, Int.reduceEq, Int.reduceToNat, Int.reduceSub, Int.reduceNeg, Int.reduceAdd, ↓reduceIte, reduceCtorEq, ite_self, eq_self, if_true, if_false, pack, pid, parN, List.not_mem_nil, List.mem_cons, lid, chkK, apartV, List.map_nil, List.flatMap_nil, List.append_nil, List.nil_append, List.drop_zero, List.length_set, List.length_replicate, List.length_append, List.take_length, List.take_zero, List.drop_length, Option.isNone_none, Heap.none, b1, b2, b3, b4, b5, h1', h2', h2'']
    · rw [if_neg h2]
      have h2' : ¬ (rows.length : Int) = 0 := by omega
      have h2'' : ¬ (vals.length : Int) = 0 := by omega
      by_cases h3 : rows.any (badL f) = true
      · rw [if_pos h3] at l0 ⊢
        rw [R_go FF F169 c169.eq_1]
        simp only [RB, un, St.none, Nat.reduceEqDiff, Nat.reduceAdd, Nat.reduceMul, Nat.reduceMod, Nat.reduceLeDiff, Nat.reduceLT, Int.reduceLT, Int.reduceLE, Int.reduceEq, Int.reduceToNat, Int.reduceSub, Int.reduceNeg, Int.reduceAdd, ↓reduceIte, reduceCtorEq, ite_self, eq_self, if_true, if_false, pack, pid, parN, List.not_mem_nil, List.mem_cons, lid, chkK, apartV, List.map_nil, List.flatMap_nil, List.append_nil, List.nil_append, List.drop_zero, List.length_set, List.length_replicate, List.length_append, List.take_length, List.take_zero, List.drop_length, Option.isNone_none, Heap.none, b1, b2, b3, b4, b5, h1', h2', h2'', l0]
      · rw [if_neg h3] at l0 ⊢
        rw [R_go FF F169 c169.eq_1]
        simp only [RB, un, St.none, Nat.reduceEqDiff, Nat.reduceAdd, Nat.reduceMul, Nat.reduceMod, Nat.reduceLeDiff, Nat.reduceLT, Int.reduceLT, Int.reduceLE, Int.reduceEq, Int.reduceToNat, Int.reduceSub, Int.reduceNeg, Int.reduceAdd, ↓reduceIte, reduceCtorEq, ite_self, eq_self, if_true, if_false, pack, pid, parN, List.not_mem_nil, List.mem_cons, lid, chkK, apartV, List.map_nil, List.flatMap_nil, List.append_nil, List.nil_append, List.drop_zero, List.length_set, List.length_replicate, List.length_append, List.take_length, List.take_zero, List.drop_length, Option.isNone_none, Heap.none, b1, b2, b3, b4, b5, h1', h2', h2'', l0]
  · rw [if_pos h1]
    have h1' : ¬ (rows.length : Int) = (vals.length : Int) := by omega
    rw [R_go FF F169 c169.eq_1]
    simp only [RB, un, St.none, Nat.reduceEqDiff, Nat.reduceAdd, Nat.reduceMul, Nat.reduceMod, Nat.reduceLeDiff, Nat.reduceLT, Int.reduceLT, Int.reduceLE, Int.reduceEq, Int.reduceToNat, Int.reduceSub, Int.reduceNeg, Int.reduceAdd, ↓reduceIte, reduceCtorEq, ite_self, eq_self, if_true, if_false, pack, pid, parN, List.not_mem_nil, List.mem_cons, lid, chkK, apartV, List.map_nil, List.flatMap_nil, List.append_nil, List.nil_append, List.drop_zero, List.length_set, List.length_replicate, List.length_append, List.take_length, List.take_zero, List.drop_length, Option.isNone_none, Heap.none, b1, b2, b3, b4, b5, h1']
end Go.Pe
set_option linter.unusedVariables false
set_option linter.unusedSimpArgs false
open Go
namespace Go.Pe
def runV (ov : Nat → List AV → Option AV) (F : Nat → Option PF) : Nat → Nat → List AV → Option AV
  | 0, _, _ => none
  | k + 1, f, xs => match ov f xs with
    | some v => some v
    | none => (F f).bind fun p => (p.body.ev (runV ov F k) (loopF (runV ov F k) k) (un (parN p.lent 0 xs) xs)).bind (finE p)
theorem loopF_R (F : Nat → Option PF) : ∀ k, LeL (loopF (R F) k) (LP F) := by
  intro k
  induction k with
  | zero => intro l o x vs y e; cases e
  | succ k ih =>
    intro l o x vs
    rw [LP_eq]
    exact Le.bind (PC.mono (fun _ _ => Le.refl _) ih x _) fun p => round_mono (ih l o x) p
theorem runV_ok {ov : Nat → List AV → Option AV} {F : Nat → Option PF} (h : LeC ov (R F)) : ∀ k, LeC (runV ov F k) (R F) := by
  intro k
  induction k with
  | zero => intro f xs y e; cases e
  | succ k ih =>
    intro f xs y e
    rw [runV] at e
    cases h9 : ov f xs with
    | some v => rw [h9] at e; exact h f xs y (h9.trans e)
    | none =>
      rw [h9] at e
      rw [R_eq]
      refine Le.bind (Le.refl _) (fun p => Le.bind ?_ fun q => Le.refl _) y e
      exact PC.mono ih (fun l o x vs => Le.trans (loopF_call ih k l o x vs) (loopF_R F k l o x vs)) _ _
def dgf : Nat → Nat → List Int
  | 0, _ => []
  | k + 1, n => if n = 0 then [] else ((n % 4294967296 : Nat) : Int) :: dgf k (n / 4294967296)
theorem dgf_D : ∀ k n, n < 4294967296 ^ k → dgf k n = D n := by
  intro k
  induction k with
  | zero =>
    intro n h
    have : n = 0 := by rw [Nat.pow_zero] at h; omega
    subst this
    exact (Dg.dg_zero _).symm
  | succ k ih =>
    intro n h
    unfold dgf
    by_cases h0 : n = 0
    · rw [if_pos h0, h0]; exact (Dg.dg_zero _).symm
    · rw [if_neg h0]
      show _ = Dg.dg 4294967296 n
      rw [Dg.dg_succ (by decide) h0, ih (n / 4294967296) (by rw [Nat.div_lt_iff_lt_mul (by decide), ← Nat.pow_succ]; exact h)]
      rfl
def encQ (x : Rat) : Option AV :=
  if x.num.natAbs < 4294967296 ^ 20 ∧ x.den < 4294967296 ^ 20 then some (.agg [.b (decide (x.num < 0)), .l 1 ((dgf 20 x.num.natAbs).map u), .l 1 ((dgf 20 x.den).map u)]) else none
theorem encQ_ok {x : Rat} {v : AV} (h : encQ x = some v) : v = (AV.agg [AV.b (ng (Rat.num x)), (AV.l 1 (List.map u (D (Int.natAbs (Rat.num x))))), (AV.l 1 (List.map u (D (Rat.den x))))]) := by
  unfold encQ at h
  split at h
  · rename_i h1
    rw [dgf_D _ _ h1.1, dgf_D _ _ h1.2] at h
    exact (Option.some.inj h).symm
  · cases h
def decW : List (List AV) → Option (List Int)
  | [] => some []
  | [.i .u64 n] :: l => if 0 ≤ n ∧ n ≤ 18446744073709551615 then (decW l).map (n :: ·) else none
  | _ => none
theorem decW_ok : ∀ {es : List (List AV)} {l : List Int}, decW es = some l → es = l.map u ∧ U l := by
  intro es
  induction es with
  | nil => intro l h; cases h; exact ⟨rfl, fun _ h => (List.not_mem_nil h).elim⟩
  | cons e es ih =>
    intro l h
    unfold decW at h
    split at h
    · rename_i h'; cases h'
    · rename_i n l' heq
      cases heq
      split at h
      · rename_i hn
        obtain ⟨l2, h2, rfl⟩ := Option.map_eq_some_iff.1 h
        obtain ⟨g1, g2⟩ := ih h2
        exact ⟨by rw [g1]; rfl, fun x hx => (List.mem_cons.1 hx).elim (fun e => by rw [e]; exact hn) (g2 x)⟩
      · cases h
    · cases h
def decQ : AV → Option (Bool × List Int × List Int)
  | .agg [.b q, .l 1 a, .l 1 b] => (decW a).bind fun l => (decW b).bind fun d => if l.length ≤ 100 ∧ d.length ≤ 100 then some (q, l, d) else none
  | _ => none
theorem decQ_ok {v : AV} {x : Bool × List Int × List Int} (h : decQ v = some x) : v = (AV.agg [AV.b x.1, (AV.l 1 (List.map u x.2.1)), (AV.l 1 (List.map u x.2.2))]) ∧ Sm x.2.1 x.2.2 100 := by
  unfold decQ at h
  split at h
  · rename_i q a b
    obtain ⟨l, h1, h⟩ := Option.bind_eq_some_iff.1 h
    obtain ⟨d, h2, h⟩ := Option.bind_eq_some_iff.1 h
    split at h
    · rename_i hl
      cases h
      obtain ⟨rfl, u1⟩ := decW_ok h1
      obtain ⟨rfl, u2⟩ := decW_ok h2
      exact ⟨rfl, ⟨u1, hl.1⟩, u2, hl.2⟩
    · cases h
  · cases h
def two (g : Rat → Rat → Option AV) : List AV → Option AV
  | [a, b] => (decQ a).bind fun x => (decQ b).bind fun y => g (qv x.1 x.2.1 x.2.2) (qv y.1 y.2.1 y.2.2)
  | _ => none
def one (g : Rat → Option AV) : List AV → Option AV
  | [a] => (decQ a).bind fun x => g (qv x.1 x.2.1 x.2.2)
  | _ => none
theorem two_ok {f : Nat} {g : Rat → Rat → Option AV} (h : ∀ q l d r m e v, Sm l d 100 → Sm m e 100 → g (qv q l d) (qv r m e) = some v → R FF f [(AV.agg [AV.b q, (AV.l 1 (List.map u l)), (AV.l 1 (List.map u d))]), (AV.agg [AV.b r, (AV.l 1 (List.map u m)), (AV.l 1 (List.map u e))])] = some v) : ∀ xs, Le (two g xs) (R FF f xs) := by
  intro xs v hv
  unfold two at hv
  split at hv
  · obtain ⟨x, h1, k1⟩ := Option.bind_eq_some_iff.1 hv
    obtain ⟨y, h2, k2⟩ := Option.bind_eq_some_iff.1 k1
    obtain ⟨e1, s1⟩ := decQ_ok h1
    obtain ⟨e2, s2⟩ := decQ_ok h2
    rw [e1, e2]
    exact h _ _ _ _ _ _ _ s1 s2 k2
  · cases hv
theorem one_ok {f : Nat} {g : Rat → Option AV} (h : ∀ q l d v, Sm l d 100 → g (qv q l d) = some v → R FF f [(AV.agg [AV.b q, (AV.l 1 (List.map u l)), (AV.l 1 (List.map u d))])] = some v) : ∀ xs, Le (one g xs) (R FF f xs) := by
  intro xs v hv
  unfold one at hv
  split at hv
  · obtain ⟨x, h1, k1⟩ := Option.bind_eq_some_iff.1 hv
    obtain ⟨e1, s1⟩ := decQ_ok h1
    rw [e1]
    exact h _ _ _ _ s1 k1
  · cases hv
def ovF (f : Nat) (g : List AV → Option AV) (rest : Nat → List AV → Option AV) (n : Nat) (xs : List AV) : Option AV := if n = f then g xs else rest n xs
theorem ovF_ok {f : Nat} {g : List AV → Option AV} {rest : Nat → List AV → Option AV} (h1 : ∀ xs, Le (g xs) (R FF f xs)) (h2 : LeC rest (R FF)) : LeC (ovF f g rest) (R FF) := by
  intro n xs v h
  unfold ovF at h
  split at h
  · rename_i e; subst e; exact h1 xs v h
  · exact h2 n xs v h
def nothing (n : Nat) (xs : List AV) : Option AV := none
theorem nothing_ok : LeC nothing (R FF) := fun _ _ _ h => by cases h
end Go.Pe
set_option linter.unusedVariables false
set_option linter.unusedSimpArgs false
open Go
namespace Go.Pe
theorem qfrac0 : R FF 95 [(AV.i .i64 1), (AV.i .i64 0)] = some (AV.agg [AV.b (ng (Rat.num ((0 : Rat)))), (AV.l 1 (List.map u (D (Int.natAbs (Rat.num ((0 : Rat))))))), (AV.l 1 (List.map u (D (Rat.den ((0 : Rat))))))]) := (R_some FF).2 ⟨40, by kernel_rfl⟩
def ivn (n : Nat) : Rat := ((n : Int) : Rat)⁻¹
theorem qfracn_c {n : Nat} (hn : n < 1000000) : R FF 95 [(AV.i .i64 1), (AV.i .i64 ((n : Int)))] = some (AV.agg [AV.b (ng (Rat.num ((ivn n)))), (AV.l 1 (List.map u (D (Int.natAbs (Rat.num ((ivn n))))))), (AV.l 1 (List.map u (D (Rat.den ((ivn n))))))]) := by
  cases n with
  | zero =>
    have e : ivn 0 = 0 := by unfold ivn; rw [show (((0 : Nat) : Int) : Rat) = 0 from rfl, Rat.inv_zero]
    rw [e]; exact qfrac0
  | succ n => exact qfrac_c (by omega)
end Go.Pe
set_option linter.unusedVariables false
set_option linter.unusedSimpArgs false
open Go
namespace Go.Pe
theorem ov_add (xs : List AV) : Le (two (fun x y => encQ (x + y)) xs) (R FF 31 xs) := two_ok (fun q l d r m e v h1 h2 h => by rw [encQ_ok h]; exact qadd_s h1 h2 (by omega) (by omega)) xs
theorem ov_sub (xs : List AV) : Le (two (fun x y => encQ (x - y)) xs) (R FF 55 xs) := two_ok (fun q l d r m e v h1 h2 h => by rw [encQ_ok h]; exact qsub_s h1 h2 (by omega) (by omega)) xs
theorem ov_mul (xs : List AV) : Le (two (fun x y => encQ (x * y)) xs) (R FF 94 xs) := two_ok (fun q l d r m e v h1 h2 h => by rw [encQ_ok h]; exact qmul_s h1 h2 (by omega) (by omega)) xs
theorem ov_cmp (xs : List AV) : Le (two (fun x y => some (AV.i .i64 (qcmp x y))) xs) (R FF 14 xs) := two_ok (fun q l d r m e v h1 h2 h => by rw [← Option.some.inj h]; exact qcmp_s h1 h2 (by omega) (by omega)) xs
theorem ov_same (xs : List AV) : Le (two (fun x y => some (.b (decide (x = y)))) xs) (R FF 57 xs) := two_ok (fun q l d r m e v h1 h2 h => by rw [← Option.some.inj h]; exact qsame_s h1 h2 (by omega) (by omega)) xs
theorem ov_sign (xs : List AV) : Le (one (fun x => some (AV.i .i64 (cmp x.num 0))) xs) (R FF 162 xs) := one_ok (fun q l d v h1 h => by rw [← Option.some.inj h]; exact qsign_c (by omega) h1) xs
theorem ov_clean (xs : List AV) : Le (one encQ xs) (R FF 63 xs) := one_ok (fun q l d v h1 h => by rw [encQ_ok h]; exact qclean_s h1 (by omega)) xs
def ofG : List AV → Option AV
  | [.i .i64 n] => if -1000000 < n ∧ n < 1000000 then encQ n else none
  | _ => none
theorem ov_of (xs : List AV) : Le (ofG xs) (R FF 68 xs) := by
  intro v h
  unfold ofG at h
  split at h
  · split at h
    · rw [encQ_ok h]; exact qof_c (by omega) (by omega)
    · cases h
  · cases h
def fracG : List AV → Option AV
  | [.i .i64 1, .i .i64 n] => if 0 ≤ n ∧ n < 1000000 then encQ (ivn n.toNat) else none
  | _ => none
theorem ov_frac (xs : List AV) : Le (fracG xs) (R FF 95 xs) := by
  intro v h
  unfold fracG at h
  split at h
  · rename_i n
    split at h
    · rename_i hn
      rw [encQ_ok h]
      obtain ⟨m, rfl⟩ : ∃ m : Nat, n = m := ⟨n.toNat, by omega⟩
      exact qfracn_c (by omega)
    · cases h
  · cases h
def nilG (x : Rat) : List AV → Option AV
  | [] => encQ x
  | _ => none
theorem ov_zero (xs : List AV) : Le (nilG 0 xs) (R FF 54 xs) := by
  intro v h
  unfold nilG at h
  split at h
  · rw [encQ_ok h]; exact qzero_c
  · cases h
theorem ov_one (xs : List AV) : Le (nilG 1 xs) (R FF 56 xs) := by
  intro v h
  unfold nilG at h
  split at h
  · rw [encQ_ok h]; exact qone_c
  · cases h
def ovQ : Nat → List AV → Option AV :=
  ovF 31 (two fun x y => encQ (x + y)) <| ovF 55 (two fun x y => encQ (x - y)) <| ovF 94 (two fun x y => encQ (x * y)) <| ovF 14 (two fun x y => some (AV.i .i64 (qcmp x y))) <| ovF 57 (two fun x y => some (.b (decide (x = y)))) <| ovF 162 (one fun x => some (AV.i .i64 (cmp x.num 0))) <|
  ovF 63 (one encQ) <| ovF 68 ofG <| ovF 95 fracG <| ovF 54 (nilG 0) <| ovF 56 (nilG 1) nothing
theorem ovQ_ok : LeC ovQ (R FF) :=
  ovF_ok ov_add <| ovF_ok ov_sub <| ovF_ok ov_mul <| ovF_ok ov_cmp <| ovF_ok ov_same <| ovF_ok ov_sign <| ovF_ok ov_clean <| ovF_ok ov_of <| ovF_ok ov_frac <| ovF_ok ov_zero <| ovF_ok ov_one nothing_ok
theorem runQ {k f : Nat} {xs : List AV} {v : AV} (h : runV ovQ FF k f xs = some v) : R FF f xs = some v := runV_ok ovQ_ok k f xs v h
end Go.Pe
set_option linter.unusedVariables false
open Go
namespace Go.Pe
theorem awake26 : R FF 170 [] = some (.b true) := runQ (k := 30) (by kernel_rfl)
end Go.Pe
set_option linter.unusedVariables false
set_option linter.unusedSimpArgs false
open Go
namespace Go.Pe
theorem fD_len (d : RD) : (fD d).2.1.length ≤ 6 := by
  show ((d.2.1.take 6).map (fw 4)).length ≤ 6
  rw [List.length_map]; exact List.length_take_le _ _
theorem law_GrowRights (d : RD) (hd : OkD d) (r : RR) (hr : OkR r) : R FF 143 [.agg (eD d), .agg (eR r)] = some (.b true) := by
  have f1 := few26_c hd
  have f2 := gright_c (d := fD d) (r := r) (Nat.le_trans (fD_len d) (by omega))
  have f3 := right26_c (d := fD d) (r := r) (Nat.le_trans (fD_len d) (by omega))
  have aw := awake26
  generalize fD d = e at *
  generalize rtV e r = v at *
  obtain ⟨f, rows, vals⟩ := d
  obtain ⟨f', rows', vals'⟩ := e
  obtain ⟨dep, lst⟩ := r
  simp only [eD, eR] at f1 f2 f3 ⊢
  rw [R_go FF F143 c143.eq_1]
  simp only [RB, un, St.none, Nat.reduceEqDiff, Nat.reduceAdd, Nat.reduceMul, Nat.reduceMod, Nat.reduceLeDiff, Nat.reduceLT, Int.reduceLT, Int.reduceLE, Int.reduceEq, Int.reduceToNat, Int.reduceSub, Int.reduceNeg, Int.reduceAdd, ↓reduceIte, reduceCtorEq, ite_self, eq_self, if_true, if_false, pack, pid, parN, List.not_mem_nil, List.mem_cons, lid, chkK, apartV, List.map_nil, List.flatMap_nil, List.append_nil, List.nil_append, List.drop_zero, List.length_set, List.length_replicate, List.length_append, List.take_length, List.take_zero, List.drop_length, Option.isNone_none, Heap.none, f1, f2, f3, aw]
end Go.Pe
namespace Go.Pe
open Go Go.Proofs
set_option maxRecDepth 100000
def tabs0 : List (Nat × List AV) := [(0, tab0)]
def FD : Nat → Option PF
  | 14 => some p14
  | 29 => some p29
  | 31 => some p31
  | 54 => some p54
  | 55 => some p55
  | 56 => some p56
  | 57 => some p57
  | 63 => some p63
  | 64 => some p64
  | 65 => some p65
  | 66 => some p66
  | 68 => some p68
  | 71 => some p71
  | 72 => some p72
  | 73 => some p73
  | 74 => some p74
  | 75 => some p75
  | 76 => some p76
  | 77 => some p77
  | 81 => some p81
  | 82 => some p82
  | 83 => some p83
  | 86 => some p86
  | 92 => some p92
  | 94 => some p94
  | 95 => some p95
  | 96 => some p96
  | 97 => some p97
  | 106 => some p106
  | 107 => some p107
  | 108 => some p108
  | 109 => some p109
  | 110 => some p110
  | 111 => some p111
  | 112 => some p112
  | 113 => some p113
  | 114 => some p114
  | 115 => some p115
  | 116 => some p116
  | 117 => some p117
  | 122 => some p122
  | 127 => some p127
  | 128 => some p128
  | 129 => some p129
  | 130 => some p130
  | 131 => some p131
  | 137 => some p137
  | 138 => some p138
  | 139 => some p139
  | 140 => some p140
  | 141 => some p141
  | 143 => some p143
  | 162 => some p162
  | 167 => some p167
  | 168 => some p168
  | 169 => some p169
  | 170 => some p170
  | 214 => some p214
  | 217 => some p217
  | 218 => some p218
  | 238 => some p238
  | 239 => some p239
  | 254 => some p254
  | 255 => some p255
  | 256 => some p256
  | 261 => some p261
  | 262 => some p262
  | 285 => some p285
  | _ => none
def nuD : Nat → Nat
  | 14 => 33
  | 29 => 13
  | 31 => 26
  | 54 => 24
  | 55 => 25
  | 56 => 18
  | 57 => 16
  | 63 => 35
  | 64 => 53
  | 65 => 45
  | 66 => 46
  | 68 => 14
  | 71 => 69
  | 72 => 72
  | 73 => 30
  | 74 => 28
  | 75 => 43
  | 76 => 44
  | 77 => 47
  | 81 => 54
  | 82 => 29
  | 83 => 34
  | 86 => 68
  | 92 => 48
  | 94 => 27
  | 95 => 41
  | 96 => 42
  | 97 => 12
  | 106 => 55
  | 107 => 79
  | 108 => 80
  | 109 => 81
  | 110 => 82
  | 111 => 83
  | 112 => 84
  | 113 => 85
  | 114 => 49
  | 115 => 70
  | 116 => 71
  | 117 => 73
  | 122 => 67
  | 127 => 90
  | 128 => 91
  | 129 => 88
  | 130 => 86
  | 131 => 87
  | 137 => 92
  | 138 => 93
  | 139 => 94
  | 140 => 95
  | 141 => 96
  | 143 => 3
  | 162 => 17
  | 167 => 5
  | 168 => 6
  | 169 => 7
  | 170 => 8
  | 214 => 15
  | 217 => 21
  | 218 => 22
  | 238 => 31
  | 239 => 32
  | 254 => 50
  | 255 => 51
  | 256 => 52
  | 261 => 74
  | 262 => 75
  | 285 => 49
  | _ => 0
theorem M14 : fnOk Tryd.prog (FD, nuD) tabs0 14 p14 = true := by kernel_rfl
theorem M29 : fnOk Tryd.prog (FD, nuD) tabs0 29 p29 = true := by kernel_rfl
theorem M31 : fnOk Tryd.prog (FD, nuD) tabs0 31 p31 = true := by kernel_rfl
theorem M54 : fnOk Tryd.prog (FD, nuD) tabs0 54 p54 = true := by kernel_rfl
theorem M55 : fnOk Tryd.prog (FD, nuD) tabs0 55 p55 = true := by kernel_rfl
theorem M56 : fnOk Tryd.prog (FD, nuD) tabs0 56 p56 = true := by kernel_rfl
theorem M57 : fnOk Tryd.prog (FD, nuD) tabs0 57 p57 = true := by kernel_rfl
theorem M63 : fnOk Tryd.prog (FD, nuD) tabs0 63 p63 = true := by kernel_rfl
theorem M64 : fnOk Tryd.prog (FD, nuD) tabs0 64 p64 = true := by kernel_rfl
theorem M65 : fnOk Tryd.prog (FD, nuD) tabs0 65 p65 = true := by kernel_rfl
theorem M66 : fnOk Tryd.prog (FD, nuD) tabs0 66 p66 = true := by kernel_rfl
theorem M68 : fnOk Tryd.prog (FD, nuD) tabs0 68 p68 = true := by kernel_rfl
theorem M71 : fnOk Tryd.prog (FD, nuD) tabs0 71 p71 = true := by kernel_rfl
theorem M72 : fnOk Tryd.prog (FD, nuD) tabs0 72 p72 = true := by kernel_rfl
theorem M73 : fnOk Tryd.prog (FD, nuD) tabs0 73 p73 = true := by kernel_rfl
theorem M74 : fnOk Tryd.prog (FD, nuD) tabs0 74 p74 = true := by kernel_rfl
theorem M75 : fnOk Tryd.prog (FD, nuD) tabs0 75 p75 = true := by kernel_rfl
theorem M76 : fnOk Tryd.prog (FD, nuD) tabs0 76 p76 = true := by kernel_rfl
theorem M77 : fnOk Tryd.prog (FD, nuD) tabs0 77 p77 = true := by kernel_rfl
theorem M81 : fnOk Tryd.prog (FD, nuD) tabs0 81 p81 = true := by kernel_rfl
theorem M82 : fnOk Tryd.prog (FD, nuD) tabs0 82 p82 = true := by kernel_rfl
theorem M83 : fnOk Tryd.prog (FD, nuD) tabs0 83 p83 = true := by kernel_rfl
theorem M86 : fnOk Tryd.prog (FD, nuD) tabs0 86 p86 = true := by kernel_rfl
theorem M92 : fnOk Tryd.prog (FD, nuD) tabs0 92 p92 = true := by kernel_rfl
theorem M94 : fnOk Tryd.prog (FD, nuD) tabs0 94 p94 = true := by kernel_rfl
theorem M95 : fnOk Tryd.prog (FD, nuD) tabs0 95 p95 = true := by kernel_rfl
theorem M96 : fnOk Tryd.prog (FD, nuD) tabs0 96 p96 = true := by kernel_rfl
theorem M97 : fnOk Tryd.prog (FD, nuD) tabs0 97 p97 = true := by kernel_rfl
theorem M106 : fnOk Tryd.prog (FD, nuD) tabs0 106 p106 = true := by kernel_rfl
theorem M107 : fnOk Tryd.prog (FD, nuD) tabs0 107 p107 = true := by kernel_rfl
theorem M108 : fnOk Tryd.prog (FD, nuD) tabs0 108 p108 = true := by kernel_rfl
theorem M109 : fnOk Tryd.prog (FD, nuD) tabs0 109 p109 = true := by kernel_rfl
theorem M110 : fnOk Tryd.prog (FD, nuD) tabs0 110 p110 = true := by kernel_rfl
theorem M111 : fnOk Tryd.prog (FD, nuD) tabs0 111 p111 = true := by kernel_rfl
theorem M112 : fnOk Tryd.prog (FD, nuD) tabs0 112 p112 = true := by kernel_rfl
theorem M113 : fnOk Tryd.prog (FD, nuD) tabs0 113 p113 = true := by kernel_rfl
theorem M114 : fnOk Tryd.prog (FD, nuD) tabs0 114 p114 = true := by kernel_rfl
theorem M115 : fnOk Tryd.prog (FD, nuD) tabs0 115 p115 = true := by kernel_rfl
theorem M116 : fnOk Tryd.prog (FD, nuD) tabs0 116 p116 = true := by kernel_rfl
theorem M117 : fnOk Tryd.prog (FD, nuD) tabs0 117 p117 = true := by kernel_rfl
theorem M122 : fnOk Tryd.prog (FD, nuD) tabs0 122 p122 = true := by kernel_rfl
theorem M127 : fnOk Tryd.prog (FD, nuD) tabs0 127 p127 = true := by kernel_rfl
theorem M128 : fnOk Tryd.prog (FD, nuD) tabs0 128 p128 = true := by kernel_rfl
theorem M129 : fnOk Tryd.prog (FD, nuD) tabs0 129 p129 = true := by kernel_rfl
theorem M130 : fnOk Tryd.prog (FD, nuD) tabs0 130 p130 = true := by kernel_rfl
theorem M131 : fnOk Tryd.prog (FD, nuD) tabs0 131 p131 = true := by kernel_rfl
theorem M137 : fnOk Tryd.prog (FD, nuD) tabs0 137 p137 = true := by kernel_rfl
theorem M138 : fnOk Tryd.prog (FD, nuD) tabs0 138 p138 = true := by kernel_rfl
theorem M139 : fnOk Tryd.prog (FD, nuD) tabs0 139 p139 = true := by kernel_rfl
theorem M140 : fnOk Tryd.prog (FD, nuD) tabs0 140 p140 = true := by kernel_rfl
theorem M141 : fnOk Tryd.prog (FD, nuD) tabs0 141 p141 = true := by kernel_rfl
theorem M143 : fnOk Tryd.prog (FD, nuD) tabs0 143 p143 = true := by kernel_rfl
theorem M162 : fnOk Tryd.prog (FD, nuD) tabs0 162 p162 = true := by kernel_rfl
theorem M167 : fnOk Tryd.prog (FD, nuD) tabs0 167 p167 = true := by kernel_rfl
theorem M168 : fnOk Tryd.prog (FD, nuD) tabs0 168 p168 = true := by kernel_rfl
theorem M169 : fnOk Tryd.prog (FD, nuD) tabs0 169 p169 = true := by kernel_rfl
theorem M170 : fnOk Tryd.prog (FD, nuD) tabs0 170 p170 = true := by kernel_rfl
theorem M214 : fnOk Tryd.prog (FD, nuD) tabs0 214 p214 = true := by kernel_rfl
theorem M217 : fnOk Tryd.prog (FD, nuD) tabs0 217 p217 = true := by kernel_rfl
theorem M218 : fnOk Tryd.prog (FD, nuD) tabs0 218 p218 = true := by kernel_rfl
theorem M238 : fnOk Tryd.prog (FD, nuD) tabs0 238 p238 = true := by kernel_rfl
theorem M239 : fnOk Tryd.prog (FD, nuD) tabs0 239 p239 = true := by kernel_rfl
theorem M254 : fnOk Tryd.prog (FD, nuD) tabs0 254 p254 = true := by kernel_rfl
theorem M255 : fnOk Tryd.prog (FD, nuD) tabs0 255 p255 = true := by kernel_rfl
theorem M256 : fnOk Tryd.prog (FD, nuD) tabs0 256 p256 = true := by kernel_rfl
theorem M261 : fnOk Tryd.prog (FD, nuD) tabs0 261 p261 = true := by kernel_rfl
theorem M262 : fnOk Tryd.prog (FD, nuD) tabs0 262 p262 = true := by kernel_rfl
theorem M285 : fnOk Tryd.prog (FD, nuD) tabs0 285 p285 = true := by kernel_rfl
theorem FD_ok (g : Nat) (p : PF) (h : FD g = some p) : fnOk Tryd.prog (FD, nuD) tabs0 g p = true ∧ FF g = some p := by
  unfold FD at h
  split at h
  · cases h; exact ⟨M14, rfl⟩
  · cases h; exact ⟨M29, rfl⟩
  · cases h; exact ⟨M31, rfl⟩
  · cases h; exact ⟨M54, rfl⟩
  · cases h; exact ⟨M55, rfl⟩
  · cases h; exact ⟨M56, rfl⟩
  · cases h; exact ⟨M57, rfl⟩
  · cases h; exact ⟨M63, rfl⟩
  · cases h; exact ⟨M64, rfl⟩
  · cases h; exact ⟨M65, rfl⟩
  · cases h; exact ⟨M66, rfl⟩
  · cases h; exact ⟨M68, rfl⟩
  · cases h; exact ⟨M71, rfl⟩
  · cases h; exact ⟨M72, rfl⟩
  · cases h; exact ⟨M73, rfl⟩
  · cases h; exact ⟨M74, rfl⟩
  · cases h; exact ⟨M75, rfl⟩
  · cases h; exact ⟨M76, rfl⟩
  · cases h; exact ⟨M77, rfl⟩
  · cases h; exact ⟨M81, rfl⟩
  · cases h; exact ⟨M82, rfl⟩
  · cases h; exact ⟨M83, rfl⟩
  · cases h; exact ⟨M86, rfl⟩
  · cases h; exact ⟨M92, rfl⟩
  · cases h; exact ⟨M94, rfl⟩
  · cases h; exact ⟨M95, rfl⟩
  · cases h; exact ⟨M96, rfl⟩
  · cases h; exact ⟨M97, rfl⟩
  · cases h; exact ⟨M106, rfl⟩
  · cases h; exact ⟨M107, rfl⟩
  · cases h; exact ⟨M108, rfl⟩
  · cases h; exact ⟨M109, rfl⟩
  · cases h; exact ⟨M110, rfl⟩
  · cases h; exact ⟨M111, rfl⟩
  · cases h; exact ⟨M112, rfl⟩
  · cases h; exact ⟨M113, rfl⟩
  · cases h; exact ⟨M114, rfl⟩
  · cases h; exact ⟨M115, rfl⟩
  · cases h; exact ⟨M116, rfl⟩
  · cases h; exact ⟨M117, rfl⟩
  · cases h; exact ⟨M122, rfl⟩
  · cases h; exact ⟨M127, rfl⟩
  · cases h; exact ⟨M128, rfl⟩
  · cases h; exact ⟨M129, rfl⟩
  · cases h; exact ⟨M130, rfl⟩
  · cases h; exact ⟨M131, rfl⟩
  · cases h; exact ⟨M137, rfl⟩
  · cases h; exact ⟨M138, rfl⟩
  · cases h; exact ⟨M139, rfl⟩
  · cases h; exact ⟨M140, rfl⟩
  · cases h; exact ⟨M141, rfl⟩
  · cases h; exact ⟨M143, rfl⟩
  · cases h; exact ⟨M162, rfl⟩
  · cases h; exact ⟨M167, rfl⟩
  · cases h; exact ⟨M168, rfl⟩
  · cases h; exact ⟨M169, rfl⟩
  · cases h; exact ⟨M170, rfl⟩
  · cases h; exact ⟨M214, rfl⟩
  · cases h; exact ⟨M217, rfl⟩
  · cases h; exact ⟨M218, rfl⟩
  · cases h; exact ⟨M238, rfl⟩
  · cases h; exact ⟨M239, rfl⟩
  · cases h; exact ⟨M254, rfl⟩
  · cases h; exact ⟨M255, rfl⟩
  · cases h; exact ⟨M256, rfl⟩
  · cases h; exact ⟨M261, rfl⟩
  · cases h; exact ⟨M262, rfl⟩
  · cases h; exact ⟨M285, rfl⟩
  · cases h
theorem followsD : Tryd.prog.follows .mixedOrders = true := by kernel_rfl
theorem callsD : CallsOk Tryd.prog (FD, nuD) tabs0 (R FF) := R_ok followsD FD_ok
end Go.Pe
namespace Go.Proofs.YtmdlpmhkpnobeaaDoor.growRights
open Go.Pe
open Go.ChangeShapes Go.WideShapes Go.ChangeAt Go.RowKit
set_option linter.unusedVariables false
theorem own : ownKnob Tryd.prog.godebug = none := by kernel_rfl
theorem laidOut : laidOutB Tryd.prog = true := by kernel_rfl
def laid : List (String × DataW Unit) := [("math/bits.deBruijn64tab", Rows.laid_math_bits_deBruijn64tab)]
def tz : List Int := tab0.map fun | .i _ n => n | _ => 0
theorem tab_rv {W : World} (h : laidMetH Tryd.prog laid W) : Rv W (fun _ => False) Rho.none (.tp tab0 0) (.pointer (some ⟨0, 0, none⟩)) := by
  rw [MakeChecks.laidMetH_plain _ _ _ (by kernel_rfl)] at h
  obtain ⟨ps, ⟨g, t, cs, fuel, p, q, hg, ht, hv, hd, _, _⟩, _, _⟩ := h
  obtain rfl := Option.some.inj ((show Tryd.prog.globalNamed "math/bits.deBruijn64tab" = some 0 by kernel_rfl).symm.trans hg)
  obtain rfl := Option.some.inj ((show (Tryd.prog.globals[0]?).map (·.type) = some 136 by kernel_rfl).symm.trans ht)
  obtain ⟨xs, m, _, ex, _, hl, hel⟩ := DataW.trod_array Tryd.underlying136 hd
  have cE : Tryd.prog.cellsOf 5 = 1 := by kernel_rfl
  have hlen : tz.length = 64 := by decide
  have e0 : (xs.map (·.1)) = tz.map fun n => .lit (.int .u8 n) := (DataW.agg.inj (Prod.mk.inj ex).1).symm
  have cell : ∀ r, r < 64 → W.cell? ⟨0, r, none⟩ = some (.int .u8 (tz.getD r 0)) := by
    intro r hr
    have hE := hel r hr
    rw [cE, Nat.mul_one, List.getElem?_eq_getElem (by omega)] at hE
    obtain ⟨z, e1, e2, _⟩ := DataW.trod_int Tryd.underlying5 hE
    have e4 : (xs.map (·.1))[r]? = (tz.map fun n => (DataW.lit (.int .u8 n) : DataW Unit))[r]? := by rw [e0]
    rw [List.getElem?_map, List.getElem?_map, List.getElem?_eq_getElem (by omega : r < xs.length), List.getElem?_eq_getElem (by omega : r < tz.length), e2] at e4
    have hz : z = tz.getD r 0 := by
      simp only [Option.map_some, Option.some.injEq, DataW.lit.injEq, Lit.int.injEq, true_and] at e4
      rw [e4, List.getD, List.getElem?_eq_getElem (by omega : r < tz.length)]; rfl
    rw [World.var?_cell hg hv r, ← hz]
    have : cs.toList[r]? = some (.int .u8 z) := by
      have h0 : ((cs.toList.drop r).take 1)[0]? = some (.int .u8 z) := by rw [e1]; rfl
      simpa using h0
    simpa using this
  have hb : 0 < W.heap.size := by
    have h0 := cell 0 (by decide)
    rcases Nat.lt_or_ge 0 W.heap.size with h | h
    · exact h
    · unfold World.cell? at h0; rw [Array.getElem?_eq_none h] at h0; cases h0
  refine Rv.tp (o := 0) (base := 0) (fun c => .int .u8 (tz.getD c 0)) (fun h => h) hb (fun c hc => ?_) fun c hc => ?_
  · rw [Nat.zero_add]; exact ⟨cell c hc, rfl⟩
  · have e : tab0 = tz.map (AV.i .u8) := rfl
    have hc' : c < tz.length := by rw [hlen]; exact hc
    rw [e, List.getD_eq_getElem?_getD, List.getElem?_map, List.getD_eq_getElem?_getD, List.getElem?_eq_getElem hc']
    exact Rv.i
set_option maxRecDepth 100000 in
theorem lifted (os : Os) (started : os.Started) (H : Type) (enc : TypeId × Value → H) :
    ReturnsInHanded {} Tryd.checked os 3 .any (fun w args => (Rows.growRightsSpec.pre enc Tryd.prog Tryd.f3 Rows.growRightsRow.domain false w args ∧ laidMetH Tryd.prog laid w) ∧ sizedMet enc Tryd.prog Tryd.f3 (OpenSpec.ofChange Rows.growRightsSpec) false w args) (Rows.growRightsSpec.post enc Tryd.prog Tryd.f3 false true false false) := by
  refine returnsInHanded_of_change_and (C := Tryd.checked) (X := fun w _ => laidMetH Tryd.prog laid w) (fun _ _ _ hh h => h.of_heap hh) own started (by kernel_rfl) Tryd.func3
    (ChangeSpec.witness_shaped (enc := enc) (C := Tryd.checked) (os := os) (X := fun w _ => laidMetH Tryd.prog laid w) false (World.laidAll Tryd.prog os laid) #[.agg #[.int .i64 0, .slice none 0 0, .slice none 0 0], .agg #[.int .i64 0, .int .i64 0]] 8 (World.laidAll_os _ _ _)
      (World.shaped_of_ZipB (by kernel_rfl) (by kernel_rfl)) (by kernel_rfl) (by kernel_rfl) (by kernel_rfl) (by rw [MakeChecks.laidMetH_plain _ _ _ (by kernel_rfl)]; exact laidMet_laidAll _ (by kernel_rfl) (by kernel_rfl))) ?_
  intro W base args ds gs before hval0 hW hcnd hsz0 hL _
  have hval : ∀ (j : Nat) t v, Tryd.f3.params[j]? = some t → args[j]? = some v → Value.okWide Tryd.prog W .any base t v := hval0
  have hW' := hW
  obtain ⟨p, q, hA0, hV, rfl, hfz, hnd⟩ := hW
  have hA : DataW.TrodAll enc Tryd.prog W 0 (fun _ => true) true Tryd.f3.params.toList args.toList ds p := hA0
  rw [Tryd.params3] at hA hval
  obtain ⟨v0, vs0, d0, ds0, pl0, ql0, hargs, rfl, rfl, h0, r0⟩ := trodAll_cons hA
  obtain ⟨v1, vs1, d1, ds1, pl1, ql1, rfl, rfl, rfl, h1, r1⟩ := trodAll_cons r0
  obtain ⟨rfl, rfl, rfl⟩ := trodAll_nil r1
  obtain rfl : args = #[v0, v1] := by cases args; simp_all
  obtain ⟨rfl, rfl⟩ := trodVars_none hV
  have lt0 : ∀ x ∈ pl0, x.block < W.heap.size := by obtain ⟨m, hm⟩ := h0; exact DataW.trod_lt m _ _ _ hm
  obtain ⟨acs0, la0, fa0, rv0⟩ := arg_rv (n := 12) (ks := kD) (hval 0 25 v0 rfl rfl) h0 (by kernel_rfl)
  rw [show isStr Tryd.prog 25 = true by kernel_rfl] at rv0
  obtain ⟨x0, rfl, ok0⟩ := open_D ⟨la0, fa0⟩
  have lt1 : ∀ x ∈ pl1, x.block < W.heap.size := by obtain ⟨m, hm⟩ := h1; exact DataW.trod_lt m _ _ _ hm
  obtain ⟨acs1, la1, fa1, rv1⟩ := arg_rv (n := 12) (ks := kR) (hval 1 27 v1 rfl rfl) h1 (by kernel_rfl)
  rw [show isStr Tryd.prog 27 = true by kernel_rfl] at rv1
  obtain ⟨x1, rfl, ok1⟩ := open_R ⟨la1, fa1⟩
  clear hA0 hval0 hsz0
  have hlaw := law_GrowRights x0 ok0 x1 ok1
  have hx : ∀ j, j < 2 → Rv W (fun _ => False) Rho.none ([AV.agg (eD x0), AV.agg (eR x1)].getD j .junk) (#[v0, v1].getD j undef) := by
    intro j hj
    match j, hj with
    | 0, _ => exact rv0
    | 1, _ => exact rv1
  refine (law_true (F := (FD, nuD)) callsD (g := 143) (p := p143) rfl rfl (by decide) (by kernel_rfl) hlaw (w := W) (vs := #[v0, v1]) (fun q hq => by obtain rfl := List.mem_singleton.1 hq; exact tab_rv hL) rfl hx).mono fun e W' ⟨he, bel⟩ => ?_
  subst he
  exact ⟨_, rfl, _, _, _, [], _, [], hW', trodAll_mk1 (shut_bool Tryd.underlying4 _), (trodAll_cons_mk (Below.trod laidOut (by kernel_rfl) (of_decide_eq_true (by kernel_rfl)) h0 bel lt0) (trodAll_cons_mk (Below.trod laidOut (by kernel_rfl) (of_decide_eq_true (by kernel_rfl)) h1 bel lt1) trodAll_mk0)), rfl, bel.frame _, fun h => by cases h⟩
theorem over : Rows.growRightsRow.holds Tryd.pinned (OpenSpec.ofChange Rows.growRightsSpec) :=
  OpenClaim.holds_of_wide 3 Tryd.f3 rfl rfl rfl rfl rfl rfl rfl ⟨rfl, rfl, rfl, rfl, rfl⟩ rfl rfl rfl rfl rfl (by kernel_rfl) Tryd.func3 (by kernel_rfl)
    (of_decide_eq_true (by kernel_rfl)) (by unfold Func.isWrapper; first | (rw [if_pos (by decide +kernel)]; kernel_rfl) | (rw [if_neg (by decide +kernel)]; exact ⟨rfl, rfl⟩))
    (fun os started H enc _ => lifted os started H enc)
theorem proved : Rows.GrowRightsCardSaid :=
  Claim7.holds_tied_plain_at .later [] [.data] true (true, "29609df87e41c80542653e6faa708e5941954dcd0b246c33437d1c03eae6bab7") false over (fun _ h => by cases h) (by kernel_rfl) (fun _ h => by cases h) growRights_row_tie rfl ⟨rfl, rfl⟩ (by kernel_rfl) rfl
    (fun f fn hf hfn => by
      obtain rfl : f = 3 := Option.some.inj ((show Tryd.prog.funcNamed "dendron/dendronlaw26.GrowRights" = some 3 by kernel_rfl).symm.trans hf) |>.symm
      obtain rfl : fn = Tryd.f3 := (Option.some.inj (Tryd.func3.symm.trans hfn)).symm
      exact ⟨by kernel_rfl, fun j t ht => by
        rw [Tryd.params3] at ht
        have hm : t ∈ [25, 27] := by simpa using Array.mem_of_getElem? ht
        have hall : ([25, 27].all fun u => !Tryd.prog.wantsStandIn u) = true := by kernel_rfl
        exact (show Tryd.prog.wantsStandIn t = false by simpa using List.all_eq_true.1 hall t hm)⟩)
    (by kernel_rfl)
#print axioms proved
end Go.Proofs.YtmdlpmhkpnobeaaDoor.growRights
namespace Go.Proofs.YtmdlpmhkpnobeaaDoor
theorem growRights_holds : Rows.GrowRightsCardSaid := growRights.proved
end Go.Proofs.YtmdlpmhkpnobeaaDoor
