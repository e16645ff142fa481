/- Proved: It shows that the base of any model lies between the least and the greatest leaves' sums. No conditions. -/
import Derived.Test.YtomicjfjbfkikaaDoorBExtremeBetweens4
import Derived.Test.YtomicjfjbfkikaaDoorChecked
import Derived.KernelRfl
import Derived.Test.YtomicjfjbfkikaaDoorRows
import Derived.WalkKit
import Derived.ProofKit
import Derived.OpenShut
import Derived.ShutString
import Derived.ChangeOld
import Derived.Below
import Derived.SizedLaws
import Derived.Test.YtomicjfjbfkikaaDoorCards
import Derived.Test.YtomicjfjbfkikaaDoorTie
import Derived.LaidMore
import Derived.Lay
import Derived.SevenTiedAt
import Derived.Stop.Joined
import Derived.Handed
import Derived.LaidLaws
set_option linter.unusedVariables false
set_option linter.unusedSimpArgs false
open List renaming getD_eq_getElem?_getD → za, getElem?_eq_getElem → ze, take_of_length_le → zg, take_length → zh, length_take → zi, replicate → zk, length_append → zl, mem_cons_self → zm, mem_cons_of_mem → zn, length_map → zr, length_replicate → zt, length_cons → zw, length_set → zx, mem_singleton → zz
open Option renaming map_eq_some_iff → zb, bind_eq_some_iff → zc, bind_some → zq
open Bool renaming and_eq_true → zd
open Int renaming natCast_nonneg → zf, mul_le_mul_of_nonneg_right → zj, natAbs → zy
open Nat renaming mul_le_mul_right → zo, le_refl → zp, le_trans → zu, add_mul → zA, zero_add → zB
open Rat renaming num → zC
open Go
namespace Go.Pe
def kids (n : RNd) : List Nat := if n.leaf then [] else [n.rgt.toNat, n.lft.toNat]
def cntN (j : Nat) (n : RNd) : Nat := if n.leaf then 0 else (if n.lft.toNat = j then 1 else 0) + (if n.rgt.toNat = j then 1 else 0)
def cnt (j : Nat) : List RNd → Nat
 | [] => 0
 | n :: l => cntN j n + cnt j l
theorem bump_cnt {P : List Int} {n : RNd} (hn : n.leaf = false → n.lft.toNat < P.length ∧ n.rgt.toNat < P.length) (j : Nat) : (bump P n).getD j 0 = P.getD j 0 + (cntN j n : Nat) := by
 unfold bump cntN
 cases hl : n.leaf with
 | true => simp
 | false =>
  obtain ⟨h1, h2⟩ := hn hl
  simp only [Bool.false_eq_true, if_false]
  rw [getD_set, getD_set, getD_set, zx]
  by_cases e1 : n.lft.toNat = j <;> by_cases e2 : n.rgt.toNat = j
  ·have e3 : n.lft.toNat = n.rgt.toNat := by omega
   rw [if_pos ⟨e2, h2⟩, if_pos ⟨e3, h1⟩, if_pos e1, if_pos e2, e1]; omega
  ·rw [if_neg (fun h => e2 h.1), if_pos ⟨e1, h1⟩, if_pos e1, if_neg e2, e1]; omega
  ·have e3 : ¬ n.lft.toNat = n.rgt.toNat := by omega
   rw [if_pos ⟨e2, h2⟩, if_neg (fun h => e3 h.1), if_neg e1, if_pos e2, e2]; omega
  ·rw [if_neg (fun h => e2 h.1), if_neg (fun h => e1 h.1), if_neg e1, if_neg e2]; omega
theorem foldl_cnt : ∀ (l : List RNd) (P : List Int), (∀ n ∈ l, n.leaf = false → n.lft.toNat < P.length ∧ n.rgt.toNat < P.length) → ∀ j, (l.foldl bump P).getD j 0 = P.getD j 0 + (cnt j l : Nat) := by
 intro l
 induction l with
 | nil => intro P _ j; show P.getD j 0 = P.getD j 0 + ((0 : Nat) : Int); omega
 | cons n l ih =>
  intro P h j
  have h1 := bump_cnt (h n (zm ..)) j
  have h2 := ih (bump P n) (fun m hm => by rw [bump_len]; exact h m (zn _ hm)) j
  rw [List.foldl_cons, h2, h1]
  show _ = _ + ((cntN j n + cnt j l : Nat) : Int)
  omega
theorem parL_cnt {t : List RNd} (h : ∀ n ∈ t, n.leaf = false → n.lft.toNat < t.length ∧ n.rgt.toNat < t.length) (j : Nat) : (parL t).getD j 0 = (cnt j t : Nat) := by
 unfold parL
 rw [foldl_cnt t _ (fun n hn hl => by rw [zt]; exact h n hn hl)]
 have e : (zk t.length (0 : Int)).getD j 0 = 0 := by
  rw [za, List.getElem?_replicate]
  split <;> rfl
 rw [e]; omega
theorem cntN_kids {j : Nat} {n : RNd} (h : j ∈ kids n) : 1 ≤ cntN j n := by
 unfold kids at h
 unfold cntN
 split at h
 ·exact (List.not_mem_nil h).elim
 ·rename_i hl
  rw [if_neg hl]
  simp only [List.mem_cons, List.not_mem_nil, or_false] at h
  rcases h with rfl | rfl <;> simp
theorem cnt_one : ∀ (l : List RNd) (i j : Nat), i < l.length → j ∈ kids (l.getD i dNd) → 1 ≤ cnt j l := by
 intro l
 induction l with
 | nil => intro i j h; exact absurd h (Nat.not_lt_zero _)
 | cons n l ih =>
  intro i j hi hk
  show 1 ≤ cntN j n + cnt j l
  cases i with
  | zero => have := cntN_kids (show j ∈ kids n from hk); omega
  | succ i => have := ih i j (by rw [zw] at hi; omega) hk; omega
theorem cnt_two : ∀ (l : List RNd) (i i' j : Nat), i < i' → i' < l.length → j ∈ kids (l.getD i dNd) → j ∈ kids (l.getD i' dNd) → 2 ≤ cnt j l := by
 intro l
 induction l with
 | nil => intro i i' j _ h; exact absurd h (Nat.not_lt_zero _)
 | cons n l ih =>
  intro i i' j hlt hi hk hk'
  show 2 ≤ cntN j n + cnt j l
  cases i' with
  | zero => omega
  | succ i' =>
   rw [zw] at hi
   cases i with
   | zero =>
    have h1 := cntN_kids (show j ∈ kids n from hk)
    have h2 := cnt_one l i' j (by omega) hk'
    omega
   | succ i => have := ih i i' j (by omega) (by omega) hk hk'; omega
theorem cnt_dup : ∀ (l : List RNd) (i : Nat), i < l.length → (l.getD i dNd).leaf = false → (l.getD i dNd).lft.toNat = (l.getD i dNd).rgt.toNat → 2 ≤ cnt (l.getD i dNd).lft.toNat l := by
 intro l
 induction l with
 | nil => intro i h; exact absurd h (Nat.not_lt_zero _)
 | cons n l ih =>
  intro i hi hl he
  cases i with
  | zero =>
   have hl : n.leaf = false := hl
   have he : n.lft.toNat = n.rgt.toNat := he
   show 2 ≤ cntN n.lft.toNat n + cnt n.lft.toNat l
   unfold cntN
   rw [hl, if_neg (by decide), if_pos rfl, if_pos he.symm]; omega
  | succ i =>
   have := ih i (by rw [zw] at hi; omega) hl he
   show 2 ≤ cntN (l.getD i dNd).lft.toNat n + cnt (l.getD i dNd).lft.toNat l
   omega
structure Par (t : List RNd) : Prop where
 rng : ∀ i, i < t.length → ∀ c ∈ kids (t.getD i dNd), 1 ≤ c ∧ c < t.length
 one : ∀ j, 0 < j → j < t.length → cnt j t = 1
theorem Par.uniq {t : List RNd} (h : Par t) {i i' c : Nat} (hi : i < t.length) (hi' : i' < t.length) (hc : c ∈ kids (t.getD i dNd)) (hc' : c ∈ kids (t.getD i' dNd)) : i = i' := by
 obtain ⟨r1, r2⟩ := h.rng i hi c hc
 have h1 := h.one c (by omega) r2
 rcases Nat.lt_trichotomy i i' with hl | hl | hl
 ·have := cnt_two t i i' c hl hi' hc hc'; omega
 ·exact hl
 ·have := cnt_two t i' i c hl hi hc' hc; omega
theorem Par.nd {t : List RNd} (h : Par t) {i : Nat} (hi : i < t.length) : (kids (t.getD i dNd)).Nodup := by
 have hr := h.rng i hi
 have hd := cnt_dup t i hi
 unfold kids at *
 cases hl : (t.getD i dNd).leaf with
 | true => simp
 | false =>
  rw [hl] at hr hd
  simp only [Bool.false_eq_true, if_false] at hr ⊢
  have hne : (t.getD i dNd).rgt.toNat ≠ (t.getD i dNd).lft.toNat := fun e => by
   have h2 := hd rfl e.symm
   have r := hr (t.getD i dNd).lft.toNat (by simp)
   have := h.one _ (by omega) r.2
   omega
  exact List.nodup_cons.2 ⟨fun hm => hne (List.mem_singleton.1 hm), List.nodup_cons.2 ⟨List.not_mem_nil, List.nodup_nil⟩⟩
def dfs (t : List RNd) : Nat → List Nat → Option (List Nat)
 | _, [] => some []
 | 0, _ :: _ => none
 | k + 1, a :: S => (dfs t k (kids (t.getD a dNd) ++ S)).map (a :: ·)
theorem nodup_len : ∀ (n : Nat) {l : List Nat}, l.Nodup → (∀ x ∈ l, x < n) → l.length ≤ n := by
 intro n
 induction n with
 | zero =>
  intro l _ hl
  cases l with
  | nil => exact zp _
  | cons a l => exact absurd (hl a (zm ..)) (Nat.not_lt_zero _)
 | succ n ih =>
  intro l h hl
  by_cases hm : n ∈ l
  ·have h1 := ih (h.erase n) (fun x hx => by
    have h2 := (h.mem_erase_iff).1 hx
    have h3 := hl x h2.2
    omega)
   rw [List.length_erase_of_mem hm] at h1
   omega
  ·have h1 := ih h (fun x hx => by
    have h3 := hl x hx
    have h4 : x ≠ n := fun e => hm (e ▸ hx)
    omega)
   omega
theorem dfs_some {t : List RNd} (h : Par t) : ∀ (k : Nat) (V S : List Nat), (V ++ S).Nodup → (∀ c ∈ V ++ S, c < t.length) → (∀ c ∈ V ++ S, c = 0 ∨ ∃ p ∈ V, c ∈ kids (t.getD p dNd)) → t.length ≤ V.length + k →
  ∃ vis, dfs t k S = some vis ∧ (V ++ vis).Nodup ∧ (∀ c ∈ vis, c < t.length) ∧ ∀ c ∈ S, c ∈ vis := by
 intro k
 induction k with
 | zero =>
  intro V S hnd hlt hp hk
  cases S with
  | nil => exact ⟨[], rfl, hnd, fun _ h => (List.not_mem_nil h).elim, fun _ h => (List.not_mem_nil h).elim⟩
  | cons a S =>
   have := nodup_len t.length hnd hlt
   rw [zl, zw] at this
   omega
 | succ k ih =>
  intro V S hnd hlt hp hk
  cases S with
  | nil => exact ⟨[], rfl, hnd, fun _ h => (List.not_mem_nil h).elim, fun _ h => (List.not_mem_nil h).elim⟩
  | cons a S =>
   have ha : a < t.length := hlt a (by simp)
   have hk1 : ∀ c ∈ kids (t.getD a dNd), c ∉ V ++ a :: S := by
    intro c hc hm
    have hr := h.rng a ha c hc
    rcases hp c hm with h0 | ⟨p, hpV, hpc⟩
    ·omega
    ·have hpl : p < t.length := hlt p (by simp [hpV])
     have e := h.uniq hpl ha hpc hc
     subst e
     have := (List.nodup_append.1 hnd).2.2 p hpV p (zm ..)
     exact this rfl
   have hnd2 : (V ++ [a] ++ (kids (t.getD a dNd) ++ S)).Nodup := by
    rw [List.nodup_append] at hnd ⊢
    obtain ⟨n1, n2, n3⟩ := hnd
    obtain ⟨n4, n5⟩ := List.nodup_cons.1 n2
    refine ⟨?_, ?_, ?_⟩
    ·rw [List.nodup_append]
     exact ⟨n1, by simp, fun x hx y hy => by rw [List.mem_singleton.1 hy]; exact n3 x hx a (zm ..)⟩
    ·rw [List.nodup_append]
     exact ⟨h.nd ha, n5, fun x hx y hy e => hk1 x hx (by rw [e]; simp [hy])⟩
    ·intro x hx y hy e
     subst e
     rcases List.mem_append.1 hy with hy | hy
     ·rcases List.mem_append.1 hx with hx | hx
      ·exact hk1 x hy (by simp [hx])
      ·rw [List.mem_singleton.1 hx] at hy; exact hk1 a hy (by simp)
     ·rcases List.mem_append.1 hx with hx | hx
      ·exact n3 x hx x (zn _ hy) rfl
      ·rw [List.mem_singleton.1 hx] at hy; exact n4 hy
   obtain ⟨vis, v1, v2, v3, v4⟩ := ih (V ++ [a]) (kids (t.getD a dNd) ++ S) hnd2 (fun c hc => by
    simp only [List.mem_append, zz] at hc
    rcases hc with (hc | hc) | (hc | hc)
    ·exact hlt c (by simp [hc])
    ·rw [hc]; exact ha
    ·exact (h.rng a ha c hc).2
    ·exact hlt c (by simp [hc])) (fun c hc => by
    simp only [List.mem_append, zz] at hc
    rcases hc with (hc | hc) | (hc | hc)
    ·rcases hp c (by simp [hc]) with h0 | ⟨p, hpV, hpc⟩
     ·exact .inl h0
     ·exact .inr ⟨p, by simp [hpV], hpc⟩
    ·rcases hp c (by simp [hc]) with h0 | ⟨p, hpV, hpc⟩
     ·exact .inl h0
     ·exact .inr ⟨p, by simp [hpV], hpc⟩
    ·exact .inr ⟨a, by simp, hc⟩
    ·rcases hp c (by simp [hc]) with h0 | ⟨p, hpV, hpc⟩
     ·exact .inl h0
     ·exact .inr ⟨p, by simp [hpV], hpc⟩) (by rw [zl, List.length_singleton]; omega)
   refine ⟨a :: vis, by rw [dfs, v1]; rfl, by rwa [List.append_assoc] at v2, fun c hc => ?_, fun c hc => ?_⟩
   ·rcases List.mem_cons.1 hc with rfl | hc
    ·exact ha
    ·exact v3 c hc
   ·rcases List.mem_cons.1 hc with rfl | hc
    ·exact zm ..
    ·exact zn _ (v4 c (List.mem_append_right _ hc))
def eB (b : Bool) : List AV := [.b b]
theorem eB_rules : (∀ x, (eB x).length = 1) ∧ (∀ h x, (eB x).map (tellC h) = eB x) ∧ (∀ h x, (eB x).map (tell0 h) = eB x) ∧ (∀ h x, (eB x).flatMap (refC h) = []) ∧ (∀ x, (eB x).flatMap ref0 = []) ∧
  (∀ x, ldC false 1 0 (eB x) = some (.b x)) := by
 refine ⟨?_, ?_, ?_, ?_, ?_, ?_⟩ <;> intros <;> rfl
theorem eB_row : type_of% (row_rules eB false 1 (fun _ => rfl) (fun _ _ => rfl)) := row_rules eB false 1 (fun _ => rfl) (fun _ _ => rfl)
theorem shape_l1 {t : List RNd} (ht : t.length ≤ 100000) (hp : Par t) : ∀ (k : Nat) (S : List Nat) (seen : List Bool) (vis : List Nat), dfs t k S = some vis → (∀ c ∈ S, c < t.length) → seen.length = t.length →
  (∀ c ∈ vis, c < t.length) → S.length + k ≤ 1000000 →
  LP FF [(9, 1), (10, 1), (0, 0)] [(9, 0)] b250_1 [.own true 1 (seen.map eB), .own true 1 (S.reverse.map eX), .l 14 (t.map eNd)] = some (.exit 4, [.l 1 ((vis.foldl (fun s a => s.set a true) seen).map eB)]) := by
 intro k
 induction k with
 | zero =>
  intro S seen vis hd hS hs hv hk
  cases S with
  | nil =>
   cases hd
   rw [List.foldl_nil]
   rw [LP_go FF b250_1.eq_1]
   simp only [RB, RL, un, St.none, Nat.reduceEqDiff, Nat.reduceAdd, Nat.reduceMul, Nat.reduceMod, Nat.reduceLeDiff, Nat.reduceLT, Int.reduceLT, Int.reduceLE, Int.reduceEq, Int.reduceToNat, Int.reduceSub, Int.reduceNeg, Int.reduceAdd, ↓reduceIte, reduceCtorEq, pack, pid, parN, lid, chkK, apartV, Heap.none, eB_rules, eB_row, eX_rules, eX_row, zh, List.reverse_nil]
  | cons a S => cases hd
 | succ k ih =>
  intro S seen vis hd hS hs hv hk
  cases S with
  | nil =>
   cases hd
   rw [List.foldl_nil]
   rw [LP_go FF b250_1.eq_1]
   simp only [RB, RL, un, St.none, Nat.reduceEqDiff, Nat.reduceAdd, Nat.reduceMul, Nat.reduceMod, Nat.reduceLeDiff, Nat.reduceLT, Int.reduceLT, Int.reduceLE, Int.reduceEq, Int.reduceToNat, Int.reduceSub, Int.reduceNeg, Int.reduceAdd, ↓reduceIte, reduceCtorEq, pack, pid, parN, lid, chkK, apartV, Heap.none, eB_rules, eB_row, eX_rules, eX_row, zh, List.reverse_nil]
  | cons a S =>
   have ha : a < t.length := hS a (zm ..)
   rw [dfs] at hd
   obtain ⟨vis', hd', rfl⟩ := Option.map_eq_some_iff.1 hd
   have hkl : (kids (t.getD a dNd)).length ≤ 2 := by unfold kids; split <;> simp
   have hv' : ∀ c ∈ vis', c < t.length := fun c hc => hv c (zn _ hc)
   have h9 := ih (kids (t.getD a dNd) ++ S) (seen.set a true) vis' hd' (fun c hc => by
    rcases List.mem_append.1 hc with hc | hc
    ·exact (hp.rng a ha c hc).2
    ·exact hS c (zn _ hc)) (by rw [zx, hs]) hv' (by
     rw [zl]; rw [zw] at hk; omega)
   rw [List.foldl_cons, List.reverse_cons]
   rw [List.reverse_append] at h9
   have hrl : S.reverse.length = S.length := List.length_reverse ..
   rw [zw] at hk
   generalize S.reverse = Q at *
   have hQ : Q.length = S.length := hrl
   have hl1 : (Q ++ [a]).length = Q.length + 1 := by rw [zl, List.length_singleton]
   have hg : (Q ++ [a]).getD Q.length 0 = a := by rw [za, List.getElem?_append_right (zp _), Nat.sub_self]; rfl
   have mt : List.take Q.length (Q ++ [a]) = Q := List.take_left
   have c0 : 0 < ((Q.length + 1 : Nat) : Int) := by omega
   have e1 : IntKind.i64.wrap (((Q.length + 1 : Nat) : Int) - 1) = (Q.length : Int) := by rw [w64 (by omega) (by omega)]; omega
   have c1 : (Q.length : Int) < ((Q.length + 1 : Nat) : Int) := by omega
   have c2 : Q.length < Q.length + 1 := by omega
   have c3 : (Q.length : Int) ≤ ((Q.length + 1 : Nat) : Int) := by omega
   have c4 : Q.length ≤ Q.length + 1 := by omega
   have d1 : (a : Int) < (t.length : Int) := by omega
   have hss : (seen.set a true).length = t.length := by rw [zx, hs]
   have hpc : putC 1 (List.map eB seen) a 0 [AV.b true] = List.map eB (seen.set a true) := eB_row.2.2.2.1 seen a true
   have hst : List.take t.length (seen.set a true) = seen.set a true := zg (by omega)
   generalize hsn : seen.set a true = seen' at *
   have hrn := hp.rng a ha
   obtain ⟨x, hx⟩ : ∃ x, x = t.getD a dNd := ⟨_, rfl⟩
   rw [← hx] at h9 hkl hrn
   have hx' := hx.symm
   obtain ⟨xl, xf, xc, xa, xb, xm, xv, xw⟩ := x
   cases xl with
   | true =>
    rw [show kids ⟨true, xf, xc, xa, xb, xm, xv, xw⟩ = [] from rfl, List.reverse_nil, List.append_nil] at h9
    rw [LP_go FF b250_1.eq_1]
    simp only [RB, RL, un, St.none, Nat.reduceEqDiff, Nat.reduceAdd, Nat.reduceMul, Nat.reduceMod, Nat.reduceLeDiff, Nat.reduceLT, Int.reduceLT, Int.reduceLE, Int.reduceEq, Int.reduceToNat, Int.reduceSub, Int.reduceNeg, Int.reduceAdd, ↓reduceIte, reduceCtorEq, pack, pid, parN, lid, chkK, apartV, Heap.none, eB_rules, eB_row, eX_rules, eX_row, eNd_rules, eNd_row, eNd, hx', zh, hl1, hg, mt, c0, e1, c1, c2, c3, c4, d1, ha, hs, hpc, hst, hss, zf, Int.le_refl]
    exact h9
   | false =>
    have r1 : 1 ≤ xb.toNat ∧ xb.toNat < t.length := hrn xb.toNat (by show _ ∈ [xb.toNat, xa.toNat]; simp)
    have r2 : 1 ≤ xa.toNat ∧ xa.toNat < t.length := hrn xa.toNat (by show _ ∈ [xb.toNat, xa.toNat]; simp)
    obtain ⟨p, rfl⟩ : ∃ p : Nat, xa = p := ⟨xa.toNat, by omega⟩
    obtain ⟨q, rfl⟩ : ∃ q : Nat, xb = q := ⟨xb.toNat, by omega⟩
    rw [show (kids ⟨false, xf, xc, (p : Int), (q : Int), xm, xv, xw⟩).reverse = [p, q] from rfl] at h9
    have m1 : List.map eX Q ++ [[AV.i .i64 (p : Int)], [AV.i .i64 (q : Int)]] = List.map eX (Q ++ [p, q]) := by rw [List.map_append]; rfl
    have m2 : List.take (Q.length + 2) (Q ++ [p, q]) = Q ++ [p, q] := zg (by rw [zl]; exact zp _)
    have b2 : (Q.length + 2) * 8 ≤ 140737488355328 := by omega
    rw [LP_go FF b250_1.eq_1]
    simp only [RB, RL, un, St.none, Nat.reduceEqDiff, Nat.reduceAdd, Nat.reduceMul, Nat.reduceMod, Nat.reduceLeDiff, Nat.reduceLT, Int.reduceLT, Int.reduceLE, Int.reduceEq, Int.reduceToNat, Int.reduceSub, Int.reduceNeg, Int.reduceAdd, ↓reduceIte, reduceCtorEq, pack, pid, parN, lid, chkK, apartV, Heap.none, eB_rules, eB_row, eX_rules, eX_row, eNd_rules, eNd_row, eNd, hx', zh, hl1, hg, mt, c0, e1, c1, c2, c3, c4, d1, ha, hs, hpc, hst, hss, zf, Int.le_refl, n64, m1, m2, b2]
    exact h9
theorem marks (vis : List Nat) : ∀ (s : List Bool) (j : Nat), (vis.foldl (fun s a => s.set a true) s).length = s.length ∧ ((vis.foldl (fun s a => s.set a true) s).getD j false = true ↔ s.getD j false = true ∨ (j ∈ vis ∧ j < s.length)) := by
 induction vis with
 | nil => intro s j; exact ⟨rfl, ⟨.inl, fun h => h.elim id fun h => (List.not_mem_nil h.1).elim⟩⟩
 | cons a vis ih =>
  intro s j
  obtain ⟨h1, h2⟩ := ih (s.set a true) j
  rw [zx] at h1 h2
  refine ⟨h1, ?_⟩
  rw [List.foldl_cons, h2]
  have e : (s.set a true).getD j false = true ↔ s.getD j false = true ∨ (j = a ∧ j < s.length) := by
   rw [za, za, List.getElem?_set]
   by_cases h : a = j
   ·subst h
    by_cases h3 : a < s.length
    ·rw [if_pos rfl, if_pos h3]; simp [h3]
    ·rw [if_pos rfl, if_neg h3, List.getElem?_eq_none (by omega)]; simp [h3]
   ·rw [if_neg h]
    constructor
    ·exact .inl
    ·rintro (k | k)
     ·exact k
     ·exact (h k.1.symm).elim
  rw [e, List.mem_cons]
  constructor
  ·rintro ((k | k) | k)
   ·exact .inl k
   ·exact .inr ⟨.inl k.1, k.2⟩
   ·exact .inr ⟨.inr k.1, k.2⟩
  ·rintro (k | ⟨k | k, k2⟩)
   ·exact .inl (.inl k)
   ·exact .inl (.inr ⟨k, k2⟩)
   ·exact .inr ⟨k, k2⟩
theorem shape_l0 {s : List Bool} (hs : s.length ≤ 100000) : ∀ (d i : Nat), i + d = s.length →
  (∃ j, j < s.length ∧ s.getD j false = false ∧ LP FF [(92, 0), (93, 0), (94, 0)] [(2, 0), (3, 0)] b250_0 [.l 1 (s.map eB), (AV.i .i64 ((s.length : Int))), (AV.i .i64 ((i : Int)))] = some (.ret, [(AV.i .i64 ((j : Int))), (AV.i .i64 11)])) ∨
  ((∀ j, i ≤ j → j < s.length → s.getD j false = true) ∧ LP FF [(92, 0), (93, 0), (94, 0)] [(2, 0), (3, 0)] b250_0 [.l 1 (s.map eB), (AV.i .i64 ((s.length : Int))), (AV.i .i64 ((i : Int)))] = some (.exit 6, [.junk, .junk])) := by
 intro d
 induction d with
 | zero =>
  intro i hi
  refine .inr ⟨fun j h1 h2 => by omega, ?_⟩
  have c1 : ¬ (i : Int) < (s.length : Int) := by omega
  rw [LP_go FF b250_0.eq_1]
  simp only [RB, RL, un, St.none, Nat.reduceEqDiff, Nat.reduceAdd, Nat.reduceMul, Nat.reduceMod, Nat.reduceLeDiff, Nat.reduceLT, Int.reduceLT, Int.reduceLE, Int.reduceEq, Int.reduceToNat, Int.reduceSub, Int.reduceNeg, Int.reduceAdd, ↓reduceIte, reduceCtorEq, pack, pid, parN, lid, chkK, apartV, Heap.none, c1]
 | succ d ih =>
  intro i hi
  have hlt : i < s.length := by omega
  have c1 : (i : Int) < (s.length : Int) := by omega
  have e2 : IntKind.i64.wrap ((i : Int) + 1) = ((i + 1 : Nat) : Int) := w64succ (by omega)
  cases h1 : s.getD i false with
  | true =>
   have step : LP FF [(92, 0), (93, 0), (94, 0)] [(2, 0), (3, 0)] b250_0 [.l 1 (s.map eB), (AV.i .i64 ((s.length : Int))), (AV.i .i64 ((i : Int)))] = LP FF [(92, 0), (93, 0), (94, 0)] [(2, 0), (3, 0)] b250_0 [.l 1 (s.map eB), (AV.i .i64 ((s.length : Int))), (AV.i .i64 (((i + 1 : Nat) : Int)))] := by
    rw [LP_go FF b250_0.eq_1]
    simp only [RB, RL, un, St.none, Nat.reduceEqDiff, Nat.reduceAdd, Nat.reduceMul, Nat.reduceMod, Nat.reduceLeDiff, Nat.reduceLT, Int.reduceLT, Int.reduceLE, Int.reduceEq, Int.reduceToNat, Int.reduceSub, Int.reduceNeg, Int.reduceAdd, ↓reduceIte, reduceCtorEq, pack, pid, parN, lid, chkK, apartV, Heap.none, c1, h1, eB_rules, eB_row, zf, e2]
   rw [step]
   rcases ih (i + 1) (by omega) with h9 | ⟨h8, h9⟩
   ·exact .inl h9
   ·exact .inr ⟨fun j a b => by
     rcases Nat.eq_or_lt_of_le a with rfl | a
     ·exact h1
     ·exact h8 j a b, h9⟩
  | false =>
   refine .inl ⟨i, hlt, h1, ?_⟩
   rw [LP_go FF b250_0.eq_1]
   simp only [RB, RL, un, St.none, Nat.reduceEqDiff, Nat.reduceAdd, Nat.reduceMul, Nat.reduceMod, Nat.reduceLeDiff, Nat.reduceLT, Int.reduceLT, Int.reduceLE, Int.reduceEq, Int.reduceToNat, Int.reduceSub, Int.reduceNeg, Int.reduceAdd, ↓reduceIte, reduceCtorEq, pack, pid, parN, lid, chkK, apartV, Heap.none, c1, h1, eB_rules, eB_row, zf, e2]
structure Shp (t : List RNd) : Prop where
 par : Par t
 all : ∃ vis, dfs t t.length [0] = some vis ∧ ∀ j, j < t.length → j ∈ vis
theorem rng_of {t : List RNd} {f : Int} (hr : t.any (bdR t.length f) = false) {n : RNd} (hn : n ∈ t) (hl : n.leaf = false) : 0 ≤ n.ft ∧ n.ft < f ∧ 1 ≤ n.lft ∧ n.lft < (t.length : Int) ∧ 1 ≤ n.rgt ∧ n.rgt < (t.length : Int) := by
 rw [List.any_eq_false] at hr
 have h := hr n hn
 unfold bdR at h
 rw [hl] at h
 simp only [Bool.not_false, Bool.true_and, Bool.or_eq_true, decide_eq_true_eq, not_or] at h
 omega
theorem kids_rng {t : List RNd} {f : Int} (hr : t.any (bdR t.length f) = false) : ∀ i, i < t.length → ∀ c ∈ kids (t.getD i dNd), 1 ≤ c ∧ c < t.length := by
 intro i hi c hc
 unfold kids at hc
 split at hc
 ·exact (List.not_mem_nil hc).elim
 ·rename_i hl
  have hl' : (t.getD i dNd).leaf = false := by simpa using hl
  have h := rng_of hr (getD_mem' dNd hi) hl'
  simp only [List.mem_cons, List.not_mem_nil, or_false] at hc
  rcases hc with rfl | rfl <;> omega
theorem shape_c {t : List RNd} {f : Int} (h1t : 1 ≤ t.length) (ht : t.length ≤ 100000) (hr : t.any (bdR t.length f) = false) : ∃ i e : Int, R FF 250 [.l 14 (t.map eNd)] = some (.tup [(AV.i .i64 i), (AV.i .i64 e)]) ∧ ((Shp t ∧ i = 0 ∧ e = 0) ∨ (¬ Shp t ∧ e = 11)) := by
 have l3 := shape_l3 ht hr t.length 0 (zk t.length 0) (by omega) (zt ..) (fun j => by
  rw [za, List.getElem?_replicate]
  split <;> simp)
 rw [Int.ofNat_zero, List.drop_zero] at l3
 change LP FF [(4, 1), (0, 0), (18, 0), (19, 0), (20, 0)] [(0, 0), (4, 0)] b250_3 _ = some (Ex.exit 0, [AV.l 14 (t.map eNd), AV.l 1 ((parL t).map n64)]) at l3
 have hpl : (parL t).length = t.length := by
  have : ∀ (l : List RNd) (P : List Int), (l.foldl bump P).length = P.length := by
   intro l
   induction l with
   | nil => intro P; rfl
   | cons n l ih => intro P; rw [List.foldl_cons, ih, bump_len]
  unfold parL; rw [this, zt]
 have hpc := parL_cnt (t := t) (fun n hn hl => by have := rng_of hr hn hl; omega)
 have l2 := shape_l2 ht hpl t.length 0 (by omega)
 rw [Int.ofNat_zero] at l2
 have c0 : (0 : Int) ≤ (t.length : Int) := by omega
 have b1 : t.length * 8 ≤ 281474976710656 := by omega
 have b2 : t.length * 1 ≤ 281474976710656 := by omega
 have b3 : t.length ≤ 281474976710656 := by omega
 have tr1 : List.take t.length (zk t.length (0 : Int)) = zk t.length 0 := zg (by rw [zt]; exact zp _)
 have tr2 : List.take t.length (zk t.length false) = zk t.length false := zg (by rw [zt]; exact zp _)
 have rB : ∀ n, zk n [AV.b false] = (zk n false).map eB := fun n => by rw [List.map_replicate]; rfl
 rcases l2 with ⟨j, j0, j1, j2, l2⟩ | ⟨h2, l2⟩
 ·refine ⟨j, 11, ?_, .inr ⟨fun h => ?_, rfl⟩⟩
  ·generalize parL t = P at *
   rw [R_go FF F250 c250.eq_1]
   simp only [RB, RL, un, St.none, Nat.reduceEqDiff, Nat.reduceAdd, Nat.reduceMul, Nat.reduceMod, Nat.reduceLeDiff, Nat.reduceLT, Int.reduceLT, Int.reduceLE, Int.reduceEq, Int.reduceToNat, Int.reduceSub, Int.reduceNeg, Int.reduceAdd, ↓reduceIte, reduceCtorEq, pack, pid, parN, lid, chkK, apartV, Heap.none, tr1, tr2, l3, l2, c0, b1, b2, b3, hpl, eNd_rules, eNd_row, n64, Int.toNat_natCast]
  ·rw [hpc, h.par.one j j0 j1] at j2
   exact j2 rfl
 ·have hpar : Par t := ⟨kids_rng hr, fun j j0 j1 => by
   have := h2 j (Nat.zero_le _) j1 j0
   rw [hpc] at this
   omega⟩
  obtain ⟨vis, v1, v2, v3, v4⟩ := dfs_some hpar t.length [] [0] (by simp) (fun c hc => by
   rw [List.nil_append, zz] at hc; omega) (fun c hc => by
   rw [List.nil_append, zz] at hc; exact .inl hc) (by simp)
  have l1 := shape_l1 ht hpar t.length [0] (zk t.length false) vis v1 (fun c hc => by
   rw [zz] at hc; omega) (zt ..) v3 (by rw [List.length_singleton]; omega)
  have hm := marks vis (zk t.length false)
  have hrf : ∀ j, (zk t.length false).getD j false = false := fun j => by
   rw [za, List.getElem?_replicate]; split <;> rfl
  have hml : (vis.foldl (fun s a => s.set a true) (zk t.length false)).length = t.length := by rw [(hm 0).1, zt]
  have l0 := shape_l0 (s := vis.foldl (fun s a => s.set a true) (zk t.length false)) (by omega) _ 0 (zB _)
  rw [hml, Int.ofNat_zero] at l0
  have e10 : List.map eX [0].reverse = [[AV.i .i64 0]] := rfl
  rw [e10] at l1
  have hz : vis.foldl (fun s a => s.set a true) (zk t.length false) = vis.foldl (fun s a => s.set a true) (zk t.length false) := rfl
  rcases l0 with ⟨j, j1, j2, l0⟩ | ⟨h0, l0⟩
  ·refine ⟨j, 11, ?_, .inr ⟨fun h => ?_, rfl⟩⟩
   ·generalize vis.foldl (fun s a => s.set a true) (zk t.length false) = M at *
    generalize parL t = P at *
    rw [R_go FF F250 c250.eq_1]
    simp only [RB, RL, un, St.none, Nat.reduceEqDiff, Nat.reduceAdd, Nat.reduceMul, Nat.reduceMod, Nat.reduceLeDiff, Nat.reduceLT, Int.reduceLT, Int.reduceLE, Int.reduceEq, Int.reduceToNat, Int.reduceSub, Int.reduceNeg, Int.reduceAdd, ↓reduceIte, reduceCtorEq, pack, pid, parN, lid, chkK, apartV, Heap.none, tr1, tr2, l3, l2, l1, l0, c0, b1, b2, b3, hpl, hml, rB, eNd_rules, eNd_row, eB_rules, eB_row, eX_rules, eX_row, n64, Int.toNat_natCast]
   ·obtain ⟨vis', w1, w2⟩ := h.all
    rw [v1] at w1
    cases w1
    have h5 := (hm j).2.2 (.inr ⟨w2 j j1, by rw [zt]; exact j1⟩)
    rw [j2] at h5
    cases h5
  ·refine ⟨0, 0, ?_, .inl ⟨⟨hpar, vis, v1, fun j hj => ?_⟩, rfl, rfl⟩⟩
   ·generalize vis.foldl (fun s a => s.set a true) (zk t.length false) = M at *
    generalize parL t = P at *
    rw [R_go FF F250 c250.eq_1]
    simp only [RB, RL, un, St.none, Nat.reduceEqDiff, Nat.reduceAdd, Nat.reduceMul, Nat.reduceMod, Nat.reduceLeDiff, Nat.reduceLT, Int.reduceLT, Int.reduceLE, Int.reduceEq, Int.reduceToNat, Int.reduceSub, Int.reduceNeg, Int.reduceAdd, ↓reduceIte, reduceCtorEq, pack, pid, parN, lid, chkK, apartV, Heap.none, tr1, tr2, l3, l2, l1, l0, c0, b1, b2, b3, hpl, hml, rB, eNd_rules, eNd_row, eB_rules, eB_row, eX_rules, eX_row, n64, Int.toNat_natCast]
   ·have h5 := (hm j).2.1 (h0 j (Nat.zero_le _) hj)
    rcases h5 with h5 | h5
    ·rw [hrf] at h5; cases h5
    ·exact h5.1
def okR (f : Int) (r : Nat) (t : List RNd) : Prop := match r with
 | 0 => t.any (bdR t.length f) = false
 | 1 => Shp t
 | 2 => t.any bdC = false
 | _ => t.any (bdS t) = false
structure VT (t : List RNd) (f : Int) : Prop where
 rg : t.any (bdR t.length f) = false
 sh : Shp t
 cv : t.any bdC = false
 sm : t.any (bdS t) = false
theorem check_l1 {f : Int} {ts : List (List RNd)} {k r : Nat} (hk : k ≤ 10000000000) (h1k : 1 ≤ k) (hts : ts.length ≤ 100000) (ht : ∀ t ∈ ts, 1 ≤ t.length ∧ t.length ≤ 100000 ∧ SmT t k) (hr4 : r < 4) (hr : r = 0 ∨ ∀ t ∈ ts, t.any (bdR t.length f) = false) : ∀ (d i : Nat), i + d = ts.length →
  (∃ e a b c : Int, e ≠ 0 ∧ (∃ t ∈ ts, ¬ okR f r t) ∧ LP FF [(2, 1), (1, 0), (3, 0), (12, 0), (16, 0), (17, 0), (18, 0)] [(2, 1), (1, 0), (12, 0)] b237_1 [.ownp [(AV.i .i64 0), (AV.i .i64 0), (AV.i .i64 0), (AV.i .i64 0)], .tp (eM (f, ts)) 0, (AV.i .i64 ((r : Int))), (AV.i .i64 ((r : Int))), .l 1 (ts.map eTr), (AV.i .i64 ((ts.length : Int))), (AV.i .i64 ((i : Int)))] = some (.ret, [.ownp [(AV.i .i64 e), (AV.i .i64 a), (AV.i .i64 b), (AV.i .i64 c)], .tp (eM (f, ts)) 0, (AV.i .i64 ((r : Int)))])) ∨
  ((∀ j, i ≤ j → j < ts.length → okR f r (ts.getD j [])) ∧ LP FF [(2, 1), (1, 0), (3, 0), (12, 0), (16, 0), (17, 0), (18, 0)] [(2, 1), (1, 0), (12, 0)] b237_1 [.ownp [(AV.i .i64 0), (AV.i .i64 0), (AV.i .i64 0), (AV.i .i64 0)], .tp (eM (f, ts)) 0, (AV.i .i64 ((r : Int))), (AV.i .i64 ((r : Int))), .l 1 (ts.map eTr), (AV.i .i64 ((ts.length : Int))), (AV.i .i64 ((i : Int)))] = some (.exit 2, [.ownp [(AV.i .i64 0), (AV.i .i64 0), (AV.i .i64 0), (AV.i .i64 0)], .tp (eM (f, ts)) 0, (AV.i .i64 ((r : Int)))])) := by
 intro d
 induction d with
 | zero =>
  intro i hi
  refine .inr ⟨fun j h1 h2 => by omega, ?_⟩
  have c1 : ¬ (i : Int) < (ts.length : Int) := by omega
  simp only [eM]
  rw [LP_go FF b237_1.eq_1]
  simp only [RB, RL, un, St.none, Nat.reduceEqDiff, Nat.reduceAdd, Nat.reduceMul, Nat.reduceMod, Nat.reduceLeDiff, Nat.reduceLT, Int.reduceLT, Int.reduceLE, Int.reduceEq, Int.reduceToNat, Int.reduceSub, Int.reduceNeg, Int.reduceAdd, ↓reduceIte, reduceCtorEq, pack, pid, parN, lid, chkK, apartV, Heap.none, c1, eTr_rules, eTr_row]
 | succ d ih =>
  intro i hi
  have hlt : i < ts.length := by omega
  have hmem := getD_mem' ([] : List RNd) hlt
  obtain ⟨t1, t2, t3⟩ := ht _ hmem
  have c1 : (i : Int) < (ts.length : Int) := by omega
  have e2 : IntKind.i64.wrap ((i : Int) + 1) = ((i + 1 : Nat) : Int) := w64succ (by omega)
  have hcon : ∃ a e : Int, ((okR f r (ts.getD i []) ∧ e = 0) ∨ (¬ okR f r (ts.getD i []) ∧ e ≠ 0)) ∧
    (r = 0 → R FF 249 [.l 14 ((ts.getD i []).map eNd), (AV.i .i64 f)] = some (.tup [(AV.i .i64 a), (AV.i .i64 e)])) ∧ (r = 1 → R FF 250 [.l 14 ((ts.getD i []).map eNd)] = some (.tup [(AV.i .i64 a), (AV.i .i64 e)])) ∧
    (r = 2 → R FF 251 [.l 14 ((ts.getD i []).map eNd)] = some (.tup [(AV.i .i64 a), (AV.i .i64 e)])) ∧ (r = 3 → R FF 252 [.l 14 ((ts.getD i []).map eNd)] = some (.tup [(AV.i .i64 a), (AV.i .i64 e)])) := by
   rcases (show r = 0 ∨ r = 1 ∨ r = 2 ∨ r = 3 by omega) with rfl | rfl | rfl | rfl
   ·obtain ⟨a, h⟩ := ranges_c (f := f) t2
    refine ⟨_, _, ?_, fun _ => h, fun h => (by omega), fun h => (by omega), fun h => (by omega)⟩
    show (((ts.getD i []).any (bdR (ts.getD i []).length f) = false) ∧ _) ∨ (¬ ((ts.getD i []).any (bdR (ts.getD i []).length f) = false) ∧ _)
    cases (ts.getD i []).any (bdR (ts.getD i []).length f)
    ·exact .inl ⟨rfl, rfl⟩
    ·exact .inr ⟨by decide, by decide⟩
   ·obtain ⟨a, e, h, h2⟩ := shape_c t1 t2 (hr.resolve_left (by omega) _ hmem)
    refine ⟨a, e, ?_, fun h => (by omega), fun _ => h, fun h => (by omega), fun h => (by omega)⟩
    rcases h2 with ⟨h3, _, h4⟩ | ⟨h3, h4⟩
    ·exact .inl ⟨h3, h4⟩
    ·exact .inr ⟨h3, by omega⟩
   ·obtain ⟨a, h⟩ := covers_c hk t2 t3
    refine ⟨_, _, ?_, fun h => (by omega), fun h => (by omega), fun _ => h, fun h => (by omega)⟩
    show (((ts.getD i []).any bdC = false) ∧ _) ∨ (¬ ((ts.getD i []).any bdC = false) ∧ _)
    cases (ts.getD i []).any bdC
    ·exact .inl ⟨rfl, rfl⟩
    ·exact .inr ⟨by decide, by decide⟩
   ·obtain ⟨a, h⟩ := vsums_c hk h1k t2 t3 (hr.resolve_left (by omega) _ hmem)
    refine ⟨_, _, ?_, fun h => (by omega), fun h => (by omega), fun h => (by omega), fun _ => h⟩
    show (((ts.getD i []).any (bdS (ts.getD i [])) = false) ∧ _) ∨ (¬ ((ts.getD i []).any (bdS (ts.getD i [])) = false) ∧ _)
    cases (ts.getD i []).any (bdS (ts.getD i []))
    ·exact .inl ⟨rfl, rfl⟩
    ·exact .inr ⟨by decide, by decide⟩
  obtain ⟨a, e, he, k0, k1, k2, k3⟩ := hcon
  rcases he with ⟨h1, rfl⟩ | ⟨h1, h2⟩
  ·have step : LP FF [(2, 1), (1, 0), (3, 0), (12, 0), (16, 0), (17, 0), (18, 0)] [(2, 1), (1, 0), (12, 0)] b237_1 [.ownp [(AV.i .i64 0), (AV.i .i64 0), (AV.i .i64 0), (AV.i .i64 0)], .tp (eM (f, ts)) 0, (AV.i .i64 ((r : Int))), (AV.i .i64 ((r : Int))), .l 1 (ts.map eTr), (AV.i .i64 ((ts.length : Int))), (AV.i .i64 ((i : Int)))] = LP FF [(2, 1), (1, 0), (3, 0), (12, 0), (16, 0), (17, 0), (18, 0)] [(2, 1), (1, 0), (12, 0)] b237_1 [.ownp [(AV.i .i64 0), (AV.i .i64 0), (AV.i .i64 0), (AV.i .i64 0)], .tp (eM (f, ts)) 0, (AV.i .i64 ((r : Int))), (AV.i .i64 ((r : Int))), .l 1 (ts.map eTr), (AV.i .i64 ((ts.length : Int))), (AV.i .i64 (((i + 1 : Nat) : Int)))] := by
    simp only [eM]
    rcases (show r = 0 ∨ r = 1 ∨ r = 2 ∨ r = 3 by omega) with rfl | rfl | rfl | rfl
    ·have k0 := k0 rfl
     rw [Int.ofNat_zero]
     rw [LP_go FF b237_1.eq_1]
     simp only [RB, RL, un, St.none, Nat.reduceEqDiff, Nat.reduceAdd, Nat.reduceMul, Nat.reduceMod, Nat.reduceLeDiff, Nat.reduceLT, Int.reduceLT, Int.reduceLE, Int.reduceEq, Int.reduceToNat, Int.reduceSub, Int.reduceNeg, Int.reduceAdd, ↓reduceIte, reduceCtorEq, pack, pid, parN, lid, chkK, apartV, Heap.none, c1, e2, eTr_rules, eTr_row, zf, k0]
    ·have k1 := k1 rfl
     rw [show ((1 : Nat) : Int) = 1 from rfl]
     rw [LP_go FF b237_1.eq_1]
     simp only [RB, RL, un, St.none, Nat.reduceEqDiff, Nat.reduceAdd, Nat.reduceMul, Nat.reduceMod, Nat.reduceLeDiff, Nat.reduceLT, Int.reduceLT, Int.reduceLE, Int.reduceEq, Int.reduceToNat, Int.reduceSub, Int.reduceNeg, Int.reduceAdd, ↓reduceIte, reduceCtorEq, pack, pid, parN, lid, chkK, apartV, Heap.none, c1, e2, eTr_rules, eTr_row, zf, k1]
    ·have k2 := k2 rfl
     rw [show ((2 : Nat) : Int) = 2 from rfl]
     rw [LP_go FF b237_1.eq_1]
     simp only [RB, RL, un, St.none, Nat.reduceEqDiff, Nat.reduceAdd, Nat.reduceMul, Nat.reduceMod, Nat.reduceLeDiff, Nat.reduceLT, Int.reduceLT, Int.reduceLE, Int.reduceEq, Int.reduceToNat, Int.reduceSub, Int.reduceNeg, Int.reduceAdd, ↓reduceIte, reduceCtorEq, pack, pid, parN, lid, chkK, apartV, Heap.none, c1, e2, eTr_rules, eTr_row, zf, k2]
    ·have k3 := k3 rfl
     rw [show ((3 : Nat) : Int) = 3 from rfl]
     rw [LP_go FF b237_1.eq_1]
     simp only [RB, RL, un, St.none, Nat.reduceEqDiff, Nat.reduceAdd, Nat.reduceMul, Nat.reduceMod, Nat.reduceLeDiff, Nat.reduceLT, Int.reduceLT, Int.reduceLE, Int.reduceEq, Int.reduceToNat, Int.reduceSub, Int.reduceNeg, Int.reduceAdd, ↓reduceIte, reduceCtorEq, pack, pid, parN, lid, chkK, apartV, Heap.none, c1, e2, eTr_rules, eTr_row, zf, k3]
   rw [step]
   rcases ih (i + 1) (by omega) with h9 | ⟨h8, h9⟩
   ·exact .inl h9
   ·exact .inr ⟨fun j a b => by
     rcases Nat.eq_or_lt_of_le a with rfl | a
     ·exact h1
     ·exact h8 j a b, h9⟩
  ·have fl : R FF 253 [(AV.i .i64 e), (AV.i .i64 ((i : Int))), (AV.i .i64 a)] = some (.agg [(AV.i .i64 e), (AV.i .i64 0), (AV.i .i64 ((i : Int))), (AV.i .i64 a)]) := by
    rw [R_go FF F253 c253.eq_1]
    simp only [RB, RL, un, St.none, Nat.reduceEqDiff, Nat.reduceAdd, Nat.reduceMul, Nat.reduceMod, Nat.reduceLeDiff, Nat.reduceLT, Int.reduceLT, Int.reduceLE, Int.reduceEq, Int.reduceToNat, Int.reduceSub, Int.reduceNeg, Int.reduceAdd, ↓reduceIte, reduceCtorEq, pack, pid, parN, lid, chkK, apartV, Heap.none, n64]
   refine .inl ⟨e, 0, i, a, h2, ⟨_, hmem, h1⟩, ?_⟩
   simp only [eM]
   rcases (show r = 0 ∨ r = 1 ∨ r = 2 ∨ r = 3 by omega) with rfl | rfl | rfl | rfl
   ·have k0 := k0 rfl
    rw [Int.ofNat_zero]
    rw [LP_go FF b237_1.eq_1]
    simp only [RB, RL, un, St.none, Nat.reduceEqDiff, Nat.reduceAdd, Nat.reduceMul, Nat.reduceMod, Nat.reduceLeDiff, Nat.reduceLT, Int.reduceLT, Int.reduceLE, Int.reduceEq, Int.reduceToNat, Int.reduceSub, Int.reduceNeg, Int.reduceAdd, ↓reduceIte, reduceCtorEq, pack, pid, parN, lid, chkK, apartV, Heap.none, c1, e2, eTr_rules, eTr_row, zf, k0, h2, fl]
   ·have k1 := k1 rfl
    rw [show ((1 : Nat) : Int) = 1 from rfl]
    rw [LP_go FF b237_1.eq_1]
    simp only [RB, RL, un, St.none, Nat.reduceEqDiff, Nat.reduceAdd, Nat.reduceMul, Nat.reduceMod, Nat.reduceLeDiff, Nat.reduceLT, Int.reduceLT, Int.reduceLE, Int.reduceEq, Int.reduceToNat, Int.reduceSub, Int.reduceNeg, Int.reduceAdd, ↓reduceIte, reduceCtorEq, pack, pid, parN, lid, chkK, apartV, Heap.none, c1, e2, eTr_rules, eTr_row, zf, k1, h2, fl]
   ·have k2 := k2 rfl
    rw [show ((2 : Nat) : Int) = 2 from rfl]
    rw [LP_go FF b237_1.eq_1]
    simp only [RB, RL, un, St.none, Nat.reduceEqDiff, Nat.reduceAdd, Nat.reduceMul, Nat.reduceMod, Nat.reduceLeDiff, Nat.reduceLT, Int.reduceLT, Int.reduceLE, Int.reduceEq, Int.reduceToNat, Int.reduceSub, Int.reduceNeg, Int.reduceAdd, ↓reduceIte, reduceCtorEq, pack, pid, parN, lid, chkK, apartV, Heap.none, c1, e2, eTr_rules, eTr_row, zf, k2, h2, fl]
   ·have k3 := k3 rfl
    rw [show ((3 : Nat) : Int) = 3 from rfl]
    rw [LP_go FF b237_1.eq_1]
    simp only [RB, RL, un, St.none, Nat.reduceEqDiff, Nat.reduceAdd, Nat.reduceMul, Nat.reduceMod, Nat.reduceLeDiff, Nat.reduceLT, Int.reduceLT, Int.reduceLE, Int.reduceEq, Int.reduceToNat, Int.reduceSub, Int.reduceNeg, Int.reduceAdd, ↓reduceIte, reduceCtorEq, pack, pid, parN, lid, chkK, apartV, Heap.none, c1, e2, eTr_rules, eTr_row, zf, k3, h2, fl]
theorem check_l0 {f : Int} {ts : List (List RNd)} {k : Nat} (hk : k ≤ 10000000000) (h1k : 1 ≤ k) (hts : ts.length ≤ 100000) (ht : ∀ t ∈ ts, 1 ≤ t.length ∧ t.length ≤ 100000 ∧ SmT t k) : ∀ (d r : Nat), r + d = 4 → (∀ s, s < r → ∀ t ∈ ts, okR f s t) →
  (∃ e a b c : Int, e ≠ 0 ∧ (∃ t ∈ ts, ¬ VT t f) ∧ LP FF [(2, 1), (1, 0), (12, 0)] [(2, 1)] b237_0 [.ownp [(AV.i .i64 0), (AV.i .i64 0), (AV.i .i64 0), (AV.i .i64 0)], .tp (eM (f, ts)) 0, (AV.i .i64 ((r : Int)))] = some (.ret, [.ownp [(AV.i .i64 e), (AV.i .i64 a), (AV.i .i64 b), (AV.i .i64 c)]])) ∨
  ((∀ t ∈ ts, VT t f) ∧ LP FF [(2, 1), (1, 0), (12, 0)] [(2, 1)] b237_0 [.ownp [(AV.i .i64 0), (AV.i .i64 0), (AV.i .i64 0), (AV.i .i64 0)], .tp (eM (f, ts)) 0, (AV.i .i64 ((r : Int)))] = some (.exit 0, [.ownp [(AV.i .i64 0), (AV.i .i64 0), (AV.i .i64 0), (AV.i .i64 0)]])) := by
 intro d
 induction d with
 | zero =>
  intro r hr hs
  have hr : r = 4 := by omega
  subst hr
  refine .inr ⟨fun t h => ⟨hs 0 (by omega) t h, hs 1 (by omega) t h, hs 2 (by omega) t h, hs 3 (by omega) t h⟩, ?_⟩
  simp only [eM]
  rw [show ((4 : Nat) : Int) = 4 from rfl]
  rw [LP_go FF b237_0.eq_1]
  simp only [RB, RL, un, St.none, Nat.reduceEqDiff, Nat.reduceAdd, Nat.reduceMul, Nat.reduceMod, Nat.reduceLeDiff, Nat.reduceLT, Int.reduceLT, Int.reduceLE, Int.reduceEq, Int.reduceToNat, Int.reduceSub, Int.reduceNeg, Int.reduceAdd, ↓reduceIte, reduceCtorEq, pack, pid, parN, lid, chkK, apartV, Heap.none, eTr_rules, eTr_row]
 | succ d ih =>
  intro r hr hs
  have c1 : (r : Int) < 4 := by omega
  have e2 : IntKind.i64.wrap ((r : Int) + 1) = ((r + 1 : Nat) : Int) := w64succ (by omega)
  have l1 := check_l1 (f := f) (r := r) hk h1k hts ht (by omega) (by
   rcases Nat.eq_zero_or_pos r with h | h
   ·exact .inl h
   ·exact .inr (hs 0 h)) ts.length 0 (by omega)
  rw [Int.ofNat_zero] at l1
  rcases l1 with ⟨e, a, b, c, h1, ⟨t, h2, h3⟩, l1⟩ | ⟨h1, l1⟩
  ·refine .inl ⟨e, a, b, c, h1, ⟨t, h2, fun v => h3 ?_⟩, ?_⟩
   ·rcases (show r = 0 ∨ r = 1 ∨ r = 2 ∨ r = 3 by omega) with rfl | rfl | rfl | rfl
    ·exact v.rg
    ·exact v.sh
    ·exact v.cv
    ·exact v.sm
   ·simp only [eM] at l1 ⊢
    rw [LP_go FF b237_0.eq_1]
    simp only [RB, RL, un, St.none, Nat.reduceEqDiff, Nat.reduceAdd, Nat.reduceMul, Nat.reduceMod, Nat.reduceLeDiff, Nat.reduceLT, Int.reduceLT, Int.reduceLE, Int.reduceEq, Int.reduceToNat, Int.reduceSub, Int.reduceNeg, Int.reduceAdd, ↓reduceIte, reduceCtorEq, pack, pid, parN, lid, chkK, apartV, Heap.none, eTr_rules, eTr_row, c1, l1]
  ·have h9 := ih (r + 1) (by omega) (fun s hs' t h => by
    rcases Nat.lt_or_eq_of_le (show s ≤ r by omega) with h' | rfl
    ·exact hs s h' t h
    ·obtain ⟨i, hi, rfl⟩ := List.getElem_of_mem h
     have := h1 i (Nat.zero_le _) hi
     rwa [za, ze hi, Option.getD_some] at this)
   have step : LP FF [(2, 1), (1, 0), (12, 0)] [(2, 1)] b237_0 [.ownp [(AV.i .i64 0), (AV.i .i64 0), (AV.i .i64 0), (AV.i .i64 0)], .tp (eM (f, ts)) 0, (AV.i .i64 ((r : Int)))] = LP FF [(2, 1), (1, 0), (12, 0)] [(2, 1)] b237_0 [.ownp [(AV.i .i64 0), (AV.i .i64 0), (AV.i .i64 0), (AV.i .i64 0)], .tp (eM (f, ts)) 0, (AV.i .i64 (((r + 1 : Nat) : Int)))] := by
    simp only [eM] at l1 ⊢
    rw [LP_go FF b237_0.eq_1]
    simp only [RB, RL, un, St.none, Nat.reduceEqDiff, Nat.reduceAdd, Nat.reduceMul, Nat.reduceMod, Nat.reduceLeDiff, Nat.reduceLT, Int.reduceLT, Int.reduceLE, Int.reduceEq, Int.reduceToNat, Int.reduceSub, Int.reduceNeg, Int.reduceAdd, ↓reduceIte, reduceCtorEq, pack, pid, parN, lid, chkK, apartV, Heap.none, eTr_rules, eTr_row, c1, l1, e2]
   rw [step]
   exact h9
structure VM (m : RM) : Prop where
 fit : fitB m = true
 all : ∀ t ∈ m.2, VT t m.1
theorem ok_c {m : RM} {k : Nat} (hk : k ≤ 10000000000) (h1k : 1 ≤ k) (hts : m.2.length ≤ 100000) (ht : ∀ t ∈ m.2, t.length ≤ 100000 ∧ SmT t k) : ∃ b : Bool, R FF 211 [.agg (eM m)] = some (.b b) ∧ (b = true ↔ VM m) := by
 have f1 := fits_c hts (fun t h => (ht t h).1)
 obtain ⟨f, ts⟩ := m
 cases hf : fitB (f, ts) with
 | false =>
  refine ⟨false, ?_, ⟨fun h => (by cases h), fun h => by have := h.fit; rw [hf] at this; cases this⟩⟩
  rw [hf] at f1
  have ck : R FF 237 [.agg (eM (f, ts))] = some (.agg [(AV.i .i64 1), (AV.i .i64 0), (AV.i .i64 0), (AV.i .i64 0)]) := by
   simp only [eM] at f1 ⊢
   rw [R_go FF F237 c237.eq_1]
   simp only [RB, RL, un, St.none, Nat.reduceEqDiff, Nat.reduceAdd, Nat.reduceMul, Nat.reduceMod, Nat.reduceLeDiff, Nat.reduceLT, Int.reduceLT, Int.reduceLE, Int.reduceEq, Int.reduceToNat, Int.reduceSub, Int.reduceNeg, Int.reduceAdd, ↓reduceIte, reduceCtorEq, pack, pid, parN, lid, chkK, apartV, Heap.none, f1, n64, eTr_rules, eTr_row]
  simp only [eM] at ck ⊢
  rw [R_go FF F211 c211.eq_1]
  simp only [RB, RL, un, St.none, Nat.reduceEqDiff, Nat.reduceAdd, Nat.reduceMul, Nat.reduceMod, Nat.reduceLeDiff, Nat.reduceLT, Int.reduceLT, Int.reduceLE, Int.reduceEq, Int.reduceToNat, Int.reduceSub, Int.reduceNeg, Int.reduceAdd, ↓reduceIte, reduceCtorEq, pack, pid, parN, lid, chkK, apartV, Heap.none, ck, n64, eTr_rules, eTr_row]
 | true =>
  rw [hf] at f1
  have hb : fitB (f, ts) = !(decide (f < 0) || decide (64 < f) || decide (64 < (ts.length : Int)) || ts.any bdT) := rfl
  rw [hf] at hb
  have hT : ts.any bdT = false := by
   cases h : ts.any bdT with
   | false => rfl
   | true => rw [h, Bool.or_true] at hb; cases hb
  have ht2 : ∀ t ∈ ts, 1 ≤ t.length ∧ t.length ≤ 100000 ∧ SmT t k := fun t h => by
   have h2 := ht t h
   rw [List.any_eq_false] at hT
   have h3 := hT t h
   unfold bdT at h3
   simp only [Bool.or_eq_true, decide_eq_true_eq, not_or] at h3
   exact ⟨by omega, h2.1, h2.2⟩
  have l0 := check_l0 (f := f) hk h1k hts ht2 4 0 (by omega) (fun s h => absurd h (Nat.not_lt_zero _))
  rw [Int.ofNat_zero] at l0
  rcases l0 with ⟨e, a, b, c, h1, ⟨t, h2, h3⟩, l0⟩ | ⟨h1, l0⟩
  ·refine ⟨false, ?_, ⟨fun h => (by cases h), fun h => (h3 (h.all t h2)).elim⟩⟩
   have ck : R FF 237 [.agg (eM (f, ts))] = some (.agg [(AV.i .i64 e), (AV.i .i64 a), (AV.i .i64 b), (AV.i .i64 c)]) := by
    simp only [eM] at f1 l0 ⊢
    rw [R_go FF F237 c237.eq_1]
    simp only [RB, RL, un, St.none, Nat.reduceEqDiff, Nat.reduceAdd, Nat.reduceMul, Nat.reduceMod, Nat.reduceLeDiff, Nat.reduceLT, Int.reduceLT, Int.reduceLE, Int.reduceEq, Int.reduceToNat, Int.reduceSub, Int.reduceNeg, Int.reduceAdd, ↓reduceIte, reduceCtorEq, pack, pid, parN, lid, chkK, apartV, Heap.none, f1, l0, n64, eTr_rules, eTr_row]
   simp only [eM] at ck ⊢
   rw [R_go FF F211 c211.eq_1]
   simp only [RB, RL, un, St.none, Nat.reduceEqDiff, Nat.reduceAdd, Nat.reduceMul, Nat.reduceMod, Nat.reduceLeDiff, Nat.reduceLT, Int.reduceLT, Int.reduceLE, Int.reduceEq, Int.reduceToNat, Int.reduceSub, Int.reduceNeg, Int.reduceAdd, ↓reduceIte, reduceCtorEq, pack, pid, parN, lid, chkK, apartV, Heap.none, ck, n64, eTr_rules, eTr_row, h1]
  ·refine ⟨true, ?_, ⟨fun _ => ⟨hf, h1⟩, fun _ => rfl⟩⟩
   have ck : R FF 237 [.agg (eM (f, ts))] = some (.agg [(AV.i .i64 0), (AV.i .i64 0), (AV.i .i64 0), (AV.i .i64 0)]) := by
    simp only [eM] at f1 l0 ⊢
    rw [R_go FF F237 c237.eq_1]
    simp only [RB, RL, un, St.none, Nat.reduceEqDiff, Nat.reduceAdd, Nat.reduceMul, Nat.reduceMod, Nat.reduceLeDiff, Nat.reduceLT, Int.reduceLT, Int.reduceLE, Int.reduceEq, Int.reduceToNat, Int.reduceSub, Int.reduceNeg, Int.reduceAdd, ↓reduceIte, reduceCtorEq, pack, pid, parN, lid, chkK, apartV, Heap.none, f1, l0, n64, eTr_rules, eTr_row]
   simp only [eM] at ck ⊢
   rw [R_go FF F211 c211.eq_1]
   simp only [RB, RL, un, St.none, Nat.reduceEqDiff, Nat.reduceAdd, Nat.reduceMul, Nat.reduceMod, Nat.reduceLeDiff, Nat.reduceLT, Int.reduceLT, Int.reduceLE, Int.reduceEq, Int.reduceToNat, Int.reduceSub, Int.reduceNeg, Int.reduceAdd, ↓reduceIte, reduceCtorEq, pack, pid, parN, lid, chkK, apartV, Heap.none, ck, n64, eTr_rules, eTr_row]
inductive All2 (R : RNd → RNd → Prop) : List RNd → List RNd → Prop where
 | nil : All2 R [] []
 | cons {a b : RNd} {l m : List RNd} (h : R a b) (hs : All2 R l m) : All2 R (a :: l) (b :: m)
inductive Sub (T : List RNd) (f : Int) : Nat → Nat → Rat → Prop where
 | leaf {p : Nat} (hp : p < T.length) (hl : (T.getD p dNd).leaf = true) (hc : 0 < vQ (T.getD p dNd).cov) : Sub T f p (p + 1) (vQ (T.getD p dNd).cov)
 | node {p q r : Nat} {a b : Rat} (hl : (T.getD p dNd).leaf = false) (hf : 0 ≤ (T.getD p dNd).ft ∧ (T.getD p dNd).ft < f) (h1 : (T.getD p dNd).lft = ((p + 1 : Nat) : Int)) (h2 : (T.getD p dNd).rgt = (q : Int))
  (hc : vQ (T.getD p dNd).cov = a + b) (ha : Sub T f (p + 1) q a) (hb : Sub T f q r b) : Sub T f p r (a + b)
def goN (n : RNd) (row : List RC) : Bool := goV (vQ n.cut) n.miss (row.getD n.ft.toNat dC)
def nextN (n : RNd) (row : List RC) : Nat := if goN n row then n.lft.toNat else n.rgt.toNat
def walk (t : List RNd) (row : List RC) : Nat → Nat → Option Nat
 | 0, a => if (t.getD a dNd).leaf then some a else none
 | k + 1, a => if (t.getD a dNd).leaf then some a else walk t row k (nextN (t.getD a dNd) row)
def valT (t : List RNd) (row : List RC) : Rat := vQ (t.getD ((walk t row t.length 0).getD 0) dNd).val
def SmM (m : RM) (k : Nat) : Prop := m.2.length ≤ 1000 ∧ ∀ t ∈ m.2, t.length ≤ 100000 ∧ SmT t k
theorem vt_len {m : RM} (h : VM m) : ∀ t ∈ m.2, 1 ≤ t.length := by
 intro t ht
 have hf := h.fit
 unfold fitB at hf
 rw [Bool.not_eq_true'] at hf
 rw [Bool.or_eq_false_iff, List.any_eq_false] at hf
 have h2 := hf.2 t ht
 unfold bdT at h2
 simp only [Bool.or_eq_true, decide_eq_true_eq, not_or] at h2
 omega
theorem walk_mono {t : List RNd} {row : List RC} : ∀ (k a b : Nat), walk t row k a = some b → walk t row (k + 1) a = some b := by
 intro k
 induction k with
 | zero =>
  intro a b h
  rw [walk] at h
  rw [walk]
  split at h
  ·rename_i hl; rw [if_pos hl]; exact h
  ·cases h
 | succ k ih =>
  intro a b h
  rw [walk] at h
  rw [walk]
  split at h
  ·rename_i hl; rw [if_pos hl]; exact h
  ·rename_i hl; rw [if_neg hl]; exact ih _ b h
theorem walk_le {t : List RNd} {row : List RC} {k m a b : Nat} (hm : k ≤ m) (h : walk t row k a = some b) : walk t row m a = some b := by
 induction hm with
 | refl => exact h
 | step _ ih => exact walk_mono _ _ _ ih
inductive TT where
 | lf (a : Nat) : TT
 | nd (a : Nat) (l r : TT) : TT
def TT.top : TT → Nat
 | .lf a => a
 | .nd a _ _ => a
def TT.pre : TT → List Nat
 | .lf a => [a]
 | .nd a l r => a :: (r.pre ++ l.pre)
def TT.lvs : TT → List Nat
 | .lf a => [a]
 | .nd _ l r => l.lvs ++ r.lvs
def UN (t : List RNd) : TT → Prop
 | .lf a => a < t.length ∧ (t.getD a dNd).leaf = true
 | .nd a l r => a < t.length ∧ (t.getD a dNd).leaf = false ∧ l.top = (t.getD a dNd).lft.toNat ∧ r.top = (t.getD a dNd).rgt.toNat ∧ UN t l ∧ UN t r
def gl (t : List RNd) (row : List RC) : TT → Nat
 | .lf a => a
 | .nd a l r => if goN (t.getD a dNd) row then gl t row l else gl t row r
theorem gl_lvs (t : List RNd) (row : List RC) : ∀ T : TT, gl t row T ∈ T.lvs
 | .lf a => List.mem_singleton.2 rfl
 | .nd a l r => by
  rw [gl, TT.lvs]
  split
  ·exact List.mem_append.2 (.inl (gl_lvs t row l))
  ·exact List.mem_append.2 (.inr (gl_lvs t row r))
theorem par_next {t : List RNd} (h : Par t) {V : List Nat} {a c : Nat} (hnd : (a :: V).Nodup) (hlt : ∀ c ∈ a :: V, c < t.length) (hp : ∀ c ∈ a :: V, c = 0 ∨ ∃ p ∈ V, c ∈ kids (t.getD p dNd)) (hc : c ∈ kids (t.getD a dNd)) :
  (c :: a :: V).Nodup ∧ (∀ x ∈ c :: a :: V, x < t.length) ∧ ∀ x ∈ c :: a :: V, x = 0 ∨ ∃ p ∈ a :: V, x ∈ kids (t.getD p dNd) := by
 have ha : a < t.length := hlt a (zm ..)
 have hr := h.rng a ha _ hc
 refine ⟨List.nodup_cons.2 ⟨fun hm => ?_, hnd⟩, fun x hx => ?_, fun x hx => ?_⟩
 ·rcases hp _ hm with h0 | ⟨p, hpV, hpc⟩
  ·omega
  ·have hpl : p < t.length := hlt p (zn _ hpV)
   have e := h.uniq hpl ha hpc hc
   subst e
   exact (List.nodup_cons.1 hnd).1 hpV
 ·rcases List.mem_cons.1 hx with rfl | hx
  ·exact hr.2
  ·exact hlt x hx
 ·rcases List.mem_cons.1 hx with rfl | hx
  ·exact .inr ⟨a, zm .., hc⟩
  ·rcases hp x hx with h0 | ⟨p, hpV, hpc⟩
   ·exact .inl h0
   ·exact .inr ⟨p, zn _ hpV, hpc⟩
theorem un_some {t : List RNd} (h : Par t) : ∀ (k : Nat) (V : List Nat) (a : Nat), (a :: V).Nodup → (∀ c ∈ a :: V, c < t.length) → (∀ c ∈ a :: V, c = 0 ∨ ∃ p ∈ V, c ∈ kids (t.getD p dNd)) → t.length ≤ V.length + k →
  ∃ T : TT, T.top = a ∧ UN t T := by
 intro k
 induction k with
 | zero =>
  intro V a hnd hlt hp hk
  have := nodup_len t.length hnd hlt
  rw [zw] at this
  omega
 | succ k ih =>
  intro V a hnd hlt hp hk
  have ha : a < t.length := hlt a (zm ..)
  cases hl : (t.getD a dNd).leaf with
  | true => exact ⟨.lf a, rfl, ha, hl⟩
  | false =>
   have k1 : (t.getD a dNd).lft.toNat ∈ kids (t.getD a dNd) := by unfold kids; rw [hl]; simp
   have k2 : (t.getD a dNd).rgt.toNat ∈ kids (t.getD a dNd) := by unfold kids; rw [hl]; simp
   obtain ⟨a1, a2, a3⟩ := par_next h hnd hlt hp k1
   obtain ⟨b1, b2, b3⟩ := par_next h hnd hlt hp k2
   obtain ⟨L, l1, l2⟩ := ih (a :: V) _ a1 a2 a3 (by rw [zw]; omega)
   obtain ⟨Rt, r1, r2⟩ := ih (a :: V) _ b1 b2 b3 (by rw [zw]; omega)
   exact ⟨.nd a L Rt, rfl, ha, hl, l1, r1, l2, r2⟩
theorem dfs_mono {t : List RNd} : ∀ (k : Nat) (S v : List Nat), dfs t k S = some v → dfs t (k + 1) S = some v := by
 intro k
 induction k with
 | zero =>
  intro S v h
  cases S with
  | nil => exact h
  | cons a S => cases h
 | succ k ih =>
  intro S v h
  cases S with
  | nil => exact h
  | cons a S =>
   rw [dfs] at h
   cases h2 : dfs t k (kids (t.getD a dNd) ++ S) with
   | none => rw [h2] at h; cases h
   | some w =>
    rw [h2] at h
    rw [dfs, ih _ _ h2]
    exact h
theorem dfs_le {t : List RNd} {k m : Nat} {S v : List Nat} (hm : k ≤ m) (h : dfs t k S = some v) : dfs t m S = some v := by
 induction hm with
 | refl => exact h
 | step _ ih => exact dfs_mono _ _ _ ih
theorem un_dfs {t : List RNd} : ∀ (T : TT), UN t T → ∀ k S, dfs t (k + T.pre.length) (T.top :: S) = (dfs t k S).map (T.pre ++ ·)
 | .lf a, h, k, S => by
  show dfs t (k + 1) (a :: S) = _
  rw [dfs, show kids (t.getD a dNd) = [] by unfold kids; rw [h.2]; rfl]
  rfl
 | .nd a l r, h, k, S => by
  obtain ⟨h1, h2, h3, h4, h5, h6⟩ := h
  show dfs t (k + (r.pre ++ l.pre).length + 1) (a :: S) = _
  rw [dfs, show kids (t.getD a dNd) = [r.top, l.top] by unfold kids; rw [h2, h3, h4]; rfl, zl, show k + (r.pre.length + l.pre.length) = k + l.pre.length + r.pre.length by omega]
  show (dfs t (k + l.pre.length + r.pre.length) (r.top :: l.top :: S)).map _ = _
  rw [un_dfs r h6, un_dfs l h5, Option.map_map, Option.map_map]
  congr 1
  funext x
  simp [TT.pre]
theorem unf {t : List RNd} (hs : Shp t) (h1 : 1 ≤ t.length) : ∃ T : TT, T.top = 0 ∧ UN t T ∧ T.pre.Nodup ∧ T.pre.length ≤ t.length ∧ ∀ x ∈ T.pre, x < t.length := by
 obtain ⟨T, e, hT⟩ := un_some hs.par t.length [] 0 (by simp) (fun c hc => by rw [zz] at hc; omega) (fun c hc => by rw [zz] at hc; exact .inl hc) (by simp)
 obtain ⟨vis, v1, v2, v3, v4⟩ := dfs_some hs.par t.length [] [0] (by simp) (fun c hc => by rw [List.nil_append, zz] at hc; omega) (fun c hc => by rw [List.nil_append, zz] at hc; exact .inl hc) (by simp)
 have q := un_dfs T hT t.length []
 rw [e, dfs_le (Nat.le_add_right _ _) v1, dfs] at q
 have q2 : vis = T.pre := by
  have := Option.some.inj q
  rw [this]
  exact List.append_nil _
 rw [List.nil_append, q2] at v2
 rw [q2] at v3
 exact ⟨T, e, hT, v2, nodup_len _ v2 v3, v3⟩
theorem un_walk {t : List RNd} (row : List RC) : ∀ (T : TT), UN t T → walk t row T.pre.length T.top = some (gl t row T)
 | .lf a, h => by
  show walk t row 1 a = some a
  rw [walk, if_pos h.2]
 | .nd a l r, h => by
  obtain ⟨h1, h2, h3, h4, h5, h6⟩ := h
  show walk t row ((r.pre ++ l.pre).length + 1) a = some (gl t row (.nd a l r))
  rw [walk, if_neg (by rw [h2]; decide), gl, nextN, zl]
  cases goN (t.getD a dNd) row
  ·rw [if_neg (by decide), if_neg (by decide), ← h4]
   exact walk_le (by omega) (un_walk row r h6)
  ·rw [if_pos rfl, if_pos rfl, ← h3]
   exact walk_le (by omega) (un_walk row l h5)
theorem un_walk' {t : List RNd} {T : TT} (row : List RC) (e : T.top = 0) (h : UN t T) (hl : T.pre.length ≤ t.length) : walk t row t.length 0 = some (gl t row T) := by
 rw [← e]; exact walk_le hl (un_walk row T h)
theorem valT_gl {t : List RNd} {T : TT} (row : List RC) (e : T.top = 0) (h : UN t T) (hl : T.pre.length ≤ t.length) : valT t row = vQ (t.getD (gl t row T) dNd).val := by
 unfold valT
 rw [un_walk' row e h hl]; rfl
theorem un_lvs {t : List RNd} : ∀ (T : TT), UN t T → ∀ a ∈ T.lvs, a < t.length ∧ (t.getD a dNd).leaf = true
 | .lf a, h, b, hb => by rw [List.mem_singleton.1 hb]; exact h
 | .nd a l r, h, b, hb => by
  obtain ⟨h1, h2, h3, h4, h5, h6⟩ := h
  rcases List.mem_append.1 hb with hb | hb
  ·exact un_lvs l h5 b hb
  ·exact un_lvs r h6 b hb
abbrev dS : RS := (false, false, (false, [], []), (false, [], []), false)
def hF (b : List RS) (r : List RC) : Nat → Nat → Bool
 | _, 0 => true
 | i, d + 1 => inV (b.getD i dS) (r.getD i dC) && hF b r (i + 1) d
def rB (b : List RS) (i : Nat) : List RC := (List.range i).map fun j => someV (b.getD j dS)
structure GT (t : List RNd) (f : Int) (T : TT) : Prop where
 rg : t.any (bdR t.length f) = false
 top : T.top = 0
 un : UN t T
 nd : T.pre.Nodup
 le : T.pre.length ≤ t.length
theorem gt_of {t : List RNd} {f : Int} (h : VT t f) (h1 : 1 ≤ t.length) : ∃ T : TT, GT t f T := by
 obtain ⟨T, a, b, c, d, e⟩ := unf h.sh h1
 exact ⟨T, h.rg, a, b, c, d⟩
def ngN (n : RNd) : RNd := if n.leaf then { n with val := rQ (-(vQ n.val)) } else n
def negT (t : List RNd) : List RNd := t.map ngN
theorem ng_same (n : RNd) : (ngN n).leaf = n.leaf ∧ (ngN n).ft = n.ft ∧ (ngN n).cut = n.cut ∧ (ngN n).lft = n.lft ∧ (ngN n).rgt = n.rgt ∧ (ngN n).miss = n.miss := by
 unfold ngN; split <;> exact ⟨rfl, rfl, rfl, rfl, rfl, rfl⟩
theorem neg_get (t : List RNd) (a : Nat) : (negT t).getD a dNd = ngN (t.getD a dNd) := by
 unfold negT
 rw [za, List.getElem?_map, za]
 cases t[a]? <;> rfl
theorem neg_len (t : List RNd) : (negT t).length = t.length := zr ..
theorem ng_bdR (len : Nat) (f : Int) (n : RNd) : bdR len f (ngN n) = bdR len f n := by
 obtain ⟨a, b, c, d, e, g⟩ := ng_same n
 unfold bdR
 rw [a, b, d, e]
theorem neg_rg {t : List RNd} {f : Int} (h : t.any (bdR t.length f) = false) : (negT t).any (bdR (negT t).length f) = false := by
 rw [neg_len]
 unfold negT
 rw [List.any_map, show (bdR t.length f ∘ ngN) = bdR t.length f from funext fun n => ng_bdR _ _ n]
 exact h
theorem un_neg {t : List RNd} : ∀ T : TT, UN t T → UN (negT t) T
 | .lf a, h => ⟨by rw [neg_len]; exact h.1, by rw [neg_get, (ng_same _).1]; exact h.2⟩
 | .nd a l r, h => by
  obtain ⟨h1, h2, h3, h4, h5, h6⟩ := h
  refine ⟨by rw [neg_len]; exact h1, by rw [neg_get, (ng_same _).1]; exact h2, ?_, ?_, un_neg l h5, un_neg r h6⟩
  ·rw [neg_get, (ng_same _).2.2.2.1]; exact h3
  ·rw [neg_get, (ng_same _).2.2.2.2.1]; exact h4
theorem GT.neg {t : List RNd} {f : Int} {T : TT} (h : GT t f T) : GT (negT t) f T :=
 ⟨neg_rg h.rg, h.top, un_neg T h.un, h.nd, by rw [neg_len]; exact h.le⟩
theorem GT.val {t : List RNd} {f : Int} {T : TT} (h : GT t f T) (row : List RC) : valT t row = vQ (t.getD (gl t row T) dNd).val := valT_gl row h.top h.un h.le
theorem GT.leaf {t : List RNd} {f : Int} {T : TT} (h : GT t f T) (row : List RC) : gl t row T < t.length ∧ (t.getD (gl t row T) dNd).leaf = true := un_lvs T h.un _ (gl_lvs t row T)
theorem negT_sm {t : List RNd} {k : Nat} (h1k : 1 ≤ k) (h : SmT t k) : SmT (negT t) k := by
 intro n hn
 obtain ⟨m, hm, rfl⟩ := List.mem_map.1 hn
 have h2 := h m hm
 unfold ngN
 split
 ·refine ⟨h2.1, h2.2.1, ?_⟩
  exact sm_cq (by rw [sq_neg]; exact vQ_sq h2.2.2 h1k)
 ·exact h2
def mstS (o : Option Rat) (n : RNd) : Option Rat := if n.leaf then (match o with | none => some (vQ n.val) | some v => if v < vQ n.val then some (vQ n.val) else some v) else o
def mstV (t : List RNd) : Option Rat := t.foldl mstS none
theorem mst_step (o : Option Rat) (n : RNd) : (∀ v, mstS o n = some v → (n.leaf = true → vQ n.val ≤ v) ∧ (∀ w, o = some w → w ≤ v) ∧ (o = some v ∨ n.leaf = true ∧ vQ n.val = v)) ∧ (mstS o n = none → o = none ∧ n.leaf = false) := by
 unfold mstS
 cases hl : n.leaf with
 | false => exact ⟨fun v h => ⟨fun h2 => (by cases h2), fun w hw => by rw [if_neg (by decide), hw] at h; cases h; exact Rat.le_refl, .inl (by rw [if_neg (by decide)] at h; exact h)⟩, fun h => ⟨h, rfl⟩⟩
 | true =>
  rw [if_pos rfl]
  cases o with
  | none => exact ⟨fun v h => by cases h; exact ⟨fun _ => Rat.le_refl, fun w hw => (by cases hw), .inr ⟨rfl, rfl⟩⟩, fun h => (by cases h)⟩
  | some u =>
   simp only
   refine ⟨fun v h => ?_, fun h => ?_⟩
   ·split at h
    ·rename_i hlt
     cases h
     exact ⟨fun _ => Rat.le_refl, fun w hw => by cases hw; exact Rat.le_of_lt hlt, .inr ⟨trivial, rfl⟩⟩
    ·rename_i hlt
     cases h
     exact ⟨fun _ => Rat.not_lt.1 hlt, fun w hw => by cases hw; exact Rat.le_refl, .inl rfl⟩
   ·split at h <;> cases h
theorem mst_fold : ∀ (t : List RNd) (o : Option Rat), (∀ v, t.foldl mstS o = some v → (∀ n ∈ t, n.leaf = true → vQ n.val ≤ v) ∧ (∀ w, o = some w → w ≤ v) ∧ (o = some v ∨ ∃ n ∈ t, n.leaf = true ∧ vQ n.val = v)) ∧ (t.foldl mstS o = none → o = none ∧ ∀ n ∈ t, n.leaf = false) := by
 intro t
 induction t with
 | nil => intro o; exact ⟨fun v h => ⟨fun n hn => (List.not_mem_nil hn).elim, fun w hw => by rw [List.foldl_nil, hw] at h; cases h; exact Rat.le_refl, .inl h⟩, fun h => ⟨h, fun n hn => (List.not_mem_nil hn).elim⟩⟩
 | cons a t ih =>
  intro o
  obtain ⟨s1, s2⟩ := mst_step o a
  obtain ⟨i1, i2⟩ := ih (mstS o a)
  refine ⟨fun v h => ?_, fun h => ?_⟩
  ·rw [List.foldl_cons] at h
   obtain ⟨j1, j2, j3⟩ := i1 v h
   have hst : ∀ w, mstS o a = some w → (a.leaf = true → vQ a.val ≤ v) ∧ (∀ x, o = some x → x ≤ v) := fun w hw => ⟨fun hl => Rat.le_trans ((s1 w hw).1 hl) (j2 w hw), fun x hx => Rat.le_trans ((s1 w hw).2.1 x hx) (j2 w hw)⟩
   refine ⟨fun n hn hl => ?_, fun w hw => ?_, ?_⟩
   ·rcases List.mem_cons.1 hn with rfl | hn
    ·cases hm : mstS o n with
     | none => have := (s2 hm).2; rw [hl] at this; cases this
     | some w => exact (hst w hm).1 hl
    ·exact j1 n hn hl
   ·cases hm : mstS o a with
    | none => have := (s2 hm).1; rw [hw] at this; cases this
    | some x => exact (hst x hm).2 w hw
   ·rcases j3 with j3 | ⟨n, hn, hl⟩
    ·rcases (s1 v j3).2.2 with h3 | h3
     ·exact .inl h3
     ·exact .inr ⟨a, zm .., h3⟩
    ·exact .inr ⟨n, zn _ hn, hl⟩
  ·rw [List.foldl_cons] at h
   obtain ⟨j1, j2⟩ := i2 h
   obtain ⟨k1, k2⟩ := s2 j1
   exact ⟨k1, fun n hn => (List.mem_cons.1 hn).elim (fun e => e ▸ k2) (fun hn => j2 n hn)⟩
theorem GT.most {t : List RNd} {f : Int} {T : TT} (h : GT t f T) : ∃ v, mstV t = some v ∧ (∀ row, valT t row ≤ v) ∧ (∀ n ∈ t, n.leaf = true → vQ n.val ≤ v) ∧ ∃ n ∈ t, n.leaf = true ∧ vQ n.val = v := by
 obtain ⟨f1, f2⟩ := mst_fold t none
 have hl := h.leaf []
 cases hm : mstV t with
 | none => have := (f2 hm).2 _ (getD_mem' dNd hl.1); rw [hl.2] at this; cases this
 | some v =>
  obtain ⟨a, b, c⟩ := f1 v hm
  refine ⟨v, rfl, fun row => ?_, a, ?_⟩
  ·rw [h.val]
   exact a _ (getD_mem' dNd (h.leaf row).1) (h.leaf row).2
  ·rcases c with c | c
   ·cases c
   ·exact c
theorem mst_sq {t : List RNd} {k : Nat} (hk : 1 ≤ k) (h : SmT t k) {v : Rat} (hv : mstV t = some v) : sq v ≤ k := by
 rcases ((mst_fold t none).1 v hv).2.2 with c | ⟨n, hn, _, e⟩
 ·cases c
 ·rw [← e]; exact vQ_sq (h n hn).2.2 hk
def bsV (t : List RNd) : TT → Rat
 | .lf a => vQ (t.getD a dNd).val
 | .nd a l r => (vQ (t.getD l.top dNd).cov * bsV t l + vQ (t.getD r.top dNd).cov * bsV t r) / vQ (t.getD a dNd).cov
theorem div_le9 {A s h : Rat} (hs : 0 < s) (h1 : A ≤ s * h) : A / s ≤ h := by
 have h2 := Rat.mul_le_mul_of_nonneg_right h1 (Rat.le_of_lt (Rat.inv_pos.2 hs))
 have h3 := Rat.mul_inv_cancel s (by grind)
 rw [Rat.div_def]
 have h4 : s * h * s⁻¹ = h := by rw [Rat.mul_comm s h, Rat.mul_assoc, h3, Rat.mul_one]
 rwa [h4] at h2
theorem le_div9 {A s h : Rat} (hs : 0 < s) (h1 : s * h ≤ A) : h ≤ A / s := by
 have h2 := Rat.mul_le_mul_of_nonneg_right h1 (Rat.le_of_lt (Rat.inv_pos.2 hs))
 have h3 := Rat.mul_inv_cancel s (by grind)
 rw [Rat.div_def]
 have h4 : s * h * s⁻¹ = h := by rw [Rat.mul_comm s h, Rat.mul_assoc, h3, Rat.mul_one]
 rwa [h4] at h2
theorem mean_le {x y a b h : Rat} (hx : 0 < x) (hy : 0 < y) (ha : a ≤ h) (hb : b ≤ h) : (x * a + y * b) / (x + y) ≤ h := by
 have hs : 0 < x + y := by grind
 have h1 : x * a ≤ x * h := Rat.mul_le_mul_of_nonneg_left ha (Rat.le_of_lt hx)
 have h2 : y * b ≤ y * h := Rat.mul_le_mul_of_nonneg_left hb (Rat.le_of_lt hy)
 refine div_le9 hs ?_
 grind
theorem le_mean {x y a b h : Rat} (hx : 0 < x) (hy : 0 < y) (ha : h ≤ a) (hb : h ≤ b) : h ≤ (x * a + y * b) / (x + y) := by
 have hs : 0 < x + y := by grind
 have h1 : x * h ≤ x * a := Rat.mul_le_mul_of_nonneg_left ha (Rat.le_of_lt hx)
 have h2 : y * h ≤ y * b := Rat.mul_le_mul_of_nonneg_left hb (Rat.le_of_lt hy)
 refine le_div9 hs ?_
 grind
theorem cmp_zero {x : Rat} : cmp x.num 0 ≤ 0 ↔ x ≤ 0 := by
 have h : cmp x.num 0 ≤ 0 ↔ x.num ≤ 0 := by unfold cmp; split <;> (try split) <;> omega
 rw [h]
 have := Rat.le_iff (a := x) (b := 0)
 rw [this]; simp
theorem cov_pos {t : List RNd} (h : t.any bdC = false) {a : Nat} (ha : a < t.length) : 0 < vQ (t.getD a dNd).cov := by
 rw [List.any_eq_false] at h
 have h2 := h _ (getD_mem' dNd ha)
 unfold bdC at h2
 rw [decide_eq_true_eq, cmp_zero] at h2
 exact Rat.not_le.1 h2
theorem cov_sum {t : List RNd} (h : t.any (bdS t) = false) {a : Nat} (ha : a < t.length) (hl : (t.getD a dNd).leaf = false) : vQ (t.getD a dNd).cov = vQ (t.getD (t.getD a dNd).lft.toNat dNd).cov + vQ (t.getD (t.getD a dNd).rgt.toNat dNd).cov := by
 rw [List.any_eq_false] at h
 have h2 := h _ (getD_mem' dNd ha)
 unfold bdS at h2
 rw [hl] at h2
 simpa using h2
theorem un_top {t : List RNd} {T : TT} (h : UN t T) : T.top < t.length := by
 cases T with
 | lf a => exact h.1
 | nd a l r => exact h.1
theorem bs_le {t : List RNd} (hc : t.any bdC = false) (hs : t.any (bdS t) = false) {v : Rat} (hv : ∀ n ∈ t, n.leaf = true → vQ n.val ≤ v) : ∀ T : TT, UN t T → bsV t T ≤ v
 | .lf a, h => hv _ (getD_mem' dNd h.1) h.2
 | .nd a l r, h => by
  obtain ⟨h1, h2, h3, h4, h5, h6⟩ := h
  rw [bsV, cov_sum hs h1 h2, ← h3, ← h4]
  exact mean_le (cov_pos hc (un_top h5)) (cov_pos hc (un_top h6)) (bs_le hc hs hv l h5) (bs_le hc hs hv r h6)
theorem le_bs {t : List RNd} (hc : t.any bdC = false) (hs : t.any (bdS t) = false) {v : Rat} (hv : ∀ n ∈ t, n.leaf = true → v ≤ vQ n.val) : ∀ T : TT, UN t T → v ≤ bsV t T
 | .lf a, h => hv _ (getD_mem' dNd h.1) h.2
 | .nd a l r, h => by
  obtain ⟨h1, h2, h3, h4, h5, h6⟩ := h
  rw [bsV, cov_sum hs h1 h2, ← h3, ← h4]
  exact le_mean (cov_pos hc (un_top h5)) (cov_pos hc (un_top h6)) (le_bs hc hs hv l h5) (le_bs hc hs hv r h6)
theorem sq_divR (x y : Rat) : sq (x / y) ≤ sq x + (sq y + 1) := by
 rw [Rat.div_def]
 exact zu (sq_mul _ _) (Nat.add_le_add_left (sq_inv y) _)
theorem bs_sq {t : List RNd} {k : Nat} (h1k : 1 ≤ k) (hs : SmT t k) : ∀ T : TT, UN t T → sq (bsV t T) ≤ T.pre.length * (4 * k + 4)
 | .lf a, h => by
  have := vQ_sq (hs _ (getD_mem' dNd h.1)).2.2 h1k
  show sq (vQ (t.getD a dNd).val) ≤ 1 * _
  omega
 | .nd a l r, h => by
  obtain ⟨h1, h2, h3, h4, h5, h6⟩ := h
  have a1 := bs_sq h1k hs l h5
  have a2 := bs_sq h1k hs r h6
  have c1 := vQ_sq (hs _ (getD_mem' dNd (un_top h5))).1 h1k
  have c2 := vQ_sq (hs _ (getD_mem' dNd (un_top h6))).1 h1k
  have c3 := vQ_sq (hs _ (getD_mem' dNd h1)).1 h1k
  have d1 := sq_mul (vQ (t.getD l.top dNd).cov) (bsV t l)
  have d2 := sq_mul (vQ (t.getD r.top dNd).cov) (bsV t r)
  have d3 := sq_add (vQ (t.getD l.top dNd).cov * bsV t l) (vQ (t.getD r.top dNd).cov * bsV t r)
  have d4 := sq_divR (vQ (t.getD l.top dNd).cov * bsV t l + vQ (t.getD r.top dNd).cov * bsV t r) (vQ (t.getD a dNd).cov)
  rw [bsV, TT.pre, zw, zl, show (r.pre.length + l.pre.length + 1) * (4 * k + 4) = l.pre.length * (4 * k + 4) + r.pre.length * (4 * k + 4) + (4 * k + 4) by rw [zA, zA]; omega]
  omega
def mstD (t : List RNd) : Rat := (mstV t).getD 0
theorem mstD_sq {t : List RNd} {k : Nat} (hk : 1 ≤ k) (h : SmT t k) : sq (mstD t) ≤ k := by
 unfold mstD
 cases hm : mstV t with
 | none => have := sq_zero; show sq 0 ≤ k; omega
 | some v => exact mst_sq hk h hm
def t4 (x : RQt) : RQt := (x.1, x.2.1.take 4, x.2.2.take 4)
def fN (n : RNd) : RNd := { n with cut := t4 n.cut, val := t4 n.val, cov := t4 n.cov }
def fT7 (t : List RNd) : List RNd := (t.take 15).map fN
def fM7 (m : RM) : RM := (m.1, (m.2.take 6).map fT7)
theorem fT7_sm {t : List RNd} (h : ∀ a ∈ t, OkNd a) : SmT (fT7 t) 4 := by
 intro n hn
 obtain ⟨m, hm, rfl⟩ := List.mem_map.1 hn
 have h2 := h m (List.mem_of_mem_take hm)
 exact ⟨Sm.take (k := maxL) h2.2.2.2.2.2 4, Sm.take (k := maxL) h2.2.1 4, Sm.take (k := maxL) h2.2.2.2.2.1 4⟩
theorem fT7_len (t : List RNd) : (fT7 t).length ≤ 15 := by unfold fT7; rw [zr]; exact List.length_take_le _ _
theorem fM7_sm {m : RM} (h : OkM m) : SmM (fM7 m) 4 := by
 refine ⟨?_, fun t ht => ?_⟩
 ·show ((m.2.take 6).map fT7).length ≤ 1000
  rw [zr]; exact zu (List.length_take_le _ _) (by omega)
 ·obtain ⟨s, hs, rfl⟩ := List.mem_map.1 (show t ∈ (m.2.take 6).map fT7 from ht)
  have h2 := h.2.2 s (List.mem_of_mem_take hs)
  exact ⟨zu (fT7_len s) (by omega), fT7_sm h2.2⟩
theorem number07_c {q : Bool} {l d : List Int} (hl : l.length ≤ maxL) (hd : d.length ≤ maxL) : R FF 234 [(AV.agg [AV.b q, (AV.l 1 (List.map u l)), (AV.l 1 (List.map u d))])] = some (AV.agg [AV.b q, (AV.l 1 (List.map u (((l.take 4))))), (AV.l 1 (List.map u (((d.take 4)))))]) := by
 have e3 : (4 : Int).toNat = 4 := rfl
 by_cases c1 : 4 < (l.length : Int)
 ·have c3 : (4 : Int) ≤ (l.length : Int) := by omega
  by_cases c2 : 4 < (d.length : Int)
  ·have c4 : (4 : Int) ≤ (d.length : Int) := by omega
   rw [R_go FF F234 c234.eq_1]
   simp only [RB, RL, un, St.none, Nat.reduceEqDiff, Nat.reduceAdd, Nat.reduceMul, Nat.reduceMod, Nat.reduceLeDiff, Nat.reduceLT, Int.reduceLT, Int.reduceLE, Int.reduceEq, Int.reduceToNat, Int.reduceSub, Int.reduceNeg, Int.reduceAdd, ↓reduceIte, reduceCtorEq, pack, pid, parN, lid, chkK, apartV, Heap.none, c1, c2, c3, c4]
  ·have t2 : d.take 4 = d := zg (by omega)
   rw [t2]
   rw [R_go FF F234 c234.eq_1]
   simp only [RB, RL, un, St.none, Nat.reduceEqDiff, Nat.reduceAdd, Nat.reduceMul, Nat.reduceMod, Nat.reduceLeDiff, Nat.reduceLT, Int.reduceLT, Int.reduceLE, Int.reduceEq, Int.reduceToNat, Int.reduceSub, Int.reduceNeg, Int.reduceAdd, ↓reduceIte, reduceCtorEq, pack, pid, parN, lid, chkK, apartV, Heap.none, c1, c2, c3]
 ·have t1 : l.take 4 = l := zg (by omega)
  rw [t1]
  by_cases c2 : 4 < (d.length : Int)
  ·have c4 : (4 : Int) ≤ (d.length : Int) := by omega
   rw [R_go FF F234 c234.eq_1]
   simp only [RB, RL, un, St.none, Nat.reduceEqDiff, Nat.reduceAdd, Nat.reduceMul, Nat.reduceMod, Nat.reduceLeDiff, Nat.reduceLT, Int.reduceLT, Int.reduceLE, Int.reduceEq, Int.reduceToNat, Int.reduceSub, Int.reduceNeg, Int.reduceAdd, ↓reduceIte, reduceCtorEq, pack, pid, parN, lid, chkK, apartV, Heap.none, c1, c2, c4]
  ·have t2 : d.take 4 = d := zg (by omega)
   rw [t2]
   rw [R_go FF F234 c234.eq_1]
   simp only [RB, RL, un, St.none, Nat.reduceEqDiff, Nat.reduceAdd, Nat.reduceMul, Nat.reduceMod, Nat.reduceLeDiff, Nat.reduceLT, Int.reduceLT, Int.reduceLE, Int.reduceEq, Int.reduceToNat, Int.reduceSub, Int.reduceNeg, Int.reduceAdd, ↓reduceIte, reduceCtorEq, pack, pid, parN, lid, chkK, apartV, Heap.none, c1, c2]
theorem take_min {α : Type} {l : List α} {i n : Nat} (h : i = min l.length n) : l.take i = l.take n := by
 rw [h]
 rcases Nat.le_total l.length n with h | h
 ·rw [Nat.min_eq_left h, zg (zp _), zg h]
 ·rw [Nat.min_eq_right h]
theorem few07_l1 {f : Int} {ts : List (List RNd)} {i : Nat} {acc : List (List RNd)} (hi : i < ts.length) (hu : ∀ a ∈ ts.getD i [], OkNd a) (hl : (ts.getD i []).length ≤ maxL) : ∀ (d j : Nat), j + d = min (ts.getD i []).length 15 →
  LP FF [(2, 1), (3, 4), (5, 1), (1, 0), (4, 0), (6, 0)] [(2, 1), (3, 4), (1, 0), (4, 0), (5, 0)] b209_1 [.ownp [(AV.i .i64 0), .l 1 []], .ownp [(AV.i .i64 f), .own true 1 (acc.map eTr)], .own true 14 ((((ts.getD i []).take j).map fN).map eNd), .tp (eM (f, ts)) 0, (AV.i .i64 ((i : Int))), (AV.i .i64 ((j : Int)))] =
   some (.exit 2, [.ownp [(AV.i .i64 0), .l 1 []], .ownp [(AV.i .i64 f), .own true 1 (acc.map eTr)], .tp (eM (f, ts)) 0, (AV.i .i64 ((i : Int))), .l 14 ((fT7 (ts.getD i [])).map eNd)]) := by
 have c0 : (i : Int) < (ts.length : Int) := by omega
 intro d
 induction d with
 | zero =>
  intro j hj
  rw [take_min (show j = min (ts.getD i []).length 15 by omega), show ((ts.getD i []).take 15).map fN = fT7 (ts.getD i []) from rfl]
  generalize fT7 (ts.getD i []) = F at *
  simp only [eM]
  by_cases c1 : (j : Int) < ((ts.getD i []).length : Int)
  ·have c2 : ¬ (j : Int) < 15 := by omega
   rw [LP_go FF b209_1.eq_1]
   simp only [RB, RL, un, St.none, Nat.reduceEqDiff, Nat.reduceAdd, Nat.reduceMul, Nat.reduceMod, Nat.reduceLeDiff, Nat.reduceLT, Int.reduceLT, Int.reduceLE, Int.reduceEq, Int.reduceToNat, Int.reduceSub, Int.reduceNeg, Int.reduceAdd, ↓reduceIte, reduceCtorEq, pack, pid, parN, lid, chkK, apartV, Heap.none, c0, c1, c2, eTr_rules, eTr_row, zf, nJ, nK, Row.freeze, zh]
  ·rw [LP_go FF b209_1.eq_1]
   simp only [RB, RL, un, St.none, Nat.reduceEqDiff, Nat.reduceAdd, Nat.reduceMul, Nat.reduceMod, Nat.reduceLeDiff, Nat.reduceLT, Int.reduceLT, Int.reduceLE, Int.reduceEq, Int.reduceToNat, Int.reduceSub, Int.reduceNeg, Int.reduceAdd, ↓reduceIte, reduceCtorEq, pack, pid, parN, lid, chkK, apartV, Heap.none, c0, c1, eTr_rules, eTr_row, zf, nJ, nK, Row.freeze, zh]
 | succ d ih =>
  intro j hj
  have hlt : j < (ts.getD i []).length := by omega
  have h9 := ih (j + 1) (by omega)
  have hx := hu _ (getD_mem' dNd hlt)
  have ht : ((ts.getD i []).take (j + 1)).map fN = ((ts.getD i []).take j).map fN ++ [fN ((ts.getD i []).getD j dNd)] := by
   rw [List.take_add_one, ze hlt, List.map_append, za (i := j), ze hlt]
   rfl
  rw [ht] at h9
  have hlen : (((ts.getD i []).take j).map fN).length = j := by rw [zr, zi]; omega
  have c1 : (j : Int) < ((ts.getD i []).length : Int) := by omega
  have c2 : (j : Int) < 15 := by omega
  have e2 : IntKind.i64.wrap ((j : Int) + 1) = ((j + 1 : Nat) : Int) := w64succ (by omega)
  have b2 : (j + 1) * 208 ≤ 140737488355328 := by omega
  generalize ((ts.getD i []).take j).map fN = A at *
  obtain ⟨x, hx'⟩ : ∃ x, (ts.getD i []).getD j dNd = x := ⟨_, rfl⟩
  rw [hx'] at h9 hx
  obtain ⟨xl, xf, ⟨cq, cl, cd⟩, xa, xb, xm, ⟨vq, vl, vd⟩, ⟨wq, wl, wd⟩⟩ := x
  obtain ⟨k1, k2, k3, k4, k5, k6⟩ := hx
  have f1 := number07_c (q := cq) (l := cl) (d := cd) k2.1.2 k2.2.2
  have f2 := number07_c (q := vq) (l := vl) (d := vd) k5.1.2 k5.2.2
  have f3 := number07_c (q := wq) (l := wl) (d := wd) k6.1.2 k6.2.2
  have m2 : List.take (j + 1) (A ++ [fN ⟨xl, xf, (cq, cl, cd), xa, xb, xm, (vq, vl, vd), (wq, wl, wd)⟩]) = A ++ [fN ⟨xl, xf, (cq, cl, cd), xa, xb, xm, (vq, vl, vd), (wq, wl, wd)⟩] := zg (by rw [zl, hlen]; exact zp _)
  have m3 : List.take j A = A := zg (by omega)
  have m1 : List.map eNd A ++ [[.b xl, .i .i64 xf, .b cq, .l 1 ((cl.take 4).map u), .l 1 ((cd.take 4).map u), .i .i64 xa, .i .i64 xb, .b xm, .b vq, .l 1 ((vl.take 4).map u), .l 1 ((vd.take 4).map u), .b wq, .l 1 ((wl.take 4).map u), .l 1 ((wd.take 4).map u)]] = List.map eNd (A ++ [fN ⟨xl, xf, (cq, cl, cd), xa, xb, xm, (vq, vl, vd), (wq, wl, wd)⟩]) := by rw [List.map_append]; rfl
  simp only [eM] at h9 ⊢
  rw [LP_go FF b209_1.eq_1]
  simp only [RB, RL, un, St.none, Nat.reduceEqDiff, Nat.reduceAdd, Nat.reduceMul, Nat.reduceMod, Nat.reduceLeDiff, Nat.reduceLT, Int.reduceLT, Int.reduceLE, Int.reduceEq, Int.reduceToNat, Int.reduceSub, Int.reduceNeg, Int.reduceAdd, ↓reduceIte, reduceCtorEq, pack, pid, parN, lid, chkK, apartV, Heap.none, c0, c1, c2, hx', eNd, eTr_rules, eTr_row, eNd_rules, eNd_row, zf, nJ, nK, Row.freeze, f1, f2, f3, e2, hlen, b2, m3, m1, m2]
  exact h9
theorem few07_l0 {f : Int} {ts : List (List RNd)} (hu : ∀ t ∈ ts, t.length ≤ maxL ∧ ∀ a ∈ t, OkNd a) (hl : ts.length ≤ maxL) : ∀ (d i : Nat), i + d = min ts.length 6 →
  LP FF [(2, 1), (3, 4), (1, 0), (4, 0)] [(2, 1), (3, 0)] b209_0 [.ownp [(AV.i .i64 0), .l 1 []], .ownp [(AV.i .i64 f), .own true 1 (((ts.take i).map fT7).map eTr)], .tp (eM (f, ts)) 0, (AV.i .i64 ((i : Int)))] =
   some (.exit 0, [.ownp [(AV.i .i64 0), .l 1 []], .tp (eM (fM7 (f, ts))) 0]) := by
 intro d
 induction d with
 | zero =>
  intro i hi
  rw [take_min (show i = min ts.length 6 by omega), show eM (fM7 (f, ts)) = [(AV.i .i64 f), .l 1 (((ts.take 6).map fT7).map eTr)] from rfl]
  simp only [eM]
  generalize (ts.take 6).map fT7 = F at *
  by_cases c1 : (i : Int) < (ts.length : Int)
  ·have c2 : ¬ (i : Int) < 6 := by omega
   rw [LP_go FF b209_0.eq_1]
   simp only [RB, RL, un, St.none, Nat.reduceEqDiff, Nat.reduceAdd, Nat.reduceMul, Nat.reduceMod, Nat.reduceLeDiff, Nat.reduceLT, Int.reduceLT, Int.reduceLE, Int.reduceEq, Int.reduceToNat, Int.reduceSub, Int.reduceNeg, Int.reduceAdd, ↓reduceIte, reduceCtorEq, pack, pid, parN, lid, chkK, apartV, Heap.none, c1, c2, eTr_rules, eTr_row, nJ, nK, Row.freeze, zh]
  ·rw [LP_go FF b209_0.eq_1]
   simp only [RB, RL, un, St.none, Nat.reduceEqDiff, Nat.reduceAdd, Nat.reduceMul, Nat.reduceMod, Nat.reduceLeDiff, Nat.reduceLT, Int.reduceLT, Int.reduceLE, Int.reduceEq, Int.reduceToNat, Int.reduceSub, Int.reduceNeg, Int.reduceAdd, ↓reduceIte, reduceCtorEq, pack, pid, parN, lid, chkK, apartV, Heap.none, c1, eTr_rules, eTr_row, nJ, nK, Row.freeze, zh]
 | succ d ih =>
  intro i hi
  have hlt : i < ts.length := by omega
  have h9 := ih (i + 1) (by omega)
  have hx := hu _ (getD_mem' ([] : List RNd) hlt)
  have l1 := few07_l1 (f := f) (ts := ts) (i := i) (acc := (ts.take i).map fT7) hlt hx.2 hx.1 (min (ts.getD i []).length 15) 0 (by omega)
  rw [List.take_zero, Int.ofNat_zero] at l1
  simp only [List.map_nil] at l1
  have ht : (ts.take (i + 1)).map fT7 = (ts.take i).map fT7 ++ [fT7 (ts.getD i [])] := by
   rw [List.take_add_one, ze hlt, List.map_append, za, ze hlt]
   rfl
  rw [ht] at h9
  have hlen : ((ts.take i).map fT7).length = i := by rw [zr, zi]; omega
  have c1 : (i : Int) < (ts.length : Int) := by omega
  have c2 : (i : Int) < 6 := by omega
  have e2 : IntKind.i64.wrap ((i : Int) + 1) = ((i + 1 : Nat) : Int) := w64succ (by omega)
  have b2 : (i + 1) * 24 ≤ 140737488355328 := by omega
  generalize (ts.take i).map fT7 = A at *
  generalize fT7 (ts.getD i []) = x at *
  have m2 : List.take (i + 1) (A ++ [x]) = A ++ [x] := zg (by rw [zl, hlen]; exact zp _)
  have m3 : List.take i A = A := zg (by omega)
  have m1 : List.map eTr A ++ [[AV.l 14 (x.map eNd)]] = List.map eTr (A ++ [x]) := by rw [List.map_append (f := eTr)]; rfl
  simp only [eM] at l1 h9 ⊢
  rw [LP_go FF b209_0.eq_1]
  simp only [RB, RL, un, St.none, Nat.reduceEqDiff, Nat.reduceAdd, Nat.reduceMul, Nat.reduceMod, Nat.reduceLeDiff, Nat.reduceLT, Int.reduceLT, Int.reduceLE, Int.reduceEq, Int.reduceToNat, Int.reduceSub, Int.reduceNeg, Int.reduceAdd, ↓reduceIte, reduceCtorEq, pack, pid, parN, lid, chkK, apartV, Heap.none, c1, c2, eTr_rules, eTr_row, zf, nJ, nK, Row.freeze, l1, e2, hlen, b2, m3, m1, m2]
  exact h9
theorem few07_c {m : RM} (h : OkM m) : R FF 209 [.agg (eM m)] = some (.agg (eM (fM7 m))) := by
 obtain ⟨f, ts⟩ := m
 have l0 := few07_l0 (f := f) (ts := ts) h.2.2 h.2.1 (min ts.length 6) 0 (by omega)
 rw [List.take_zero, Int.ofNat_zero] at l0
 simp only [List.map_nil] at l0
 generalize fM7 (f, ts) = F at *
 obtain ⟨g, us⟩ := F
 simp only [eM] at l0 ⊢
 rw [R_go FF F209 c209.eq_1]
 simp only [RB, RL, un, St.none, Nat.reduceEqDiff, Nat.reduceAdd, Nat.reduceMul, Nat.reduceMod, Nat.reduceLeDiff, Nat.reduceLT, Int.reduceLT, Int.reduceLE, Int.reduceEq, Int.reduceToNat, Int.reduceSub, Int.reduceNeg, Int.reduceAdd, ↓reduceIte, reduceCtorEq, pack, pid, parN, lid, chkK, apartV, Heap.none, l0, nJ, nK, n64, eTr_rules, eTr_row]
def oqL (o : Option Rat) : RQt := match o with
 | none => dQ
 | some v => rQ v
theorem mstS_eq (o : Option Rat) (n : RNd) : mstS o n = if n.leaf then (match o with | none => some (vQ n.val) | some v => if v < vQ n.val then some (vQ n.val) else some v) else o := rfl
theorem most_l0 {t : List RNd} {k : Nat} (hk : k ≤ 1000000000) (h1k : 1 ≤ k) (ht : t.length ≤ 100000) (hs : SmT t k) : ∀ (d i : Nat) (o : Option Rat), i + d = t.length → (∀ v, o = some v → sq v ≤ k) →
  LP FF [(2, 1), (3, 1), (4, 0), (7, 0), (8, 0), (9, 0)] [(2, 1), (3, 0)] b236_0 [.ownp [.b false, .l 1 [], .l 1 []], .ownp [.b (oqL o).1, (AV.l 1 (List.map u ((oqL o).2.1))), (AV.l 1 (List.map u ((oqL o).2.2)))], .b o.isNone, .l 14 (t.map eNd), (AV.i .i64 ((t.length : Int))), (AV.i .i64 ((i : Int)))] =
   some (.exit 0, [.ownp [.b false, .l 1 [], .l 1 []], .tp [.b (oqL ((t.drop i).foldl mstS o)).1, (AV.l 1 (List.map u ((oqL ((t.drop i).foldl mstS o)).2.1))), (AV.l 1 (List.map u ((oqL ((t.drop i).foldl mstS o)).2.2)))] 0]) := by
 intro d
 induction d with
 | zero =>
  intro i o hi ho
  have c1 : ¬ (i : Int) < (t.length : Int) := by omega
  rw [List.drop_of_length_le (by omega), List.foldl_nil]
  generalize oqL o = q at *
  rw [LP_go FF b236_0.eq_1]
  simp only [RB, RL, un, St.none, Nat.reduceEqDiff, Nat.reduceAdd, Nat.reduceMul, Nat.reduceMod, Nat.reduceLeDiff, Nat.reduceLT, Int.reduceLT, Int.reduceLE, Int.reduceEq, Int.reduceToNat, Int.reduceSub, Int.reduceNeg, Int.reduceAdd, ↓reduceIte, reduceCtorEq, pack, pid, parN, lid, chkK, apartV, Heap.none, c1, eNd_rules, eNd_row]
 | succ d ih =>
  intro i o hi ho
  have hlt : i < t.length := by omega
  have c1 : (i : Int) < (t.length : Int) := by omega
  have e2 : IntKind.i64.wrap ((i : Int) + 1) = ((i + 1 : Nat) : Int) := w64succ (by omega)
  have hmem := getD_mem' dNd hlt
  have hv := (hs _ hmem).2.2
  have es := mstS_eq o (t.getD i dNd)
  have hst : ∀ v, mstS o (t.getD i dNd) = some v → sq v ≤ k := by
   intro v h
   rcases ((mst_step o (t.getD i dNd)).1 v h).2.2 with h3 | h3
   ·exact ho v h3
   ·rw [← h3.2]; exact vQ_sq hv h1k
  have h9 := ih (i + 1) (mstS o (t.getD i dNd)) (by omega) hst
  rw [drop_foldT o hlt]
  obtain ⟨x, hx⟩ : ∃ x, x = t.getD i dNd := ⟨_, rfl⟩
  rw [← hx] at hv h9 es ⊢
  have hx' := hx.symm
  obtain ⟨xl, xf, xc, xa, xb, xm, xv, xw⟩ := x
  simp only at hv es
  have f1 := qclean_s (q := xv.1) hv (by omega)
  change R FF 63 [(AV.agg [AV.b xv.1, (AV.l 1 (List.map u xv.2.1)), (AV.l 1 (List.map u xv.2.2))])] = some (AV.agg [AV.b (ng (zC ((vQ xv)))), (AV.l 1 (List.map u (D (zy (zC ((vQ xv))))))), (AV.l 1 (List.map u (D (Rat.den ((vQ xv))))))]) at f1
  generalize hr : (t.drop (i + 1)).foldl mstS (mstS o ⟨xl, xf, xc, xa, xb, xm, xv, xw⟩) = res at *
  clear hr
  cases xl with
  | false =>
   rw [if_neg (by decide)] at es
   rw [es] at h9
   generalize o.isNone = fi at *
   generalize oqL o = q at *
   generalize oqL res = z at *
   rw [LP_go FF b236_0.eq_1]
   simp only [RB, RL, un, St.none, Nat.reduceEqDiff, Nat.reduceAdd, Nat.reduceMul, Nat.reduceMod, Nat.reduceLeDiff, Nat.reduceLT, Int.reduceLT, Int.reduceLE, Int.reduceEq, Int.reduceToNat, Int.reduceSub, Int.reduceNeg, Int.reduceAdd, ↓reduceIte, reduceCtorEq, pack, pid, parN, lid, chkK, apartV, Heap.none, c1, hx', eNd_rules, eNd_row, eNd, zf, e2]
   exact h9
  | true =>
   rw [if_pos rfl] at es
   cases o with
   | none =>
    simp only at es
    rw [es, show oqL (some (vQ xv)) = (ng (vQ xv).num, D (vQ xv).num.natAbs, D (vQ xv).den) from rfl, show (some (vQ xv)).isNone = false from rfl] at h9
    rw [show (none : Option Rat).isNone = true from rfl, show oqL none = (false, [], []) from rfl]
    generalize vQ xv = v at *
    generalize oqL res = z at *
    rw [LP_go FF b236_0.eq_1]
    simp only [RB, RL, un, St.none, Nat.reduceEqDiff, Nat.reduceAdd, Nat.reduceMul, Nat.reduceMod, Nat.reduceLeDiff, Nat.reduceLT, Int.reduceLT, Int.reduceLE, Int.reduceEq, Int.reduceToNat, Int.reduceSub, Int.reduceNeg, Int.reduceAdd, ↓reduceIte, reduceCtorEq, pack, pid, parN, lid, chkK, apartV, Heap.none, c1, hx', eNd_rules, eNd_row, eNd, zf, e2, f1, List.map_nil]
    exact h9
   | some w =>
    simp only at es
    have hw := ho w rfl
    have f2 := vcmp_c (x := xv) (y := rQ w) (k := k) (j := k) hv (sm_cq hw) (by omega) (by omega)
    rw [vQ_rQ] at f2
    have e1 := qcmp_gt (x := vQ xv) (y := w)
    rw [show (some w).isNone = false from rfl, show oqL (some w) = (ng w.num, D w.num.natAbs, D w.den) from rfl]
    simp only [rQ] at f2
    generalize vQ xv = v at *
    generalize qcmp v w = z at *
    by_cases b1 : w < v
    ·rw [if_pos b1] at es
     rw [es, show oqL (some v) = (ng v.num, D v.num.natAbs, D v.den) from rfl, show (some v).isNone = false from rfl] at h9
     have b2 := e1.2 b1
     generalize oqL res = y at *
     rw [LP_go FF b236_0.eq_1]
     simp only [RB, RL, un, St.none, Nat.reduceEqDiff, Nat.reduceAdd, Nat.reduceMul, Nat.reduceMod, Nat.reduceLeDiff, Nat.reduceLT, Int.reduceLT, Int.reduceLE, Int.reduceEq, Int.reduceToNat, Int.reduceSub, Int.reduceNeg, Int.reduceAdd, ↓reduceIte, reduceCtorEq, pack, pid, parN, lid, chkK, apartV, Heap.none, c1, hx', eNd_rules, eNd_row, eNd, zf, e2, f1, f2, b2]
     exact h9
    ·rw [if_neg b1] at es
     rw [es, show oqL (some w) = (ng w.num, D w.num.natAbs, D w.den) from rfl, show (some w).isNone = false from rfl] at h9
     have b2 : ¬ 0 < z := fun h => b1 (e1.1 h)
     generalize oqL res = y at *
     rw [LP_go FF b236_0.eq_1]
     simp only [RB, RL, un, St.none, Nat.reduceEqDiff, Nat.reduceAdd, Nat.reduceMul, Nat.reduceMod, Nat.reduceLeDiff, Nat.reduceLT, Int.reduceLT, Int.reduceLE, Int.reduceEq, Int.reduceToNat, Int.reduceSub, Int.reduceNeg, Int.reduceAdd, ↓reduceIte, reduceCtorEq, pack, pid, parN, lid, chkK, apartV, Heap.none, c1, hx', eNd_rules, eNd_row, eNd, zf, e2, f1, f2, b2]
     exact h9
theorem most_c {t : List RNd} {f : Int} {T : TT} {k : Nat} (hk : k ≤ 1000000000) (h1k : 1 ≤ k) (ht : t.length ≤ 100000) (hs : SmT t k) (hT : GT t f T) : R FF 236 [.l 14 (t.map eNd)] = some (AV.agg [AV.b (ng (zC ((mstD t)))), (AV.l 1 (List.map u (D (zy (zC ((mstD t))))))), (AV.l 1 (List.map u (D (Rat.den ((mstD t))))))]) := by
 have l0 := most_l0 hk h1k ht hs t.length 0 none (by omega) (fun v h => by cases h)
 obtain ⟨v, e, _⟩ := hT.most
 rw [List.drop_zero, Int.ofNat_zero, show t.foldl mstS none = some v from e, show oqL none = (false, [], []) from rfl, show oqL (some v) = (ng v.num, D v.num.natAbs, D v.den) from rfl, show (none : Option Rat).isNone = true from rfl] at l0
 simp only [List.map_nil] at l0
 rw [show mstD t = v by unfold mstD; rw [e]; rfl]
 rw [R_go FF F236 c236.eq_1]
 simp only [RB, RL, un, St.none, Nat.reduceEqDiff, Nat.reduceAdd, Nat.reduceMul, Nat.reduceMod, Nat.reduceLeDiff, Nat.reduceLT, Int.reduceLT, Int.reduceLE, Int.reduceEq, Int.reduceToNat, Int.reduceSub, Int.reduceNeg, Int.reduceAdd, ↓reduceIte, reduceCtorEq, pack, pid, parN, lid, chkK, apartV, Heap.none, l0, eNd_rules, eNd_row]
def ngI (t : List RNd) (i : Nat) : List RNd := (t.take i).map ngN ++ t.drop i
theorem ngI_len (t : List RNd) (i : Nat) : (ngI t i).length = t.length := by
 unfold ngI
 rw [zl, zr, zi, List.length_drop]; omega
theorem ngI_get {t : List RNd} {i : Nat} (h : i < t.length) : (ngI t i).getD i dNd = t.getD i dNd := by
 unfold ngI
 rw [za, List.getElem?_append_right (by rw [zr, zi]; omega), zr, zi, Nat.min_eq_left (by omega), Nat.sub_self, List.getElem?_drop, za, Nat.add_zero]
theorem ngI_set {t : List RNd} {i : Nat} (h : i < t.length) : (ngI t i).set i (ngN (t.getD i dNd)) = ngI t (i + 1) := by
 unfold ngI
 rw [List.set_append_right _ _ (by rw [zr, zi]; omega), zr, zi, Nat.min_eq_left (by omega), Nat.sub_self, List.drop_eq_getElem_cons h, List.set_cons_zero, List.take_add_one, ze h, List.map_append, List.append_assoc, za, ze h]
 rfl
theorem ngI_same {t : List RNd} {i : Nat} (h : i < t.length) (hl : (t.getD i dNd).leaf = false) : ngI t i = ngI t (i + 1) := by
 rw [← ngI_set h, show ngN (t.getD i dNd) = t.getD i dNd by unfold ngN; rw [hl]; rfl, ← ngI_get h]
 have hi : i < (ngI t i).length := by rw [ngI_len]; exact h
 rw [za, ze hi, Option.getD_some, List.set_getElem_self]
theorem neg_l1 {t : List RNd} {acc us : List (List RNd)} {n j : Int} {k : Nat} (hk : k ≤ 1000000000) (h1k : 1 ≤ k) (ht : t.length ≤ 100000) (hs : SmT t k) : ∀ (d i : Nat), i + d = t.length →
  LP FF [(3, 1), (6, 1), (8, 0), (9, 0), (10, 0), (18, 0), (19, 0)] [(3, 1), (6, 0), (8, 0), (9, 0), (10, 0)] b226_1 [.own true 1 (acc.map eTr), .own true 14 ((ngI t i).map eNd), .l 1 (us.map eTr), (AV.i .i64 n), (AV.i .i64 j), (AV.i .i64 ((t.length : Int))), (AV.i .i64 ((i : Int)))] = some (.exit 2, [.own true 1 (acc.map eTr), .l 14 ((negT t).map eNd), .l 1 (us.map eTr), (AV.i .i64 n), (AV.i .i64 j)]) := by
 intro d
 induction d with
 | zero =>
  intro i hi
  have c1 : ¬ (i : Int) < (t.length : Int) := by omega
  rw [show ngI t i = negT t by unfold ngI negT; rw [show i = t.length by omega, zg (zp _), List.drop_of_length_le (zp _), List.append_nil]]
  generalize negT t = F at *
  rw [LP_go FF b226_1.eq_1]
  simp only [RB, RL, un, St.none, Nat.reduceEqDiff, Nat.reduceAdd, Nat.reduceMul, Nat.reduceMod, Nat.reduceLeDiff, Nat.reduceLT, Int.reduceLT, Int.reduceLE, Int.reduceEq, Int.reduceToNat, Int.reduceSub, Int.reduceNeg, Int.reduceAdd, ↓reduceIte, reduceCtorEq, pack, pid, parN, lid, chkK, apartV, Heap.none, c1, eNd_rules, eNd_row, eTr_rules, eTr_row, Row.freeze, zh]
 | succ d ih =>
  intro i hi
  have hlt : i < t.length := by omega
  have c1 : (i : Int) < (t.length : Int) := by omega
  have e2 : IntKind.i64.wrap ((i : Int) + 1) = ((i + 1 : Nat) : Int) := w64succ (by omega)
  have h9 := ih (i + 1) (by omega)
  have hmem := getD_mem' dNd hlt
  have hv := (hs _ hmem).2.2
  have hg := ngI_get hlt
  have hset := ngI_set hlt
  have hsame := ngI_same hlt
  have hlen := ngI_len t i
  obtain ⟨x, hx⟩ : ∃ x, x = t.getD i dNd := ⟨_, rfl⟩
  rw [← hx] at hv hg hset hsame
  obtain ⟨xl, xf, xc, xa, xb, xm, xv, xw⟩ := x
  simp only at hv hsame
  have f1 := qneg_c (q := xv.1) hv.1.1 (zu hv.1.2 (by omega)) hv.2.1 (zu hv.2.2 (by omega))
  change R FF 96 [(AV.agg [AV.b xv.1, (AV.l 1 (List.map u xv.2.1)), (AV.l 1 (List.map u xv.2.2))])] = some (AV.agg [AV.b (ng (zC ((-vQ xv)))), (AV.l 1 (List.map u (D (zy (zC ((-vQ xv))))))), (AV.l 1 (List.map u (D (Rat.den ((-vQ xv))))))]) at f1
  cases xl with
  | false =>
   rw [← hsame rfl] at h9
   generalize ngI t i = A at *
   have c2 : (i : Int) < (A.length : Int) := by omega
   rw [LP_go FF b226_1.eq_1]
   have m3 : List.take t.length A = A := zg (by omega)
   simp only [RB, RL, un, St.none, Nat.reduceEqDiff, Nat.reduceAdd, Nat.reduceMul, Nat.reduceMod, Nat.reduceLeDiff, Nat.reduceLT, Int.reduceLT, Int.reduceLE, Int.reduceEq, Int.reduceToNat, Int.reduceSub, Int.reduceNeg, Int.reduceAdd, ↓reduceIte, reduceCtorEq, pack, pid, parN, lid, chkK, apartV, Heap.none, c1, c2, hg, hlen, eNd_rules, eNd_row, eNd, eTr_rules, eTr_row, zf, e2, hlt, m3]
   exact h9
  | true =>
   rw [show ngN ⟨true, xf, xc, xa, xb, xm, xv, xw⟩ = ⟨true, xf, xc, xa, xb, xm, rQ (-vQ xv), xw⟩ from rfl] at hset
   generalize -vQ xv = v at *
   rw [← hset] at h9
   generalize ngI t i = A at *
   have c2 : (i : Int) < (A.length : Int) := by omega
   have m1 : putC 14 (List.map eNd A) i 8 [AV.b (ng v.num), AV.l 1 (List.map u (D v.num.natAbs)), AV.l 1 (List.map u (D v.den))] = List.map eNd (A.set i ⟨true, xf, xc, xa, xb, xm, rQ v, xw⟩) := by
    have hg2 : (List.map eNd A).getD i [] = eNd ⟨true, xf, xc, xa, xb, xm, xv, xw⟩ := by
     rw [← hg, za, List.getElem?_map, za, ze (by omega)]; rfl
    rw [putC, if_neg (show ¬ (8 = 0 ∧ _) from fun h => absurd h.1 (by decide)), hg2, List.map_set]
    rfl
   have m4 : List.take t.length (List.map eNd (A.set i ⟨true, xf, xc, xa, xb, xm, rQ v, xw⟩)) = List.map eNd (A.set i ⟨true, xf, xc, xa, xb, xm, rQ v, xw⟩) := zg (by rw [zr, zx]; omega)
   rw [LP_go FF b226_1.eq_1]
   simp only [RB, RL, un, St.none, Nat.reduceEqDiff, Nat.reduceAdd, Nat.reduceMul, Nat.reduceMod, Nat.reduceLeDiff, Nat.reduceLT, Int.reduceLT, Int.reduceLE, Int.reduceEq, Int.reduceToNat, Int.reduceSub, Int.reduceNeg, Int.reduceAdd, ↓reduceIte, reduceCtorEq, pack, pid, parN, lid, chkK, apartV, Heap.none, c1, c2, hg, hlen, eNd_rules, eNd_row, eNd, eTr_rules, eTr_row, zf, e2, f1, m1, m4, hlt]
   exact h9
theorem neg_l0 {ts : List (List RNd)} {k : Nat} (hk : k ≤ 1000000000) (h1k : 1 ≤ k) (hn : ts.length ≤ 1000) (hs : ∀ t ∈ ts, t.length ≤ 100000 ∧ SmT t k) : ∀ (d i : Nat), i + d = ts.length →
  LP FF [(3, 1), (8, 0), (9, 0), (10, 0)] [(3, 0)] b226_0 [.own true 1 (((ts.take i).map negT).map eTr), .l 1 (ts.map eTr), (AV.i .i64 ((ts.length : Int))), (AV.i .i64 ((i : Int)))] = some (.exit 0, [.l 1 ((ts.map negT).map eTr)]) := by
 intro d
 induction d with
 | zero =>
  intro i hi
  have c1 : ¬ (i : Int) < (ts.length : Int) := by omega
  rw [zg (by omega)]
  generalize ts.map negT = F at *
  rw [LP_go FF b226_0.eq_1]
  simp only [RB, RL, un, St.none, Nat.reduceEqDiff, Nat.reduceAdd, Nat.reduceMul, Nat.reduceMod, Nat.reduceLeDiff, Nat.reduceLT, Int.reduceLT, Int.reduceLE, Int.reduceEq, Int.reduceToNat, Int.reduceSub, Int.reduceNeg, Int.reduceAdd, ↓reduceIte, reduceCtorEq, pack, pid, parN, lid, chkK, apartV, Heap.none, c1, eTr_rules, eTr_row, Row.freeze, zh]
 | succ d ih =>
  intro i hi
  have hlt : i < ts.length := by omega
  have h9 := ih (i + 1) (by omega)
  have hx := hs _ (getD_mem' ([] : List RNd) hlt)
  have l1 := neg_l1 (t := ts.getD i []) (acc := (ts.take i).map negT) (us := ts) (n := (ts.length : Int)) (j := (i : Int)) hk h1k hx.1 hx.2 (ts.getD i []).length 0 (by omega)
  rw [show ngI (ts.getD i []) 0 = ts.getD i [] from rfl, Int.ofNat_zero] at l1
  have ht : (ts.take (i + 1)).map negT = (ts.take i).map negT ++ [negT (ts.getD i [])] := by
   rw [List.take_add_one, ze hlt, List.map_append, za, ze hlt]
   rfl
  rw [ht] at h9
  have hlen : ((ts.take i).map negT).length = i := by rw [zr, zi]; omega
  have c1 : (i : Int) < (ts.length : Int) := by omega
  have e2 : IntKind.i64.wrap ((i : Int) + 1) = ((i + 1 : Nat) : Int) := w64succ (by omega)
  have b2 : (i + 1) * 24 ≤ 140737488355328 := by omega
  have b3 : (0 + (ts.getD i []).length) * 208 ≤ 140737488355328 := by omega
  have b4 : (ts.getD i []).length * 208 ≤ 140737488355328 := by omega
  generalize (ts.take i).map negT = A at *
  generalize negT (ts.getD i []) = x at *
  have m2 : List.take (i + 1) (A ++ [x]) = A ++ [x] := zg (by rw [zl, hlen]; exact zp _)
  have m3 : List.take i A = A := zg (by omega)
  have m1 : List.map eTr A ++ [[AV.l 14 (x.map eNd)]] = List.map eTr (A ++ [x]) := by rw [List.map_append (f := eTr)]; rfl
  rw [LP_go FF b226_0.eq_1]
  simp only [RB, RL, un, St.none, Nat.reduceEqDiff, Nat.reduceAdd, Nat.reduceMul, Nat.reduceMod, Nat.reduceLeDiff, Nat.reduceLT, Int.reduceLT, Int.reduceLE, Int.reduceEq, Int.reduceToNat, Int.reduceSub, Int.reduceNeg, Int.reduceAdd, ↓reduceIte, reduceCtorEq, pack, pid, parN, lid, chkK, apartV, Heap.none, c1, eNd_rules, eNd_row, eTr_rules, eTr_row, zf, l1, e2, hlen, b2, b3, b4, m3, m1, m2, List.nil_append, zB, zh]
  exact h9
theorem negative_c {ts : List (List RNd)} {k : Nat} (hk : k ≤ 1000000000) (h1k : 1 ≤ k) (hn : ts.length ≤ 1000) (hs : ∀ t ∈ ts, t.length ≤ 100000 ∧ SmT t k) : R FF 226 [.l 1 (ts.map eTr)] = some (.l 1 ((ts.map negT).map eTr)) := by
 have l0 := neg_l0 hk h1k hn hs ts.length 0 (by omega)
 rw [List.take_zero, Int.ofNat_zero] at l0
 simp only [List.map_nil] at l0
 generalize ts.map negT = F at *
 rw [R_go FF F226 c226.eq_1]
 simp only [RB, RL, un, St.none, Nat.reduceEqDiff, Nat.reduceAdd, Nat.reduceMul, Nat.reduceMod, Nat.reduceLeDiff, Nat.reduceLT, Int.reduceLT, Int.reduceLE, Int.reduceEq, Int.reduceToNat, Int.reduceSub, Int.reduceNeg, Int.reduceAdd, ↓reduceIte, reduceCtorEq, pack, pid, parN, lid, chkK, apartV, Heap.none, l0, eTr_rules, eTr_row]
structure OkT (ts : List (List RNd)) (f : Int) (k : Nat) : Prop where
 n : ts.length ≤ 6
 gt : ∀ t ∈ ts, ∃ T : TT, GT t f T
 len : ∀ t ∈ ts, t.length ≤ 1000
 sm : ∀ t ∈ ts, SmT t k
theorem drop_getD {α : Type} {l : List α} (d : α) {j : Nat} (h : j < l.length) : l.drop j = l.getD j d :: l.drop (j + 1) := by
 rw [za, ze h]
 exact List.drop_eq_getElem_cons h
structure Fw (m : RM) (k : Nat) : Prop where
 n : m.2.length ≤ 6
 len : ∀ t ∈ m.2, t.length ≤ 1000
 sm : ∀ t ∈ m.2, SmT t k
theorem Fw.okT {m : RM} {k : Nat} (h : Fw m k) (hv : VM m) : OkT m.2 m.1 k := ⟨h.n, fun t ht => gt_of (hv.all t ht) (vt_len hv t ht), h.len, h.sm⟩
def ovE : Nat → List AV → Option AV :=
 ovF 31 (two fun x y => encQ (x + y)) <| ovF 55 (two fun x y => encQ (x - y)) <| ovF 14 (two fun x y => some (AV.i .i64 (qcmp x y))) <| ovF 57 (two fun x y => some (.b (decide (x = y)))) <| ovF 162 (one fun x => some (AV.i .i64 (cmp x.num 0))) <|
 ovF 63 (one encQ) <| ovF 68 ofG <| ovF 54 (nilG 0) <| ovF 56 (nilG 1) nothing
theorem ovE_ok : LeC ovE (R FF) :=
 ovF_ok ov_add <| ovF_ok ov_sub <| ovF_ok ov_cmp <| ovF_ok ov_same <| ovF_ok ov_sign <| ovF_ok ov_clean <| ovF_ok ov_of <| ovF_ok ov_zero <| ovF_ok ov_one nothing_ok
theorem runE {k f : Nat} {xs : List AV} {v : AV} (h : runV ovE FF k f xs = some v) : R FF f xs = some v := runV_ok ovE_ok k f xs v h
theorem awake24e : R FF 199 [] = some (.b true) := runE (k := 30) (by kernel_rfl)
theorem SmQ.mono {x : RQt} {k j : Nat} (h : SmQ x k) (hj : k ≤ j) : SmQ x j := Sm.mono h hj
theorem fM7_fw {m : RM} (h : OkM m) : Fw (fM7 m) 4 := by
 have h2 := fM7_sm h
 refine ⟨?_, fun t ht => ?_, fun t ht => (h2.2 t ht).2⟩
 ·show ((m.2.take 6).map fT7).length ≤ 6
  rw [zr]; exact List.length_take_le _ _
 ·obtain ⟨s, hs, rfl⟩ := List.mem_map.1 (show t ∈ (m.2.take 6).map fT7 from ht)
  have := fT7_len s
  omega
theorem ccmp_c {x y : Rat} {k j : Nat} (hx : sq x ≤ k) (hy : sq y ≤ j) (hk : k ≤ 100000000000) (hj : j ≤ 100000000000) : R FF 14 [(AV.agg [AV.b (ng (zC x)), (AV.l 1 (List.map u (D (zy (zC x))))), (AV.l 1 (List.map u (D (Rat.den x))))]), (AV.agg [AV.b (ng (zC y)), (AV.l 1 (List.map u (D (zy (zC y))))), (AV.l 1 (List.map u (D (Rat.den y))))])] = some (AV.i .i64 (qcmp x y)) := by
 have h := vcmp_c (x := rQ x) (y := rQ y) (sm_cq hx) (sm_cq hy) hk hj
 rw [vQ_rQ, vQ_rQ] at h; exact h
theorem eover_c {A : Rat} {x : RQt} {k : Nat} (hk : k ≤ 10000000000) (h1k : 1 ≤ k) (hA : sq A ≤ k) (hx : SmQ x k) (h0 : vQ x ≠ 0) : R FF 265 [(AV.agg [AV.b (ng (zC A)), (AV.l 1 (List.map u (D (zy (zC A))))), (AV.l 1 (List.map u (D (Rat.den A))))]), (AV.agg [AV.b x.1, (AV.l 1 (List.map u x.2.1)), (AV.l 1 (List.map u x.2.2))])] = some (AV.agg [AV.b (ng (zC ((A / vQ x)))), (AV.l 1 (List.map u (D (zy (zC ((A / vQ x))))))), (AV.l 1 (List.map u (D (Rat.den ((A / vQ x))))))]) := by
 have f1 := qdiv_c (q := ng A.num) (r := x.1) hk h1k (sm_cq hA) hx h0
 rw [qv_cq, show qv x.1 x.2.1 x.2.2 = vQ x from rfl, ← Rat.div_def] at f1
 generalize A / vQ x = z at *
 rw [R_go FF F265 c265.eq_1]
 simp only [RB, RL, un, St.none, Nat.reduceEqDiff, Nat.reduceAdd, Nat.reduceMul, Nat.reduceMod, Nat.reduceLeDiff, Nat.reduceLT, Int.reduceLT, Int.reduceLE, Int.reduceEq, Int.reduceToNat, Int.reduceSub, Int.reduceNeg, Int.reduceAdd, ↓reduceIte, reduceCtorEq, pack, pid, parN, lid, chkK, apartV, Heap.none, f1]
theorem emean_c {t : List RNd} {n : RNd} {a b : Rat} {k : Nat} (hk : k ≤ 1000000) (h1k : 1 ≤ k) (ha : sq a ≤ 100000000) (hb : sq b ≤ 100000000) (hl : 0 ≤ n.lft ∧ n.lft < (t.length : Int)) (hr : 0 ≤ n.rgt ∧ n.rgt < (t.length : Int)) (hs : SmT t k) (hn : SmQ n.cov k) (h0 : vQ n.cov ≠ 0) :
  R FF 264 [.l 14 (t.map eNd), .agg (eNd n), (AV.agg [AV.b (ng (zC a)), (AV.l 1 (List.map u (D (zy (zC a))))), (AV.l 1 (List.map u (D (Rat.den a))))]), (AV.agg [AV.b (ng (zC b)), (AV.l 1 (List.map u (D (zy (zC b))))), (AV.l 1 (List.map u (D (Rat.den b))))])] = some (AV.agg [AV.b (ng (zC (((vQ (t.getD n.lft.toNat dNd).cov * a + vQ (t.getD n.rgt.toNat dNd).cov * b) / vQ n.cov)))), (AV.l 1 (List.map u (D (zy (zC (((vQ (t.getD n.lft.toNat dNd).cov * a + vQ (t.getD n.rgt.toNat dNd).cov * b) / vQ n.cov))))))), (AV.l 1 (List.map u (D (Rat.den (((vQ (t.getD n.lft.toNat dNd).cov * a + vQ (t.getD n.rgt.toNat dNd).cov * b) / vQ n.cov))))))]) := by
 have s1 := (hs _ (getD_mem' dNd (show n.lft.toNat < t.length by omega))).1
 have s2 := (hs _ (getD_mem' dNd (show n.rgt.toNat < t.length by omega))).1
 have f1 := qmul_vv (x := (t.getD n.lft.toNat dNd).cov) (y := rQ a) s1 (sm_cq ha) (by omega) (by omega)
 have f2 := qmul_vv (x := (t.getD n.rgt.toNat dNd).cov) (y := rQ b) s2 (sm_cq hb) (by omega) (by omega)
 rw [vQ_rQ] at f1 f2
 have m1 := sq_mul (vQ (t.getD n.lft.toNat dNd).cov) a
 have m2 := sq_mul (vQ (t.getD n.rgt.toNat dNd).cov) b
 have q1 := vQ_sq s1 h1k
 have q2 := vQ_sq s2 h1k
 have m3 := sq_add (vQ (t.getD n.lft.toNat dNd).cov * a) (vQ (t.getD n.rgt.toNat dNd).cov * b)
 have f3 := qadd_cc (s := vQ (t.getD n.lft.toNat dNd).cov * a) (t := vQ (t.getD n.rgt.toNat dNd).cov * b) (k := 1000000000) (j := 1000000000) (by omega) (by omega) (by omega) (by omega)
 have f4 := eover_c (A := vQ (t.getD n.lft.toNat dNd).cov * a + vQ (t.getD n.rgt.toNat dNd).cov * b) (x := n.cov) (k := 1000000000) (by omega) (by omega) (by omega) (hn.mono (by omega)) h0
 simp only [rQ] at f1 f2
 generalize vQ (t.getD n.lft.toNat dNd).cov * a = x at *
 generalize vQ (t.getD n.rgt.toNat dNd).cov * b = y at *
 generalize x + y = z at *
 generalize z / vQ n.cov = w at *
 obtain ⟨xl, xf, xc, xa, xb, xm, xv, xw⟩ := n
 simp only at hl hr f1 f2 f4
 have hl1 := hl.1
 have hl2 := hl.2
 have hr1 := hr.1
 have hr2 := hr.2
 simp only [eNd]
 rw [R_go FF F264 c264.eq_1]
 simp only [RB, RL, un, St.none, Nat.reduceEqDiff, Nat.reduceAdd, Nat.reduceMul, Nat.reduceMod, Nat.reduceLeDiff, Nat.reduceLT, Int.reduceLT, Int.reduceLE, Int.reduceEq, Int.reduceToNat, Int.reduceSub, Int.reduceNeg, Int.reduceAdd, ↓reduceIte, reduceCtorEq, pack, pid, parN, lid, chkK, apartV, Heap.none, hl1, hl2, hr1, hr2, f1, f2, f3, f4, n64, eNd_rules, eNd_row]
theorem known0_c {n : Int} (h0 : 0 ≤ n) (h1 : n < 64) : R FF 263 [.i .u64 0, (AV.i .i64 n)] = some (.b false) := by
 have c1 : ¬ n < 0 := by omega
 have e1 : ∀ x : Int, Int.fdiv 0 x = 0 := fun x => Int.zero_fdiv x
 have e2 : bits BinOp.and IntKind.u64 0 1 = 0 := rfl
 rw [R_go FF F263 c263.eq_1]
 simp only [RB, RL, un, St.none, Nat.reduceEqDiff, Nat.reduceAdd, Nat.reduceMul, Nat.reduceMod, Nat.reduceLeDiff, Nat.reduceLT, Int.reduceLT, Int.reduceLE, Int.reduceEq, Int.reduceToNat, Int.reduceSub, Int.reduceNeg, Int.reduceAdd, ↓reduceIte, reduceCtorEq, pack, pid, parN, lid, chkK, apartV, Heap.none, c1, e1, e2]
theorem value0_c {t : List RNd} {f : Int} {k : Nat} {es : List (List AV)} (hk : k ≤ 10) (h1k : 1 ≤ k) (ht : t.length ≤ 1000) (hs : SmT t k) (hrg : t.any (bdR t.length f) = false) (hc : t.any bdC = false) (hf : f ≤ 64) : ∀ (T : TT), UN t T → T.pre.length ≤ 1000 →
  R FF 260 [.l 14 (t.map eNd), (AV.i .i64 ((T.top : Int))), .l 4 es, .i .u64 0] = some (AV.agg [AV.b (ng (zC ((bsV t T)))), (AV.l 1 (List.map u (D (zy (zC ((bsV t T))))))), (AV.l 1 (List.map u (D (Rat.den ((bsV t T))))))])
 | .lf a, h, hp => by
  have c1 : (a : Int) < (t.length : Int) := by have := h.1; omega
  have hl := h.2
  have f1 := qclean_s (q := (t.getD a dNd).val.1) (hs _ (getD_mem' dNd h.1)).2.2 (by omega)
  change R FF 63 [(AV.agg [AV.b ((t.getD a dNd).val.1), (AV.l 1 (List.map u (((t.getD a dNd).val.2.1)))), (AV.l 1 (List.map u (((t.getD a dNd).val.2.2))))])] = some (AV.agg [AV.b (ng (zC ((vQ (t.getD a dNd).val)))), (AV.l 1 (List.map u (D (zy (zC ((vQ (t.getD a dNd).val))))))), (AV.l 1 (List.map u (D (Rat.den ((vQ (t.getD a dNd).val))))))]) at f1
  show R FF 260 [.l 14 (t.map eNd), (AV.i .i64 ((a : Int))), .l 4 es, .i .u64 0] = some (AV.agg [AV.b (ng (zC ((vQ (t.getD a dNd).val)))), (AV.l 1 (List.map u (D (zy (zC ((vQ (t.getD a dNd).val))))))), (AV.l 1 (List.map u (D (Rat.den ((vQ (t.getD a dNd).val))))))])
  generalize vQ (t.getD a dNd).val = v at *
  rw [R_go FF F260 c260.eq_1]
  simp only [RB, RL, un, St.none, Nat.reduceEqDiff, Nat.reduceAdd, Nat.reduceMul, Nat.reduceMod, Nat.reduceLeDiff, Nat.reduceLT, Int.reduceLT, Int.reduceLE, Int.reduceEq, Int.reduceToNat, Int.reduceSub, Int.reduceNeg, Int.reduceAdd, ↓reduceIte, reduceCtorEq, pack, pid, parN, lid, chkK, apartV, Heap.none, c1, hl, f1, n64, eNd_rules, eNd_row, zf]
 | .nd a l r, h, hp => by
  obtain ⟨h1, h2, h3, h4, h5, h6⟩ := h
  have hlen : (TT.nd a l r).pre.length = r.pre.length + l.pre.length + 1 := by rw [TT.pre, zw, zl]
  have i1 := value0_c (es := es) hk h1k ht hs hrg hc hf l h5 (by omega)
  have i2 := value0_c (es := es) hk h1k ht hs hrg hc hf r h6 (by omega)
  have hmem := getD_mem' dNd h1
  have hrn := rng_of hrg hmem h2
  have b1 := bs_sq h1k hs l h5
  have b2 := bs_sq h1k hs r h6
  have b3 := Nat.mul_le_mul (show l.pre.length ≤ 1000 by omega) (show 4 * k + 4 ≤ 44 by omega)
  have b4 := Nat.mul_le_mul (show r.pre.length ≤ 1000 by omega) (show 4 * k + 4 ≤ 44 by omega)
  have hp0 := cov_pos hc h1
  have f1 := emean_c (t := t) (n := t.getD a dNd) (a := bsV t l) (b := bsV t r) (k := k) (by omega) h1k (by omega) (by omega) ⟨by omega, by omega⟩ ⟨by omega, by omega⟩ hs (hs _ hmem).1 (by grind)
  have f2 := known0_c (n := (t.getD a dNd).ft) hrn.1 (by omega)
  rw [bsV, h3, h4]
  rw [show (l.top : Int) = (t.getD a dNd).lft by rw [h3]; omega] at i1
  rw [show (r.top : Int) = (t.getD a dNd).rgt by rw [h4]; omega] at i2
  show R FF 260 [.l 14 (t.map eNd), (AV.i .i64 ((a : Int))), .l 4 es, .i .u64 0] = _
  generalize (vQ (t.getD (t.getD a dNd).lft.toNat dNd).cov * bsV t l + vQ (t.getD (t.getD a dNd).rgt.toNat dNd).cov * bsV t r) / vQ (t.getD a dNd).cov = w at *
  generalize bsV t l = x at *
  generalize bsV t r = y at *
  have c1 : (a : Int) < (t.length : Int) := by omega
  clear h3 h4 hrn hmem hp0
  obtain ⟨x', hx⟩ : ∃ x, x = t.getD a dNd := ⟨_, rfl⟩
  rw [← hx] at h2 f1 f2 i1 i2
  have hx' := hx.symm
  obtain ⟨xl, xf, xc, xa, xb, xm, xv, xw⟩ := x'
  simp only at h2 f2 i1 i2
  subst h2
  simp only [eNd] at f1
  rw [R_go FF F260 c260.eq_1]
  simp only [RB, RL, un, St.none, Nat.reduceEqDiff, Nat.reduceAdd, Nat.reduceMul, Nat.reduceMod, Nat.reduceLeDiff, Nat.reduceLT, Int.reduceLT, Int.reduceLE, Int.reduceEq, Int.reduceToNat, Int.reduceSub, Int.reduceNeg, Int.reduceAdd, ↓reduceIte, reduceCtorEq, pack, pid, parN, lid, chkK, apartV, Heap.none, c1, hx', eNd, f1, f2, i1, i2, n64, eNd_rules, eNd_row, zf]
def loR : List (List RNd) → Rat
 | [] => 0
 | t :: ts => -(mstD (negT t)) + loR ts
def hiR : List (List RNd) → Rat
 | [] => 0
 | t :: ts => mstD t + hiR ts
theorem bs_in {t : List RNd} {f : Int} {T : TT} (h : GT t f T) (hc : t.any bdC = false) (hs : t.any (bdS t) = false) : -(mstD (negT t)) ≤ bsV t T ∧ bsV t T ≤ mstD t := by
 obtain ⟨v, e1, _, a1, _⟩ := h.most
 obtain ⟨w, e2, _, a2, _⟩ := h.neg.most
 rw [show mstD t = v by unfold mstD; rw [e1]; rfl, show mstD (negT t) = w by unfold mstD; rw [e2]; rfl]
 refine ⟨le_bs hc hs (fun n hn hl => ?_) T h.un, bs_le hc hs a1 T h.un⟩
 have h3 := a2 (ngN n) (List.mem_map_of_mem hn) (by rw [(ng_same n).1]; exact hl)
 have h4 : vQ (ngN n).val = -vQ n.val := by unfold ngN; rw [if_pos hl]; exact vQ_rQ _
 rw [h4] at h3
 grind
theorem value0_l0 {ts : List (List RNd)} {f : Int} {k : Nat} {es : List (List AV)} (hk : k ≤ 10) (h1k : 1 ≤ k) (hts : OkT ts f k) (hv : ∀ t ∈ ts, VT t f) (hf : f ≤ 64) : ∀ (d i : Nat) (s : Rat), i + d = ts.length → sq s ≤ 50000 * i + 1 →
  ∃ B : Rat, LP FF [(6, 1), (9, 1), (1, 0), (2, 0), (21, 0), (22, 0), (23, 0)] [(6, 1), (9, 0)] b247_0 [.ownp [.b false, .l 1 [], .l 1 []], .ownp [.b (ng s.num), (AV.l 1 (List.map u (D s.num.natAbs))), (AV.l 1 (List.map u (D s.den)))], .l 4 es, .i .u64 0, .l 1 (ts.map eTr), (AV.i .i64 ((ts.length : Int))), (AV.i .i64 ((i : Int)))] =
   some (.exit 0, [.ownp [.b false, .l 1 [], .l 1 []], .tp [.b (ng B.num), (AV.l 1 (List.map u (D B.num.natAbs))), (AV.l 1 (List.map u (D B.den)))] 0]) ∧ s + loR (ts.drop i) ≤ B ∧ B ≤ s + hiR (ts.drop i) ∧ sq B ≤ 400000 := by
 have hn6 := hts.n
 intro d
 induction d with
 | zero =>
  intro i s hi hs
  have c1 : ¬ (i : Int) < (ts.length : Int) := by omega
  rw [List.drop_of_length_le (by omega)]
  refine ⟨s, ?_, by show s + 0 ≤ s; grind, by show s ≤ s + 0; grind, by omega⟩
  rw [LP_go FF b247_0.eq_1]
  simp only [RB, RL, un, St.none, Nat.reduceEqDiff, Nat.reduceAdd, Nat.reduceMul, Nat.reduceMod, Nat.reduceLeDiff, Nat.reduceLT, Int.reduceLT, Int.reduceLE, Int.reduceEq, Int.reduceToNat, Int.reduceSub, Int.reduceNeg, Int.reduceAdd, ↓reduceIte, reduceCtorEq, pack, pid, parN, lid, chkK, apartV, Heap.none, c1, eTr_rules, eTr_row]
 | succ d ih =>
  intro i s hi hs
  have hlt : i < ts.length := by omega
  have ht := getD_mem' ([] : List RNd) hlt
  obtain ⟨T, hT⟩ := hts.gt _ ht
  have hvt := hv _ ht
  have hsm := hts.sm _ ht
  have htl := hts.len _ ht
  have hple := hT.le
  have f1 := value0_c (es := es) hk h1k htl hsm hT.rg hvt.cv hf T hT.un (by omega)
  rw [hT.top, Int.ofNat_zero] at f1
  have b1 := bs_sq h1k hsm T hT.un
  have b3 := Nat.mul_le_mul (show T.pre.length ≤ 1000 by omega) (show 4 * k + 4 ≤ 44 by omega)
  have f2 := qadd_cc (s := s) (t := bsV (ts.getD i []) T) (k := 1000000) (j := 1000000) (by omega) (by omega) (by omega) (by omega)
  have m1 := sq_add s (bsV (ts.getD i []) T)
  have hin := bs_in hT hvt.cv hvt.sm
  obtain ⟨B, r1, r2, r3, r4⟩ := ih (i + 1) (s + bsV (ts.getD i []) T) (by omega) (by omega)
  have hd : ts.drop i = ts.getD i [] :: ts.drop (i + 1) := drop_getD [] hlt
  rw [hd]
  refine ⟨B, ?_, ?_, ?_, r4⟩
  ·have c1 : (i : Int) < (ts.length : Int) := by omega
   have e2 : IntKind.i64.wrap ((i : Int) + 1) = ((i + 1 : Nat) : Int) := w64succ (by omega)
   generalize bsV (ts.getD i []) T = v at *
   generalize s + v = s' at *
   rw [LP_go FF b247_0.eq_1]
   simp only [RB, RL, un, St.none, Nat.reduceEqDiff, Nat.reduceAdd, Nat.reduceMul, Nat.reduceMod, Nat.reduceLeDiff, Nat.reduceLT, Int.reduceLT, Int.reduceLE, Int.reduceEq, Int.reduceToNat, Int.reduceSub, Int.reduceNeg, Int.reduceAdd, ↓reduceIte, reduceCtorEq, pack, pid, parN, lid, chkK, apartV, Heap.none, c1, e2, f1, f2, eTr_rules, eTr_row, zf]
   exact r1
  ·show s + (-(mstD (negT (ts.getD i []))) + loR (ts.drop (i + 1))) ≤ B
   grind
  ·show B ≤ s + (mstD (ts.getD i []) + hiR (ts.drop (i + 1)))
   grind
theorem vm_ft {m : RM} (h : VM m) : 0 ≤ m.1 ∧ m.1 ≤ 64 := by
 have h2 := h.fit
 unfold fitB at h2
 simp only [Bool.not_eq_true', Bool.or_eq_false_iff, decide_eq_false_iff_not] at h2
 omega
theorem rfits_e {m : RM} {k : Nat} {es : List (List AV)} (hk : k ≤ 10) (h1k : 1 ≤ k) (hm : Fw m k) (hv : VM m) (hl : (es.length : Int) = m.1) : R FF 227 [.agg (eM m), .l 4 es] = some (AV.i .i64 0) := by
 obtain ⟨c, f1, f2⟩ := ok_c (m := m) (k := k) (by omega) h1k (by have := hm.n; omega) (fun t ht => ⟨by have := hm.len t ht; omega, hm.sm t ht⟩)
 have hc : c = true := f2.2 hv
 subst hc
 have g : R FF 232 [.agg (eM m), .l 4 es] = some (AV.i .i64 0) := by
  obtain ⟨mf, ts⟩ := m
  simp only [eM] at f1 hl ⊢
  rw [R_go FF F232 c232.eq_1]
  simp only [RB, RL, un, St.none, Nat.reduceEqDiff, Nat.reduceAdd, Nat.reduceMul, Nat.reduceMod, Nat.reduceLeDiff, Nat.reduceLT, Int.reduceLT, Int.reduceLE, Int.reduceEq, Int.reduceToNat, Int.reduceSub, Int.reduceNeg, Int.reduceAdd, ↓reduceIte, reduceCtorEq, pack, pid, parN, lid, chkK, apartV, Heap.none, f1, hl, eTr_rules, eTr_row, n64]
 obtain ⟨mf, ts⟩ := m
 simp only [eM] at g ⊢
 rw [R_go FF F227 c227.eq_1]
 simp only [RB, RL, un, St.none, Nat.reduceEqDiff, Nat.reduceAdd, Nat.reduceMul, Nat.reduceMod, Nat.reduceLeDiff, Nat.reduceLT, Int.reduceLT, Int.reduceLE, Int.reduceEq, Int.reduceToNat, Int.reduceSub, Int.reduceNeg, Int.reduceAdd, ↓reduceIte, reduceCtorEq, pack, pid, parN, lid, chkK, apartV, Heap.none, g, eTr_rules, eTr_row, n64]
theorem base_c {m : RM} {k : Nat} (hk : k ≤ 10) (h1k : 1 ≤ k) (hm : Fw m k) (hv : VM m) : ∃ B : Rat, R FF 235 [.agg (eM m)] = some (.tup [(AV.agg [AV.b (ng (zC B)), (AV.l 1 (List.map u (D (zy (zC B))))), (AV.l 1 (List.map u (D (Rat.den B))))]), (AV.i .i64 0)]) ∧ loR m.2 ≤ B ∧ B ≤ hiR m.2 ∧ sq B ≤ 400000 := by
 obtain ⟨c, f1, f2⟩ := ok_c (m := m) (k := k) (by omega) h1k (by have := hm.n; omega) (fun t ht => ⟨by have := hm.len t ht; omega, hm.sm t ht⟩)
 have hc : c = true := f2.2 hv
 subst hc
 obtain ⟨hf0, hf1⟩ := vm_ft hv
 obtain ⟨B, r1, r2, r3, r4⟩ := value0_l0 (es := zk m.1.toNat [.b false, .b false, .ns 1, .ns 1]) hk h1k (hm.okT hv) hv.all hf1 m.2.length 0 0 (by omega) (by have := sq_zero; omega)
 have hlen : (((zk m.1.toNat [AV.b false, .b false, .ns 1, .ns 1]).length : Nat) : Int) = m.1 := by rw [zt]; omega
 have f3 := rfits_e hk h1k hm hv hlen
 have z1 := qzero_c
 rw [List.drop_zero] at r2 r3
 rw [Int.ofNat_zero] at r1
 refine ⟨B, ?_, by grind, by grind, r4⟩
 have t1 : List.take m.1.toNat (zk m.1.toNat [AV.b false, .b false, .ns 1, .ns 1]) = zk m.1.toNat [AV.b false, .b false, .ns 1, .ns 1] := zg (by rw [zt]; exact zp _)
 have b1 : m.1.toNat * 64 ≤ 281474976710656 := by omega
 have hv2 : R FF 247 [.agg (eM m), .l 4 (zk m.1.toNat [.b false, .b false, .ns 1, .ns 1]), .i .u64 0] = some (.tup [(AV.agg [AV.b (ng (zC B)), (AV.l 1 (List.map u (D (zy (zC B))))), (AV.l 1 (List.map u (D (Rat.den B))))]), (AV.i .i64 0)]) := by
  generalize zk m.1.toNat [AV.b false, .b false, .ns 1, .ns 1] = es at *
  obtain ⟨mf, ts⟩ := m
  simp only [eM] at f3 r1 ⊢
  rw [R_go FF F247 c247.eq_1]
  simp only [RB, RL, un, St.none, Nat.reduceEqDiff, Nat.reduceAdd, Nat.reduceMul, Nat.reduceMod, Nat.reduceLeDiff, Nat.reduceLT, Int.reduceLT, Int.reduceLE, Int.reduceEq, Int.reduceToNat, Int.reduceSub, Int.reduceNeg, Int.reduceAdd, ↓reduceIte, reduceCtorEq, pack, pid, parN, lid, chkK, apartV, Heap.none, f3, z1, r1, eTr_rules, eTr_row, n64]
 obtain ⟨mf, ts⟩ := m
 simp only [eM] at f1 hv2 t1 b1 hf0 ⊢
 rw [R_go FF F235 c235.eq_1]
 simp only [RB, RL, un, St.none, Nat.reduceEqDiff, Nat.reduceAdd, Nat.reduceMul, Nat.reduceMod, Nat.reduceLeDiff, Nat.reduceLT, Int.reduceLT, Int.reduceLE, Int.reduceEq, Int.reduceToNat, Int.reduceSub, Int.reduceNeg, Int.reduceAdd, ↓reduceIte, reduceCtorEq, pack, pid, parN, lid, chkK, apartV, Heap.none, f1, hv2, t1, b1, hf0, eTr_rules, eTr_row, n64, List.all_cons, List.all_nil, AV.flat, Bool.and_true, Bool.true_and]
theorem base_bad {m : RM} {k : Nat} (hk : k ≤ 10) (h1k : 1 ≤ k) (hm : Fw m k) (hv : ¬ VM m) : R FF 235 [.agg (eM m)] = some (.tup [.agg [.b false, .l 1 [], .l 1 []], (AV.i .i64 1)]) := by
 obtain ⟨c, f1, f2⟩ := ok_c (m := m) (k := k) (by omega) h1k (by have := hm.n; omega) (fun t ht => ⟨by have := hm.len t ht; omega, hm.sm t ht⟩)
 have hc : c = false := by
  cases c
  ·rfl
  ·exact (hv (f2.1 rfl)).elim
 subst hc
 obtain ⟨mf, ts⟩ := m
 simp only [eM] at f1 ⊢
 rw [R_go FF F235 c235.eq_1]
 simp only [RB, RL, un, St.none, Nat.reduceEqDiff, Nat.reduceAdd, Nat.reduceMul, Nat.reduceMod, Nat.reduceLeDiff, Nat.reduceLT, Int.reduceLT, Int.reduceLE, Int.reduceEq, Int.reduceToNat, Int.reduceSub, Int.reduceNeg, Int.reduceAdd, ↓reduceIte, reduceCtorEq, pack, pid, parN, lid, chkK, apartV, Heap.none, f1, eTr_rules, eTr_row, n64]
theorem negone_c {t : List RNd} {k : Nat} (hk : k ≤ 10) (h1k : 1 ≤ k) (ht : t.length ≤ 1000) (hs : SmT t k) : R FF 226 [.l 1 [[.l 14 (t.map eNd)]]] = some (.l 1 [[.l 14 ((negT t).map eNd)]]) :=
 negative_c (ts := [t]) (k := k) (by omega) h1k (by show 1 ≤ 1000; omega) (fun x hx => by rw [List.mem_singleton.1 hx]; exact ⟨by omega, hs⟩)
theorem between_l0 {ts : List (List RNd)} {f : Int} {k : Nat} {base : List AV} (hk : k ≤ 10) (h1k : 1 ≤ k) (hts : OkT ts f k) : ∀ (d i : Nat) (lo hi : Rat), i + d = ts.length → sq lo ≤ 20 * i + 1 → sq hi ≤ 20 * i + 1 →
  LP FF [(6, 1), (7, 1), (4, 0), (21, 0), (22, 0), (23, 0)] [(4, 0), (6, 0), (7, 0)] b210_0 [.ownp [.b (ng lo.num), (AV.l 1 (List.map u (D lo.num.natAbs))), (AV.l 1 (List.map u (D lo.den)))], .ownp [.b (ng hi.num), (AV.l 1 (List.map u (D hi.num.natAbs))), (AV.l 1 (List.map u (D hi.den)))], .tp base 0, .l 1 (ts.map eTr), (AV.i .i64 ((ts.length : Int))), (AV.i .i64 ((i : Int)))] =
   some (.exit 0, [.tp base 0, .tp [.b (ng (lo + loR (ts.drop i)).num), (AV.l 1 (List.map u (D (lo + loR (ts.drop i)).num.natAbs))), (AV.l 1 (List.map u (D (lo + loR (ts.drop i)).den)))] 0, .tp [.b (ng (hi + hiR (ts.drop i)).num), (AV.l 1 (List.map u (D (hi + hiR (ts.drop i)).num.natAbs))), (AV.l 1 (List.map u (D (hi + hiR (ts.drop i)).den)))] 0]) := by
 have hn6 := hts.n
 intro d
 induction d with
 | zero =>
  intro i lo hi hd hl hh
  have c1 : ¬ (i : Int) < (ts.length : Int) := by omega
  rw [List.drop_of_length_le (by omega), show lo + loR [] = lo from Rat.add_zero lo, show hi + hiR [] = hi from Rat.add_zero hi]
  rw [LP_go FF b210_0.eq_1]
  simp only [RB, RL, un, St.none, Nat.reduceEqDiff, Nat.reduceAdd, Nat.reduceMul, Nat.reduceMod, Nat.reduceLeDiff, Nat.reduceLT, Int.reduceLT, Int.reduceLE, Int.reduceEq, Int.reduceToNat, Int.reduceSub, Int.reduceNeg, Int.reduceAdd, ↓reduceIte, reduceCtorEq, pack, pid, parN, lid, chkK, apartV, Heap.none, c1, eTr_rules, eTr_row]
 | succ d ih =>
  intro i lo hi hd hl hh
  have hlt : i < ts.length := by omega
  have ht := getD_mem' ([] : List RNd) hlt
  obtain ⟨T, hT⟩ := hts.gt _ ht
  have hsm := hts.sm _ ht
  have htl := hts.len _ ht
  have f1 := most_c (by omega) h1k (by omega) hsm hT
  have f2 := negone_c hk h1k htl hsm
  have f3 := most_c (by omega) h1k (by rw [neg_len]; omega) (negT_sm h1k hsm) hT.neg
  have s1 := mstD_sq h1k hsm
  have s2 := mstD_sq h1k (negT_sm h1k hsm)
  have f4 := qadd_cc hh s1 (by omega) (by omega)
  have f5 := qsub_cc hl s2 (by omega) (by omega)
  have a1 := sq_add hi (mstD (ts.getD i []))
  have a2 := sq_sub lo (mstD (negT (ts.getD i [])))
  have h9 := ih (i + 1) (lo - mstD (negT (ts.getD i []))) (hi + mstD (ts.getD i [])) (by omega) (by omega) (by omega)
  have hdr : ts.drop i = ts.getD i [] :: ts.drop (i + 1) := drop_getD [] hlt
  rw [hdr, show lo + loR (ts.getD i [] :: ts.drop (i + 1)) = lo - mstD (negT (ts.getD i [])) + loR (ts.drop (i + 1)) by rw [loR]; grind, show hi + hiR (ts.getD i [] :: ts.drop (i + 1)) = hi + mstD (ts.getD i []) + hiR (ts.drop (i + 1)) by rw [hiR]; grind]
  have c1 : (i : Int) < (ts.length : Int) := by omega
  have e2 : IntKind.i64.wrap ((i : Int) + 1) = ((i + 1 : Nat) : Int) := w64succ (by omega)
  generalize hi + mstD (ts.getD i []) + hiR (ts.drop (i + 1)) = H at *
  generalize lo - mstD (negT (ts.getD i [])) + loR (ts.drop (i + 1)) = L at *
  generalize hi + mstD (ts.getD i []) = h' at *
  generalize lo - mstD (negT (ts.getD i [])) = l' at *
  generalize mstD (ts.getD i []) = x at *
  generalize mstD (negT (ts.getD i [])) = y at *
  rw [LP_go FF b210_0.eq_1]
  simp only [RB, RL, un, St.none, Nat.reduceEqDiff, Nat.reduceAdd, Nat.reduceMul, Nat.reduceMod, Nat.reduceLeDiff, Nat.reduceLT, Int.reduceLT, Int.reduceLE, Int.reduceEq, Int.reduceToNat, Int.reduceSub, Int.reduceNeg, Int.reduceAdd, ↓reduceIte, reduceCtorEq, pack, pid, parN, lid, chkK, apartV, Heap.none, c1, e2, f1, f2, f3, f4, f5, eTr_rules, eTr_row, zf]
  exact h9
theorem loR_sq {ts : List (List RNd)} {k : Nat} (h1k : 1 ≤ k) (h : ∀ t ∈ ts, SmT t k) : sq (loR ts) ≤ ts.length * (k + 1) + 1 := by
 induction ts with
 | nil => have := sq_zero; show sq 0 ≤ 0 * _ + 1; omega
 | cons t ts ih =>
  have i := ih fun t ht => h t (zn _ ht)
  have j := mstD_sq h1k (negT_sm h1k (h t (zm ..)))
  have a := sq_add (-(mstD (negT t))) (loR ts)
  rw [sq_neg] at a
  rw [loR, zw, zA, Nat.one_mul]; omega
theorem hiR_sq {ts : List (List RNd)} {k : Nat} (h1k : 1 ≤ k) (h : ∀ t ∈ ts, SmT t k) : sq (hiR ts) ≤ ts.length * (k + 1) + 1 := by
 induction ts with
 | nil => have := sq_zero; show sq 0 ≤ 0 * _ + 1; omega
 | cons t ts ih =>
  have i := ih fun t ht => h t (zn _ ht)
  have j := mstD_sq h1k (h t (zm ..))
  have a := sq_add (mstD t) (hiR ts)
  rw [hiR, zw, zA, Nat.one_mul]; omega
theorem between_c {m : RM} {k : Nat} (hk : k ≤ 10) (h1k : 1 ≤ k) (hm : Fw m k) (hv : VM m) : R FF 210 [.agg (eM m)] = some (.tup [.b true, (AV.i .i64 0)]) := by
 obtain ⟨B, f1, h1, h2, h3⟩ := base_c hk h1k hm hv
 have l0 := between_l0 (base := [.b (ng B.num), (AV.l 1 (List.map u (D B.num.natAbs))), (AV.l 1 (List.map u (D B.den)))]) hk h1k (hm.okT hv) m.2.length 0 0 0 (by omega) (by have := sq_zero; omega) (by have := sq_zero; omega)
 rw [List.drop_zero, Int.ofNat_zero, show 0 + loR m.2 = loR m.2 by grind, show 0 + hiR m.2 = hiR m.2 by grind] at l0
 have z1 := qzero_c
 have s1 := loR_sq h1k hm.sm
 have s2 := hiR_sq h1k hm.sm
 have s3 := Nat.mul_le_mul hm.n (show k + 1 ≤ 11 by omega)
 have c1 := ccmp_c (x := loR m.2) (y := B) (k := 1000) (j := 400000) (by omega) h3 (by omega) (by omega)
 have c2 := ccmp_c (x := B) (y := hiR m.2) (k := 400000) (j := 1000) h3 (by omega) (by omega) (by omega)
 have d1 := (qcmp_le (x := loR m.2) (y := B)).2 h1
 have d2 := (qcmp_le (x := B) (y := hiR m.2)).2 h2
 generalize qcmp (loR m.2) B = y1 at *
 generalize qcmp B (hiR m.2) = y2 at *
 generalize loR m.2 = L at *
 generalize hiR m.2 = H at *
 generalize (0 : Rat) = z0 at *
 obtain ⟨mf, ts⟩ := m
 simp only [eM] at f1 l0 ⊢
 rw [R_go FF F210 c210.eq_1]
 simp only [RB, RL, un, St.none, Nat.reduceEqDiff, Nat.reduceAdd, Nat.reduceMul, Nat.reduceMod, Nat.reduceLeDiff, Nat.reduceLT, Int.reduceLT, Int.reduceLE, Int.reduceEq, Int.reduceToNat, Int.reduceSub, Int.reduceNeg, Int.reduceAdd, ↓reduceIte, reduceCtorEq, pack, pid, parN, lid, chkK, apartV, Heap.none, f1, z1, l0, c1, c2, d1, d2, eTr_rules, eTr_row, n64]
theorem law_ExtremeBetweens (m : RM) (hm : OkM m) : R FF 159 [.agg (eM m)] = some (.b true) := by
 have f1 := few07_c hm
 have hM := fM7_fw hm
 generalize fM7 m = M at *
 obtain ⟨c, f2, f3⟩ := ok_c (m := M) (k := 4) (by omega) (by omega) (by have := hM.n; omega) (fun t ht => ⟨by have := hM.len t ht; omega, hM.sm t ht⟩)
 by_cases hv : VM M
 ·have hc : c = true := f3.2 hv
  subst hc
  have f4 := between_c (by omega) (by omega) hM hv
  obtain ⟨mf, ts⟩ := m
  obtain ⟨mg, us⟩ := M
  simp only [eM] at f1 f2 f4 ⊢
  rw [R_go FF F159 c159.eq_1]
  simp only [RB, RL, un, St.none, Nat.reduceEqDiff, Nat.reduceAdd, Nat.reduceMul, Nat.reduceMod, Nat.reduceLeDiff, Nat.reduceLT, Int.reduceLT, Int.reduceLE, Int.reduceEq, Int.reduceToNat, Int.reduceSub, Int.reduceNeg, Int.reduceAdd, ↓reduceIte, reduceCtorEq, pack, pid, parN, lid, chkK, apartV, Heap.none, f1, f2, f4, awake24e, eTr_rules, eTr_row, n64]
 ·have hc : c = false := by
   cases c
   ·rfl
   ·exact (hv (f3.1 rfl)).elim
  subst hc
  have f4 := base_bad (by omega) (by omega) hM hv
  have f5 : R FF 210 [.agg (eM M)] = some (.tup [.b false, (AV.i .i64 1)]) := by
   obtain ⟨mg, us⟩ := M
   simp only [eM] at f4 ⊢
   rw [R_go FF F210 c210.eq_1]
   simp only [RB, RL, un, St.none, Nat.reduceEqDiff, Nat.reduceAdd, Nat.reduceMul, Nat.reduceMod, Nat.reduceLeDiff, Nat.reduceLT, Int.reduceLT, Int.reduceLE, Int.reduceEq, Int.reduceToNat, Int.reduceSub, Int.reduceNeg, Int.reduceAdd, ↓reduceIte, reduceCtorEq, pack, pid, parN, lid, chkK, apartV, Heap.none, f4, eTr_rules, eTr_row, n64]
  obtain ⟨mf, ts⟩ := m
  obtain ⟨mg, us⟩ := M
  simp only [eM] at f1 f2 f5 ⊢
  rw [R_go FF F159 c159.eq_1]
  simp only [RB, RL, un, St.none, Nat.reduceEqDiff, Nat.reduceAdd, Nat.reduceMul, Nat.reduceMod, Nat.reduceLeDiff, Nat.reduceLT, Int.reduceLT, Int.reduceLE, Int.reduceEq, Int.reduceToNat, Int.reduceSub, Int.reduceNeg, Int.reduceAdd, ↓reduceIte, reduceCtorEq, pack, pid, parN, lid, chkK, apartV, Heap.none, f1, f2, f5, awake24e, eTr_rules, eTr_row, n64]
open Go Go.Proofs
set_option maxRecDepth 100000
def tabs0 : List (Nat × List AV) := [(0, tab0)]
def FD : Nat → Option PF
 | 14 => some p14
 | 19 => some p19
 | 20 => some p20
 | 21 => some p21
 | 23 => some p23
 | 25 => some p25
 | 31 => some p31
 | 33 => some p33
 | 36 => some p36
 | 51 => some p51
 | 52 => some p52
 | 53 => some p53
 | 54 => some p54
 | 55 => some p55
 | 56 => some p56
 | 57 => some p57
 | 63 => some p63
 | 64 => some p64
 | 65 => some p65
 | 66 => some p66
 | 68 => some p68
 | 69 => some p69
 | 71 => some p71
 | 72 => some p72
 | 73 => some p73
 | 75 => some p75
 | 76 => some p76
 | 77 => some p77
 | 81 => some p81
 | 82 => some p82
 | 83 => some p83
 | 86 => some p86
 | 92 => some p92
 | 94 => some p94
 | 96 => some p96
 | 106 => some p106
 | 107 => some p107
 | 108 => some p108
 | 109 => some p109
 | 110 => some p110
 | 111 => some p111
 | 112 => some p112
 | 113 => some p113
 | 114 => some p114
 | 115 => some p115
 | 116 => some p116
 | 117 => some p117
 | 122 => some p122
 | 127 => some p127
 | 128 => some p128
 | 129 => some p129
 | 130 => some p130
 | 131 => some p131
 | 137 => some p137
 | 138 => some p138
 | 139 => some p139
 | 140 => some p140
 | 141 => some p141
 | 159 => some p159
 | 162 => some p162
 | 196 => some p196
 | 197 => some p197
 | 199 => some p199
 | 209 => some p209
 | 210 => some p210
 | 211 => some p211
 | 220 => some p220
 | 223 => some p223
 | 224 => some p224
 | 225 => some p225
 | 226 => some p226
 | 227 => some p227
 | 229 => some p229
 | 230 => some p230
 | 232 => some p232
 | 234 => some p234
 | 235 => some p235
 | 236 => some p236
 | 237 => some p237
 | 243 => some p243
 | 246 => some p246
 | 247 => some p247
 | 248 => some p248
 | 249 => some p249
 | 250 => some p250
 | 251 => some p251
 | 252 => some p252
 | 253 => some p253
 | 259 => some p259
 | 260 => some p260
 | 263 => some p263
 | 264 => some p264
 | 265 => some p265
 | 285 => some p285
 | _ => none
def nuD : Nat → Nat
 | 14 => 20
 | 19 => 92
 | 20 => 91
 | 21 => 111
 | 23 => 35
 | 25 => 58
 | 31 => 42
 | 33 => 38
 | 36 => 93
 | 51 => 67
 | 52 => 69
 | 53 => 104
 | 54 => 41
 | 55 => 64
 | 56 => 37
 | 57 => 15
 | 63 => 49
 | 64 => 50
 | 65 => 51
 | 66 => 52
 | 68 => 36
 | 69 => 71
 | 71 => 46
 | 72 => 47
 | 73 => 48
 | 75 => 75
 | 76 => 76
 | 77 => 77
 | 81 => 87
 | 82 => 72
 | 83 => 73
 | 86 => 70
 | 92 => 88
 | 94 => 121
 | 96 => 34
 | 106 => 78
 | 107 => 79
 | 108 => 80
 | 109 => 81
 | 110 => 82
 | 111 => 83
 | 112 => 84
 | 113 => 85
 | 114 => 86
 | 115 => 105
 | 116 => 106
 | 117 => 107
 | 122 => 127
 | 127 => 108
 | 128 => 109
 | 129 => 110
 | 130 => 114
 | 131 => 115
 | 137 => 118
 | 138 => 119
 | 139 => 122
 | 140 => 123
 | 141 => 124
 | 159 => 8
 | 162 => 39
 | 196 => 10
 | 197 => 11
 | 199 => 13
 | 209 => 27
 | 210 => 28
 | 211 => 29
 | 220 => 126
 | 223 => 125
 | 224 => 31
 | 225 => 32
 | 226 => 33
 | 227 => 53
 | 229 => 55
 | 230 => 56
 | 232 => 59
 | 234 => 61
 | 235 => 62
 | 236 => 63
 | 237 => 65
 | 243 => 68
 | 246 => 94
 | 247 => 95
 | 248 => 96
 | 249 => 97
 | 250 => 98
 | 251 => 99
 | 252 => 100
 | 253 => 101
 | 259 => 103
 | 260 => 112
 | 263 => 116
 | 264 => 117
 | 265 => 120
 | 285 => 86
 | _ => 0
theorem M14 : fnOk Tryd.prog (FD, nuD) tabs0 14 p14 = true := by kernel_rfl
theorem M19 : fnOk Tryd.prog (FD, nuD) tabs0 19 p19 = true := by kernel_rfl
theorem M20 : fnOk Tryd.prog (FD, nuD) tabs0 20 p20 = true := by kernel_rfl
theorem M21 : fnOk Tryd.prog (FD, nuD) tabs0 21 p21 = true := by kernel_rfl
theorem M23 : fnOk Tryd.prog (FD, nuD) tabs0 23 p23 = true := by kernel_rfl
theorem M25 : fnOk Tryd.prog (FD, nuD) tabs0 25 p25 = true := by kernel_rfl
theorem M31 : fnOk Tryd.prog (FD, nuD) tabs0 31 p31 = true := by kernel_rfl
theorem M33 : fnOk Tryd.prog (FD, nuD) tabs0 33 p33 = true := by kernel_rfl
theorem M36 : fnOk Tryd.prog (FD, nuD) tabs0 36 p36 = true := by kernel_rfl
theorem M51 : fnOk Tryd.prog (FD, nuD) tabs0 51 p51 = true := by kernel_rfl
theorem M52 : fnOk Tryd.prog (FD, nuD) tabs0 52 p52 = true := by kernel_rfl
theorem M53 : fnOk Tryd.prog (FD, nuD) tabs0 53 p53 = true := by kernel_rfl
theorem M54 : fnOk Tryd.prog (FD, nuD) tabs0 54 p54 = true := by kernel_rfl
theorem M55 : fnOk Tryd.prog (FD, nuD) tabs0 55 p55 = true := by kernel_rfl
theorem M56 : fnOk Tryd.prog (FD, nuD) tabs0 56 p56 = true := by kernel_rfl
theorem M57 : fnOk Tryd.prog (FD, nuD) tabs0 57 p57 = true := by kernel_rfl
theorem M63 : fnOk Tryd.prog (FD, nuD) tabs0 63 p63 = true := by kernel_rfl
theorem M64 : fnOk Tryd.prog (FD, nuD) tabs0 64 p64 = true := by kernel_rfl
theorem M65 : fnOk Tryd.prog (FD, nuD) tabs0 65 p65 = true := by kernel_rfl
theorem M66 : fnOk Tryd.prog (FD, nuD) tabs0 66 p66 = true := by kernel_rfl
theorem M68 : fnOk Tryd.prog (FD, nuD) tabs0 68 p68 = true := by kernel_rfl
theorem M69 : fnOk Tryd.prog (FD, nuD) tabs0 69 p69 = true := by kernel_rfl
theorem M71 : fnOk Tryd.prog (FD, nuD) tabs0 71 p71 = true := by kernel_rfl
theorem M72 : fnOk Tryd.prog (FD, nuD) tabs0 72 p72 = true := by kernel_rfl
theorem M73 : fnOk Tryd.prog (FD, nuD) tabs0 73 p73 = true := by kernel_rfl
theorem M75 : fnOk Tryd.prog (FD, nuD) tabs0 75 p75 = true := by kernel_rfl
theorem M76 : fnOk Tryd.prog (FD, nuD) tabs0 76 p76 = true := by kernel_rfl
theorem M77 : fnOk Tryd.prog (FD, nuD) tabs0 77 p77 = true := by kernel_rfl
theorem M81 : fnOk Tryd.prog (FD, nuD) tabs0 81 p81 = true := by kernel_rfl
theorem M82 : fnOk Tryd.prog (FD, nuD) tabs0 82 p82 = true := by kernel_rfl
theorem M83 : fnOk Tryd.prog (FD, nuD) tabs0 83 p83 = true := by kernel_rfl
theorem M86 : fnOk Tryd.prog (FD, nuD) tabs0 86 p86 = true := by kernel_rfl
theorem M92 : fnOk Tryd.prog (FD, nuD) tabs0 92 p92 = true := by kernel_rfl
theorem M94 : fnOk Tryd.prog (FD, nuD) tabs0 94 p94 = true := by kernel_rfl
theorem M96 : fnOk Tryd.prog (FD, nuD) tabs0 96 p96 = true := by kernel_rfl
theorem M106 : fnOk Tryd.prog (FD, nuD) tabs0 106 p106 = true := by kernel_rfl
theorem M107 : fnOk Tryd.prog (FD, nuD) tabs0 107 p107 = true := by kernel_rfl
theorem M108 : fnOk Tryd.prog (FD, nuD) tabs0 108 p108 = true := by kernel_rfl
theorem M109 : fnOk Tryd.prog (FD, nuD) tabs0 109 p109 = true := by kernel_rfl
theorem M110 : fnOk Tryd.prog (FD, nuD) tabs0 110 p110 = true := by kernel_rfl
theorem M111 : fnOk Tryd.prog (FD, nuD) tabs0 111 p111 = true := by kernel_rfl
theorem M112 : fnOk Tryd.prog (FD, nuD) tabs0 112 p112 = true := by kernel_rfl
theorem M113 : fnOk Tryd.prog (FD, nuD) tabs0 113 p113 = true := by kernel_rfl
theorem M114 : fnOk Tryd.prog (FD, nuD) tabs0 114 p114 = true := by kernel_rfl
theorem M115 : fnOk Tryd.prog (FD, nuD) tabs0 115 p115 = true := by kernel_rfl
theorem M116 : fnOk Tryd.prog (FD, nuD) tabs0 116 p116 = true := by kernel_rfl
theorem M117 : fnOk Tryd.prog (FD, nuD) tabs0 117 p117 = true := by kernel_rfl
theorem M122 : fnOk Tryd.prog (FD, nuD) tabs0 122 p122 = true := by kernel_rfl
theorem M127 : fnOk Tryd.prog (FD, nuD) tabs0 127 p127 = true := by kernel_rfl
theorem M128 : fnOk Tryd.prog (FD, nuD) tabs0 128 p128 = true := by kernel_rfl
theorem M129 : fnOk Tryd.prog (FD, nuD) tabs0 129 p129 = true := by kernel_rfl
theorem M130 : fnOk Tryd.prog (FD, nuD) tabs0 130 p130 = true := by kernel_rfl
theorem M131 : fnOk Tryd.prog (FD, nuD) tabs0 131 p131 = true := by kernel_rfl
theorem M137 : fnOk Tryd.prog (FD, nuD) tabs0 137 p137 = true := by kernel_rfl
theorem M138 : fnOk Tryd.prog (FD, nuD) tabs0 138 p138 = true := by kernel_rfl
theorem M139 : fnOk Tryd.prog (FD, nuD) tabs0 139 p139 = true := by kernel_rfl
theorem M140 : fnOk Tryd.prog (FD, nuD) tabs0 140 p140 = true := by kernel_rfl
theorem M141 : fnOk Tryd.prog (FD, nuD) tabs0 141 p141 = true := by kernel_rfl
theorem M159 : fnOk Tryd.prog (FD, nuD) tabs0 159 p159 = true := by kernel_rfl
theorem M162 : fnOk Tryd.prog (FD, nuD) tabs0 162 p162 = true := by kernel_rfl
theorem M196 : fnOk Tryd.prog (FD, nuD) tabs0 196 p196 = true := by kernel_rfl
theorem M197 : fnOk Tryd.prog (FD, nuD) tabs0 197 p197 = true := by kernel_rfl
theorem M199 : fnOk Tryd.prog (FD, nuD) tabs0 199 p199 = true := by kernel_rfl
theorem M209 : fnOk Tryd.prog (FD, nuD) tabs0 209 p209 = true := by kernel_rfl
theorem M210 : fnOk Tryd.prog (FD, nuD) tabs0 210 p210 = true := by kernel_rfl
theorem M211 : fnOk Tryd.prog (FD, nuD) tabs0 211 p211 = true := by kernel_rfl
theorem M220 : fnOk Tryd.prog (FD, nuD) tabs0 220 p220 = true := by kernel_rfl
theorem M223 : fnOk Tryd.prog (FD, nuD) tabs0 223 p223 = true := by kernel_rfl
theorem M224 : fnOk Tryd.prog (FD, nuD) tabs0 224 p224 = true := by kernel_rfl
theorem M225 : fnOk Tryd.prog (FD, nuD) tabs0 225 p225 = true := by kernel_rfl
theorem M226 : fnOk Tryd.prog (FD, nuD) tabs0 226 p226 = true := by kernel_rfl
theorem M227 : fnOk Tryd.prog (FD, nuD) tabs0 227 p227 = true := by kernel_rfl
theorem M229 : fnOk Tryd.prog (FD, nuD) tabs0 229 p229 = true := by kernel_rfl
theorem M230 : fnOk Tryd.prog (FD, nuD) tabs0 230 p230 = true := by kernel_rfl
theorem M232 : fnOk Tryd.prog (FD, nuD) tabs0 232 p232 = true := by kernel_rfl
theorem M234 : fnOk Tryd.prog (FD, nuD) tabs0 234 p234 = true := by kernel_rfl
theorem M235 : fnOk Tryd.prog (FD, nuD) tabs0 235 p235 = true := by kernel_rfl
theorem M236 : fnOk Tryd.prog (FD, nuD) tabs0 236 p236 = true := by kernel_rfl
theorem M237 : fnOk Tryd.prog (FD, nuD) tabs0 237 p237 = true := by kernel_rfl
theorem M243 : fnOk Tryd.prog (FD, nuD) tabs0 243 p243 = true := by kernel_rfl
theorem M246 : fnOk Tryd.prog (FD, nuD) tabs0 246 p246 = true := by kernel_rfl
theorem M247 : fnOk Tryd.prog (FD, nuD) tabs0 247 p247 = true := by kernel_rfl
theorem M248 : fnOk Tryd.prog (FD, nuD) tabs0 248 p248 = true := by kernel_rfl
theorem M249 : fnOk Tryd.prog (FD, nuD) tabs0 249 p249 = true := by kernel_rfl
theorem M250 : fnOk Tryd.prog (FD, nuD) tabs0 250 p250 = true := by kernel_rfl
theorem M251 : fnOk Tryd.prog (FD, nuD) tabs0 251 p251 = true := by kernel_rfl
theorem M252 : fnOk Tryd.prog (FD, nuD) tabs0 252 p252 = true := by kernel_rfl
theorem M253 : fnOk Tryd.prog (FD, nuD) tabs0 253 p253 = true := by kernel_rfl
theorem M259 : fnOk Tryd.prog (FD, nuD) tabs0 259 p259 = true := by kernel_rfl
theorem M260 : fnOk Tryd.prog (FD, nuD) tabs0 260 p260 = true := by kernel_rfl
theorem M263 : fnOk Tryd.prog (FD, nuD) tabs0 263 p263 = true := by kernel_rfl
theorem M264 : fnOk Tryd.prog (FD, nuD) tabs0 264 p264 = true := by kernel_rfl
theorem M265 : fnOk Tryd.prog (FD, nuD) tabs0 265 p265 = true := by kernel_rfl
theorem M285 : fnOk Tryd.prog (FD, nuD) tabs0 285 p285 = true := by kernel_rfl
theorem FD_ok (g : Nat) (p : PF) (h : FD g = some p) : fnOk Tryd.prog (FD, nuD) tabs0 g p = true ∧ FF g = some p := by
 unfold FD at h
 split at h
 ·cases h; exact ⟨M14, rfl⟩
 ·cases h; exact ⟨M19, rfl⟩
 ·cases h; exact ⟨M20, rfl⟩
 ·cases h; exact ⟨M21, rfl⟩
 ·cases h; exact ⟨M23, rfl⟩
 ·cases h; exact ⟨M25, rfl⟩
 ·cases h; exact ⟨M31, rfl⟩
 ·cases h; exact ⟨M33, rfl⟩
 ·cases h; exact ⟨M36, rfl⟩
 ·cases h; exact ⟨M51, rfl⟩
 ·cases h; exact ⟨M52, rfl⟩
 ·cases h; exact ⟨M53, rfl⟩
 ·cases h; exact ⟨M54, rfl⟩
 ·cases h; exact ⟨M55, rfl⟩
 ·cases h; exact ⟨M56, rfl⟩
 ·cases h; exact ⟨M57, rfl⟩
 ·cases h; exact ⟨M63, rfl⟩
 ·cases h; exact ⟨M64, rfl⟩
 ·cases h; exact ⟨M65, rfl⟩
 ·cases h; exact ⟨M66, rfl⟩
 ·cases h; exact ⟨M68, rfl⟩
 ·cases h; exact ⟨M69, rfl⟩
 ·cases h; exact ⟨M71, rfl⟩
 ·cases h; exact ⟨M72, rfl⟩
 ·cases h; exact ⟨M73, rfl⟩
 ·cases h; exact ⟨M75, rfl⟩
 ·cases h; exact ⟨M76, rfl⟩
 ·cases h; exact ⟨M77, rfl⟩
 ·cases h; exact ⟨M81, rfl⟩
 ·cases h; exact ⟨M82, rfl⟩
 ·cases h; exact ⟨M83, rfl⟩
 ·cases h; exact ⟨M86, rfl⟩
 ·cases h; exact ⟨M92, rfl⟩
 ·cases h; exact ⟨M94, rfl⟩
 ·cases h; exact ⟨M96, rfl⟩
 ·cases h; exact ⟨M106, rfl⟩
 ·cases h; exact ⟨M107, rfl⟩
 ·cases h; exact ⟨M108, rfl⟩
 ·cases h; exact ⟨M109, rfl⟩
 ·cases h; exact ⟨M110, rfl⟩
 ·cases h; exact ⟨M111, rfl⟩
 ·cases h; exact ⟨M112, rfl⟩
 ·cases h; exact ⟨M113, rfl⟩
 ·cases h; exact ⟨M114, rfl⟩
 ·cases h; exact ⟨M115, rfl⟩
 ·cases h; exact ⟨M116, rfl⟩
 ·cases h; exact ⟨M117, rfl⟩
 ·cases h; exact ⟨M122, rfl⟩
 ·cases h; exact ⟨M127, rfl⟩
 ·cases h; exact ⟨M128, rfl⟩
 ·cases h; exact ⟨M129, rfl⟩
 ·cases h; exact ⟨M130, rfl⟩
 ·cases h; exact ⟨M131, rfl⟩
 ·cases h; exact ⟨M137, rfl⟩
 ·cases h; exact ⟨M138, rfl⟩
 ·cases h; exact ⟨M139, rfl⟩
 ·cases h; exact ⟨M140, rfl⟩
 ·cases h; exact ⟨M141, rfl⟩
 ·cases h; exact ⟨M159, rfl⟩
 ·cases h; exact ⟨M162, rfl⟩
 ·cases h; exact ⟨M196, rfl⟩
 ·cases h; exact ⟨M197, rfl⟩
 ·cases h; exact ⟨M199, rfl⟩
 ·cases h; exact ⟨M209, rfl⟩
 ·cases h; exact ⟨M210, rfl⟩
 ·cases h; exact ⟨M211, rfl⟩
 ·cases h; exact ⟨M220, rfl⟩
 ·cases h; exact ⟨M223, rfl⟩
 ·cases h; exact ⟨M224, rfl⟩
 ·cases h; exact ⟨M225, rfl⟩
 ·cases h; exact ⟨M226, rfl⟩
 ·cases h; exact ⟨M227, rfl⟩
 ·cases h; exact ⟨M229, rfl⟩
 ·cases h; exact ⟨M230, rfl⟩
 ·cases h; exact ⟨M232, rfl⟩
 ·cases h; exact ⟨M234, rfl⟩
 ·cases h; exact ⟨M235, rfl⟩
 ·cases h; exact ⟨M236, rfl⟩
 ·cases h; exact ⟨M237, rfl⟩
 ·cases h; exact ⟨M243, rfl⟩
 ·cases h; exact ⟨M246, rfl⟩
 ·cases h; exact ⟨M247, rfl⟩
 ·cases h; exact ⟨M248, rfl⟩
 ·cases h; exact ⟨M249, rfl⟩
 ·cases h; exact ⟨M250, rfl⟩
 ·cases h; exact ⟨M251, rfl⟩
 ·cases h; exact ⟨M252, rfl⟩
 ·cases h; exact ⟨M253, rfl⟩
 ·cases h; exact ⟨M259, rfl⟩
 ·cases h; exact ⟨M260, rfl⟩
 ·cases h; exact ⟨M263, rfl⟩
 ·cases h; exact ⟨M264, rfl⟩
 ·cases h; exact ⟨M265, rfl⟩
 ·cases h; exact ⟨M285, rfl⟩
 ·cases h
theorem followsD : Tryd.prog.follows .mixedOrders = true := by kernel_rfl
theorem callsD : CallsOk Tryd.prog (FD, nuD) tabs0 (R FF) := R_ok followsD FD_ok
end Go.Pe
namespace Go.Proofs.YtomicjfjbfkikaaDoor.extremeBetweens
open Go.Pe
open Go.ChangeShapes Go.WideShapes Go.ChangeAt Go.RowKit
theorem own : ownKnob Tryd.prog.godebug = none := by kernel_rfl
theorem laidOut : laidOutB Tryd.prog = true := by kernel_rfl
def laid : List (String × DataW Unit) := [("math/bits.deBruijn64tab", Rows.laid_math_bits_deBruijn64tab)]
def tz : List Int := tab0.map fun | .i _ n => n | _ => 0
theorem tab_rv {W : World} (h : laidMetH Tryd.prog laid W) : Rv W (fun _ => False) Rho.none (.tp tab0 0) (.pointer (some ⟨0, 0, none⟩)) := by
 rw [MakeChecks.laidMetH_plain _ _ _ (by kernel_rfl)] at h
 obtain ⟨ps, ⟨g, t, cs, fuel, p, q, hg, ht, hv, hd, _, _⟩, _, _⟩ := h
 obtain rfl := Option.some.inj ((show Tryd.prog.globalNamed "math/bits.deBruijn64tab" = some 0 by kernel_rfl).symm.trans hg)
 obtain rfl := Option.some.inj ((show (Tryd.prog.globals[0]?).map (·.type) = some 160 by kernel_rfl).symm.trans ht)
 obtain ⟨xs, m, _, ex, _, hl, hel⟩ := DataW.trod_array Tryd.underlying160 hd
 have cE : Tryd.prog.cellsOf 5 = 1 := by kernel_rfl
 have hlen : tz.length = 64 := by decide
 have e0 : (xs.map (·.1)) = tz.map fun n => .lit (.int .u8 n) := (DataW.agg.inj (Prod.mk.inj ex).1).symm
 have cell : ∀ r, r < 64 → W.cell? ⟨0, r, none⟩ = some (.int .u8 (tz.getD r 0)) := by
  intro r hr
  have hE := hel r hr
  rw [cE, Nat.mul_one, ze (by omega)] at hE
  obtain ⟨z, e1, e2, _⟩ := DataW.trod_int Tryd.underlying5 hE
  have e4 : (xs.map (·.1))[r]? = (tz.map fun n => (DataW.lit (.int .u8 n) : DataW Unit))[r]? := by rw [e0]
  rw [List.getElem?_map, List.getElem?_map, ze (by omega : r < xs.length), ze (by omega : r < tz.length), e2] at e4
  have hz : z = tz.getD r 0 := by
   simp only [Option.map_some, Option.some.injEq, DataW.lit.injEq, Lit.int.injEq, true_and] at e4
   rw [e4, List.getD, ze (by omega : r < tz.length)]; rfl
  rw [World.var?_cell hg hv r, ← hz]
  have : cs.toList[r]? = some (.int .u8 z) := by
   have h0 : ((cs.toList.drop r).take 1)[0]? = some (.int .u8 z) := by rw [e1]; rfl
   simpa using h0
  simpa using this
 have hb : 0 < W.heap.size := by
  have h0 := cell 0 (by decide)
  rcases Nat.lt_or_ge 0 W.heap.size with h | h
  ·exact h
  ·unfold World.cell? at h0; rw [Array.getElem?_eq_none h] at h0; cases h0
 refine Rv.tp (o := 0) (base := 0) (fun c => .int .u8 (tz.getD c 0)) (fun h => h) hb (fun c hc => ?_) fun c hc => ?_
 ·rw [zB]; exact ⟨cell c hc, rfl⟩
 ·have e : tab0 = tz.map (AV.i .u8) := rfl
  have hc' : c < tz.length := by rw [hlen]; exact hc
  rw [e, za, List.getElem?_map, za, ze hc']
  exact Rv.i
set_option maxRecDepth 100000 in
theorem lifted (os : Os) (started : os.Started) (H : Type) (enc : TypeId × Value → H) :
  ReturnsInHanded {} Tryd.checked os 8 .any (fun w args => (Rows.extremeBetweensSpec.pre enc Tryd.prog Tryd.f8 Rows.extremeBetweensRow.domain false w args ∧ laidMetH Tryd.prog laid w) ∧ sizedMet enc Tryd.prog Tryd.f8 (OpenSpec.ofChange Rows.extremeBetweensSpec) false w args) (Rows.extremeBetweensSpec.post enc Tryd.prog Tryd.f8 false true false false) := by
 refine returnsInHanded_of_change_and (C := Tryd.checked) (X := fun w _ => laidMetH Tryd.prog laid w) (fun _ _ _ hh h => h.of_heap hh) own started (by kernel_rfl) Tryd.func8
  (ChangeSpec.witness_shaped (enc := enc) (C := Tryd.checked) (os := os) (X := fun w _ => laidMetH Tryd.prog laid w) false (World.laidAll Tryd.prog os laid) #[.agg #[.int .i64 0, .slice none 0 0]] 8 (World.laidAll_os _ _ _)
   (World.shaped_of_ZipB (by kernel_rfl) (by kernel_rfl)) (by kernel_rfl) (by kernel_rfl) (by kernel_rfl) (by rw [MakeChecks.laidMetH_plain _ _ _ (by kernel_rfl)]; exact laidMet_laidAll _ (by kernel_rfl) (by kernel_rfl))) ?_
 intro W base args ds gs before hval0 hW hcnd hsz0 hL _
 have hval : ∀ (j : Nat) t v, Tryd.f8.params[j]? = some t → args[j]? = some v → Value.okWide Tryd.prog W .any base t v := hval0
 have hW' := hW
 obtain ⟨p, q, hA0, hV, rfl, hfz, hnd⟩ := hW
 have hA : DataW.TrodAll enc Tryd.prog W 0 (fun _ => true) true Tryd.f8.params.toList args.toList ds p := hA0
 rw [Tryd.params8] at hA hval
 obtain ⟨v0, vs0, d0, ds0, pl0, ql0, hargs, rfl, rfl, h0, r0⟩ := trodAll_cons hA
 obtain ⟨rfl, rfl, rfl⟩ := trodAll_nil r0
 obtain rfl : args = #[v0] := by cases args; simp_all
 obtain ⟨rfl, rfl⟩ := trodVars_none hV
 have lt0 : ∀ x ∈ pl0, x.block < W.heap.size := by obtain ⟨m, hm⟩ := h0; exact DataW.trod_lt m _ _ _ hm
 obtain ⟨acs0, la0, fa0, rv0⟩ := arg_rv (n := 12) (ks := kM) (hval 0 24 v0 rfl rfl) h0 (by kernel_rfl)
 rw [show isStr Tryd.prog 24 = true by kernel_rfl] at rv0
 obtain ⟨x0, rfl, ok0⟩ := open_M ⟨la0, fa0⟩
 clear hA0 hval0 hsz0
 have hlaw := law_ExtremeBetweens x0 ok0
 have hx : ∀ j, j < 1 → Rv W (fun _ => False) Rho.none ([AV.agg (eM x0)].getD j .junk) (#[v0].getD j undef) := by
  intro j hj
  match j, hj with
  | 0, _ => exact rv0
 refine (law_true (F := (FD, nuD)) callsD (g := 159) (p := p159) rfl rfl (by decide) (by kernel_rfl) hlaw (w := W) (vs := #[v0]) (fun q hq => by obtain rfl := List.mem_singleton.1 hq; exact tab_rv hL) rfl hx).mono fun e W' ⟨he, bel⟩ => ?_
 subst he
 exact ⟨_, rfl, _, _, _, [], _, [], hW', trodAll_mk1 (shut_bool Tryd.underlying4 _), (trodAll_cons_mk (Below.trod laidOut (by kernel_rfl) (of_decide_eq_true (by kernel_rfl)) h0 bel lt0) trodAll_mk0), rfl, bel.frame _, fun h => by cases h⟩
theorem over : Rows.extremeBetweensRow.holds Tryd.pinned (OpenSpec.ofChange Rows.extremeBetweensSpec) :=
 OpenClaim.holds_of_wide 8 Tryd.f8 rfl rfl rfl rfl rfl rfl rfl ⟨rfl, rfl, rfl, rfl, rfl⟩ rfl rfl rfl rfl rfl (by kernel_rfl) Tryd.func8 (by kernel_rfl)
  (of_decide_eq_true (by kernel_rfl)) (by unfold Func.isWrapper; first | (rw [if_pos (by decide +kernel)]; kernel_rfl) | (rw [if_neg (by decide +kernel)]; exact ⟨rfl, rfl⟩))
  (fun os started H enc _ => lifted os started H enc)
theorem proved : Rows.ExtremeBetweensCardSaid :=
 Claim7.holds_tied_plain_at .later [] [.data] true (true, "055af2870a081aca155dd7d3832794b74fb70f238d6216e595e54682dc256be2") false over (fun _ h => by cases h) (by kernel_rfl) (fun _ h => by cases h) extremeBetweens_row_tie rfl ⟨rfl, rfl⟩ (by kernel_rfl) rfl
  (fun f fn hf hfn => by
   obtain rfl : f = 8 := Option.some.inj ((show Tryd.prog.funcNamed "dendron/dendronlaw24.ExtremeBetweens" = some 8 by kernel_rfl).symm.trans hf) |>.symm
   obtain rfl : fn = Tryd.f8 := (Option.some.inj (Tryd.func8.symm.trans hfn)).symm
   exact ⟨by kernel_rfl, fun j t ht => by
    rw [Tryd.params8] at ht
    have hm : t ∈ [24] := by simpa using Array.mem_of_getElem? ht
    have hall : ([24].all fun u => !Tryd.prog.wantsStandIn u) = true := by kernel_rfl
    exact (show Tryd.prog.wantsStandIn t = false by simpa using List.all_eq_true.1 hall t hm)⟩)
  (by kernel_rfl)
#print axioms proved
end Go.Proofs.YtomicjfjbfkikaaDoor.extremeBetweens
namespace Go.Proofs.YtomicjfjbfkikaaDoor
theorem extremeBetweens_holds : Rows.ExtremeBetweensCardSaid := extremeBetweens.proved
end Go.Proofs.YtomicjfjbfkikaaDoor
