/- Proved: any text (its first 400 bytes) is read as the reference reads it, for every input. No conditions. -/
import Derived.Test.YtfnhpojoaaegmaaBNatReads4
import Derived.Test.YtfnhpojoaaegmaaRows
import Derived.WalkKit
import Derived.ProofKit
import Derived.OpenShut
import Derived.ShutString
import Derived.ChangeOld
import Derived.Below
import Derived.SizedLaws
set_option linter.unusedVariables false
set_option linter.unusedSimpArgs false
namespace Go.Proofs.Ytfnhpojoaaegmaa.V
open Go.RowKit Go.Proofs.Ytfnhpojoaaegmaa.P Go.Proofs.YtfnhpojoaaegmaaW.PrintWords
theorem top_take {l : List Int} {n : Nat} (hn : n < l.length) (h : l.getD n 0 ≠ 0) : Dg.Top (l.take (n + 1)) := by
  intro _
  have hl : (l.take (n + 1)).length = n + 1 := by rw [List.length_take]; omega
  rw [hl, Nat.add_sub_cancel]
  rw [List.getD_eq_getElem?_getD, List.getElem?_take_of_lt (by omega), ← List.getD_eq_getElem?_getD]
  exact h
theorem nat_trim_l0 {l : List Int} (hd : Dg.Dig 4294967296 l) (hl : l.length ≤ 35184372088832) : ∀ n : Nat, n ≤ l.length →
    Ev (fun k => nat_trim.l0 k l (n : Int)) (D (Dg.vl 4294967296 (l.take n)).toNat) := by
  intro n
  induction n with
  | zero =>
    intro _
    refine Ev.succ ?_
    simp (disch := omega) only [nat_trim.l0, if_pos, if_neg]
    simp only [List.take_zero, Dg.vl, Int.toNat_zero, D_zero]
    exact Ev.ret _
  | succ n ih =>
    intro hn
    have e : wrap64 (((n + 1 : Nat) : Int) - 1) = (n : Int) := by rw [w64 (by omega) (by omega)]; omega
    refine Ev.succ ?_
    simp (disch := omega) only [nat_trim.l0, e, if_pos, if_neg, rd_nat]
    by_cases h : l.getD n 0 = 0
    · simp only [h, if_true]
      refine Ev.eq (ih (by omega)) ?_
      rw [Dg.vl_take_succ, h]
      simp
    · simp only [h, if_false]
      refine Ev.eq (Ev.ret _) ?_
      rw [Int.toNat_natCast]
      have hdd := hd.take (n + 1)
      refine D_of hdd (top_take (by omega) h) ?_
      have := Dg.vl_nonneg hdd (by decide)
      omega
theorem nat_trim_f {l : List Int} (hd : Dg.Dig 4294967296 l) (hl : l.length ≤ 35184372088832) {n : Nat} (hv : Dg.vl 4294967296 l = n) : Ev (fun k => nat_trim.f k l) (D n) := by
  have := nat_trim_l0 hd hl l.length (Nat.le_refl _)
  rw [List.take_length, hv, Int.toNat_natCast] at this
  exact this
theorem ref_Trim_l0 {l : List Int} (hd : Dg.Dig 10000 l) (hl : l.length ≤ 35184372088832) : ∀ n : Nat, n ≤ l.length →
    Ev (fun k => dendronref01_Trim.l0 k l (n : Int)) (E (Dg.vl 10000 (l.take n)).toNat) := by
  intro n
  induction n with
  | zero =>
    intro _
    refine Ev.succ ?_
    simp (disch := omega) only [dendronref01_Trim.l0, if_pos, if_neg]
    refine Ev.eq (Ev.ret _) ?_
    simp only [List.take_zero, Dg.vl, Int.toNat_zero, E_zero, Int.ofNat_zero, Int.toNat_natCast]
  | succ n ih =>
    intro hn
    have e : wrap64 (((n + 1 : Nat) : Int) - 1) = (n : Int) := by rw [w64 (by omega) (by omega)]; omega
    refine Ev.succ ?_
    simp (disch := omega) only [dendronref01_Trim.l0, e, if_pos, if_neg, rd_nat]
    by_cases h : l.getD n 0 = 0
    · simp only [h, if_true]
      refine Ev.eq (ih (by omega)) ?_
      rw [Dg.vl_take_succ, h]
      simp
    · simp only [h, if_false]
      refine Ev.eq (Ev.ret _) ?_
      rw [Int.toNat_natCast]
      have hdd := hd.take (n + 1)
      refine E_of hdd (top_take (by omega) h) ?_
      have := Dg.vl_nonneg hdd (by decide)
      omega
theorem ref_Trim_f {l : List Int} (hd : Dg.Dig 10000 l) (hl : l.length ≤ 35184372088832) {n : Nat} (hv : Dg.vl 10000 l = n) : Ev (fun k => dendronref01_Trim.f k l) (E n) := by
  have := ref_Trim_l0 hd hl l.length (Nat.le_refl _)
  rw [List.take_length, hv, Int.toNat_natCast] at this
  exact this
theorem set_take {l : List Int} {n : Nat} (v : Int) (h : n < l.length) : (l.set n v).take (n + 1) = l.take n ++ [v] := by
  have h2 : n < (l.set n v).length := by rw [List.length_set]; exact h
  rw [List.take_succ_eq_append_getElem h2, List.getElem_set_self, List.take_set_of_le (Nat.le_refl _)]
theorem U_get {l : List Int} (h : U l) (n : Nat) : 0 ≤ l.getD n 0 ∧ l.getD n 0 ≤ 18446744073709551615 := by
  rw [List.getD_eq_getElem?_getD]
  rcases Nat.lt_or_ge n l.length with hn | hn
  · rw [List.getElem?_eq_getElem hn]; exact h _ (List.getElem_mem hn)
  · rw [List.getElem?_eq_none hn]; simp
theorem nat_limb_f (l : List Int) (i : Nat) : nat_limb.f l (i : Int) = some (l.getD i 0) := by
  unfold nat_limb.f
  by_cases h : (i : Int) < (l.length : Int)
  · rw [if_pos h, if_pos (by omega), rd_nat]
  · rw [if_neg h, List.getD_eq_getElem?_getD, List.getElem?_eq_none (by omega)]
    rfl
def Rt (l : List Int) : Prop := Dg.Dig 4294967296 l ∧ Dg.Top l
theorem Rt_D (n : Nat) : Rt (D n) := ⟨D_dig n, D_top n⟩
theorem ref_Right_l0 {l : List Int} (hu : U l) (hl : l.length ≤ 35184372088832) : ∀ (d i : Nat), i + d = l.length → (∀ j, j < i → l.getD j 0 < 4294967296) →
    ∃ b, Ev (fun k => dendronref01_Right.l0 k l (i : Int)) b ∧ (b = true ↔ Rt l) := by
  intro d
  induction d with
  | zero =>
    intro i hi hj
    have hd : Dg.Dig 4294967296 l := by
      intro x hx
      obtain ⟨n, hn, e⟩ := List.mem_iff_getElem.1 hx
      have h1 := hj n (by omega)
      have h2 := U_get hu n
      rw [List.getD_eq_getElem?_getD, List.getElem?_eq_getElem hn, Option.getD_some, e] at h1 h2
      exact ⟨h2.1, h1⟩
    by_cases h0 : l.length = 0
    · refine ⟨true, Ev.succ ?_, ?_⟩
      · simp (disch := omega) only [dendronref01_Right.l0, if_neg, if_pos]
        exact Ev.ret _
      · simp only [true_iff]
        have : l = [] := List.length_eq_zero_iff.1 h0
        subst this
        exact ⟨hd, Dg.Top.nil⟩
    · refine ⟨l.getD (l.length - 1) 0 != 0, Ev.succ ?_, ?_⟩
      · have e : wrap64 ((l.length : Int) - 1) = ((l.length - 1 : Nat) : Int) := by rw [w64 (by omega) (by omega)]; omega
        simp (disch := omega) only [dendronref01_Right.l0, if_neg, if_pos, e, rd_nat]
        exact Ev.ret _
      · rw [bne_iff_ne]
        constructor
        · intro h
          exact ⟨hd, fun _ => h⟩
        · intro h
          exact h.2 (fun e => h0 (by rw [e]; rfl))
  | succ d ih =>
    intro i hi hj
    have e : wrap64 ((i : Int) + 1) = ((i + 1 : Nat) : Int) := by rw [w64 (by omega) (by omega)]; omega
    by_cases h : l.getD i 0 > 4294967295
    · refine ⟨false, Ev.succ ?_, ?_⟩
      · simp (disch := omega) only [dendronref01_Right.l0, if_pos, rd_nat]
        exact Ev.ret _
      · simp only [Bool.false_eq_true, false_iff]
        intro hr
        have := hr.1.getD (by decide) i
        omega
    · obtain ⟨b, hb, hr⟩ := ih (i + 1) (by omega) (fun j hj2 => by
        rcases Nat.lt_or_ge j i with h3 | h3
        · exact hj j h3
        · have : j = i := by omega
          subst this
          omega)
      refine ⟨b, Ev.succ ?_, hr⟩
      simp (disch := omega) only [dendronref01_Right.l0, if_pos, rd_nat, e, h, if_false]
      exact hb
theorem ref_Right_f {l : List Int} (hu : U l) (hl : l.length ≤ 35184372088832) : ∃ b, Ev (fun k => dendronref01_Right.f k l) b ∧ (b = true ↔ Rt l) :=
  ref_Right_l0 hu hl l.length 0 (by omega) (fun j h => absurd h (by omega))
theorem ref_Right_D {n : Nat} (hl : L n ≤ 35184372088832) : Ev (fun k => dendronref01_Right.f k (D n)) true := by
  obtain ⟨b, hb, h⟩ := ref_Right_f (D_U n) hl
  rwa [h.2 (Rt_D n)] at hb
end Go.Proofs.Ytfnhpojoaaegmaa.V
set_option linter.unusedVariables false
set_option linter.unusedSimpArgs false
namespace Go.Proofs.Ytfnhpojoaaegmaa.V
open Go.RowKit Go.Proofs.Ytfnhpojoaaegmaa.P Go.Proofs.YtfnhpojoaaegmaaW.PrintWords
theorem mul_bound {x y M : Int} (hx0 : 0 ≤ x) (hx : x ≤ M) (hy0 : 0 ≤ y) (hy : y ≤ M) : 0 ≤ x * y ∧ x * y ≤ M * M :=
  ⟨Int.mul_nonneg hx0 hy0, Int.le_trans (Int.mul_le_mul_of_nonneg_right hx hy0) (Int.mul_le_mul_of_nonneg_left hy (by omega))⟩
theorem tdiv_pos {x y : Int} (h : 0 ≤ x) : Int.tdiv x y = x / y := Int.tdiv_eq_ediv_of_nonneg h
theorem tmod_pos {x y : Int} (h : 0 ≤ x) : Int.tmod x y = x % y := Int.tmod_eq_emod_of_nonneg h
theorem mul_step {B : Int} {out : List Int} {p : Nat} {c x S t : Int} (hlt : p < out.length) (hv : Dg.vl B out + c * B ^ p = S) (ht : t = c + out.getD p 0 + x) :
    Dg.vl B (out.set p (t % B)) + (t / B) * B ^ (p + 1) = S + x * B ^ p := by
  rw [Dg.vl_set _ _ _ _ hlt, Int.pow_succ]
  have h := Int.mul_ediv_add_emod t B
  have e : (t % B - out.getD p 0) * B ^ p + t / B * (B ^ p * B) = (t - out.getD p 0) * B ^ p := by
    have : t % B = t - B * (t / B) := by omega
    rw [this]
    grind
  rw [Int.add_assoc, e, ht, ← hv]
  grind
theorem zero_set {out : List Int} {p q : Nat} (v : Int) (h : p < q) (hz : ∀ j, q ≤ j → out.getD j 0 = 0) : ∀ j, q ≤ j → (out.set p v).getD j 0 = 0 := by
  intro j hj
  rw [List.getD_eq_getElem?_getD, List.getElem?_set_ne (by omega), ← List.getD_eq_getElem?_getD]
  exact hz j hj
theorem ref_Times_l0 {a b : List Int} (ha : Dg.Dig 10000 a) (hb : Dg.Dig 10000 b) (hl : a.length + b.length ≤ 35184372088832) {n : Nat} (hn : Dg.vl 10000 a * Dg.vl 10000 b = n) :
    ∀ (d i : Nat) (out : List Int), i + d = a.length → out.length = a.length + b.length → Dg.Dig 10000 out → Dg.vl 10000 out = Dg.vl 10000 (a.take i) * Dg.vl 10000 b → (∀ j, i + b.length ≤ j → out.getD j 0 = 0) →
    Ev (fun k => dendronref01_Times.l0 k a b out (i : Int)) (E n) := by
  intro d
  induction d with
  | zero =>
    intro i out hi ho hd hv hz
    refine Ev.succ ?_
    simp (disch := omega) only [dendronref01_Times.l0, if_neg]
    refine Ev.bind (ref_Trim_f hd (by omega) (n := n) ?_) (Ev.ret _)
    rw [hv, List.take_of_length_le (by omega), hn]
  | succ d ih =>
    intro i out hi ho hd hv hz
    refine Ev.succ ?_
    simp (disch := omega) only [dendronref01_Times.l0, if_pos]
    have gi := ha.getD (by decide) i
    have inner : ∀ (e m : Nat) (o : List Int) (c : Int), m + e = b.length → o.length = a.length + b.length → Dg.Dig 10000 o → 0 ≤ c → c ≤ 9999 → (∀ j, i + b.length ≤ j → o.getD j 0 = 0) →
        Dg.vl 10000 o + c * 10000 ^ (i + m) = Dg.vl 10000 out + a.getD i 0 * Dg.vl 10000 (b.take m) * 10000 ^ i → Ev (fun k => dendronref01_Times.l1 k a b o (i : Int) c (m : Int)) (E n) := by
      intro e
      induction e with
      | zero =>
        intro m o c hm ho2 hd2 hc0 hc1 hz2 hv2
        refine Ev.succ ?_
        simp (disch := omega) only [dendronref01_Times.l1, if_neg, if_pos, w64add, w64succ, Int.toNat_natCast]
        refine ih (i + 1) _ (by omega) (by rw [List.length_set]; exact ho2) (hd2.set _ hc0 (by omega)) ?_ ?_
        · have hmb : m = b.length := by omega
          subst hmb
          rw [Dg.vl_set _ _ _ _ (by omega), hz2 _ (Nat.le_refl _), Int.sub_zero, hv2, List.take_length, hv, Dg.vl_take_succ]
          grind
        · intro j hj
          exact zero_set c (q := i + b.length + 1) (by omega) (fun j hj => hz2 j (by omega)) j (by omega)
      | succ e ih2 =>
        intro m o c hm ho2 hd2 hc0 hc1 hz2 hv2
        have gm := hb.getD (by decide) m
        have go := hd2.getD (by decide) (i + m)
        have hx := mul_bound gi.1 (show a.getD i 0 ≤ 9999 by omega) gm.1 (show b.getD m 0 ≤ 9999 by omega)
        refine Ev.succ ?_
        simp (disch := omega) only [dendronref01_Times.l1, if_pos, rd_add, tn_add, rd_nat, w64, tdiv_pos, tmod_pos, Int.toNat_natCast]
        refine ih2 (m + 1) _ _ (by omega) (by rw [List.length_set]; exact ho2) (hd2.set _ (by omega) (by omega)) (by omega) (by omega) ?_ ?_
        · exact zero_set _ (by omega) hz2
        · have := mul_step (B := 10000) (x := a.getD i 0 * b.getD m 0) (show i + m < o.length by omega) hv2 (t := c + o.getD (i + m) 0 + a.getD i 0 * b.getD m 0) rfl
          rw [show i + (m + 1) = i + m + 1 by omega, this, Dg.vl_take_succ, Int.pow_add]
          grind
    refine inner b.length 0 out 0 (by omega) ho hd (by omega) (by omega) hz ?_
    simp [Dg.vl]
theorem ref_Times_f {x y : Nat} (hl : LE x + LE y ≤ 35184372088832) : Ev (fun k => dendronref01_Times.f k (E x) (E y)) (E (x * y)) := by
  have hl' : (E x).length + (E y).length ≤ 35184372088832 := hl
  unfold dendronref01_Times.f
  simp (disch := omega) only [w64add, if_pos, Int.toNat_natCast]
  refine ref_Times_l0 (E_dig x) (E_dig y) hl' (n := x * y) ?_ (E x).length 0 _ (by omega) (by rw [List.length_replicate]) (Dg.Dig.replicate (by decide) _) ?_ ?_
  · rw [E_vl, E_vl]; exact (Int.natCast_mul x y).symm
  · rw [Dg.vl_replicate_zero]; simp [Dg.vl]
  · intro j hj
    rw [List.getD_eq_getElem?_getD]
    by_cases h : j < (E x).length + (E y).length
    · simp [List.getElem?_replicate, h]
    · simp [List.getElem?_replicate, h]
theorem ref_digit_f (l : List Int) (i : Nat) : dendronref01_digit.f l (i : Int) = some (l.getD i 0) := by
  unfold dendronref01_digit.f
  by_cases h : (i : Int) < (l.length : Int)
  · rw [if_pos h, if_pos (by omega), rd_nat]
  · rw [if_neg h, List.getD_eq_getElem?_getD, List.getElem?_eq_none (by omega)]
    rfl
theorem getD_beyond {l : List Int} {i : Nat} (h : l.length ≤ i) : l.getD i 0 = 0 := by rw [List.getD_eq_getElem?_getD, List.getElem?_eq_none h]; rfl
theorem getD_snoc {l : List Int} {i : Nat} (x : Int) (h : l.length = i) : (l ++ [x]).getD i 0 = x := by
  subst h
  rw [List.getD_eq_getElem?_getD, List.getElem?_append_right (Nat.le_refl _), Nat.sub_self]
  rfl
theorem vl_snoc (B : Int) (l : List Int) (x : Int) : Dg.vl B (l ++ [x]) = Dg.vl B l + x * B ^ l.length := by
  rw [Dg.vl_append]
  simp [Dg.vl]
  exact Int.mul_comm _ _
theorem ref_Plus_l0 {a b : List Int} (ha : Dg.Dig 10000 a) (hb : Dg.Dig 10000 b) (ta : Dg.Top a) (tb : Dg.Top b) (hla : a.length ≤ 4398046511104) (hlb : b.length ≤ 4398046511104) {n : Nat} (hn : Dg.vl 10000 a + Dg.vl 10000 b = n) :
    ∀ (d i : Nat) (out : List Int) (c : Int), max a.length b.length + 1 ≤ i + d → i ≤ max a.length b.length + 1 → (i = max a.length b.length + 1 → c = 0) → out.length = i → Dg.Dig 10000 out → 0 ≤ c → c ≤ 1 → Dg.vl 10000 out + c * 10000 ^ i = Dg.vl 10000 (a.take i) + Dg.vl 10000 (b.take i) →
    (i = 0 ∨ i < max a.length b.length ∨ c ≠ 0 ∨ out.getD (i - 1) 0 ≠ 0) → Ev (fun k => dendronref01_Plus.l0 k a b out c (i : Int)) (E n) := by
  intro d
  induction d with
  | zero =>
    intro i out c hid hi2 hc9 ho hd hc0 hc1 hv ht
    have hi : i = max a.length b.length + 1 := by omega
    have hc := hc9 hi
    subst hc
    refine Ev.succ ?_
    simp (disch := omega) only [dendronref01_Plus.l0, if_neg]
    refine Ev.succ ?_
    simp (disch := omega) only [dendronref01_Plus.j1]
    refine Ev.eq (Ev.ret _) (E_of hd ?_ ?_)
    · intro _
      rw [ho]
      rcases ht with h | h | h | h
      · omega
      · omega
      · exact absurd rfl h
      · exact h
    · rw [List.take_of_length_le (by omega), List.take_of_length_le (by omega), hn] at hv
      simpa using hv
  | succ d ih =>
    intro i out c hid hi2 hc9 ho hd hc0 hc1 hv ht
    by_cases hgo : i < a.length ∨ i < b.length ∨ 0 < c
    · have ga := ha.getD (by decide) i
      have gb := hb.getD (by decide) i
      have hig : i ≤ max a.length b.length := by
        rcases Nat.lt_or_ge (max a.length b.length) i with h | h
        · have := hc9 (by omega); omega
        · exact h
      have step : Ev (fun k => dendronref01_Plus.j1 k a b out c (i : Int) true) (E n) := by
        refine Ev.succ ?_
        simp (disch := omega) only [dendronref01_Plus.j1, ref_digit_f, Option.bind_some, if_true, w64, tdiv_pos, tmod_pos, w64succ, if_pos]
        refine ih (i + 1) _ _ (by omega) (by omega) ?_ (by simp [ho]) (hd.append (Dg.Dig.cons (by omega) (by omega) Dg.Dig.nil)) (by omega) (by omega) ?_ ?_
        · intro h9
          have h1 := getD_beyond (l := a) (i := i) (by omega)
          have h2 := getD_beyond (l := b) (i := i) (by omega)
          rw [h1, h2]
          omega
        · rw [vl_snoc, ho, Dg.vl_take_succ, Dg.vl_take_succ, Int.pow_succ]
          have h := Int.mul_ediv_add_emod (c + a.getD i 0 + b.getD i 0) 10000
          grind
        · by_cases h9 : i + 1 < max a.length b.length
          · exact .inr (.inl h9)
          · refine .inr (.inr ?_)
            rw [Nat.add_sub_cancel, getD_snoc _ ho]
            have hs : 0 < c + a.getD i 0 + b.getD i 0 := by
              rcases Nat.lt_or_ge i (max a.length b.length) with h | h
              · by_cases hab : a.length = max a.length b.length
                · have := ta (fun e => by have h0 : a.length = 0 := (by rw [e]; rfl); omega)
                  rw [show a.length - 1 = i by omega] at this
                  omega
                · have := tb (fun e => by have h0 : b.length = 0 := (by rw [e]; rfl); omega)
                  rw [show b.length - 1 = i by omega] at this
                  omega
              · omega
            by_cases hq : (c + a.getD i 0 + b.getD i 0) / 10000 = 0
            · right; omega
            · left; exact hq
      refine Ev.succ ?_
      simp only [dendronref01_Plus.l0]
      by_cases h1 : (i : Int) < (a.length : Int)
      · exact Ev.pos h1 step
      · refine Ev.neg h1 ?_
        by_cases h2 : (i : Int) < (b.length : Int)
        · exact Ev.pos h2 step
        · refine Ev.neg h2 ?_
          have : decide (c > 0) = true := decide_eq_true (by omega)
          rw [this]
          exact step
    · have hc : c = 0 := by omega
      subst hc
      refine Ev.succ ?_
      simp (disch := omega) only [dendronref01_Plus.l0, if_neg]
      refine Ev.succ ?_
      simp (disch := omega) only [dendronref01_Plus.j1]
      refine Ev.eq (Ev.ret _) (E_of hd ?_ ?_)
      · intro hne
        rw [ho]
        rcases ht with h | h | h | h
        · subst h
          exact absurd (List.length_eq_zero_iff.1 ho) hne
        · omega
        · exact absurd rfl h
        · exact h
      · rw [List.take_of_length_le (by omega), List.take_of_length_le (by omega), hn] at hv
        simpa using hv
theorem ref_Plus_f {x y : Nat} (hx : LE x ≤ 4398046511104) (hy : LE y ≤ 4398046511104) : Ev (fun k => dendronref01_Plus.f k (E x) (E y)) (E (x + y)) := by
  unfold dendronref01_Plus.f
  refine ref_Plus_l0 (E_dig x) (E_dig y) (E_top x) (E_top y) hx hy (n := x + y) (by rw [E_vl, E_vl]; omega) (max (E x).length (E y).length + 1) 0 [] 0 (by omega) (by omega) (by omega) rfl Dg.Dig.nil (by omega) (by omega) (by simp [Dg.vl]) (.inl rfl)
theorem ref_Small_l0 (out : List Int) : ∀ (n : Nat), out.length + LE n ≤ 4398046511104 → n ≤ 9223372036854775807 → Ev (fun k => dendronref01_Small.l0 k (n : Int) out) (out ++ E n) := by
  intro n
  induction n using Nat.strongRecOn generalizing out with
  | _ n ih =>
    intro hl hn
    refine Ev.succ ?_
    by_cases h0 : n = 0
    · subst h0
      simp (disch := omega) only [dendronref01_Small.l0, if_neg]
      rw [E_zero, List.append_nil]
      exact Ev.ret _
    · have hE : E n = ((n % 10000 : Nat) : Int) :: E (n / 10000) := Dg.dg_succ (by decide) h0
      have hLE : LE n = LE (n / 10000) + 1 := by unfold LE; rw [hE]; rfl
      simp (disch := omega) only [dendronref01_Small.l0, if_pos, tdiv_pos, tmod_pos, w64]
      have := ih (n / 10000) (Nat.div_lt_self (by omega) (by omega)) (out ++ [((n % 10000 : Nat) : Int)]) (by rw [List.length_append, List.length_singleton]; omega) (by omega)
      rw [hE]
      have e1 : ((n / 10000 : Nat) : Int) = (n : Int) / 10000 := by omega
      have e2 : ((n % 10000 : Nat) : Int) = (n : Int) % 10000 := by omega
      rw [e1, e2] at this
      rw [e2]
      rw [List.append_assoc] at this
      exact this
theorem LE_u64 {n : Nat} (h : n ≤ 18446744073709551615) : LE n ≤ 5 := LE_le (by omega)
theorem ref_Small_f {x : Int} {n : Nat} (h : x = n) (hn : n ≤ 9223372036854775807) : Ev (fun k => dendronref01_Small.f k x) (E n) := by
  subst h
  unfold dendronref01_Small.f
  have := LE_u64 (n := n) (by omega)
  exact ref_Small_l0 [] n (by simp; omega) hn
theorem ref_Order_l0 {a b : List Int} (ha : Dg.Dig 10000 a) (hb : Dg.Dig 10000 b) (hl : a.length = b.length) (hs : a.length ≤ 35184372088832) : ∀ n : Nat, n ≤ a.length →
    Ev (fun k => dendronref01_Order.l0 k a b ((n : Int) - 1)) (cmp (Dg.vl 10000 (a.take n)) (Dg.vl 10000 (b.take n))) := by
  intro n
  induction n with
  | zero =>
    intro _
    refine Ev.succ ?_
    simp (disch := omega) only [dendronref01_Order.l0, if_neg]
    exact Ev.ret _
  | succ n ih =>
    intro hn
    have e0 : ((n + 1 : Nat) : Int) - 1 = (n : Int) := by omega
    have a0 := Dg.vl_nonneg (ha.take n) (by decide)
    have b0 := Dg.vl_nonneg (hb.take n) (by decide)
    have a1 := Dg.vl_lt (ha.take n) (by decide)
    have b1 := Dg.vl_lt (hb.take n) (by decide)
    have hla : (a.take n).length = n := by rw [List.length_take]; omega
    have hlb : (b.take n).length = n := by rw [List.length_take]; omega
    rw [hla] at a1
    rw [hlb] at b1
    rw [e0]
    refine Ev.succ ?_
    simp (disch := omega) only [dendronref01_Order.l0, if_pos, rd_nat, w64pred]
    rw [Dg.vl_take_succ, Dg.vl_take_succ]
    by_cases h1 : a.getD n 0 < b.getD n 0
    · refine Ev.pos h1 (Ev.eq (Ev.ret _) (cmp_lt (cmp_top (B := 0) a0 a1 b0 b1 h1)).symm)
    · refine Ev.neg h1 ?_
      by_cases h2 : b.getD n 0 < a.getD n 0
      · exact Ev.pos h2 (Ev.eq (Ev.ret _) (cmp_gt (cmp_top (B := 0) b0 b1 a0 a1 h2)).symm)
      · refine Ev.neg h2 (Ev.eq (ih (by omega)) ?_)
        have : a.getD n 0 = b.getD n 0 := by omega
        rw [this]
        unfold cmp
        split <;> split <;> (try split) <;> (try split) <;> first | rfl | omega
theorem ref_Order_f {m n : Nat} (hm : LE m ≤ 35184372088832) (hn : LE n ≤ 35184372088832) : Ev (fun k => dendronref01_Order.f k (E m) (E n)) (cmp m n) := by
  unfold dendronref01_Order.f
  have hm' : (E m).length ≤ 35184372088832 := hm
  have hn' : (E n).length ≤ 35184372088832 := hn
  by_cases h0 : ((E m).length : Int) = ((E n).length : Int)
  · refine Ev.pos h0 ?_
    simp (disch := omega) only [w64pred]
    refine Ev.eq (ref_Order_l0 (E_dig m) (E_dig n) (by omega) hm' _ (Nat.le_refl _)) ?_
    rw [List.take_length, show (E m).length = (E n).length by omega, List.take_length, E_vl, E_vl]
  · refine Ev.neg h0 ?_
    by_cases h1 : ((E m).length : Int) < ((E n).length : Int)
    · exact Ev.pos h1 (Ev.eq (Ev.ret _) (cmp_lt (by have := len_lt_imp 10000 (by decide) (show (E m).length < (E n).length by omega); omega)).symm)
    · exact Ev.neg h1 (Ev.eq (Ev.ret _) (cmp_gt (by have := len_lt_imp 10000 (by decide) (show (E n).length < (E m).length by omega); omega)).symm)
theorem LE_L (n : Nat) : LE n ≤ 3 * L n := by
  apply LE_le
  refine Nat.lt_of_lt_of_le (L_lt n) ?_
  rw [Nat.pow_mul]
  exact Nat.pow_le_pow_left (by decide) _
theorem W_drop_succ (l : List Int) (n : Nat) (h : n < l.length) : W (l.drop n) = (l.getD n 0 % 4294967296).toNat + 4294967296 * W (l.drop (n + 1)) := by
  have h1 := W_map (l.drop n)
  have h2 := W_map (l.drop (n + 1))
  rw [List.map_drop, Dg.vl_drop_succ, ← List.map_drop] at h1
  rw [← h2] at h1
  have h3 : (l.map (· % 4294967296)).getD n 0 = l.getD n 0 % 4294967296 := by
    rw [List.getD_eq_getElem?_getD, List.getD_eq_getElem?_getD, List.getElem?_map, List.getElem?_eq_getElem h]
    rfl
  rw [h3] at h1
  omega
theorem ref_From_l0 {l : List Int} (hu : U l) (hl : l.length ≤ 1000000000000) : ∀ n : Nat, n ≤ l.length → Ev (fun k => dendronref01_From.l0 k l (E (W (l.drop n))) (E 4294967296) ((n : Int) - 1)) (E (W l)) := by
  intro n
  induction n with
  | zero =>
    intro _
    refine Ev.succ ?_
    simp (disch := omega) only [dendronref01_From.l0, if_neg, List.drop_zero]
    exact Ev.ret _
  | succ n ih =>
    intro hn
    have e0 : ((n + 1 : Nat) : Int) - 1 = (n : Int) := by omega
    have hg := U_get hu n
    have hL1 : LE (W (l.drop (n + 1))) ≤ 3 * l.length := Nat.le_trans (LE_L _) (Nat.mul_le_mul_left _ (Nat.le_trans (L_W _) (by rw [List.length_drop]; omega)))
    have h5 : LE 4294967296 ≤ 5 := LE_u64 (by omega)
    have hL2 := LE_mul (W (l.drop (n + 1))) 4294967296
    have hv := W_drop_succ l n (by omega)
    have hs : LE (l.getD n 0 % 4294967296).toNat ≤ 5 := LE_u64 (by omega)
    rw [e0]
    refine Ev.succ ?_
    simp (disch := omega) only [dendronref01_From.l0, if_pos, rd_nat, w64pred, and32, w64]
    refine Ev.bind (ref_Times_f (by omega)) ?_
    refine Ev.bind (ref_Small_f (n := (l.getD n 0 % 4294967296).toNat) (by omega) (by omega)) ?_
    refine Ev.bind (ref_Plus_f (by omega) (by omega)) ?_
    have : W (l.drop (n + 1)) * 4294967296 + (l.getD n 0 % 4294967296).toNat = W (l.drop n) := by omega
    rw [this]
    exact ih (by omega)
theorem ref_From_f {l : List Int} (hu : U l) (hl : l.length ≤ 1000000000000) : Ev (fun k => dendronref01_From.f k l) (E (W l)) := by
  unfold dendronref01_From.f
  refine Ev.bind (ref_Small_f (n := 4294967296) rfl (by omega)) ?_
  simp (disch := omega) only [w64pred]
  have := ref_From_l0 hu hl l.length (Nat.le_refl _)
  rw [List.drop_length, W_nil, E_zero] at this
  exact this
theorem ref_From_D {n : Nat} (hl : L n ≤ 1000000000000) : Ev (fun k => dendronref01_From.f k (D n)) (E n) := by
  have := ref_From_f (D_U n) hl
  rwa [W_D] at this
theorem ref_Is_D {m n : Nat} (hm : L m ≤ 1000000000000) (hn : LE n ≤ 35184372088832) : Ev (fun k => dendronref01_Is.f k (D m) (E n)) (decide (m = n)) := by
  unfold dendronref01_Is.f
  refine Ev.bind (ref_Right_D (by omega)) ?_
  simp only [if_true]
  refine Ev.bind (ref_From_D hm) ?_
  have := LE_L m
  refine Ev.bind (ref_Order_f (by omega) hn) ?_
  refine Ev.eq (Ev.ret _) ?_
  have h := cmp_eq_iff (a := (m : Int)) (b := n)
  by_cases h1 : m = n
  · rw [decide_eq_true h1, beq_iff_eq]
    exact h.2 (by omega)
  · rw [decide_eq_false h1, beq_eq_false_iff_ne]
    intro h2
    have := h.1 h2
    omega
theorem ref_Is_true {m n : Nat} (h : m = n) (hm : L m ≤ 1000000000000) : Ev (fun k => dendronref01_Is.f k (D m) (E n)) true := by
  subst h
  have := LE_L m
  exact Ev.eq (ref_Is_D hm (by omega)) (decide_eq_true rfl)
end Go.Proofs.Ytfnhpojoaaegmaa.V
set_option linter.unusedVariables false
set_option linter.unusedSimpArgs false
namespace Dg
theorem pow_mono {B : Int} (hB : 1 ≤ B) {m n : Nat} (h : m ≤ n) : B ^ m ≤ B ^ n := by
  obtain ⟨d, rfl⟩ := Nat.exists_eq_add_of_le h
  rw [Int.pow_add]
  have h1 : 0 < B ^ m := Int.pow_pos (by omega)
  have h2 : 1 ≤ B ^ d := by
    have : 0 < B ^ d := Int.pow_pos (by omega)
    omega
  have := Int.mul_le_mul_of_nonneg_left h2 (Int.le_of_lt h1)
  omega
end Dg
namespace Go.Proofs.Ytfnhpojoaaegmaa.V
open Go.RowKit Go.Proofs.Ytfnhpojoaaegmaa.P Go.Proofs.YtfnhpojoaaegmaaW.PrintWords Go.Proofs.YtfnhpojoaaegmaaW.PrintMore
end Go.Proofs.Ytfnhpojoaaegmaa.V
set_option linter.unusedVariables false
set_option linter.unusedSimpArgs false
namespace Go.Proofs.Ytfnhpojoaaegmaa.V
open Go.RowKit Go.Proofs.Ytfnhpojoaaegmaa.P Go.Proofs.YtfnhpojoaaegmaaW.PrintWords Go.Proofs.YtfnhpojoaaegmaaW.PrintMore
def LT : ByteArray := (⟨#[0, 1, 2, 2, 3, 3, 3, 3, 4, 4, 4, 4, 4, 4, 4, 4, 5, 5, 5, 5, 5, 5, 5, 5, 5, 5, 5, 5, 5, 5, 5, 5, 6, 6, 6, 6, 6, 6, 6, 6, 6, 6, 6, 6, 6, 6, 6, 6, 6, 6, 6, 6, 6, 6, 6, 6, 6, 6, 6, 6, 6, 6, 6, 6, 7, 7, 7, 7, 7, 7, 7, 7, 7, 7, 7, 7, 7, 7, 7, 7, 7, 7, 7, 7, 7, 7, 7, 7, 7, 7, 7, 7, 7, 7, 7, 7, 7, 7, 7, 7, 7, 7, 7, 7, 7, 7, 7, 7, 7, 7, 7, 7, 7, 7, 7, 7, 7, 7, 7, 7, 7, 7, 7, 7, 7, 7, 7, 7, 8, 8, 8, 8, 8, 8, 8, 8, 8, 8, 8, 8, 8, 8, 8, 8, 8, 8, 8, 8, 8, 8, 8, 8, 8, 8, 8, 8, 8, 8, 8, 8, 8, 8, 8, 8, 8, 8, 8, 8, 8, 8, 8, 8, 8, 8, 8, 8, 8, 8, 8, 8, 8, 8, 8, 8, 8, 8, 8, 8, 8, 8, 8, 8, 8, 8, 8, 8, 8, 8, 8, 8, 8, 8, 8, 8, 8, 8, 8, 8, 8, 8, 8, 8, 8, 8, 8, 8, 8, 8, 8, 8, 8, 8, 8, 8, 8, 8, 8, 8, 8, 8, 8, 8, 8, 8, 8, 8, 8, 8, 8, 8, 8, 8, 8, 8, 8, 8, 8, 8, 8, 8, 8, 8, 8, 8, 8, 8]⟩ : ByteArray)
attribute [irreducible] LT
end Go.Proofs.Ytfnhpojoaaegmaa.V
set_option linter.unusedVariables false
set_option linter.unusedSimpArgs false
namespace Go.Proofs.Ytfnhpojoaaegmaa.V
open Go.RowKit Go.Proofs.Ytfnhpojoaaegmaa.P Go.Proofs.YtfnhpojoaaegmaaW.PrintWords Go.Proofs.YtfnhpojoaaegmaaW.PrintMore
theorem getD_take {l : List Int} {c j : Nat} (h : j < c) : (l.take c).getD j 0 = l.getD j 0 := by rw [List.getD_eq_getElem?_getD, List.getElem?_take_of_lt h, ← List.getD_eq_getElem?_getD]
end Go.Proofs.Ytfnhpojoaaegmaa.V
namespace Go.Proofs.Ytfnhpojoaaegmaa.V
open Go.RowKit Go.Proofs.Ytfnhpojoaaegmaa.P Go.Proofs.YtfnhpojoaaegmaaW.PrintWords
set_option maxRecDepth 100000 in
theorem awake_f : Ev (fun k => dendronlaw01_awake.f k) true := Ev.of (fun k => dendronlaw01_awake.mono k) (k := 100) (by decide +kernel)
end Go.Proofs.Ytfnhpojoaaegmaa.V
set_option linter.unusedVariables false
set_option linter.unusedSimpArgs false
namespace Go.Proofs.Ytfnhpojoaaegmaa.V
open Go.RowKit Go.Proofs.Ytfnhpojoaaegmaa.P Go.Proofs.YtfnhpojoaaegmaaW.PrintWords Go.Proofs.YtfnhpojoaaegmaaW.PrintMore
def bl (s : ByteArray) : List Int := s.data.toList.map fun x => (x.toNat : Int)
theorem bl_len (s : ByteArray) : (bl s).length = s.size := by
  unfold bl
  rw [List.length_map]
  exact Array.length_toList
theorem bt_bl {s : ByteArray} {i : Nat} (h : i < s.size) : bt s (i : Int) = (bl s).getD i 0 := by
  unfold bt bl
  rw [dif_pos (by rw [Int.toNat_natCast]; exact h), List.getD_eq_getElem?_getD, List.getElem?_map, List.getElem?_eq_getElem (show i < s.data.toList.length by rw [Array.length_toList]; exact h)]
  rfl
theorem bl_extract (s : ByteArray) (i j : Nat) : bl (s.extract i j) = ((bl s).take j).drop i := by
  unfold bl
  rw [← List.map_take, ← List.map_drop]
  congr 1
  simp [ByteArray.data_extract]
  rw [List.drop_take]
theorem size_zero {s : ByteArray} : s.toList = ([] : List UInt8) ↔ s.size = 0 := by
  rw [ByteArray.toList_eq]
  constructor
  · intro h
    have h2 := congrArg List.length h
    rw [Array.length_toList] at h2
    exact h2
  · intro h
    apply List.eq_nil_of_length_eq_zero
    rw [Array.length_toList]
    exact h
def D10 (l : List Int) : Prop := ∀ c, c ∈ l → 48 ≤ c ∧ c ≤ 57
def bv (l : List Int) : Int := Dg.vl 10 (l.reverse.map (· - 48))
theorem bv_nil : bv [] = 0 := rfl
theorem bv_append (l m : List Int) : bv (l ++ m) = bv m + 10 ^ m.length * bv l := by
  unfold bv
  rw [List.reverse_append, List.map_append, Dg.vl_append, List.length_map, List.length_reverse]
theorem bv_one (c : Int) : bv [c] = c - 48 := by simp [bv, Dg.vl]
theorem bv_snoc (l : List Int) (c : Int) : bv (l ++ [c]) = 10 * bv l + (c - 48) := by
  rw [bv_append, bv_one, List.length_singleton]
  omega
theorem D10.dig {l : List Int} (h : D10 l) : Dg.Dig 10 (l.map (· - 48)) := by
  intro x hx
  obtain ⟨c, hc, rfl⟩ := List.mem_map.1 hx
  have := h c hc
  omega
theorem D10.rev {l : List Int} (h : D10 l) : D10 l.reverse := fun c hc => h c (List.mem_reverse.1 hc)
theorem D10.append {l m : List Int} (h : D10 l) (g : D10 m) : D10 (l ++ m) := by
  intro c hc
  rcases List.mem_append.1 hc with h1 | h1
  · exact h c h1
  · exact g c h1
theorem D10.one {c : Int} (h0 : 48 ≤ c) (h1 : c ≤ 57) : D10 [c] := by
  intro x hx
  rw [List.mem_singleton.1 hx]
  exact ⟨h0, h1⟩
theorem D10.nil : D10 [] := fun c hc => by simp at hc
theorem D10.take {l : List Int} (h : D10 l) (n : Nat) : D10 (l.take n) := fun x hx => h x (List.mem_of_mem_take hx)
theorem D10.drop {l : List Int} (h : D10 l) (n : Nat) : D10 (l.drop n) := fun x hx => h x (List.mem_of_mem_drop hx)
theorem D10.get {l : List Int} (h : D10 l) {n : Nat} (hn : n < l.length) : 48 ≤ l.getD n 0 ∧ l.getD n 0 ≤ 57 := by
  rw [List.getD_eq_getElem?_getD, List.getElem?_eq_getElem hn]
  exact h _ (List.getElem_mem hn)
theorem bv_nonneg {l : List Int} (h : D10 l) : 0 ≤ bv l := by
  have := Dg.vl_nonneg h.rev.dig (by decide)
  exact this
theorem bv_lt {l : List Int} (h : D10 l) : bv l < 10 ^ l.length := by
  have := Dg.vl_lt h.rev.dig (by decide)
  rw [List.length_map, List.length_reverse] at this
  exact this
def T (n : Nat) : List Int := if n = 0 then [48] else (Dg.dg 10 n).reverse.map (· + 48)
theorem nat_plus_l0 {m : Nat} (hl : L m + 1 ≤ 35184372088832) {p : Int} {n : Nat} (hn : (m : Int) * 1000000000 + p = n) : ∀ (d i : Nat) (out : List Int) (c : Int), i + d = L m + 1 → out.length = L m + 1 → Dg.Dig 4294967296 out → 0 ≤ c → c ≤ 1000000000 → (i = L m + 1 → c = 0) →
    Dg.vl 4294967296 (out.take i) + c * 4294967296 ^ i = Dg.vl 4294967296 ((D m).take i) * 1000000000 + p →
    Ev (fun k => nat_plus.l0 k (D m) c out ((L m + 1 : Nat) : Int) (i : Int)) (D n) := by
  intro d
  have hlen : (D m).length = L m := rfl
  induction d with
  | zero =>
    intro i out c hi ho hd h0 h1 h9 hv
    have hc := h9 (by omega)
    subst hc
    refine Ev.succ ?_
    simp (disch := omega) only [nat_plus.l0, if_neg]
    refine Ev.bind (nat_trim_f hd (by omega) (n := n) ?_) (Ev.ret _)
    rw [List.take_of_length_le (by omega), List.take_of_length_le (by omega), D_vl, hn, Int.zero_mul, Int.add_zero] at hv
    exact hv
  | succ d ih =>
    intro i out c hi ho hd h0 h1 h9 hv
    have g := D_get m i
    have hcz : i + 1 = L m + 1 → (D m).getD i 0 = 0 := fun h => getD_beyond (by omega)
    refine Ev.succ ?_
    simp (disch := omega) only [nat_plus.l0, if_pos, nat_limb_f, Option.bind_some, u64w, and32, w64succ, Int.toNat_natCast]
    refine ih (i + 1) _ _ (by omega) (by rw [List.length_set]; exact ho) (hd.set _ (by omega) (by omega)) (by omega) (by omega) (fun h => by have := hcz h; omega) ?_
    rw [set_take _ (by omega), vl_snoc, List.length_take, Nat.min_eq_left (by omega), Dg.vl_take_succ, Int.pow_succ]
    have h := Int.mul_ediv_add_emod (c + (D m).getD i 0 * 1000000000) 4294967296
    generalize (c + (D m).getD i 0 * 1000000000) / 4294967296 = q at *
    generalize (c + (D m).getD i 0 * 1000000000) % 4294967296 = r at *
    generalize (D m).getD i 0 = x at *
    grind
theorem nat_plus_f {m : Nat} (hl : L m + 1 ≤ 35184372088832) {p : Int} (h0 : 0 ≤ p) (h1 : p ≤ 1000000000) {n : Nat} (hn : (m : Int) * 1000000000 + p = n) : Ev (fun k => nat_plus.f k (D m) p) (D n) := by
  have hlen : (D m).length = L m := rfl
  unfold nat_plus.f
  rw [hlen, w64succ (by omega)]
  refine Ev.pos (by omega) (Ev.pos (by omega) (Ev.bind (Ev.ret _) ?_))
  rw [Int.toNat_natCast, List.length_replicate]
  refine nat_plus_l0 hl hn (L m + 1) 0 _ p (by omega) List.length_replicate (Dg.Dig.replicate (by decide) _) h0 h1 (by omega) ?_
  simp [Dg.vl]
end Go.Proofs.Ytfnhpojoaaegmaa.V
set_option linter.unusedVariables false
set_option linter.unusedSimpArgs false
namespace Go.Proofs.Ytfnhpojoaaegmaa.V
open Go.RowKit Go.Proofs.Ytfnhpojoaaegmaa.P Go.Proofs.YtfnhpojoaaegmaaW.PrintWords Go.Proofs.YtfnhpojoaaegmaaW.PrintMore
theorem take_snoc {l : List Int} {i : Nat} (h : i < l.length) : l.take (i + 1) = l.take i ++ [l.getD i 0] := by
  rw [List.take_add_one, List.getElem?_eq_getElem h, List.getD_eq_getElem?_getD, List.getElem?_eq_getElem h]
  rfl
theorem D10_get {l : List Int} : D10 l ↔ ∀ j, j < l.length → 48 ≤ l.getD j 0 ∧ l.getD j 0 ≤ 57 := by
  constructor
  · intro h j hj
    exact h.get hj
  · intro h c hc
    obtain ⟨j, hj, rfl⟩ := List.mem_iff_getElem.1 hc
    have := h j hj
    rwa [List.getD_eq_getElem?_getD, List.getElem?_eq_getElem hj] at this
theorem digs_iff {s : ByteArray} : ∀ (b pos : Nat), digsFrom s b pos = true ↔ ∀ j, pos ≤ j → j < pos + b → j < s.size → 48 ≤ (bl s).getD j 0 ∧ (bl s).getD j 0 ≤ 57 := by
  intro b
  induction b with
  | zero =>
    intro pos
    simp only [digsFrom, true_iff]
    intro j h1 h2
    omega
  | succ b ih =>
    intro pos
    simp only [digsFrom]
    by_cases h : pos < s.size
    · rw [if_pos h, bt_bl h, Bool.and_eq_true, Bool.and_eq_true, decide_eq_true_eq, decide_eq_true_eq, ih]
      constructor
      · intro ⟨⟨h1, h2⟩, h3⟩ j hj hj2 hj3
        rcases Nat.lt_or_ge pos j with hc | hc
        · exact h3 j (by omega) (by omega) hj3
        · have : j = pos := by omega
          subst this
          exact ⟨h1, h2⟩
      · intro h1
        exact ⟨h1 pos (Nat.le_refl _) (by omega) h, fun j hj hj2 hj3 => h1 j (by omega) (by omega) hj3⟩
    · rw [if_neg h]
      simp only [true_iff]
      intro j h1 h2 h3
      omega
theorem digs_D10 {s : ByteArray} : digsFrom s s.size 0 = true ↔ D10 (bl s) := by
  rw [digs_iff, D10_get, bl_len]
  constructor
  · intro h j hj
    exact h j (Nat.zero_le _) (by omega) hj
  · intro h j _ _ hj
    exact h j hj
theorem pow10_9 {i : Nat} (h : i ≤ 9) : (10 : Int) ^ i ≤ 1000000000 := Int.le_trans (Dg.pow_mono (by decide) h) (by decide)
theorem bv_take_succ {l : List Int} {i : Nat} (h : i < l.length) : bv (l.take (i + 1)) = 10 * bv (l.take i) + (l.getD i 0 - 48) := by rw [take_snoc h, bv_snoc]
theorem nat_Parse_l1 {s sub : ByteArray} (hs : D10 (bl s)) {m c : Nat} (hm : L m + 1 ≤ 35184372088832) (hc : c ≤ 9) (hcs : c ≤ s.size) (hsub : bl sub = (bl s).take c) {r : List Int × Int}
    (H : ∀ n' : Nat, (m : Int) * 1000000000 + bv ((bl s).take c) = n' → Ev (fun k => nat_Parse.l0 k (s.extract c s.size) (D n')) r) :
    ∀ (d i : Nat), i + d = c → Ev (fun k => nat_Parse.l1 k s (D m) (c : Int) (bv ((bl s).take i)) sub (c : Int) (i : Int)) r := by
  have hlen := bl_len s
  have hsz : sub.size = c := by rw [← bl_len, hsub, List.length_take]; omega
  intro d
  induction d with
  | zero =>
    intro i hi
    have hic : i = c := by omega
    subst hic
    have h0 := bv_nonneg (hs.take i)
    have h1 := bv_lt (hs.take i)
    have h2 := pow10_9 (i := ((bl s).take i).length) (by rw [List.length_take]; omega)
    obtain ⟨n', hn'⟩ := Int.eq_ofNat_of_zero_le (show 0 ≤ (m : Int) * 1000000000 + bv ((bl s).take i) by omega)
    refine Ev.succ ?_
    simp only [nat_Parse.l1]
    refine Ev.neg (by omega) (Ev.bind (nat_plus_f hm h0 (by omega) hn') (Ev.pos (by omega) (Ev.pos (by omega) ?_)))
    rw [Int.toNat_natCast]
    exact H n' hn'
  | succ d ih =>
    intro i hi
    have h0 := bv_nonneg (hs.take i)
    have h1 := bv_lt (hs.take i)
    have h2 := pow10_9 (i := ((bl s).take i).length) (by rw [List.length_take]; omega)
    have hb : bt sub (i : Int) = (bl s).getD i 0 := by rw [bt_bl (by omega), hsub, getD_take (by omega)]
    have hg := hs.get (n := i) (by omega)
    have hst := bv_take_succ (l := bl s) (i := i) (by omega)
    refine Ev.succ ?_
    simp only [nat_Parse.l1]
    rw [hb, w64succ (by omega), u64w (x := 10 * bv ((bl s).take i)) (by omega) (by omega), show ((bl s).getD i 0 - 48) % 256 = (bl s).getD i 0 - 48 by omega, u64w (by omega) (by omega), ← hst]
    exact Ev.pos (by omega) (Ev.pos (by omega) (Ev.pos (by omega) (ih (i + 1) (by omega))))
theorem nat_Parse_l0 {n : Nat} (hn : L n ≤ 1000000000) : ∀ (z : Nat) (s : ByteArray) (m : Nat), s.size = z → s.size ≤ 100000 → D10 (bl s) → (s.size % 9 ≠ 0 → m = 0) → (m : Int) * 10 ^ s.size + bv (bl s) = n → Ev (fun k => nat_Parse.l0 k s (D m)) (D n, 0) := by
  intro z
  induction z using Nat.strongRecOn with
  | _ z ih =>
    intro s m hz hsz hd h9 hv
    have hlen := bl_len s
    have hmn : m ≤ n := by
      have h1 : (0 : Int) < 10 ^ s.size := Int.pow_pos (by decide)
      have h2 := bv_nonneg hd
      have h3 : (m : Int) * 1 ≤ (m : Int) * 10 ^ s.size := Int.mul_le_mul_of_nonneg_left (by omega) (by omega)
      omega
    have hLm := L_mono hmn
    by_cases h0 : s.size = 0
    · have hbl : bl s = [] := List.eq_nil_of_length_eq_zero (by omega)
      rw [h0, hbl, bv_nil, Int.pow_zero] at hv
      have : m = n := by omega
      subst this
      refine Ev.succ ?_
      simp only [nat_Parse.l0]
      exact Ev.neg (by omega) (Ev.ret _)
    · have key : ∀ c : Nat, 1 ≤ c → c ≤ 9 → c ≤ s.size → (s.size - c) % 9 = 0 → (m = 0 ∨ c = 9) → Ev (fun k => nat_Parse.j1 k s (D m) (c : Int)) (D n, 0) := by
        intro c c1 c9 cs cm cz
        have hsub : bl (s.extract 0 c) = (bl s).take c := by rw [bl_extract, List.drop_zero]
        have hsz2 : (s.extract 0 c).size = c := by rw [← bl_len, hsub, List.length_take]; omega
        refine Ev.succ ?_
        simp only [nat_Parse.j1]
        refine Ev.pos (by omega) (Ev.pos (by omega) ?_)
        rw [Int.toNat_natCast, hsz2]
        refine nat_Parse_l1 hd (by omega) c9 cs hsub ?_ c 0 (by omega)
        intro n' hn'
        have hbl2 : bl (s.extract c s.size) = (bl s).drop c := by rw [bl_extract, ← hlen, List.take_length]
        have hsz3 : (s.extract c s.size).size = s.size - c := by rw [← bl_len, hbl2, List.length_drop, hlen]
        refine ih (s.size - c) (by omega) _ n' hsz3 (by omega) (by rw [hbl2]; exact hd.drop c) (fun h => absurd cm (by rw [hsz3] at h; exact h)) ?_
        rw [hbl2, hsz3, ← hv, ← hn']
        have hsplit : bv (bl s) = bv ((bl s).drop c) + 10 ^ (s.size - c) * bv ((bl s).take c) := by
          conv => lhs; rw [← List.take_append_drop c (bl s)]
          rw [bv_append, List.length_drop, hlen]
        rw [hsplit]
        rcases cz with h | h
        · subst h
          simp
          grind
        · subst h
          have hp : (10 : Int) ^ s.size = 1000000000 * 10 ^ (s.size - 9) := by
            have : s.size = 9 + (s.size - 9) := by omega
            conv => lhs; rw [this, Int.pow_add]
            rfl
          rw [hp]
          grind
      refine Ev.succ ?_
      simp only [nat_Parse.l0]
      refine Ev.pos (by omega) ?_
      by_cases h : (s.size : Int) % 9 = 0
      · exact Ev.pos h (key 9 (by omega) (by omega) (by omega) (by omega) (.inr rfl))
      · refine Ev.neg h ?_
        have e : (s.size : Int) % 9 = ((s.size % 9 : Nat) : Int) := by omega
        rw [e]
        exact key (s.size % 9) (by omega) (by omega) (by omega) (by omega) (.inl (h9 (by omega)))
def rd10 (s : ByteArray) : Nat × Int :=
  if s.size = 0 then (0, 4) else if digsFrom s s.size 0 = true then (if s.size > 10000 then (0, 5) else ((bv (bl s)).toNat, 0)) else (0, 4)
theorem rd10_lt {s : ByteArray} : ∃ k, k ≤ s.size ∧ k ≤ 10000 ∧ (rd10 s).1 < 10 ^ k := by
  have p0 : ∃ k, k ≤ s.size ∧ k ≤ 10000 ∧ 0 < 10 ^ k := ⟨0, Nat.zero_le _, Nat.zero_le _, Nat.one_pos⟩
  unfold rd10
  split
  · exact p0
  split
  · rename_i h
    split
    · exact p0
    · have hd := digs_D10.1 h
      have h1 := bv_lt hd
      have h2 := bv_nonneg hd
      obtain ⟨n, hn⟩ := Int.eq_ofNat_of_zero_le h2
      rw [hn, bl_len, show (10 : Int) ^ s.size = ((10 ^ s.size : Nat) : Int) by rw [Int.natCast_pow]; rfl] at h1
      rw [hn]
      exact ⟨s.size, Nat.le_refl _, by omega, Int.ofNat_lt.1 h1⟩
  · exact p0
theorem L_10 {n k : Nat} (h : n < 10 ^ k) : L n ≤ k := L_le (Nat.lt_of_lt_of_le h (Nat.pow_le_pow_left (by decide) _))
theorem nat_Parse_f (s : ByteArray) : Ev (fun k => nat_Parse.f k s) (D (rd10 s).1, (rd10 s).2) := by
  have hL : L (rd10 s).1 ≤ 10000 := by
    obtain ⟨k, _, hk, h⟩ := rd10_lt (s := s)
    exact Nat.le_trans (L_10 h) hk
  unfold nat_Parse.f
  unfold rd10 at hL ⊢
  by_cases h0 : s.size = 0
  · rw [if_pos h0, D_zero]
    exact Ev.pos (size_zero.2 h0) (Ev.ret _)
  · rw [if_neg h0] at hL ⊢
    refine Ev.neg (fun h => h0 (size_zero.1 h)) ?_
    by_cases h1 : digsFrom s s.size 0 = true
    · rw [if_pos h1] at hL ⊢
      refine Ev.pos h1 ?_
      by_cases h2 : s.size > 10000
      · rw [if_pos h2, D_zero]
        exact Ev.pos (by omega) (Ev.ret _)
      · rw [if_neg h2] at hL ⊢
        refine Ev.neg (by omega) ?_
        have hd := digs_D10.1 h1
        have h3 := bv_nonneg hd
        have hL2 : L (bv (bl s)).toNat ≤ 10000 := hL
        have := nat_Parse_l0 (n := (bv (bl s)).toNat) (by omega) s.size s 0 rfl (by omega) hd (fun _ => rfl) (by
          rw [show ((0 : Nat) : Int) = 0 from rfl, Int.zero_mul]
          omega)
        rw [D_zero] at this
        exact this
    · rw [if_neg h1, D_zero]
      exact Ev.neg h1 (Ev.ret _)
theorem ref_Parse_l2 {s : ByteArray} (hd : D10 (bl s)) (hsz : s.size ≤ 1000000) {c z : Nat} (hcz : c ≤ z) (hz4 : z ≤ c + 4) (hz : z ≤ s.size) {x : List Int} (hx : x.length ≤ 1000000) {r : List Int × Int}
    (H : Ev (fun k => dendronref01_Parse.l1 k s (x ++ [bv (((bl s).take z).drop c)]) ((z : Int) - 4)) r) :
    ∀ (d i : Nat), i + d = z → c ≤ i → Ev (fun k => dendronref01_Parse.l2 k s x (z : Int) (bv (((bl s).take i).drop c)) (i : Int)) r := by
  have hlen := bl_len s
  intro d
  induction d with
  | zero =>
    intro i hi hc
    have : i = z := by omega
    subst this
    refine Ev.succ ?_
    simp only [dendronref01_Parse.l2]
    rw [w64 (x := (i : Int) - 4) (by omega) (by omega)]
    exact Ev.neg (by omega) (Ev.pos (by omega) H)
  | succ d ih =>
    intro i hi hc
    have hb : bt s (i : Int) = (bl s).getD i 0 := bt_bl (by omega)
    have hg := hd.get (n := i) (by omega)
    have hdd := (hd.take i).drop c
    have h0 := bv_nonneg hdd
    have h1 := bv_lt hdd
    have h2 := pow10_9 (i := (((bl s).take i).drop c).length) (by rw [List.length_drop, List.length_take]; omega)
    have hst : bv (((bl s).take (i + 1)).drop c) = 10 * bv (((bl s).take i).drop c) + ((bl s).getD i 0 - 48) := by
      rw [take_snoc (by omega), List.drop_append_of_le_length (by rw [List.length_take]; omega), bv_snoc]
    refine Ev.succ ?_
    simp only [dendronref01_Parse.l2]
    rw [hb, w64succ (by omega), w64 (x := (bl s).getD i 0) (by omega) (by omega), w64 (x := 10 * _) (by omega) (by omega), w64 (x := 10 * _ + _) (by omega) (by omega), w64 (x := _ - 48) (by omega) (by omega)]
    have e : 10 * bv (((bl s).take i).drop c) + (bl s).getD i 0 - 48 = bv (((bl s).take (i + 1)).drop c) := by omega
    rw [e]
    exact Ev.pos (by omega) (Ev.pos (by omega) (Ev.pos (by omega) (ih (i + 1) (by omega) (by omega))))
theorem ref_Parse_l1 {s : ByteArray} (hd : D10 (bl s)) (hsz : s.size ≤ 10000) {n : Nat} : ∀ (z : Nat) (y : Int) (x : List Int), y.toNat = z → -4 ≤ y → y ≤ s.size → x.length + z ≤ 10000 → Dg.Dig 10000 x → Dg.vl 10000 x + 10000 ^ x.length * bv ((bl s).take z) = n →
    Ev (fun k => dendronref01_Parse.l1 k s x y) (E n, 0) := by
  have hlen := bl_len s
  intro z
  induction z using Nat.strongRecOn with
  | _ z ih =>
    intro y x hy hy4 hys hx hdx hv
    refine Ev.succ ?_
    simp only [dendronref01_Parse.l1]
    by_cases h : y > 0
    · have hyz : y = (z : Int) := by omega
      subst hyz
      refine Ev.pos h ?_
      have key : ∀ c : Nat, c = z - 4 → Ev (fun k => dendronref01_Parse.j2 k s x (z : Int) (c : Int)) (E n, 0) := by
        intro c hc
        refine Ev.succ ?_
        simp only [dendronref01_Parse.j2]
        have hdd := (hd.take z).drop c
        have h0 := bv_nonneg hdd
        have h1 := bv_lt hdd
        have h2 : (((bl s).take z).drop c).length = z - c := by rw [List.length_drop, List.length_take]; omega
        have h3 : (10 : Int) ^ (z - c) ≤ 10 ^ 4 := Dg.pow_mono (by decide) (by omega)
        rw [h2] at h1
        have hsplit : bv ((bl s).take z) = bv (((bl s).take z).drop c) + 10 ^ (z - c) * bv ((bl s).take c) := by
          conv => lhs; rw [← List.take_append_drop c ((bl s).take z)]
          rw [bv_append, h2, List.take_take, Nat.min_eq_left (by omega)]
        have hstart : bv (((bl s).take c).drop c) = 0 := by rw [List.drop_of_length_le (by rw [List.length_take]; omega), bv_nil]
        have := ref_Parse_l2 hd (by omega) (c := c) (z := z) (x := x) (r := (E n, 0)) (by omega) (by omega) (by omega) (by omega) ?_ (z - c) c (by omega) (Nat.le_refl _)
        · rw [hstart] at this
          exact this
        · refine ih c (by omega) _ _ (by omega) (by omega) (by omega) (by rw [List.length_append, List.length_singleton]; omega) (hdx.append (Dg.Dig.cons h0 (by omega) Dg.Dig.nil)) ?_
          rw [Dg.vl_append, List.length_append, List.length_singleton, ← hv, hsplit, Int.pow_succ, Dg.vl_cons, Dg.vl_nil]
          by_cases hc0 : c = 0
          · subst hc0
            rw [List.take_zero, bv_nil]
            simp
          · have : z - c = 4 := by omega
            rw [this]
            have h4 : (10 : Int) ^ 4 = 10000 := by decide
            rw [h4]
            grind
      by_cases h4 : (z : Int) - 4 < 0
      · rw [w64 (x := (z : Int) - 4) (by omega) (by omega)]
        exact Ev.pos h4 (key 0 (by omega))
      · rw [w64 (x := (z : Int) - 4) (by omega) (by omega), show (z : Int) - 4 = ((z - 4 : Nat) : Int) by omega]
        exact Ev.neg (by omega) (key (z - 4) rfl)
    · refine Ev.neg h (Ev.bind (ref_Trim_f hdx (by omega) (n := n) ?_) (Ev.ret _))
      have hz0 : z = 0 := by omega
      rw [hz0, List.take_zero, bv_nil, Int.mul_zero, Int.add_zero] at hv
      exact hv
theorem ref_Parse_l0 {s : ByteArray} (hd : D10 (bl s)) (hsz : s.size ≤ 9223372036854775806) {r : List Int × Int}
    (H : Ev (fun k => if (s.size : Int) > 10000 then some (([] : List Int), 5) else dendronref01_Parse.l1 k s ([] : List Int) (s.size : Int)) r) :
    ∀ (d i : Nat), i + d = s.size → Ev (fun k => dendronref01_Parse.l0 k s (i : Int)) r := by
  have hlen := bl_len s
  intro d
  induction d with
  | zero =>
    intro i hi
    refine Ev.succ ?_
    simp only [dendronref01_Parse.l0]
    exact Ev.neg (by omega) H
  | succ d ih =>
    intro i hi
    have hb : bt s (i : Int) = (bl s).getD i 0 := bt_bl (by omega)
    have hg := hd.get (n := i) (by omega)
    refine Ev.succ ?_
    simp only [dendronref01_Parse.l0]
    rw [hb, w64succ (by omega)]
    exact Ev.pos (by omega) (Ev.pos (by omega) (Ev.neg (by omega) (Ev.neg (by omega) (ih (i + 1) (by omega)))))
theorem ref_Parse_bad {s : ByteArray} (hsz : s.size ≤ 9223372036854775806) : ∀ (d i : Nat), i + d = s.size → (∃ j, i ≤ j ∧ j < s.size ∧ ¬ (48 ≤ (bl s).getD j 0 ∧ (bl s).getD j 0 ≤ 57)) → Ev (fun k => dendronref01_Parse.l0 k s (i : Int)) ([], 4) := by
  intro d
  induction d with
  | zero =>
    intro i hi ⟨j, h1, h2, _⟩
    omega
  | succ d ih =>
    intro i hi ⟨j, h1, h2, h3⟩
    have hb : bt s (i : Int) = (bl s).getD i 0 := bt_bl (by omega)
    refine Ev.succ ?_
    simp only [dendronref01_Parse.l0]
    rw [hb, w64succ (by omega)]
    refine Ev.pos (by omega) (Ev.pos (by omega) ?_)
    by_cases c1 : (bl s).getD i 0 < 48
    · exact Ev.pos c1 (Ev.ret _)
    · by_cases c2 : (bl s).getD i 0 > 57
      · exact Ev.neg c1 (Ev.pos c2 (Ev.ret _))
      · refine Ev.neg c1 (Ev.neg c2 (ih (i + 1) (by omega) ⟨j, ?_, h2, h3⟩))
        rcases Nat.lt_or_ge i j with h | h
        · exact h
        · have : j = i := by omega
          subst this
          omega
theorem ref_Parse_f (s : ByteArray) (hsz : s.size ≤ 9223372036854775806) : Ev (fun k => dendronref01_Parse.f k s) (E (rd10 s).1, (rd10 s).2) := by
  unfold dendronref01_Parse.f
  unfold rd10
  by_cases h0 : s.size = 0
  · rw [if_pos h0, E_zero]
    exact Ev.pos (size_zero.2 h0) (Ev.ret _)
  · rw [if_neg h0]
    refine Ev.neg (fun h => h0 (size_zero.1 h)) ?_
    by_cases h1 : digsFrom s s.size 0 = true
    · rw [if_pos h1]
      have hd := digs_D10.1 h1
      refine ref_Parse_l0 hd hsz ?_ s.size 0 (by omega)
      by_cases h2 : s.size > 10000
      · rw [if_pos h2, E_zero]
        exact Ev.pos (by omega) (Ev.ret _)
      · rw [if_neg h2]
        have h3 := bv_nonneg hd
        refine Ev.neg (by omega) (ref_Parse_l1 hd (by omega) s.size (s.size : Int) [] (by omega) (by omega) (by omega) (by rw [List.length_nil]; omega) Dg.Dig.nil ?_)
        rw [← bl_len, List.take_length, Dg.vl_nil, List.length_nil, Int.pow_zero, Int.one_mul, Int.zero_add]
        omega
    · rw [if_neg h1, E_zero]
      refine ref_Parse_bad hsz s.size 0 (by omega) ?_
      apply Classical.byContradiction
      intro hc
      apply h1
      rw [digs_D10, D10_get, bl_len]
      intro j hj
      apply Classical.byContradiction
      intro h3
      exact hc ⟨j, Nat.zero_le _, hj, h3⟩
end Go.Proofs.Ytfnhpojoaaegmaa.V
set_option linter.unusedVariables false
set_option linter.unusedSimpArgs false
namespace Go.Proofs.Ytfnhpojoaaegmaa.Pure
open Go.RowKit Go.Proofs.Ytfnhpojoaaegmaa.P Go.Proofs.Ytfnhpojoaaegmaa.V Go.Proofs.YtfnhpojoaaegmaaW.PrintWords
theorem NatReads_j0 (s : ByteArray) (hs : s.size ≤ 400) : Ev (fun k => dendronlaw01_NatReads.j0 k s) true := by
  have hL : V.L (rd10 s).1 ≤ s.size := by
    obtain ⟨k, hk, _, h⟩ := rd10_lt (s := s)
    exact Nat.le_trans (L_10 h) hk
  refine Ev.succ ?_
  simp only [dendronlaw01_NatReads.j0]
  refine Ev.bind (nat_Parse_f s) (Ev.bind (ref_Parse_f s (by omega)) (Ev.pos rfl (Ev.bind (ref_Is_true rfl (by omega)) (Ev.pos rfl ?_))))
  exact Ev.bind awake_f (Ev.ret _)
theorem NatReads : dendronlaw01_NatReads.Pure := by
  intro s _
  apply Ev.ex
  unfold dendronlaw01_NatReads.f
  by_cases h : (s.size : Int) > 400
  · refine Ev.pos h (Ev.pos (by decide) (Ev.pos (by omega) (NatReads_j0 _ ?_)))
    rw [← bl_len, bl_extract, List.length_drop, List.length_take, bl_len]
    omega
  · exact Ev.neg h (NatReads_j0 s (by omega))
end Go.Proofs.Ytfnhpojoaaegmaa.Pure
namespace Go.Proofs.Ytfnhpojoaaegmaa.natReads
open Go.ChangeShapes Go.WideShapes Go.ChangeAt Go.RowKit
open Go.ChangeMaps (open_string shut_string)
set_option linter.unusedVariables false
theorem own : ownKnob Try.prog.godebug = none := by kernel_rfl
set_option maxRecDepth 100000 in
theorem lifted (os : Os) (started : os.Started) (H : Type) (enc : TypeId × Value → H) :
    ReturnsInHanded {} Try.checked os 9 .any (Rows.natReadsSpec.pre6 enc Try.prog Try.f9 Rows.natReadsRow.domain false) (Rows.natReadsSpec.post enc Try.prog Try.f9 false true false false) := by
  refine returnsInHanded_of_change_sized (C := Try.checked) own started (by kernel_rfl) Try.func9
    (ChangeSpec.witness6 (enc := enc) (C := Try.checked) false ⟨#[], #[.string ByteArray.empty], []⟩ 8 (by kernel_rfl) (by kernel_rfl) (by kernel_rfl) (by kernel_rfl)) ?_
  intro W base args ds gs before hval0 hW hcnd hsz0 _
  have hsz : (DataW.weightsEach Try.prog (Try.f9.params.toList ++ Rows.natReadsSpec.plain.varTypes Try.prog) (ds ++ gs)).all (· ≤ reachBytes) = true := hsz0
  have hval : ∀ (j : Nat) t v, Try.f9.params[j]? = some t → args[j]? = some v → Value.okWide Try.prog W .any base t v := hval0
  have hW' := hW
  obtain ⟨p, q, hA0, hV, rfl, hfz, hnd⟩ := hW
  have hA : DataW.TrodAll enc Try.prog W 0 (fun _ => true) true Try.f9.params.toList args.toList ds p := hA0
  rw [Try.params9] at hA hval hsz
  obtain ⟨v0, vs0, d0, ds0, p0, q0, hargs, rfl, rfl, h0, r0⟩ := trodAll_cons hA
  obtain ⟨rfl, rfl, rfl⟩ := trodAll_nil r0
  obtain rfl : args = #[v0] := by cases args; simp_all
  obtain ⟨rfl, rfl⟩ := trodVars_none hV
  obtain ⟨a0, rfl, rfl, rfl, y0⟩ := open_string Try.underlying9 (hval 0 9 v0 rfl rfl) h0
  have w0 : a0.size ≤ 140737488351232 := by
    have z := sized_string hsz (j := 0) (t := 9) rfl rfl
    rw [Array.length_toList] at z
    exact z
  clear hA0 hval0 hsz0 hsz
  refine (P.dendronlaw01_NatReads.walk Pure.NatReads a0 W w0).mono fun e W' ⟨he, bel⟩ => ?_
  subst he
  exact ⟨_, rfl, _, _, _, [], _, [], hW', trodAll_mk1 (shut_bool Try.underlying4 _), (trodAll_cons_mk (shut_string Try.underlying9 y0) trodAll_mk0), rfl, bel.frame _, fun h => by cases h⟩
theorem over : Rows.natReadsRow.holds Try.pinned (OpenSpec.ofChange Rows.natReadsSpec) :=
  OpenClaim.holds_of_wide 9 Try.f9 rfl rfl rfl rfl rfl rfl rfl ⟨rfl, rfl, rfl, rfl, rfl⟩ rfl rfl rfl rfl rfl (by kernel_rfl) Try.func9 (by kernel_rfl)
    (of_decide_eq_true (by kernel_rfl)) (by unfold Func.isWrapper; first | (rw [if_pos (by decide +kernel)]; kernel_rfl) | (rw [if_neg (by decide +kernel)]; exact ⟨rfl, rfl⟩))
    (fun os started H enc _ => lifted os started H enc)
theorem proved : Rows.NatReadsSaid := over
#print axioms proved
end Go.Proofs.Ytfnhpojoaaegmaa.natReads
namespace Go.Proofs.Ytfnhpojoaaegmaa
theorem natReads_holds : Rows.NatReadsSaid := natReads.proved
end Go.Proofs.Ytfnhpojoaaegmaa
