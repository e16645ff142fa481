/- Part 6 of the texts of NatShifts: words, the machine's side of functions (written by a program), plain lemmas. -/
import Derived.Test.YtfnhpojoaaegmaaBNatShifts5
import Derived.SizedLaws
import Derived.ChangeSlices
set_option linter.unusedVariables false
set_option linter.unusedSimpArgs false
namespace Go.Proofs.Ytfnhpojoaaegmaa.V
open Go.RowKit Go.Proofs.Ytfnhpojoaaegmaa.P Go.Proofs.YtfnhpojoaaegmaaW.PrintWords
theorem top_take {l : List Int} {n : Nat} (hn : n < l.length) (h : l.getD n 0 ≠ 0) : Dg.Top (l.take (n + 1)) := by
  intro _
  have hl : (l.take (n + 1)).length = n + 1 := by rw [List.length_take]; omega
  rw [hl, Nat.add_sub_cancel]
  rw [List.getD_eq_getElem?_getD, List.getElem?_take_of_lt (by omega), ← List.getD_eq_getElem?_getD]
  exact h
theorem nat_trim_l0 {l : List Int} (hd : Dg.Dig 4294967296 l) (hl : l.length ≤ 35184372088832) : ∀ n : Nat, n ≤ l.length →
    Ev (fun k => nat_trim.l0 k l (n : Int)) (D (Dg.vl 4294967296 (l.take n)).toNat) := by
  intro n
  induction n with
  | zero =>
    intro _
    refine Ev.succ ?_
    simp (disch := omega) only [nat_trim.l0, if_pos, if_neg]
    simp only [List.take_zero, Dg.vl, Int.toNat_zero, D_zero]
    exact Ev.ret _
  | succ n ih =>
    intro hn
    have e : wrap64 (((n + 1 : Nat) : Int) - 1) = (n : Int) := by rw [w64 (by omega) (by omega)]; omega
    refine Ev.succ ?_
    simp (disch := omega) only [nat_trim.l0, e, if_pos, if_neg, rd_nat]
    by_cases h : l.getD n 0 = 0
    · simp only [h, if_true]
      refine Ev.eq (ih (by omega)) ?_
      rw [Dg.vl_take_succ, h]
      simp
    · simp only [h, if_false]
      refine Ev.eq (Ev.ret _) ?_
      rw [Int.toNat_natCast]
      have hdd := hd.take (n + 1)
      refine D_of hdd (top_take (by omega) h) ?_
      have := Dg.vl_nonneg hdd (by decide)
      omega
theorem nat_trim_f {l : List Int} (hd : Dg.Dig 4294967296 l) (hl : l.length ≤ 35184372088832) {n : Nat} (hv : Dg.vl 4294967296 l = n) : Ev (fun k => nat_trim.f k l) (D n) := by
  have := nat_trim_l0 hd hl l.length (Nat.le_refl _)
  rw [List.take_length, hv, Int.toNat_natCast] at this
  exact this
theorem ref_Trim_l0 {l : List Int} (hd : Dg.Dig 10000 l) (hl : l.length ≤ 35184372088832) : ∀ n : Nat, n ≤ l.length →
    Ev (fun k => dendronref01_Trim.l0 k l (n : Int)) (E (Dg.vl 10000 (l.take n)).toNat) := by
  intro n
  induction n with
  | zero =>
    intro _
    refine Ev.succ ?_
    simp (disch := omega) only [dendronref01_Trim.l0, if_pos, if_neg]
    refine Ev.eq (Ev.ret _) ?_
    simp only [List.take_zero, Dg.vl, Int.toNat_zero, E_zero, Int.ofNat_zero, Int.toNat_natCast]
  | succ n ih =>
    intro hn
    have e : wrap64 (((n + 1 : Nat) : Int) - 1) = (n : Int) := by rw [w64 (by omega) (by omega)]; omega
    refine Ev.succ ?_
    simp (disch := omega) only [dendronref01_Trim.l0, e, if_pos, if_neg, rd_nat]
    by_cases h : l.getD n 0 = 0
    · simp only [h, if_true]
      refine Ev.eq (ih (by omega)) ?_
      rw [Dg.vl_take_succ, h]
      simp
    · simp only [h, if_false]
      refine Ev.eq (Ev.ret _) ?_
      rw [Int.toNat_natCast]
      have hdd := hd.take (n + 1)
      refine E_of hdd (top_take (by omega) h) ?_
      have := Dg.vl_nonneg hdd (by decide)
      omega
theorem ref_Trim_f {l : List Int} (hd : Dg.Dig 10000 l) (hl : l.length ≤ 35184372088832) {n : Nat} (hv : Dg.vl 10000 l = n) : Ev (fun k => dendronref01_Trim.f k l) (E n) := by
  have := ref_Trim_l0 hd hl l.length (Nat.le_refl _)
  rw [List.take_length, hv, Int.toNat_natCast] at this
  exact this
theorem set_take {l : List Int} {n : Nat} (v : Int) (h : n < l.length) : (l.set n v).take (n + 1) = l.take n ++ [v] := by
  have h2 : n < (l.set n v).length := by rw [List.length_set]; exact h
  rw [List.take_succ_eq_append_getElem h2, List.getElem_set_self, List.take_set_of_le (Nat.le_refl _)]
theorem map_take_succ {l : List Int} {n : Nat} (f : Int → Int) (h : n < l.length) : (l.map f).take (n + 1) = (l.map f).take n ++ [f (l.getD n 0)] := by
  have h2 : n < (l.map f).length := by rw [List.length_map]; exact h
  rw [List.take_succ_eq_append_getElem h2, List.getElem_map, List.getD_eq_getElem?_getD, List.getElem?_eq_getElem h, Option.getD_some]
theorem U_get {l : List Int} (h : U l) (n : Nat) : 0 ≤ l.getD n 0 ∧ l.getD n 0 ≤ 18446744073709551615 := by
  rw [List.getD_eq_getElem?_getD]
  rcases Nat.lt_or_ge n l.length with hn | hn
  · rw [List.getElem?_eq_getElem hn]; exact h _ (List.getElem_mem hn)
  · rw [List.getElem?_eq_none hn]; simp
theorem nat_Clean_l0 {l : List Int} (hu : U l) (hl : l.length ≤ 35184372088832) : ∀ (d i : Nat) (out : List Int), i + d = l.length → out.length = l.length → out.take i = (l.map (· % 4294967296)).take i →
    Ev (fun k => nat_Clean.l0 k out l (l.length : Int) (i : Int)) (D (W l)) := by
  intro d
  induction d with
  | zero =>
    intro i out hi ho ht
    have e : out = l.map (· % 4294967296) := by
      rw [List.take_of_length_le (by omega), List.take_of_length_le (by rw [List.length_map]; omega)] at ht
      exact ht
    refine Ev.succ ?_
    simp (disch := omega) only [nat_Clean.l0, if_pos, if_neg]
    rw [e]
    refine Ev.bind (nat_trim_f (map_dig l) (by rw [List.length_map]; exact hl) (W_map l).symm) ?_
    exact Ev.ret _
  | succ d ih =>
    intro i out hi ho ht
    have hg := U_get hu i
    have e : wrap64 ((i : Int) + 1) = ((i + 1 : Nat) : Int) := by rw [w64 (by omega) (by omega)]; omega
    refine Ev.succ ?_
    simp (disch := omega) only [nat_Clean.l0, if_pos, if_neg, rd_nat, e, and32, Int.toNat_natCast]
    refine ih (i + 1) _ (by omega) (by rw [List.length_set]; exact ho) ?_
    rw [set_take _ (by omega), map_take_succ _ (by omega), ht]
theorem nat_Clean_f {l : List Int} (hu : U l) (hl : l.length ≤ 35184372088832) : Ev (fun k => nat_Clean.f k l) (D (W l)) := by
  unfold nat_Clean.f
  simp (disch := omega) only [if_pos, Int.toNat_natCast]
  exact nat_Clean_l0 hu hl l.length 0 _ (by omega) (by rw [List.length_replicate]) (by simp)
theorem nat_limb_f (l : List Int) (i : Nat) : nat_limb.f l (i : Int) = some (l.getD i 0) := by
  unfold nat_limb.f
  by_cases h : (i : Int) < (l.length : Int)
  · rw [if_pos h, if_pos (by omega), rd_nat]
  · rw [if_neg h, List.getD_eq_getElem?_getD, List.getElem?_eq_none (by omega)]
    rfl
def Rt (l : List Int) : Prop := Dg.Dig 4294967296 l ∧ Dg.Top l
theorem Rt_D (n : Nat) : Rt (D n) := ⟨D_dig n, D_top n⟩
theorem ref_Right_l0 {l : List Int} (hu : U l) (hl : l.length ≤ 35184372088832) : ∀ (d i : Nat), i + d = l.length → (∀ j, j < i → l.getD j 0 < 4294967296) →
    ∃ b, Ev (fun k => dendronref01_Right.l0 k l (i : Int)) b ∧ (b = true ↔ Rt l) := by
  intro d
  induction d with
  | zero =>
    intro i hi hj
    have hd : Dg.Dig 4294967296 l := by
      intro x hx
      obtain ⟨n, hn, e⟩ := List.mem_iff_getElem.1 hx
      have h1 := hj n (by omega)
      have h2 := U_get hu n
      rw [List.getD_eq_getElem?_getD, List.getElem?_eq_getElem hn, Option.getD_some, e] at h1 h2
      exact ⟨h2.1, h1⟩
    by_cases h0 : l.length = 0
    · refine ⟨true, Ev.succ ?_, ?_⟩
      · simp (disch := omega) only [dendronref01_Right.l0, if_neg, if_pos]
        exact Ev.ret _
      · simp only [true_iff]
        have : l = [] := List.length_eq_zero_iff.1 h0
        subst this
        exact ⟨hd, Dg.Top.nil⟩
    · refine ⟨l.getD (l.length - 1) 0 != 0, Ev.succ ?_, ?_⟩
      · have e : wrap64 ((l.length : Int) - 1) = ((l.length - 1 : Nat) : Int) := by rw [w64 (by omega) (by omega)]; omega
        simp (disch := omega) only [dendronref01_Right.l0, if_neg, if_pos, e, rd_nat]
        exact Ev.ret _
      · rw [bne_iff_ne]
        constructor
        · intro h
          exact ⟨hd, fun _ => h⟩
        · intro h
          exact h.2 (fun e => h0 (by rw [e]; rfl))
  | succ d ih =>
    intro i hi hj
    have e : wrap64 ((i : Int) + 1) = ((i + 1 : Nat) : Int) := by rw [w64 (by omega) (by omega)]; omega
    by_cases h : l.getD i 0 > 4294967295
    · refine ⟨false, Ev.succ ?_, ?_⟩
      · simp (disch := omega) only [dendronref01_Right.l0, if_pos, rd_nat]
        exact Ev.ret _
      · simp only [Bool.false_eq_true, false_iff]
        intro hr
        have := hr.1.getD (by decide) i
        omega
    · obtain ⟨b, hb, hr⟩ := ih (i + 1) (by omega) (fun j hj2 => by
        rcases Nat.lt_or_ge j i with h3 | h3
        · exact hj j h3
        · have : j = i := by omega
          subst this
          omega)
      refine ⟨b, Ev.succ ?_, hr⟩
      simp (disch := omega) only [dendronref01_Right.l0, if_pos, rd_nat, e, h, if_false]
      exact hb
theorem ref_Right_f {l : List Int} (hu : U l) (hl : l.length ≤ 35184372088832) : ∃ b, Ev (fun k => dendronref01_Right.f k l) b ∧ (b = true ↔ Rt l) :=
  ref_Right_l0 hu hl l.length 0 (by omega) (fun j h => absurd h (by omega))
theorem ref_Right_D {n : Nat} (hl : L n ≤ 35184372088832) : Ev (fun k => dendronref01_Right.f k (D n)) true := by
  obtain ⟨b, hb, h⟩ := ref_Right_f (D_U n) hl
  rwa [h.2 (Rt_D n)] at hb
end Go.Proofs.Ytfnhpojoaaegmaa.V
set_option linter.unusedVariables false
set_option linter.unusedSimpArgs false
namespace Go.Proofs.Ytfnhpojoaaegmaa.V
open Go.RowKit Go.Proofs.Ytfnhpojoaaegmaa.P Go.Proofs.YtfnhpojoaaegmaaW.PrintWords
theorem mul_bound {x y M : Int} (hx0 : 0 ≤ x) (hx : x ≤ M) (hy0 : 0 ≤ y) (hy : y ≤ M) : 0 ≤ x * y ∧ x * y ≤ M * M :=
  ⟨Int.mul_nonneg hx0 hy0, Int.le_trans (Int.mul_le_mul_of_nonneg_right hx hy0) (Int.mul_le_mul_of_nonneg_left hy (by omega))⟩
theorem tdiv_pos {x y : Int} (h : 0 ≤ x) : Int.tdiv x y = x / y := Int.tdiv_eq_ediv_of_nonneg h
theorem tmod_pos {x y : Int} (h : 0 ≤ x) : Int.tmod x y = x % y := Int.tmod_eq_emod_of_nonneg h
theorem mul_step {B : Int} {out : List Int} {p : Nat} {c x S t : Int} (hlt : p < out.length) (hv : Dg.vl B out + c * B ^ p = S) (ht : t = c + out.getD p 0 + x) :
    Dg.vl B (out.set p (t % B)) + (t / B) * B ^ (p + 1) = S + x * B ^ p := by
  rw [Dg.vl_set _ _ _ _ hlt, Int.pow_succ]
  have h := Int.mul_ediv_add_emod t B
  have e : (t % B - out.getD p 0) * B ^ p + t / B * (B ^ p * B) = (t - out.getD p 0) * B ^ p := by
    have : t % B = t - B * (t / B) := by omega
    rw [this]
    grind
  rw [Int.add_assoc, e, ht, ← hv]
  grind
theorem zero_set {out : List Int} {p q : Nat} (v : Int) (h : p < q) (hz : ∀ j, q ≤ j → out.getD j 0 = 0) : ∀ j, q ≤ j → (out.set p v).getD j 0 = 0 := by
  intro j hj
  rw [List.getD_eq_getElem?_getD, List.getElem?_set_ne (by omega), ← List.getD_eq_getElem?_getD]
  exact hz j hj
theorem ref_Times_l0 {a b : List Int} (ha : Dg.Dig 10000 a) (hb : Dg.Dig 10000 b) (hl : a.length + b.length ≤ 35184372088832) {n : Nat} (hn : Dg.vl 10000 a * Dg.vl 10000 b = n) :
    ∀ (d i : Nat) (out : List Int), i + d = a.length → out.length = a.length + b.length → Dg.Dig 10000 out → Dg.vl 10000 out = Dg.vl 10000 (a.take i) * Dg.vl 10000 b → (∀ j, i + b.length ≤ j → out.getD j 0 = 0) →
    Ev (fun k => dendronref01_Times.l0 k a b out (i : Int)) (E n) := by
  intro d
  induction d with
  | zero =>
    intro i out hi ho hd hv hz
    refine Ev.succ ?_
    simp (disch := omega) only [dendronref01_Times.l0, if_neg]
    refine Ev.bind (ref_Trim_f hd (by omega) (n := n) ?_) (Ev.ret _)
    rw [hv, List.take_of_length_le (by omega), hn]
  | succ d ih =>
    intro i out hi ho hd hv hz
    refine Ev.succ ?_
    simp (disch := omega) only [dendronref01_Times.l0, if_pos]
    have gi := ha.getD (by decide) i
    have inner : ∀ (e m : Nat) (o : List Int) (c : Int), m + e = b.length → o.length = a.length + b.length → Dg.Dig 10000 o → 0 ≤ c → c ≤ 9999 → (∀ j, i + b.length ≤ j → o.getD j 0 = 0) →
        Dg.vl 10000 o + c * 10000 ^ (i + m) = Dg.vl 10000 out + a.getD i 0 * Dg.vl 10000 (b.take m) * 10000 ^ i → Ev (fun k => dendronref01_Times.l1 k a b o (i : Int) c (m : Int)) (E n) := by
      intro e
      induction e with
      | zero =>
        intro m o c hm ho2 hd2 hc0 hc1 hz2 hv2
        refine Ev.succ ?_
        simp (disch := omega) only [dendronref01_Times.l1, if_neg, if_pos, w64add, w64succ, Int.toNat_natCast]
        refine ih (i + 1) _ (by omega) (by rw [List.length_set]; exact ho2) (hd2.set _ hc0 (by omega)) ?_ ?_
        · have hmb : m = b.length := by omega
          subst hmb
          rw [Dg.vl_set _ _ _ _ (by omega), hz2 _ (Nat.le_refl _), Int.sub_zero, hv2, List.take_length, hv, Dg.vl_take_succ]
          grind
        · intro j hj
          exact zero_set c (q := i + b.length + 1) (by omega) (fun j hj => hz2 j (by omega)) j (by omega)
      | succ e ih2 =>
        intro m o c hm ho2 hd2 hc0 hc1 hz2 hv2
        have gm := hb.getD (by decide) m
        have go := hd2.getD (by decide) (i + m)
        have hx := mul_bound gi.1 (show a.getD i 0 ≤ 9999 by omega) gm.1 (show b.getD m 0 ≤ 9999 by omega)
        refine Ev.succ ?_
        simp (disch := omega) only [dendronref01_Times.l1, if_pos, rd_add, tn_add, rd_nat, w64, tdiv_pos, tmod_pos, Int.toNat_natCast]
        refine ih2 (m + 1) _ _ (by omega) (by rw [List.length_set]; exact ho2) (hd2.set _ (by omega) (by omega)) (by omega) (by omega) ?_ ?_
        · exact zero_set _ (by omega) hz2
        · have := mul_step (B := 10000) (x := a.getD i 0 * b.getD m 0) (show i + m < o.length by omega) hv2 (t := c + o.getD (i + m) 0 + a.getD i 0 * b.getD m 0) rfl
          rw [show i + (m + 1) = i + m + 1 by omega, this, Dg.vl_take_succ, Int.pow_add]
          grind
    refine inner b.length 0 out 0 (by omega) ho hd (by omega) (by omega) hz ?_
    simp [Dg.vl]
theorem ref_Times_f {x y : Nat} (hl : LE x + LE y ≤ 35184372088832) : Ev (fun k => dendronref01_Times.f k (E x) (E y)) (E (x * y)) := by
  have hl' : (E x).length + (E y).length ≤ 35184372088832 := hl
  unfold dendronref01_Times.f
  simp (disch := omega) only [w64add, if_pos, Int.toNat_natCast]
  refine ref_Times_l0 (E_dig x) (E_dig y) hl' (n := x * y) ?_ (E x).length 0 _ (by omega) (by rw [List.length_replicate]) (Dg.Dig.replicate (by decide) _) ?_ ?_
  · rw [E_vl, E_vl]; exact (Int.natCast_mul x y).symm
  · rw [Dg.vl_replicate_zero]; simp [Dg.vl]
  · intro j hj
    rw [List.getD_eq_getElem?_getD]
    by_cases h : j < (E x).length + (E y).length
    · simp [List.getElem?_replicate, h]
    · simp [List.getElem?_replicate, h]
theorem ref_digit_f (l : List Int) (i : Nat) : dendronref01_digit.f l (i : Int) = some (l.getD i 0) := by
  unfold dendronref01_digit.f
  by_cases h : (i : Int) < (l.length : Int)
  · rw [if_pos h, if_pos (by omega), rd_nat]
  · rw [if_neg h, List.getD_eq_getElem?_getD, List.getElem?_eq_none (by omega)]
    rfl
theorem getD_beyond {l : List Int} {i : Nat} (h : l.length ≤ i) : l.getD i 0 = 0 := by rw [List.getD_eq_getElem?_getD, List.getElem?_eq_none h]; rfl
theorem getD_snoc {l : List Int} {i : Nat} (x : Int) (h : l.length = i) : (l ++ [x]).getD i 0 = x := by
  subst h
  rw [List.getD_eq_getElem?_getD, List.getElem?_append_right (Nat.le_refl _), Nat.sub_self]
  rfl
theorem vl_snoc (B : Int) (l : List Int) (x : Int) : Dg.vl B (l ++ [x]) = Dg.vl B l + x * B ^ l.length := by
  rw [Dg.vl_append]
  simp [Dg.vl]
  exact Int.mul_comm _ _
theorem ref_Plus_l0 {a b : List Int} (ha : Dg.Dig 10000 a) (hb : Dg.Dig 10000 b) (ta : Dg.Top a) (tb : Dg.Top b) (hla : a.length ≤ 4398046511104) (hlb : b.length ≤ 4398046511104) {n : Nat} (hn : Dg.vl 10000 a + Dg.vl 10000 b = n) :
    ∀ (d i : Nat) (out : List Int) (c : Int), max a.length b.length + 1 ≤ i + d → i ≤ max a.length b.length + 1 → (i = max a.length b.length + 1 → c = 0) → out.length = i → Dg.Dig 10000 out → 0 ≤ c → c ≤ 1 → Dg.vl 10000 out + c * 10000 ^ i = Dg.vl 10000 (a.take i) + Dg.vl 10000 (b.take i) →
    (i = 0 ∨ i < max a.length b.length ∨ c ≠ 0 ∨ out.getD (i - 1) 0 ≠ 0) → Ev (fun k => dendronref01_Plus.l0 k a b out c (i : Int)) (E n) := by
  intro d
  induction d with
  | zero =>
    intro i out c hid hi2 hc9 ho hd hc0 hc1 hv ht
    have hi : i = max a.length b.length + 1 := by omega
    have hc := hc9 hi
    subst hc
    refine Ev.succ ?_
    simp (disch := omega) only [dendronref01_Plus.l0, if_neg]
    refine Ev.succ ?_
    simp (disch := omega) only [dendronref01_Plus.j1]
    refine Ev.eq (Ev.ret _) (E_of hd ?_ ?_)
    · intro _
      rw [ho]
      rcases ht with h | h | h | h
      · omega
      · omega
      · exact absurd rfl h
      · exact h
    · rw [List.take_of_length_le (by omega), List.take_of_length_le (by omega), hn] at hv
      simpa using hv
  | succ d ih =>
    intro i out c hid hi2 hc9 ho hd hc0 hc1 hv ht
    by_cases hgo : i < a.length ∨ i < b.length ∨ 0 < c
    · have ga := ha.getD (by decide) i
      have gb := hb.getD (by decide) i
      have hig : i ≤ max a.length b.length := by
        rcases Nat.lt_or_ge (max a.length b.length) i with h | h
        · have := hc9 (by omega); omega
        · exact h
      have step : Ev (fun k => dendronref01_Plus.j1 k a b out c (i : Int) true) (E n) := by
        refine Ev.succ ?_
        simp (disch := omega) only [dendronref01_Plus.j1, ref_digit_f, Option.bind_some, if_true, w64, tdiv_pos, tmod_pos, w64succ, if_pos]
        refine ih (i + 1) _ _ (by omega) (by omega) ?_ (by simp [ho]) (hd.append (Dg.Dig.cons (by omega) (by omega) Dg.Dig.nil)) (by omega) (by omega) ?_ ?_
        · intro h9
          have h1 := getD_beyond (l := a) (i := i) (by omega)
          have h2 := getD_beyond (l := b) (i := i) (by omega)
          rw [h1, h2]
          omega
        · rw [vl_snoc, ho, Dg.vl_take_succ, Dg.vl_take_succ, Int.pow_succ]
          have h := Int.mul_ediv_add_emod (c + a.getD i 0 + b.getD i 0) 10000
          grind
        · by_cases h9 : i + 1 < max a.length b.length
          · exact .inr (.inl h9)
          · refine .inr (.inr ?_)
            rw [Nat.add_sub_cancel, getD_snoc _ ho]
            have hs : 0 < c + a.getD i 0 + b.getD i 0 := by
              rcases Nat.lt_or_ge i (max a.length b.length) with h | h
              · by_cases hab : a.length = max a.length b.length
                · have := ta (fun e => by have h0 : a.length = 0 := (by rw [e]; rfl); omega)
                  rw [show a.length - 1 = i by omega] at this
                  omega
                · have := tb (fun e => by have h0 : b.length = 0 := (by rw [e]; rfl); omega)
                  rw [show b.length - 1 = i by omega] at this
                  omega
              · omega
            by_cases hq : (c + a.getD i 0 + b.getD i 0) / 10000 = 0
            · right; omega
            · left; exact hq
      refine Ev.succ ?_
      simp only [dendronref01_Plus.l0]
      by_cases h1 : (i : Int) < (a.length : Int)
      · exact Ev.pos h1 step
      · refine Ev.neg h1 ?_
        by_cases h2 : (i : Int) < (b.length : Int)
        · exact Ev.pos h2 step
        · refine Ev.neg h2 ?_
          have : decide (c > 0) = true := decide_eq_true (by omega)
          rw [this]
          exact step
    · have hc : c = 0 := by omega
      subst hc
      refine Ev.succ ?_
      simp (disch := omega) only [dendronref01_Plus.l0, if_neg]
      refine Ev.succ ?_
      simp (disch := omega) only [dendronref01_Plus.j1]
      refine Ev.eq (Ev.ret _) (E_of hd ?_ ?_)
      · intro hne
        rw [ho]
        rcases ht with h | h | h | h
        · subst h
          exact absurd (List.length_eq_zero_iff.1 ho) hne
        · omega
        · exact absurd rfl h
        · exact h
      · rw [List.take_of_length_le (by omega), List.take_of_length_le (by omega), hn] at hv
        simpa using hv
theorem ref_Plus_f {x y : Nat} (hx : LE x ≤ 4398046511104) (hy : LE y ≤ 4398046511104) : Ev (fun k => dendronref01_Plus.f k (E x) (E y)) (E (x + y)) := by
  unfold dendronref01_Plus.f
  refine ref_Plus_l0 (E_dig x) (E_dig y) (E_top x) (E_top y) hx hy (n := x + y) (by rw [E_vl, E_vl]; omega) (max (E x).length (E y).length + 1) 0 [] 0 (by omega) (by omega) (by omega) rfl Dg.Dig.nil (by omega) (by omega) (by simp [Dg.vl]) (.inl rfl)
theorem ref_Minus_l0 {a b : List Int} (ha : Dg.Dig 10000 a) (hb : Dg.Dig 10000 b) (hla : a.length ≤ 4398046511104) (hlb : b.length ≤ a.length) {n : Nat} (hn : Dg.vl 10000 a - Dg.vl 10000 b = n) :
    ∀ (d i : Nat) (out : List Int) (c : Int), i + d = a.length → out.length = i → Dg.Dig 10000 out → 0 ≤ c → c ≤ 1 → Dg.vl 10000 out - c * 10000 ^ i = Dg.vl 10000 (a.take i) - Dg.vl 10000 (b.take i) → Ev (fun k => dendronref01_Minus.l0 k a b out c (i : Int)) (E n) := by
  intro d
  induction d with
  | zero =>
    intro i out c hi ho hd hc0 hc1 hv
    refine Ev.succ ?_
    simp (disch := omega) only [dendronref01_Minus.l0, if_neg]
    refine Ev.bind (ref_Trim_f hd (by omega) (n := n) ?_) (Ev.ret _)
    rw [List.take_of_length_le (by omega), List.take_of_length_le (by omega), hn] at hv
    have h1 := Dg.vl_lt hd (by decide)
    rw [ho] at h1
    rcases (show c = 0 ∨ c = 1 by omega) with h | h
    · subst h
      simpa using hv
    · subst h
      omega
  | succ d ih =>
    intro i out c hi ho hd hc0 hc1 hv
    have ga := ha.getD (by decide) i
    have gb := hb.getD (by decide) i
    refine Ev.succ ?_
    simp (disch := omega) only [dendronref01_Minus.l0, if_pos, ref_digit_f, Option.bind_some, w64, w64succ, rd_nat]
    by_cases h : a.getD i 0 - b.getD i 0 - c < 0
    · refine Ev.pos h ?_
      refine ih (i + 1) _ _ (by omega) (by simp [ho]) (hd.append (Dg.Dig.cons (by omega) (by omega) Dg.Dig.nil)) (by omega) (by omega) ?_
      rw [vl_snoc, ho, Dg.vl_take_succ, Dg.vl_take_succ, Int.pow_succ]
      grind
    · refine Ev.neg h ?_
      refine ih (i + 1) _ _ (by omega) (by simp [ho]) (hd.append (Dg.Dig.cons (by omega) (by omega) Dg.Dig.nil)) (by omega) (by omega) ?_
      rw [vl_snoc, ho, Dg.vl_take_succ, Dg.vl_take_succ, Int.pow_succ]
      grind
theorem ref_Minus_f {x y : Nat} (h : y ≤ x) (hx : LE x ≤ 4398046511104) : Ev (fun k => dendronref01_Minus.f k (E x) (E y)) (E (x - y)) := by
  unfold dendronref01_Minus.f
  refine ref_Minus_l0 (E_dig x) (E_dig y) hx (LE_mono h) (n := x - y) (by rw [E_vl, E_vl]; omega) (E x).length 0 [] 0 (by omega) rfl Dg.Dig.nil (by omega) (by omega) (by simp [Dg.vl])
theorem ref_Small_l0 (out : List Int) : ∀ (n : Nat), out.length + LE n ≤ 4398046511104 → n ≤ 9223372036854775807 → Ev (fun k => dendronref01_Small.l0 k (n : Int) out) (out ++ E n) := by
  intro n
  induction n using Nat.strongRecOn generalizing out with
  | _ n ih =>
    intro hl hn
    refine Ev.succ ?_
    by_cases h0 : n = 0
    · subst h0
      simp (disch := omega) only [dendronref01_Small.l0, if_neg]
      rw [E_zero, List.append_nil]
      exact Ev.ret _
    · have hE : E n = ((n % 10000 : Nat) : Int) :: E (n / 10000) := Dg.dg_succ (by decide) h0
      have hLE : LE n = LE (n / 10000) + 1 := by unfold LE; rw [hE]; rfl
      simp (disch := omega) only [dendronref01_Small.l0, if_pos, tdiv_pos, tmod_pos, w64]
      have := ih (n / 10000) (Nat.div_lt_self (by omega) (by omega)) (out ++ [((n % 10000 : Nat) : Int)]) (by rw [List.length_append, List.length_singleton]; omega) (by omega)
      rw [hE]
      have e1 : ((n / 10000 : Nat) : Int) = (n : Int) / 10000 := by omega
      have e2 : ((n % 10000 : Nat) : Int) = (n : Int) % 10000 := by omega
      rw [e1, e2] at this
      rw [e2]
      rw [List.append_assoc] at this
      exact this
theorem LE_u64 {n : Nat} (h : n ≤ 18446744073709551615) : LE n ≤ 5 := LE_le (by omega)
theorem ref_Small_f {x : Int} {n : Nat} (h : x = n) (hn : n ≤ 9223372036854775807) : Ev (fun k => dendronref01_Small.f k x) (E n) := by
  subst h
  unfold dendronref01_Small.f
  have := LE_u64 (n := n) (by omega)
  exact ref_Small_l0 [] n (by simp; omega) hn
theorem ref_Order_l0 {a b : List Int} (ha : Dg.Dig 10000 a) (hb : Dg.Dig 10000 b) (hl : a.length = b.length) (hs : a.length ≤ 35184372088832) : ∀ n : Nat, n ≤ a.length →
    Ev (fun k => dendronref01_Order.l0 k a b ((n : Int) - 1)) (cmp (Dg.vl 10000 (a.take n)) (Dg.vl 10000 (b.take n))) := by
  intro n
  induction n with
  | zero =>
    intro _
    refine Ev.succ ?_
    simp (disch := omega) only [dendronref01_Order.l0, if_neg]
    exact Ev.ret _
  | succ n ih =>
    intro hn
    have e0 : ((n + 1 : Nat) : Int) - 1 = (n : Int) := by omega
    have a0 := Dg.vl_nonneg (ha.take n) (by decide)
    have b0 := Dg.vl_nonneg (hb.take n) (by decide)
    have a1 := Dg.vl_lt (ha.take n) (by decide)
    have b1 := Dg.vl_lt (hb.take n) (by decide)
    have hla : (a.take n).length = n := by rw [List.length_take]; omega
    have hlb : (b.take n).length = n := by rw [List.length_take]; omega
    rw [hla] at a1
    rw [hlb] at b1
    rw [e0]
    refine Ev.succ ?_
    simp (disch := omega) only [dendronref01_Order.l0, if_pos, rd_nat, w64pred]
    rw [Dg.vl_take_succ, Dg.vl_take_succ]
    by_cases h1 : a.getD n 0 < b.getD n 0
    · refine Ev.pos h1 (Ev.eq (Ev.ret _) (cmp_lt (cmp_top (B := 0) a0 a1 b0 b1 h1)).symm)
    · refine Ev.neg h1 ?_
      by_cases h2 : b.getD n 0 < a.getD n 0
      · exact Ev.pos h2 (Ev.eq (Ev.ret _) (cmp_gt (cmp_top (B := 0) b0 b1 a0 a1 h2)).symm)
      · refine Ev.neg h2 (Ev.eq (ih (by omega)) ?_)
        have : a.getD n 0 = b.getD n 0 := by omega
        rw [this]
        unfold cmp
        split <;> split <;> (try split) <;> (try split) <;> first | rfl | omega
theorem ref_Order_f {m n : Nat} (hm : LE m ≤ 35184372088832) (hn : LE n ≤ 35184372088832) : Ev (fun k => dendronref01_Order.f k (E m) (E n)) (cmp m n) := by
  unfold dendronref01_Order.f
  have hm' : (E m).length ≤ 35184372088832 := hm
  have hn' : (E n).length ≤ 35184372088832 := hn
  by_cases h0 : ((E m).length : Int) = ((E n).length : Int)
  · refine Ev.pos h0 ?_
    simp (disch := omega) only [w64pred]
    refine Ev.eq (ref_Order_l0 (E_dig m) (E_dig n) (by omega) hm' _ (Nat.le_refl _)) ?_
    rw [List.take_length, show (E m).length = (E n).length by omega, List.take_length, E_vl, E_vl]
  · refine Ev.neg h0 ?_
    by_cases h1 : ((E m).length : Int) < ((E n).length : Int)
    · exact Ev.pos h1 (Ev.eq (Ev.ret _) (cmp_lt (by have := len_lt_imp 10000 (by decide) (show (E m).length < (E n).length by omega); omega)).symm)
    · exact Ev.neg h1 (Ev.eq (Ev.ret _) (cmp_gt (by have := len_lt_imp 10000 (by decide) (show (E n).length < (E m).length by omega); omega)).symm)
theorem LE_L (n : Nat) : LE n ≤ 3 * L n := by
  apply LE_le
  refine Nat.lt_of_lt_of_le (L_lt n) ?_
  rw [Nat.pow_mul]
  exact Nat.pow_le_pow_left (by decide) _
theorem L_LE (n : Nat) : L n ≤ LE n := by
  apply L_le
  exact Nat.lt_of_lt_of_le (LE_lt n) (Nat.pow_le_pow_left (by decide) _)
theorem W_drop_succ (l : List Int) (n : Nat) (h : n < l.length) : W (l.drop n) = (l.getD n 0 % 4294967296).toNat + 4294967296 * W (l.drop (n + 1)) := by
  have h1 := W_map (l.drop n)
  have h2 := W_map (l.drop (n + 1))
  rw [List.map_drop, Dg.vl_drop_succ, ← List.map_drop] at h1
  rw [← h2] at h1
  have h3 : (l.map (· % 4294967296)).getD n 0 = l.getD n 0 % 4294967296 := by
    rw [List.getD_eq_getElem?_getD, List.getD_eq_getElem?_getD, List.getElem?_map, List.getElem?_eq_getElem h]
    rfl
  rw [h3] at h1
  omega
theorem ref_From_l0 {l : List Int} (hu : U l) (hl : l.length ≤ 1000000000000) : ∀ n : Nat, n ≤ l.length → Ev (fun k => dendronref01_From.l0 k l (E (W (l.drop n))) (E 4294967296) ((n : Int) - 1)) (E (W l)) := by
  intro n
  induction n with
  | zero =>
    intro _
    refine Ev.succ ?_
    simp (disch := omega) only [dendronref01_From.l0, if_neg, List.drop_zero]
    exact Ev.ret _
  | succ n ih =>
    intro hn
    have e0 : ((n + 1 : Nat) : Int) - 1 = (n : Int) := by omega
    have hg := U_get hu n
    have hL1 : LE (W (l.drop (n + 1))) ≤ 3 * l.length := Nat.le_trans (LE_L _) (Nat.mul_le_mul_left _ (Nat.le_trans (L_W _) (by rw [List.length_drop]; omega)))
    have h5 : LE 4294967296 ≤ 5 := LE_u64 (by omega)
    have hL2 := LE_mul (W (l.drop (n + 1))) 4294967296
    have hv := W_drop_succ l n (by omega)
    have hs : LE (l.getD n 0 % 4294967296).toNat ≤ 5 := LE_u64 (by omega)
    rw [e0]
    refine Ev.succ ?_
    simp (disch := omega) only [dendronref01_From.l0, if_pos, rd_nat, w64pred, and32, w64]
    refine Ev.bind (ref_Times_f (by omega)) ?_
    refine Ev.bind (ref_Small_f (n := (l.getD n 0 % 4294967296).toNat) (by omega) (by omega)) ?_
    refine Ev.bind (ref_Plus_f (by omega) (by omega)) ?_
    have : W (l.drop (n + 1)) * 4294967296 + (l.getD n 0 % 4294967296).toNat = W (l.drop n) := by omega
    rw [this]
    exact ih (by omega)
theorem ref_From_f {l : List Int} (hu : U l) (hl : l.length ≤ 1000000000000) : Ev (fun k => dendronref01_From.f k l) (E (W l)) := by
  unfold dendronref01_From.f
  refine Ev.bind (ref_Small_f (n := 4294967296) rfl (by omega)) ?_
  simp (disch := omega) only [w64pred]
  have := ref_From_l0 hu hl l.length (Nat.le_refl _)
  rw [List.drop_length, W_nil, E_zero] at this
  exact this
theorem ref_From_D {n : Nat} (hl : L n ≤ 1000000000000) : Ev (fun k => dendronref01_From.f k (D n)) (E n) := by
  have := ref_From_f (D_U n) hl
  rwa [W_D] at this
theorem ref_Is_D {m n : Nat} (hm : L m ≤ 1000000000000) (hn : LE n ≤ 35184372088832) : Ev (fun k => dendronref01_Is.f k (D m) (E n)) (decide (m = n)) := by
  unfold dendronref01_Is.f
  refine Ev.bind (ref_Right_D (by omega)) ?_
  simp only [if_true]
  refine Ev.bind (ref_From_D hm) ?_
  have := LE_L m
  refine Ev.bind (ref_Order_f (by omega) hn) ?_
  refine Ev.eq (Ev.ret _) ?_
  have h := cmp_eq_iff (a := (m : Int)) (b := n)
  by_cases h1 : m = n
  · rw [decide_eq_true h1, beq_iff_eq]
    exact h.2 (by omega)
  · rw [decide_eq_false h1, beq_eq_false_iff_ne]
    intro h2
    have := h.1 h2
    omega
theorem ref_Is_true {m n : Nat} (h : m = n) (hm : L m ≤ 1000000000000) : Ev (fun k => dendronref01_Is.f k (D m) (E n)) true := by
  subst h
  have := LE_L m
  exact Ev.eq (ref_Is_D hm (by omega)) (decide_eq_true rfl)
end Go.Proofs.Ytfnhpojoaaegmaa.V
set_option linter.unusedVariables false
set_option linter.unusedSimpArgs false
namespace Go.Proofs.Ytfnhpojoaaegmaa.V
open Go.RowKit Go.Proofs.Ytfnhpojoaaegmaa.P Go.Proofs.YtfnhpojoaaegmaaW.PrintWords
theorem getD_rep (n j : Nat) : (List.replicate n (0 : Int)).getD j 0 = 0 := by
  rw [List.getD_eq_getElem?_getD]
  by_cases h : j < n
  · simp [List.getElem?_replicate, h]
  · simp [List.getElem?_replicate, h]
end Go.Proofs.Ytfnhpojoaaegmaa.V
set_option linter.unusedVariables false
set_option linter.unusedSimpArgs false
namespace Go.Proofs.Ytfnhpojoaaegmaa.V
open Go.RowKit Go.Proofs.Ytfnhpojoaaegmaa.P Go.Proofs.YtfnhpojoaaegmaaW.PrintWords Go.Proofs.YtfnhpojoaaegmaaW.PrintMore
theorem bits_or_comm (k : IntKind) (x y : Int) : Go.bits .or k x y = Go.bits .or k y x := by simp [Go.bits, BitVec.or_comm]
theorem shift_parts (x s : Nat) (hs : s < 32) : (x * 2 ^ s) % 4294967296 = (x % 2 ^ (32 - s)) * 2 ^ s ∧ (x * 2 ^ s) / 4294967296 = x / 2 ^ (32 - s) := by
  have e : 4294967296 = 2 ^ (32 - s) * 2 ^ s := by rw [← Nat.pow_add, Nat.sub_add_cancel (by omega)]
  constructor
  · rw [e, Nat.mul_mod_mul_right]
  · rw [e, Nat.mul_div_mul_right _ _ (Nat.two_pow_pos s)]
theorem nat_shl_l0 {a : List Int} (ha : Dg.Dig 4294967296 a) {w s : Nat} (hs : s < 32) (hl : a.length + w + 1 ≤ 35184372088832) {n : Nat} (hn : Dg.vl 4294967296 a * 2 ^ s * 4294967296 ^ w = n) :
    ∀ (d i : Nat) (out : List Int), i + d = a.length → out.length = a.length + w + 1 → Dg.Dig 4294967296 out → Dg.vl 4294967296 out = Dg.vl 4294967296 (a.take i) * 2 ^ s * 4294967296 ^ w → out.getD (i + w) 0 < 2 ^ s → (∀ j, i + w < j → out.getD j 0 = 0) →
    Ev (fun k => nat_shl.l0 k (w : Int) (s : Int) out a (a.length : Int) (i : Int)) (D n) := by
  intro d
  induction d with
  | zero =>
    intro i out hi ho hd hv hp hz
    refine Ev.succ ?_
    simp (disch := omega) only [nat_shl.l0, if_neg]
    refine Ev.bind (nat_trim_f hd (by omega) (n := n) ?_) (Ev.ret _)
    rw [hv, List.take_of_length_le (by omega), hn]
  | succ d ih =>
    intro i out hi ho hd hv hp hz
    have ga := ha.getD (by decide) i
    have go := hd.getD (by decide) (i + w)
    obtain ⟨x, hx⟩ := Int.eq_ofNat_of_zero_le ga.1
    obtain ⟨y, hy⟩ := Int.eq_ofNat_of_zero_le go.1
    have hxlt : x < 4294967296 := by omega
    have hylt : y < 2 ^ s := by rw [hy] at hp; exact_mod_cast hp
    obtain ⟨p1, p2⟩ := shift_parts x s hs
    have hps : 2 ^ s ≤ 2 ^ 31 := Nat.pow_le_pow_right (by decide) (by omega)
    have hxs : x * 2 ^ s ≤ 4294967295 * 2 ^ 31 := Nat.mul_le_mul (by omega) hps
    have hsp := Nat.two_pow_pos s
    have hhi : x * 2 ^ s / 4294967296 < 2 ^ s := by
      rw [Nat.div_lt_iff_lt_mul (by decide), Nat.mul_comm (2 ^ s)]
      exact (Nat.mul_lt_mul_right hsp).2 hxlt
    have hlo : y + x * 2 ^ s % 4294967296 < 4294967296 := by
      rw [p1]
      have h1 : x % 2 ^ (32 - s) + 1 ≤ 2 ^ (32 - s) := Nat.mod_lt _ (Nat.two_pow_pos _)
      have h2 := Nat.mul_le_mul_right (2 ^ s) h1
      rw [← Nat.pow_add, Nat.sub_add_cancel (by omega), Nat.add_mul] at h2
      omega
    have hsh : shl .u64 (x : Int) (s : Int) = ((x * 2 ^ s : Nat) : Int) := by
      unfold shl
      rw [Int.toNat_natCast, show min s IntKind.u64.bits = s from Nat.min_eq_left (by simp [IntKind.bits]; omega)]
      rw [show (x : Int) * 2 ^ s = ((x * 2 ^ s : Nat) : Int) by rw [Int.natCast_mul, Int.natCast_pow]; rfl]
      rw [u64w (by omega) (by omega)]
    have hor : Go.bits .or .u64 (y : Int) ((x * 2 ^ s % 4294967296 : Nat) : Int) = ((y + x * 2 ^ s % 4294967296 : Nat) : Int) := by
      rw [bits_or_comm, bits_join .u64 64 (by decide) u64_id s _ _ (by omega) ?_ (by omega) (by omega) (by exact_mod_cast hylt) (by omega)]
      · omega
      · rw [p1]
        exact_mod_cast Nat.mul_mod_left _ _
    have hand : Go.bits .and .u64 ((x * 2 ^ s : Nat) : Int) 4294967295 = ((x * 2 ^ s % 4294967296 : Nat) : Int) := by rw [and32 (by omega) (by omega)]; omega
    have hdv : ((x * 2 ^ s : Nat) : Int) / 4294967296 = ((x * 2 ^ s / 4294967296 : Nat) : Int) := by omega
    refine Ev.succ ?_
    simp (disch := omega) only [nat_shl.l0, if_pos, rd_add, tn_add, rd_nat, w64, hx, hy, hsh, hand, hor, hdv]
    have htn : ((i : Int) + (w : Int) + 1).toNat = i + w + 1 := by omega
    rw [htn]
    have ho1 : (out.set (i + w) ((y + x * 2 ^ s % 4294967296 : Nat) : Int)).length = a.length + w + 1 := by rw [List.length_set]; exact ho
    have hz1 : (out.set (i + w) ((y + x * 2 ^ s % 4294967296 : Nat) : Int)).getD (i + w + 1) 0 = 0 := by
      rw [Dg.getD_set _ _ _ _ (by omega), if_neg (by omega)]
      exact hz _ (by omega)
    refine ih (i + 1) _ (by omega) (by rw [List.length_set]; exact ho1) ((hd.set _ (by omega) (by omega)).set _ (by omega) (by omega)) ?_ ?_ ?_
    · rw [Dg.vl_set _ _ _ _ (by omega), hz1, Dg.vl_set _ _ _ _ (by omega), hv, hy, Dg.vl_take_succ, hx]
      have h := Nat.mod_add_div (x * 2 ^ s) 4294967296
      have h' : ((x * 2 ^ s % 4294967296 : Nat) : Int) + 4294967296 * ((x * 2 ^ s / 4294967296 : Nat) : Int) = (x : Int) * 2 ^ s := by
        have e : (x : Int) * 2 ^ s = ((x * 2 ^ s : Nat) : Int) := by rw [Int.natCast_mul, Int.natCast_pow]; rfl
        rw [e]
        omega
      rw [Int.natCast_add, Int.pow_succ, Int.pow_add]
      grind
    · rw [show i + 1 + w = i + w + 1 by omega, Dg.getD_set _ _ _ _ (by omega), if_pos rfl]
      exact_mod_cast hhi
    · intro j hj
      rw [Dg.getD_set _ _ _ _ (by omega), if_neg (by omega), Dg.getD_set _ _ _ _ (by omega), if_neg (by omega)]
      exact hz j (by omega)
theorem nat_shl_D {m n : Nat} (hl : L m + n / 32 + 1 ≤ 35184372088832) (hn : n ≤ 9223372036854775807) : Ev (fun k => nat_shl.f k (D m) (n : Int)) (D (m * 2 ^ n)) := by
  have hl' : (D m).length + n / 32 + 1 ≤ 35184372088832 := hl
  unfold nat_shl.f
  have e1 : Int.tdiv (n : Int) 32 = ((n / 32 : Nat) : Int) := by rw [tdiv_pos (by omega)]; omega
  have e2 : Int.tmod (n : Int) 32 = ((n % 32 : Nat) : Int) := by rw [tmod_pos (by omega)]; omega
  have e3 : wrap64 ((n / 32 : Nat) : Int) = ((n / 32 : Nat) : Int) := w64 (by omega) (by omega)
  simp only [e1, e2, e3]
  have e4 : wrap64 (wrap64 (((D m).length : Int) + ((n / 32 : Nat) : Int)) + 1) = (((D m).length + n / 32 + 1 : Nat) : Int) := by rw [w64add (by omega), w64succ (by omega)]
  simp (disch := omega) only [e4, if_pos, Int.toNat_natCast]
  clear e1 e2 e3 e4
  refine nat_shl_l0 (D_dig m) (Nat.mod_lt n (by decide)) hl' (n := m * 2 ^ n) ?_ (D m).length 0 _ (by omega) (by rw [List.length_replicate]) (Dg.Dig.replicate (by decide) _) ?_ ?_ (fun j _ => getD_rep _ j)
  · rw [D_vl]
    have e : m * 2 ^ (n % 32) * 4294967296 ^ (n / 32) = m * 2 ^ n := by
      rw [show (4294967296 : Nat) = 2 ^ 32 from rfl, ← Nat.pow_mul, Nat.mul_assoc, ← Nat.pow_add, show n % 32 + 32 * (n / 32) = n by omega]
    rw [← e]
    simp only [Int.natCast_mul, Int.natCast_pow]
    rfl
  · rw [Dg.vl_replicate_zero]; simp [Dg.vl]
  · rw [getD_rep]
    exact Int.pow_pos (by decide)
theorem vl_drop_D (m w : Nat) : Dg.vl 4294967296 ((D m).drop w) = ((m / 4294967296 ^ w : Nat) : Int) := by
  have h := Dg.vl_take_drop 4294967296 (D m) w
  rw [D_vl] at h
  have h0 := Dg.vl_nonneg ((D_dig m).take w) (by decide)
  have h1 := Dg.vl_lt ((D_dig m).take w) (by decide)
  have h2 := Dg.vl_nonneg ((D_dig m).drop w) (by decide)
  have h3 : 4294967296 ^ ((D m).take w).length ≤ 4294967296 ^ w := Nat.pow_le_pow_right (by decide) (by rw [List.length_take]; omega)
  obtain ⟨x, hx⟩ := Int.eq_ofNat_of_zero_le h0
  obtain ⟨y, hy⟩ := Int.eq_ofNat_of_zero_le h2
  rw [hx, hy] at h
  rw [hx] at h1
  have e : ∀ k : Nat, (4294967296 : Int) ^ k = ((4294967296 ^ k : Nat) : Int) := fun k => by rw [Int.natCast_pow]; rfl
  rw [e, ← Int.natCast_mul, ← Int.natCast_add] at h
  rw [e] at h1
  have h4 : m = x + 4294967296 ^ w * y := Int.ofNat_inj.1 h
  have h5 : x < 4294967296 ^ w := Nat.lt_of_lt_of_le (Int.ofNat_lt.1 h1) h3
  rw [hy, h4, Nat.add_mul_div_left _ _ (Nat.pow_pos (by decide)), Nat.div_eq_of_lt h5, Nat.zero_add]
theorem shr_parts (x u v s : Nat) (hs : s < 32) (hu : u < 4294967296) : (u + 4294967296 * x) / 2 ^ s = (u + 4294967296 * (x % 2 ^ s)) / 2 ^ s + 4294967296 * (x / 2 ^ s) ∧ (u + 4294967296 * (x % 2 ^ s)) / 2 ^ s < 4294967296 := by
  have hp := Nat.two_pow_pos s
  constructor
  · have h := Nat.mod_add_div x (2 ^ s)
    have e : u + 4294967296 * x = u + 4294967296 * (x % 2 ^ s) + 2 ^ s * (4294967296 * (x / 2 ^ s)) := by
      have : 4294967296 * x = 4294967296 * (x % 2 ^ s) + 4294967296 * (2 ^ s * (x / 2 ^ s)) := by rw [← Nat.mul_add, h]
      rw [this, Nat.mul_left_comm]
      omega
    rw [e, Nat.add_mul_div_left _ _ hp]
  · rw [Nat.div_lt_iff_lt_mul hp]
    have h1 : x % 2 ^ s + 1 ≤ 2 ^ s := Nat.mod_lt _ hp
    have h2 := Nat.mul_le_mul_left 4294967296 h1
    omega
theorem mod_pow_limb (x s : Nat) (u : Nat) (hs : s < 32) : (u + 4294967296 * x) % 2 ^ s = u % 2 ^ s := by
  have e : 4294967296 = 2 ^ s * 2 ^ (32 - s) := by rw [← Nat.pow_add, Nat.add_sub_cancel' (by omega)]
  rw [e, Nat.mul_assoc, Nat.add_mul_mod_self_left]
theorem and_part {t r c : Nat} (h : t = r + 4294967296 * c) (hr : r < 4294967296) (ht : t ≤ 18446744073709551615) : Go.bits .and .u64 (t : Int) 4294967295 = (r : Int) := by
  rw [and32 (by omega) (by omega)]
  omega
theorem nat_shr_l0 {m : Nat} (hl : (D m).length ≤ 35184372088832) {w s : Nat} (hs : s < 32) (hw : w < (D m).length) :
    ∀ (d i : Nat) (out : List Int), i + d = (D m).length - w → out.length = (D m).length - w → Dg.Dig 4294967296 out → Dg.vl 4294967296 (out.take i) + 4294967296 ^ i * ((m / 4294967296 ^ (w + i) / 2 ^ s : Nat) : Int) = ((m / 4294967296 ^ w / 2 ^ s : Nat) : Int) →
    Ev (fun k => nat_shr.l0 k (D m) (w : Int) (s : Int) out (out.length : Int) (i : Int)) (D (m / 4294967296 ^ w / 2 ^ s)) := by
  intro d
  induction d with
  | zero =>
    intro i out hi ho hd hv
    refine Ev.succ ?_
    simp (disch := omega) only [nat_shr.l0, if_neg]
    refine Ev.bind (nat_trim_f hd (by omega) (n := m / 4294967296 ^ w / 2 ^ s) ?_) (Ev.ret _)
    have h0 : m / 4294967296 ^ (w + i) = 0 := by
      apply Nat.div_eq_of_lt
      have := L_lt m
      rwa [show w + i = L m by unfold L; omega]
    rw [h0, Nat.zero_div, List.take_of_length_le (by omega)] at hv
    simpa using hv
  | succ d ih =>
    intro i out hi ho hd hv
    have g1 := D_get m (i + w)
    have g2 := D_get m (i + w + 1)
    obtain ⟨u, hu⟩ := Int.eq_ofNat_of_zero_le g1.1
    obtain ⟨v, hv1⟩ := Int.eq_ofNat_of_zero_le g2.1
    have hul : u < 4294967296 := by omega
    have hvl : v < 4294967296 := by omega
    have hd1 : m / 4294967296 ^ (w + i) = u + 4294967296 * (m / 4294967296 ^ (w + i + 1)) := by
      have h1 := Dg.vl_drop_succ 4294967296 (D m) (i + w)
      rw [vl_drop_D, vl_drop_D, hu] at h1
      rw [show w + i = i + w by omega]
      omega
    have hd2 : m / 4294967296 ^ (w + i + 1) = v + 4294967296 * (m / 4294967296 ^ (w + i + 2)) := by
      have h1 := Dg.vl_drop_succ 4294967296 (D m) (i + w + 1)
      rw [vl_drop_D, vl_drop_D, hv1] at h1
      rw [show w + i + 1 = i + w + 1 by omega, show w + i + 2 = i + w + 1 + 1 by omega]
      omega
    have hmod : m / 4294967296 ^ (w + i + 1) % 2 ^ s = v % 2 ^ s := by rw [hd2, mod_pow_limb _ _ _ hs]
    obtain ⟨q1, q2⟩ := shr_parts (m / 4294967296 ^ (w + i + 1)) u 0 s hs hul
    obtain ⟨q3, q4⟩ := shr_parts v u 0 s hs hul
    rw [hmod] at q1 q2
    have hsh : shr .u64 ((v : Int) * 4294967296 + u) (s : Int) = (((u + 4294967296 * v) / 2 ^ s : Nat) : Int) := by
      unfold shr
      rw [Int.toNat_natCast, show min s IntKind.u64.bits = s from Nat.min_eq_left (by simp [IntKind.bits]; omega), Int.natCast_ediv, Int.natCast_pow]
      congr 1
      omega
    have hle : (u + 4294967296 * v) / 2 ^ s ≤ u + 4294967296 * v := Nat.div_le_self _ _
    have hand : Go.bits .and .u64 (((u + 4294967296 * v) / 2 ^ s : Nat) : Int) 4294967295 = (((u + 4294967296 * (v % 2 ^ s)) / 2 ^ s : Nat) : Int) :=
      and_part q3 q4 (Nat.le_trans hle (by omega))
    refine Ev.succ ?_
    have hlim := nat_limb_f (D m) (i + w + 1)
    have elim : ((i : Int) + (w : Int) + 1) = ((i + w + 1 : Nat) : Int) := by omega
    simp (disch := omega) only [nat_shr.l0, if_pos, w64, elim, hlim, Option.bind_some, rd_add, rd_nat, hu, hv1, u64w, or32, hsh, hand, Int.toNat_natCast]
    clear hsh hand hle q3 q4 hmod hd2 hlim elim
    generalize (u + 4294967296 * (v % 2 ^ s)) / 2 ^ s = r at *
    have hlen : (out.length : Int) = ((out.set i (r : Int)).length : Int) := by rw [List.length_set]
    rw [hlen]
    refine ih (i + 1) _ (by omega) (by rw [List.length_set]; exact ho) (hd.set _ (by omega) (by omega)) ?_
    rw [set_take _ (by omega), vl_snoc, List.length_take, Nat.min_eq_left (by omega), ← hv, hd1, q1, Int.pow_succ, Int.natCast_add, Int.natCast_mul]
    rw [show w + (i + 1) = w + i + 1 by omega]
    grind
theorem nat_shr_D {m n : Nat} (hl : L m ≤ 35184372088832) (hn : n ≤ 9223372036854775807) : Ev (fun k => nat_shr.f k (D m) (n : Int)) (D (m / 2 ^ n)) := by
  have hl' : (D m).length ≤ 35184372088832 := hl
  have e : m / 2 ^ n = m / 4294967296 ^ (n / 32) / 2 ^ (n % 32) := by
    rw [Nat.div_div_eq_div_mul, show (4294967296 : Nat) = 2 ^ 32 from rfl, ← Nat.pow_mul, ← Nat.pow_add, show 32 * (n / 32) + n % 32 = n by omega]
  unfold nat_shr.f
  have e1 : Int.tdiv (n : Int) 32 = ((n / 32 : Nat) : Int) := by rw [tdiv_pos (by omega)]; omega
  have e2 : Int.tmod (n : Int) 32 = ((n % 32 : Nat) : Int) := by rw [tmod_pos (by omega)]; omega
  have e3 : wrap64 ((n / 32 : Nat) : Int) = ((n / 32 : Nat) : Int) := w64 (by omega) (by omega)
  simp only [e1, e2, e3]
  clear e1 e2 e3
  by_cases h : n / 32 ≥ (D m).length
  · refine Ev.pos (by omega) (Ev.eq (Ev.ret _) ?_)
    have : m / 4294967296 ^ (n / 32) = 0 := by
      apply Nat.div_eq_of_lt
      exact Nat.lt_of_lt_of_le (L_lt m) (Nat.pow_le_pow_right (by decide) h)
    rw [e, this, Nat.zero_div, D_zero]
  · refine Ev.neg (by omega) ?_
    have e4 : wrap64 (((D m).length : Int) - ((n / 32 : Nat) : Int)) = (((D m).length - n / 32 : Nat) : Int) := by rw [w64 (by omega) (by omega)]; omega
    simp (disch := omega) only [e4, if_pos, Int.toNat_natCast, Option.bind_some]
    clear e4
    rw [e]
    refine nat_shr_l0 hl' (Nat.mod_lt n (by decide)) (by omega) ((D m).length - n / 32) 0 _ (by omega) (by rw [List.length_replicate]) (Dg.Dig.replicate (by decide) _) ?_
    simp [Dg.vl]
end Go.Proofs.Ytfnhpojoaaegmaa.V
set_option linter.unusedVariables false
set_option linter.unusedSimpArgs false
namespace Go.Proofs.Ytfnhpojoaaegmaa.V
open Go.RowKit Go.Proofs.Ytfnhpojoaaegmaa.P Go.Proofs.YtfnhpojoaaegmaaW.PrintWords Go.Proofs.YtfnhpojoaaegmaaW.PrintMore
def LT : ByteArray := (⟨#[0, 1, 2, 2, 3, 3, 3, 3, 4, 4, 4, 4, 4, 4, 4, 4, 5, 5, 5, 5, 5, 5, 5, 5, 5, 5, 5, 5, 5, 5, 5, 5, 6, 6, 6, 6, 6, 6, 6, 6, 6, 6, 6, 6, 6, 6, 6, 6, 6, 6, 6, 6, 6, 6, 6, 6, 6, 6, 6, 6, 6, 6, 6, 6, 7, 7, 7, 7, 7, 7, 7, 7, 7, 7, 7, 7, 7, 7, 7, 7, 7, 7, 7, 7, 7, 7, 7, 7, 7, 7, 7, 7, 7, 7, 7, 7, 7, 7, 7, 7, 7, 7, 7, 7, 7, 7, 7, 7, 7, 7, 7, 7, 7, 7, 7, 7, 7, 7, 7, 7, 7, 7, 7, 7, 7, 7, 7, 7, 8, 8, 8, 8, 8, 8, 8, 8, 8, 8, 8, 8, 8, 8, 8, 8, 8, 8, 8, 8, 8, 8, 8, 8, 8, 8, 8, 8, 8, 8, 8, 8, 8, 8, 8, 8, 8, 8, 8, 8, 8, 8, 8, 8, 8, 8, 8, 8, 8, 8, 8, 8, 8, 8, 8, 8, 8, 8, 8, 8, 8, 8, 8, 8, 8, 8, 8, 8, 8, 8, 8, 8, 8, 8, 8, 8, 8, 8, 8, 8, 8, 8, 8, 8, 8, 8, 8, 8, 8, 8, 8, 8, 8, 8, 8, 8, 8, 8, 8, 8, 8, 8, 8, 8, 8, 8, 8, 8, 8, 8, 8, 8, 8, 8, 8, 8, 8, 8, 8, 8, 8, 8, 8, 8, 8, 8, 8, 8]⟩ : ByteArray)
attribute [irreducible] LT
end Go.Proofs.Ytfnhpojoaaegmaa.V
namespace Go.Proofs.Ytfnhpojoaaegmaa.V
open Go.RowKit Go.Proofs.Ytfnhpojoaaegmaa.P Go.Proofs.YtfnhpojoaaegmaaW.PrintWords
set_option maxRecDepth 100000 in
theorem awake_f : Ev (fun k => dendronlaw01_awake.f k) true := Ev.of (fun k => dendronlaw01_awake.mono k) (k := 100) (by decide +kernel)
theorem few_f (l : List Int) (n : Nat) : dendronlaw01_few.f l (n : Int) = some (l.take n) := by
  unfold dendronlaw01_few.f
  by_cases h : (l.length : Int) > (n : Int)
  · rw [if_pos h, if_pos (by omega), if_pos (by omega), Int.toNat_natCast]
  · rw [if_neg h, List.take_of_length_le (by omega)]
theorem U_take {l : List Int} (h : U l) (n : Nat) : U (l.take n) := fun x hx => h x (List.mem_of_mem_take hx)
theorem U_wf {l : List Int} (h : ∀ x ∈ l, (Lit.int .u64 x).wf = true) : U l := fun x hx => wf_u64 (h x hx)
theorem take_le (l : List Int) (n : Nat) : (l.take n).length ≤ n := by rw [List.length_take]; omega
theorem LE_W (l : List Int) : LE (W l) ≤ 3 * l.length := Nat.le_trans (LE_L _) (Nat.mul_le_mul_left _ (L_W l))
end Go.Proofs.Ytfnhpojoaaegmaa.V
set_option linter.unusedVariables false
set_option linter.unusedSimpArgs false
namespace Go.Proofs.Ytfnhpojoaaegmaa.V
open Go.RowKit Go.Proofs.Ytfnhpojoaaegmaa.P Go.Proofs.YtfnhpojoaaegmaaW.PrintWords Go.Proofs.YtfnhpojoaaegmaaW.PrintMore
theorem ref_Over_l1 {y r : Nat} (hy : 0 < y) (hy2 : LE y ≤ 1000000000000) (hr : LE r ≤ 1000000000000) (a out : List Int) (i : Nat) (hi : i < out.length) (hlen : out.length ≤ 35184372088832) {res : List Int × List Int}
    (H : Ev (fun k => dendronref01_Over.l0 k a (E y) (out.set i ((r / y : Nat) : Int)) (E (r % y)) ((i : Int) - 1)) res) :
    ∀ (d lo hi : Nat), hi ≤ lo + d → lo < hi → hi ≤ 10000 → y * lo ≤ r → r < y * hi → Ev (fun k => dendronref01_Over.l1 k a (E y) out (E r) (i : Int) (lo : Int) (hi : Int)) res := by
  intro d
  induction d with
  | zero => intro lo hi h1 h2; omega
  | succ d ih =>
    intro lo hi h1 h2 h3 h4 h5
    refine Ev.succ ?_
    by_cases hc : lo + 1 < hi
    · have e1 : ((lo : Int) + (hi : Int)) / 2 = (((lo + hi) / 2 : Nat) : Int) := by omega
      simp (disch := omega) only [dendronref01_Over.l1, w64, if_pos, tdiv_pos, e1]
      clear e1
      have hm : (lo + hi) / 2 < hi := by omega
      have hm2 : lo < (lo + hi) / 2 := by omega
      generalize (lo + hi) / 2 = m at *
      have hl := LE_u64 (n := m) (by omega)
      have hl2 := LE_mul y m
      refine Ev.bind (ref_Small_f (n := m) rfl (by omega)) ?_
      refine Ev.bind (ref_Times_f (by omega)) ?_
      refine Ev.bind (ref_Order_f (by omega) (by omega)) ?_
      have hcm := cmp_le_iff (a := ((y * m : Nat) : Int)) (b := r)
      by_cases hle : y * m ≤ r
      · refine Ev.pos (hcm.2 (by omega)) ?_
        exact ih m hi (by omega) hm h3 hle h5
      · refine Ev.neg (fun h => hle (by have := hcm.1 h; omega)) ?_
        exact ih lo m (by omega) hm2 (by omega) h4 (by omega)
    · have hh : hi = lo + 1 := by omega
      subst hh
      have hq : r / y = lo := Nat.div_eq_of_lt_le (by rw [Nat.mul_comm]; exact h4) (by rw [Nat.mul_comm]; exact h5)
      have hmod : r - y * lo = r % y := by
        have := Nat.div_add_mod r y
        rw [hq] at this
        omega
      rw [hq] at H
      simp (disch := omega) only [dendronref01_Over.l1, w64, if_neg, if_pos]
      have hl := LE_u64 (n := lo) (by omega)
      refine Ev.bind (ref_Small_f (n := lo) rfl (by omega)) ?_
      refine Ev.bind (ref_Times_f (by omega)) ?_
      refine Ev.bind (ref_Minus_f h4 (by omega)) ?_
      rw [hmod, Int.toNat_natCast]
      exact H
theorem vl_drop_E (m w : Nat) : Dg.vl 10000 ((E m).drop w) = ((m / 10000 ^ w : Nat) : Int) := by
  have h := Dg.vl_take_drop 10000 (E m) w
  rw [E_vl] at h
  have h0 := Dg.vl_nonneg ((E_dig m).take w) (by decide)
  have h1 := Dg.vl_lt ((E_dig m).take w) (by decide)
  have h2 := Dg.vl_nonneg ((E_dig m).drop w) (by decide)
  have h3 : 10000 ^ ((E m).take w).length ≤ 10000 ^ w := Nat.pow_le_pow_right (by decide) (by rw [List.length_take]; omega)
  obtain ⟨x, hx⟩ := Int.eq_ofNat_of_zero_le h0
  obtain ⟨y, hy⟩ := Int.eq_ofNat_of_zero_le h2
  rw [hx, hy] at h
  rw [hx] at h1
  have e : ∀ k : Nat, (10000 : Int) ^ k = ((10000 ^ k : Nat) : Int) := fun k => by rw [Int.natCast_pow]; rfl
  rw [e, ← Int.natCast_mul, ← Int.natCast_add] at h
  rw [e] at h1
  have h4 : m = x + 10000 ^ w * y := Int.ofNat_inj.1 h
  have h5 : x < 10000 ^ w := Nat.lt_of_lt_of_le (Int.ofNat_lt.1 h1) h3
  rw [hy, h4, Nat.add_mul_div_left _ _ (Nat.pow_pos (by decide)), Nat.div_eq_of_lt h5, Nat.zero_add]
theorem ref_Over_l0 {x y : Nat} (hy : 0 < y) (hx : LE x ≤ 1000000000 ) (hy2 : LE y ≤ 1000000000) :
    ∀ (n : Nat) (out : List Int), n ≤ LE x → out.length = LE x → Dg.Dig 10000 out → Dg.vl 10000 (out.drop n) = ((x / 10000 ^ n / y : Nat) : Int) →
    Ev (fun k => dendronref01_Over.l0 k (E x) (E y) out (E (x / 10000 ^ n % y)) ((n : Int) - 1)) (E (x / y), E (x % y)) := by
  intro n
  have hEx : (E x).length = LE x := rfl
  induction n with
  | zero =>
    intro out hn ho hd hv
    refine Ev.succ ?_
    rw [Nat.pow_zero, Nat.div_one] at hv ⊢
    simp (disch := omega) only [dendronref01_Over.l0, if_neg]
    exact Ev.bind (ref_Trim_f hd (by omega) (by rw [List.drop_zero] at hv; exact hv)) (Ev.ret _)
  | succ n ih =>
    intro out hn ho hd hv
    have hg := E_get x n
    have hsp := Dg.vl_drop_succ 10000 (E x) n
    rw [vl_drop_E, vl_drop_E] at hsp
    have hpp : x / 10000 ^ (n + 1) = x / 10000 ^ n / 10000 := by rw [Nat.pow_succ, Nat.div_div_eq_div_mul]
    refine Ev.succ ?_
    have e0 : ((n + 1 : Nat) : Int) - 1 = (n : Int) := by omega
    rw [e0]
    simp (disch := omega) only [dendronref01_Over.l0, if_pos, List.length_nil, Option.bind_some, List.nil_append, List.length_singleton, rd_nat, List.singleton_append]
    rw [hpp] at hv hsp ⊢
    have hdm := Nat.div_add_mod (x / 10000 ^ n / 10000) y
    have hrl := Nat.mod_lt (x / 10000 ^ n / 10000) hy
    have hLr : LE (x / 10000 ^ n / 10000 % y) ≤ LE y := LE_mono (by omega)
    have hELr : (E (x / 10000 ^ n / 10000 % y)).length = LE (x / 10000 ^ n / 10000 % y) := rfl
    have h10 : x / 10000 ^ n % 10000 = ((E x).getD n 0).toNat := by omega
    have hdm2 := Nat.div_add_mod (x / 10000 ^ n) 10000
    generalize hz : x / 10000 ^ n = z at *
    generalize hr : z / 10000 % y = r at *
    generalize hq : z / 10000 / y = q at *
    refine Ev.pos (by omega) ?_
    have hval : Dg.vl 10000 ((E x).getD n 0 :: E r) = ((z % 10000 + 10000 * r : Nat) : Int) := by
      rw [Dg.vl_cons, E_vl]
      omega
    refine Ev.bind (ref_Trim_f (Dg.Dig.cons hg.1 hg.2 (E_dig r)) (by rw [List.length_cons]; omega) hval) ?_
    -- z = y * (10000 q) + (z % 10000 + 10000 r)
    have hzz : z = z % 10000 + 10000 * r + y * (10000 * q) := by
      have : y * (10000 * q) = 10000 * (y * q) := by rw [Nat.mul_left_comm]
      omega
    have hmod : (z % 10000 + 10000 * r) % y = z % y := by
      conv => rhs; rw [hzz]
      rw [Nat.add_mul_mod_self_left]
    have hdiv : z / y = (z % 10000 + 10000 * r) / y + 10000 * q := by
      conv => lhs; rw [hzz]
      rw [Nat.add_mul_div_left _ _ hy]
    have hlt : z % 10000 + 10000 * r < y * 10000 := by omega
    have hqd : (z % 10000 + 10000 * r) / y < 10000 := (Nat.div_lt_iff_lt_mul hy).2 (by rw [Nat.mul_comm 10000 y]; exact hlt)
    have hLw : LE (z % 10000 + 10000 * r) ≤ LE (y * 10000) := LE_mono (by omega)
    have hLw2 := LE_mul y 10000
    have hLw3 := LE_u64 (n := 10000) (by omega)
    refine ref_Over_l1 hy (by omega) (by omega) _ _ n (by omega) (by omega) ?_ 10000 0 10000 (by omega) (by omega) (by omega) (by omega) hlt
    rw [hmod]
    have := ih (out.set n (((z % 10000 + 10000 * r) / y : Nat) : Int)) (by omega) (by rw [List.length_set]; exact ho) (hd.set _ (Int.natCast_nonneg _) (Int.ofNat_lt.2 hqd)) ?_
    · exact this
    · rw [Dg.vl_drop_succ, Dg.vl_drop_set _ _ _ _ _ (Nat.lt_succ_self _), hv, Dg.getD_set _ _ _ _ (by omega), if_pos rfl, hdiv]
      omega
theorem ref_Over_f {x y : Nat} (hy : y ≠ 0) (hx : LE x ≤ 1000000000) (hy2 : LE y ≤ 1000000000) : Ev (fun k => dendronref01_Over.f k (E x) (E y)) (E (x / y), E (x % y)) := by
  have hEx : (E x).length = LE x := rfl
  unfold dendronref01_Over.f
  rw [hEx]
  refine Ev.pos (by omega) (Ev.pos (by omega) ?_)
  rw [Int.toNat_natCast, w64pred (by omega)]
  have h0 : x / 10000 ^ LE x = 0 := Nat.div_eq_of_lt (LE_lt x)
  have := ref_Over_l0 (y := y) (by omega) hx hy2 (LE x) (List.replicate (LE x) 0) (Nat.le_refl _) List.length_replicate (Dg.Dig.replicate (by decide) _) (by
    rw [List.drop_of_length_le (by rw [List.length_replicate]; exact Nat.le_refl _), h0, Nat.zero_div]; rfl)
  rwa [h0, Nat.zero_mod, E_zero] at this
theorem ref_Two_l0 {n : Nat} (hn : n ≤ 1000000) : ∀ (d i : Nat), i + d = n → Ev (fun k => dendronref01_Two.l0 k (n : Int) (E (2 ^ i)) (i : Int)) (E (2 ^ n)) := by
  intro d
  induction d with
  | zero =>
    intro i hi
    refine Ev.succ ?_
    simp (disch := omega) only [dendronref01_Two.l0, if_neg]
    rw [show i = n by omega]
    exact Ev.ret _
  | succ d ih =>
    intro i hi
    have h1 : LE (2 ^ i) ≤ i + 1 := LE_le (Nat.lt_of_lt_of_le (Nat.pow_lt_pow_right (by decide) (Nat.lt_succ_self i)) (Nat.pow_le_pow_left (by decide) _))
    refine Ev.succ ?_
    simp (disch := omega) only [dendronref01_Two.l0, if_pos, w64succ]
    refine Ev.bind (ref_Plus_f (by omega) (by omega)) ?_
    have := ih (i + 1) (by omega)
    rw [Nat.pow_succ, Nat.mul_two] at this
    exact this
theorem ref_Two_f {n : Nat} (hn : n ≤ 1000000) : Ev (fun k => dendronref01_Two.f k (n : Int)) (E (2 ^ n)) := by
  unfold dendronref01_Two.f
  exact Ev.bind (ref_Small_f (n := 1) rfl (by omega)) (ref_Two_l0 hn n 0 (by omega))
end Go.Proofs.Ytfnhpojoaaegmaa.V
set_option linter.unusedVariables false
set_option linter.unusedSimpArgs false
namespace Go.Proofs.Ytfnhpojoaaegmaa.V
open Go.RowKit Go.Proofs.Ytfnhpojoaaegmaa.P Go.Proofs.YtfnhpojoaaegmaaW.PrintWords Go.Proofs.YtfnhpojoaaegmaaW.PrintMore
unseal LT in
theorem pow32 (i : Nat) : (4294967296 : Nat) ^ i = 2 ^ (32 * i) := by rw [Nat.pow_mul]
theorem nat_Shl_f {a : List Int} (ha : U a) (hl : a.length ≤ 4398046511104) {i : Int} (hi : i ≤ 9223372036854775807) : Ev (fun k => nat_Shl.f k a i) (if i < 0 ∨ 1048576 < i then ([], 8) else (D (W a * 2 ^ i.toNat), 0)) := by
  have hc := nat_Clean_f ha (by omega)
  have hL := L_W a
  generalize W a = v at *
  refine Ev.succ ?_
  unfold nat_Shl.f
  by_cases h1 : i < 0
  · rw [if_pos (.inl h1)]
    refine Ev.pos h1 ?_
    simp only [nat_Shl.j0]
    exact Ev.pos trivial (Ev.ret _)
  · refine Ev.neg h1 ?_
    by_cases h2 : i > 1048576
    · rw [if_pos (.inr h2)]
      simp only [nat_Shl.j0]
      exact Ev.pos (decide_eq_true h2) (Ev.ret _)
    · rw [if_neg (by omega)]
      simp only [nat_Shl.j0]
      refine Ev.neg (by simpa using h2) ?_
      refine Ev.bind hc ?_
      obtain ⟨n, rfl⟩ := Int.eq_ofNat_of_zero_le (show 0 ≤ i by omega)
      exact Ev.bind (nat_shl_D (by omega) (by omega)) (Ev.ret _)
theorem nat_Shr_f {a : List Int} (ha : U a) (hl : a.length ≤ 4398046511104) {i : Int} (hi : i ≤ 9223372036854775807) : Ev (fun k => nat_Shr.f k a i) (if i < 0 then ([], 8) else (D (W a / 2 ^ i.toNat), 0)) := by
  have hc := nat_Clean_f ha (by omega)
  have hL := L_W a
  generalize W a = v at *
  unfold nat_Shr.f
  by_cases h1 : i < 0
  · rw [if_pos h1]
    exact Ev.pos h1 (Ev.ret _)
  · rw [if_neg h1]
    refine Ev.neg h1 (Ev.bind hc ?_)
    obtain ⟨n, rfl⟩ := Int.eq_ofNat_of_zero_le (show 0 ≤ i by omega)
    exact Ev.bind (nat_shr_D (by omega) (by omega)) (Ev.ret _)
end Go.Proofs.Ytfnhpojoaaegmaa.V
set_option linter.unusedVariables false
set_option linter.unusedSimpArgs false
namespace Go.Proofs.Ytfnhpojoaaegmaa.Pure
open Go.RowKit Go.Proofs.Ytfnhpojoaaegmaa.P Go.Proofs.Ytfnhpojoaaegmaa.V Go.Proofs.YtfnhpojoaaegmaaW.PrintWords
theorem NatShifts : dendronlaw01_NatShifts.Pure := by
  intro l0 a1 _ _ h0 h1
  have ha := U_take (U_wf h0) 20
  have la := take_le l0 20
  have hr := wf_i64 h1
  apply Ev.ex
  unfold dendronlaw01_NatShifts.f
  refine Ev.bind1 (few_f l0 20) ?_
  generalize l0.take 20 = a at *
  have La := L_W a
  have Ea := LE_W a
  refine Ev.bind (nat_Shl_f ha (by omega) hr.2) (Ev.bind (nat_Shr_f ha (by omega) hr.2) ?_)
  by_cases c1 : a1 < 0
  · rw [if_pos (.inl c1), if_pos c1]
    refine Ev.pos c1 (Ev.pos (by simp [wrap64]) (Ev.pos rfl (Ev.pos rfl ?_)))
    exact Ev.bind awake_f (Ev.ret _)
  · rw [if_neg c1]
    obtain ⟨n, rfl⟩ := Int.eq_ofNat_of_zero_le (show 0 ≤ a1 by omega)
    rw [Int.toNat_natCast]
    refine Ev.neg c1 ?_
    by_cases c2 : (n : Int) > 400
    · refine Ev.pos c2 ?_
      have hsmall : ¬ ((n : Int) < 640) → ((D (W a / 2 ^ n)).length : Int) = 0 := by
        intro h
        have h3 : W a < 2 ^ n := by
          refine Nat.lt_of_lt_of_le (L_lt (W a)) ?_
          rw [pow32]
          exact Nat.pow_le_pow_right (by decide) (by omega)
        rw [Nat.div_eq_of_lt h3, D_zero]
        rfl
      have hend : Ev (fun k => if (n : Int) < 640 then ((dendronlaw01_awake.f k).bind fun t => (some t)) else (if ((D (W a / 2 ^ n)).length : Int) = 0 then ((dendronlaw01_awake.f k).bind fun t => (some t)) else (some false))) true := by
        by_cases c3 : (n : Int) < 640
        · exact Ev.pos c3 (Ev.bind awake_f (Ev.ret _))
        · exact Ev.neg c3 (Ev.pos (hsmall c3) (Ev.bind awake_f (Ev.ret _)))
      by_cases c4 : (n : Int) ≤ 1048576
      · rw [if_neg (by omega)]
        refine Ev.pos (by rw [decide_eq_true c4]; rfl) (Ev.neg (show ¬ (0 : Int) = 8 by decide) (Ev.pos rfl hend))
      · rw [if_pos (by omega)]
        refine Ev.pos (by rw [decide_eq_false c4]; rfl) (Ev.pos rfl (Ev.pos rfl (Ev.pos rfl hend)))
    · rw [if_neg (by omega)]
      refine Ev.neg c2 ?_
      have hp2 : LE (2 ^ n) ≤ n + 1 := LE_le (Nat.lt_of_lt_of_le (Nat.pow_lt_pow_right (by decide) (Nat.lt_succ_self n)) (Nat.pow_le_pow_left (by decide) _))
      have hm := LE_mul (W a) (2 ^ n)
      have hm2 := L_LE (W a * 2 ^ n)
      have hd2 : L (W a / 2 ^ n) ≤ L (W a) := L_mono (Nat.div_le_self _ _)
      refine Ev.bind (ref_From_f ha (by omega)) (Ev.bind (ref_Two_f (by omega)) ?_)
      refine Ev.bind (ref_Over_f (Nat.pos_iff_ne_zero.1 (Nat.two_pow_pos n)) (by omega) (by omega)) (Ev.pos rfl (Ev.pos rfl ?_))
      refine Ev.bind (ref_Two_f (by omega)) (Ev.bind (ref_Times_f (by omega)) (Ev.bind (ref_Is_true rfl (by omega)) (Ev.pos rfl ?_)))
      refine Ev.bind (ref_Is_true rfl (by omega)) (Ev.pos rfl ?_)
      exact Ev.bind awake_f (Ev.ret _)
end Go.Proofs.Ytfnhpojoaaegmaa.Pure
namespace Go.Proofs.YtfnhpojoaaegmaaW.PrintWords
open Go.ChangeShapes Go.WideShapes
theorem sized_ints {H : Type} {enc : TypeId × Value → H} {P : Program} {W : World} {base : Nat} {spare : Nat → Bool} {held : Bool} {t e : TypeId} {k : IntKind} {a : Option Addr} {len cap : Nat} {d : DataW H} {ps : List MemPlace} {ts : List TypeId} {ds : List (DataW H)} {j : Nat}
    (hsz : (DataW.weightsEach P ts ds).all (· ≤ reachBytes) = true) (ht : ts[j]? = some t) (hd : ds[j]? = some d) (hu : P.underlying t = some (.slice e)) (he : P.underlying e = some (.int k)) (hc : P.cellsOf e = 1) {B : Nat} (hB : P.bytesOf e = B)
    (h : DataW.Trod enc P W base spare held t (.slice a len cap) d ps) : len * B ≤ 140737488351232 := by
  obtain ⟨fuel, hf⟩ := h
  rcases open_ints hu he hc hf with ⟨hcs, _⟩ | ⟨x, l, c, zs, hcs, _, hl, _, hz, hx, _, _⟩
  · simp [Value.cells] at hcs
    obtain ⟨rfl, rfl, rfl⟩ := hcs
    simp
  · simp [Value.cells] at hcs
    obtain ⟨rfl, rfl, rfl⟩ := hcs
    obtain ⟨hx, _⟩ := Prod.mk.inj hx
    subst hx
    have z := sized_slice hsz ht hd hu
    rw [hB] at z
    have hl2 : len ≤ zs.length := by
      rw [hz]
      split
      · exact hl
      · exact Nat.le_refl _
    have h1 : (lits (H := H) k (zs.take len)).length + (lits (H := H) k (zs.drop len)).length = zs.length := by
      simp [lits]
      omega
    rw [h1] at z
    exact Nat.le_trans (Nat.mul_le_mul_right _ hl2) z
end Go.Proofs.YtfnhpojoaaegmaaW.PrintWords
