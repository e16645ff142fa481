/- Part 5 of the texts of NatOrders: words, the machine's side of functions (written by a program), plain lemmas. -/
import Derived.Test.YtfnhpojoaaegmaaBNatOrders4
import Derived.Laws.BitsLemmas
import Derived.SizedLaws
import Derived.ChangeSlices
set_option linter.unusedVariables false
set_option linter.unusedSimpArgs false
namespace Dg
def vl (B : Int) : List Int → Int
  | [] => 0
  | x :: r => x + B * vl B r
def Dig (B : Int) (l : List Int) : Prop := ∀ x, x ∈ l → 0 ≤ x ∧ x < B
def dg (B : Nat) (n : Nat) : List Int :=
  if h : n = 0 ∨ B < 2 then [] else ((n % B : Nat) : Int) :: dg B (n / B)
termination_by n
decreasing_by exact Nat.div_lt_self (by omega) (by omega)
theorem dg_zero (B : Nat) : dg B 0 = [] := by unfold dg; simp
theorem dg_succ {B n : Nat} (hB : 2 ≤ B) (hn : n ≠ 0) : dg B n = ((n % B : Nat) : Int) :: dg B (n / B) := by
  conv => lhs; unfold dg
  rw [dif_neg (by omega)]
theorem vl_append (B : Int) (l m : List Int) : vl B (l ++ m) = vl B l + B ^ l.length * vl B m := by
  induction l with
  | nil => simp [vl]
  | cons x r ih => simp only [List.cons_append, vl, ih, List.length_cons, Int.pow_succ]; grind
theorem vl_take_succ (B : Int) (l : List Int) (n : Nat) : vl B (l.take (n + 1)) = vl B (l.take n) + l.getD n 0 * B ^ n := by
  induction l generalizing n with
  | nil => simp [vl]
  | cons x r ih =>
    cases n with
    | zero => simp [vl]
    | succ n => simp only [List.take_succ_cons, vl, ih, List.getD_cons_succ, Int.pow_succ]; grind
theorem vl_drop_succ (B : Int) (l : List Int) (n : Nat) : vl B (l.drop n) = l.getD n 0 + B * vl B (l.drop (n + 1)) := by
  induction l generalizing n with
  | nil => simp [vl]
  | cons x r ih =>
    cases n with
    | zero => simp [vl]
    | succ n => simpa using ih n
theorem vl_take_drop (B : Int) (l : List Int) (n : Nat) : vl B l = vl B (l.take n) + B ^ n * vl B (l.drop n) := by
  induction n with
  | zero => simp [vl]
  | succ n ih => rw [vl_take_succ, ih, vl_drop_succ B l n, Int.pow_succ]; grind
theorem vl_take_set (B : Int) (l : List Int) (i n : Nat) (v : Int) (h : n ≤ i) : vl B ((l.set i v).take n) = vl B (l.take n) := by
  rw [List.take_set_of_le h]
theorem getD_set (l : List Int) (i j : Nat) (v : Int) (h : i < l.length) : (l.set i v).getD j 0 = if i = j then v else l.getD j 0 := by
  simp only [List.getD_eq_getElem?_getD, List.getElem?_set]
  split
  · rename_i h1; subst h1; simp
  · rfl
theorem vl_drop_set (B : Int) (l : List Int) (i n : Nat) (v : Int) (h : i < n) : vl B ((l.set i v).drop n) = vl B (l.drop n) := by
  rw [List.drop_set_of_lt h]
theorem vl_set (B : Int) (l : List Int) (i : Nat) (v : Int) (h : i < l.length) : vl B (l.set i v) = vl B l + (v - l.getD i 0) * B ^ i := by
  rw [vl_take_drop B (l.set i v) i, vl_take_drop B l i, vl_take_set _ _ _ _ _ (Nat.le_refl _), vl_drop_succ, vl_drop_succ B l i, vl_drop_set _ _ _ _ _ (Nat.lt_succ_self _), getD_set _ _ _ _ h]
  grind
theorem Dig.getD {B : Int} {l : List Int} (h : Dig B l) (hB : 0 < B) (n : Nat) : 0 ≤ l.getD n 0 ∧ l.getD n 0 < B := by
  rw [List.getD_eq_getElem?_getD]
  rcases Nat.lt_or_ge n l.length with hn | hn
  · rw [List.getElem?_eq_getElem hn]; exact h _ (List.getElem_mem hn)
  · rw [List.getElem?_eq_none hn]; simp; exact hB
theorem Dig.take {B : Int} {l : List Int} (h : Dig B l) (n : Nat) : Dig B (l.take n) := fun x hx => h x (List.mem_of_mem_take hx)
theorem Dig.drop {B : Int} {l : List Int} (h : Dig B l) (n : Nat) : Dig B (l.drop n) := fun x hx => h x (List.mem_of_mem_drop hx)
theorem Dig.set {B : Int} {l : List Int} (h : Dig B l) (n : Nat) {v : Int} (h0 : 0 ≤ v) (h1 : v < B) : Dig B (l.set n v) := by
  intro x hx
  rcases List.mem_or_eq_of_mem_set hx with hx | rfl
  · exact h x hx
  · exact ⟨h0, h1⟩
theorem Dig.nil {B : Int} : Dig B [] := fun x hx => by simp at hx
theorem Dig.cons {B x : Int} {r : List Int} (h0 : 0 ≤ x) (h1 : x < B) (h : Dig B r) : Dig B (x :: r) := by
  intro y hy
  rcases List.mem_cons.1 hy with rfl | hy
  · exact ⟨h0, h1⟩
  · exact h y hy
theorem Dig.append {B : Int} {l m : List Int} (h : Dig B l) (k : Dig B m) : Dig B (l ++ m) := by
  intro y hy
  rcases List.mem_append.1 hy with hy | hy
  · exact h y hy
  · exact k y hy
theorem Dig.replicate {B : Int} (hB : 0 < B) (n : Nat) : Dig B (List.replicate n 0) := by
  intro y hy
  rw [List.mem_replicate] at hy
  omega
theorem vl_nonneg {B : Int} {l : List Int} (h : Dig B l) (hB : 0 < B) : 0 ≤ vl B l := by
  induction l with
  | nil => simp [vl]
  | cons x r ih =>
    have h1 := h x (by simp)
    have h2 := ih (fun y hy => h y (by simp [hy]))
    have := Int.mul_nonneg (Int.le_of_lt hB) h2
    simp only [vl]; omega
theorem vl_lt {B : Int} {l : List Int} (h : Dig B l) (hB : 0 < B) : vl B l < B ^ l.length := by
  induction l with
  | nil => simp [vl]
  | cons x r ih =>
    have h1 := h x (by simp)
    have h2 := ih (fun y hy => h y (by simp [hy]))
    have h3 : B * (vl B r + 1) ≤ B * B ^ r.length := Int.mul_le_mul_of_nonneg_left (by omega) (by omega)
    rw [List.length_cons, Int.pow_succ, Int.mul_comm _ B]
    simp only [vl]
    have h4 : B * (vl B r + 1) = B * vl B r + B := by grind
    omega
theorem vl_replicate_zero (B : Int) (n : Nat) : vl B (List.replicate n 0) = 0 := by
  induction n with
  | zero => rfl
  | succ n ih => rw [List.replicate_succ, vl, ih]; simp
theorem dg_dig {B : Nat} (hB : 2 ≤ B) (n : Nat) : Dig B (dg B n) := by
  induction n using Nat.strongRecOn with
  | _ n ih =>
    by_cases hn : n = 0
    · subst hn; rw [dg_zero]; exact Dig.nil
    · rw [dg_succ hB hn]
      have := Nat.mod_lt n (show 0 < B by omega)
      exact Dig.cons (by omega) (by omega) (ih _ (Nat.div_lt_self (by omega) (by omega)))
theorem vl_dg {B : Nat} (hB : 2 ≤ B) (n : Nat) : vl B (dg B n) = n := by
  induction n using Nat.strongRecOn with
  | _ n ih =>
    by_cases hn : n = 0
    · subst hn; rw [dg_zero]; rfl
    · rw [dg_succ hB hn, vl, ih _ (Nat.div_lt_self (by omega) (by omega))]
      have := Nat.mod_add_div n B
      exact_mod_cast this
def Top (l : List Int) : Prop := l ≠ [] → l.getD (l.length - 1) 0 ≠ 0
theorem Top.nil : Top [] := fun h => absurd rfl h
theorem Top.tail {x y : Int} {r : List Int} (h : Top (x :: y :: r)) : Top (y :: r) := by
  intro _
  have := h (by simp)
  simpa using this
theorem dg_vl {B : Nat} (hB : 2 ≤ B) {l : List Int} (hd : Dig B l) (ht : Top l) : dg B (vl B l).toNat = l := by
  induction l with
  | nil => simp [vl, dg_zero]
  | cons x r ih =>
    have h1 := hd x (by simp)
    have hr : Dig B r := fun y hy => hd y (by simp [hy])
    have hn := vl_nonneg hr (by omega)
    obtain ⟨v, hv⟩ := Int.eq_ofNat_of_zero_le hn
    obtain ⟨y, rfl⟩ := Int.eq_ofNat_of_zero_le h1.1
    have hyB : y < B := by omega
    have htr : Top r := by
      cases r with
      | nil => exact Top.nil
      | cons z r => exact ht.tail
    have ih := ih hr htr
    rw [hv] at ih
    have hval : (vl B ((y : Int) :: r)).toNat = y + B * v := by
      rw [vl, hv]; norm_cast
    rw [hval]
    have hne : y + B * v ≠ 0 := by
      cases r with
      | nil =>
        have := ht (by simp)
        simp at this
        omega
      | cons z r =>
        intro h0
        have hv0 : v = 0 := by
          have : B * v = 0 := by omega
          rcases Nat.mul_eq_zero.1 this with h | h <;> omega
        subst hv0
        simp [dg_zero] at ih
    have hm : (y + B * v) % B = y := by rw [Nat.add_mul_mod_self_left, Nat.mod_eq_of_lt hyB]
    have hq : (y + B * v) / B = v := by rw [Nat.add_mul_div_left _ _ (by omega), Nat.div_eq_of_lt hyB, Nat.zero_add]
    rw [dg_succ hB hne, hm, hq]
    have : (v : Int).toNat = v := by simp
    rw [this] at ih
    rw [ih]
theorem dg_top {B : Nat} (hB : 2 ≤ B) (n : Nat) : Top (dg B n) := by
  induction n using Nat.strongRecOn with
  | _ n ih =>
    by_cases hn : n = 0
    · subst hn; rw [dg_zero]; exact Top.nil
    · rw [dg_succ hB hn]
      intro _
      have hlt := Nat.div_lt_self (n := n) (k := B) (by omega) (by omega)
      by_cases h0 : n / B = 0
      · rw [h0, dg_zero]
        simp
        have := Nat.mod_add_div n B
        rw [h0] at this
        omega
      · have h2 := ih _ hlt
        rw [dg_succ hB h0] at h2 ⊢
        have := h2 (by simp)
        simpa using this
theorem top_unique {B : Nat} (hB : 2 ≤ B) {l m : List Int} (hl : Dig B l) (hm : Dig B m) (tl : Top l) (tm : Top m) (h : vl B l = vl B m) : l = m := by
  rw [← dg_vl hB hl tl, ← dg_vl hB hm tm, h]
end Dg
namespace Go.Proofs.Ytfnhpojoaaegmaa.V
open Go.RowKit Go.Proofs.YtfnhpojoaaegmaaW.PrintWords
section
variable {α β : Type} {r : α}
theorem Ev.succ {g : Nat → Option α} (h : Ev (fun k => g (k + 1)) r) : Ev g r := Ev.step (fun _ => rfl) h
theorem Ev.pos {c : Prop} [Decidable c] {A B : Nat → Option α} (h : c) (hA : Ev A r) : Ev (fun k => if c then A k else B k) r := by simpa only [if_pos h] using hA
theorem Ev.neg {c : Prop} [Decidable c] {A B : Nat → Option α} (h : ¬ c) (hB : Ev B r) : Ev (fun k => if c then A k else B k) r := by simpa only [if_neg h] using hB
theorem Ev.ret (r : α) : Ev (fun _ => some r) r := Ev.now r
theorem Ev.bind1 {β : Type} {q : β} {g : Option α} {f : Nat → α → Option β} (h : g = some r) (k : Ev (fun n => f n r) q) : Ev (fun n => g.bind (f n)) q := by subst h; exact k
theorem Ev.ex {g : Nat → Option α} (h : Ev g r) : ∃ k, g k = some r := Ev.rounds h
theorem Ev.eq {g : Nat → Option α} {q : α} (h : Ev g r) (e : r = q) : Ev g q := e ▸ h
end
theorem w64 {x : Int} (h0 : -9223372036854775808 ≤ x) (h1 : x ≤ 9223372036854775807) : wrap64 x = x := by unfold wrap64; omega
theorem w64add {i m : Nat} (h : i + m ≤ 9223372036854775807) : wrap64 ((i : Int) + (m : Int)) = ((i + m : Nat) : Int) := by rw [w64 (by omega) (by omega)]; omega
theorem w64succ {i : Nat} (h : i + 1 ≤ 9223372036854775807) : wrap64 ((i : Int) + 1) = ((i + 1 : Nat) : Int) := by rw [w64 (by omega) (by omega)]; omega
theorem w64pred {i : Nat} (h : i ≤ 9223372036854775807) : wrap64 ((i : Int) - 1) = (i : Int) - 1 := w64 (by omega) (by omega)
theorem u64m (x : Int) : IntKind.u64.wrap x = x % 18446744073709551616 := by simp [IntKind.wrap, IntKind.bits, IntKind.signed]
theorem u64_id (n : Int) (h₀ : 0 ≤ n) (h₁ : n < 2 ^ 64) : IntKind.u64.wrap n = n := by rw [u64m]; omega
theorem and32 {x : Int} (h0 : 0 ≤ x) (h1 : x ≤ 18446744073709551615) : Go.bits .and .u64 x 4294967295 = x % 4294967296 :=
  bits_mask .u64 64 (by decide) u64_id 32 (by decide) x h0 (by omega)
theorem wf_u64 {x : Int} (h : (Lit.int .u64 x).wf = true) : 0 ≤ x ∧ x ≤ 18446744073709551615 := by
  simp [Lit.wf, IntKind.min, IntKind.max, IntKind.signed, IntKind.bits] at h
  omega
theorem rd_nat (l : List Int) (n : Nat) : rd l (n : Int) = l.getD n 0 := by unfold rd; rw [Int.toNat_natCast]
theorem rd_add (l : List Int) (i m : Nat) : rd l ((i : Int) + (m : Int)) = l.getD (i + m) 0 := by rw [← Int.natCast_add]; exact rd_nat _ _
theorem tn_add (i m : Nat) : ((i : Int) + (m : Int)).toNat = i + m := by omega
def D (n : Nat) : List Int := Dg.dg 4294967296 n
def E (n : Nat) : List Int := Dg.dg 10000 n
def W (l : List Int) : Nat := (Dg.vl 4294967296 (l.map (· % 4294967296))).toNat
def U (l : List Int) : Prop := ∀ x, x ∈ l → 0 ≤ x ∧ x ≤ 18446744073709551615
theorem D_dig (n : Nat) : Dg.Dig 4294967296 (D n) := Dg.dg_dig (by decide) n
theorem E_dig (n : Nat) : Dg.Dig 10000 (E n) := Dg.dg_dig (by decide) n
theorem D_top (n : Nat) : Dg.Top (D n) := Dg.dg_top (by decide) n
theorem E_top (n : Nat) : Dg.Top (E n) := Dg.dg_top (by decide) n
theorem D_vl (n : Nat) : Dg.vl 4294967296 (D n) = n := Dg.vl_dg (by decide) n
theorem E_vl (n : Nat) : Dg.vl 10000 (E n) = n := Dg.vl_dg (by decide) n
theorem D_zero : D 0 = [] := Dg.dg_zero _
theorem E_zero : E 0 = [] := Dg.dg_zero _
theorem map_dig (l : List Int) : Dg.Dig 4294967296 (l.map (· % 4294967296)) := by
  intro x hx
  obtain ⟨y, _, rfl⟩ := List.mem_map.1 hx
  omega
theorem W_map (l : List Int) : (W l : Int) = Dg.vl 4294967296 (l.map (· % 4294967296)) := by
  unfold W
  have := Dg.vl_nonneg (map_dig l) (by decide)
  omega
theorem W_nil : W [] = 0 := by simp [W, Dg.vl]
theorem D_of {l : List Int} (hd : Dg.Dig 4294967296 l) (ht : Dg.Top l) {n : Nat} (hv : Dg.vl 4294967296 l = n) : l = D n :=
  Dg.top_unique (B := 4294967296) (by decide) hd (D_dig n) ht (D_top n) (hv.trans (D_vl n).symm)
theorem E_of {l : List Int} (hd : Dg.Dig 10000 l) (ht : Dg.Top l) {n : Nat} (hv : Dg.vl 10000 l = n) : l = E n :=
  Dg.top_unique (B := 10000) (by decide) hd (E_dig n) ht (E_top n) (hv.trans (E_vl n).symm)
theorem len_lt (B : Nat) (hB : 2 ≤ B) (n : Nat) : n < B ^ (Dg.dg B n).length := by
  have h := Dg.vl_lt (Dg.dg_dig hB n) (by omega)
  rw [Dg.vl_dg hB] at h
  exact_mod_cast h
theorem len_le_of_lt (B : Nat) (hB : 2 ≤ B) {n k : Nat} (h : n < B ^ k) : (Dg.dg B n).length ≤ k := by
  induction k generalizing n with
  | zero =>
    have : n = 0 := by simpa using h
    subst this
    rw [Dg.dg_zero]
    simp
  | succ k ih =>
    by_cases hn : n = 0
    · subst hn
      rw [Dg.dg_zero]
      simp
    · rw [Dg.dg_succ hB hn, List.length_cons]
      have : n / B < B ^ k := by
        rw [Nat.div_lt_iff_lt_mul (by omega)]
        rw [Nat.pow_succ] at h
        exact h
      have := ih this
      omega
theorem len_mono (B : Nat) (hB : 2 ≤ B) {m n : Nat} (h : m ≤ n) : (Dg.dg B m).length ≤ (Dg.dg B n).length :=
  len_le_of_lt B hB (Nat.lt_of_le_of_lt h (len_lt B hB n))
theorem len_lt_imp (B : Nat) (hB : 2 ≤ B) {m n : Nat} (h : (Dg.dg B m).length < (Dg.dg B n).length) : m < n := by
  apply Classical.byContradiction
  intro hc
  have := len_mono B hB (Nat.le_of_not_lt hc)
  omega
def L (n : Nat) : Nat := (D n).length
def LE (n : Nat) : Nat := (E n).length
theorem L_lt (n : Nat) : n < 4294967296 ^ L n := len_lt _ (by decide) n
theorem L_le {n k : Nat} (h : n < 4294967296 ^ k) : L n ≤ k := len_le_of_lt _ (by decide) h
theorem LE_lt (n : Nat) : n < 10000 ^ LE n := len_lt _ (by decide) n
theorem LE_le {n k : Nat} (h : n < 10000 ^ k) : LE n ≤ k := len_le_of_lt _ (by decide) h
theorem mul_lt_pow (B : Nat) (hB : 2 ≤ B) {a b i j : Nat} (ha : a < B ^ i) (hb : b < B ^ j) : a * b < B ^ (i + j) := by
  rw [Nat.pow_add]
  rcases Nat.eq_zero_or_pos b with h | h
  · subst h
    rw [Nat.mul_zero]
    exact Nat.mul_pos (Nat.pow_pos (by omega)) (Nat.pow_pos (by omega))
  · exact Nat.lt_of_lt_of_le ((Nat.mul_lt_mul_right h).2 ha) (Nat.mul_le_mul_left _ (Nat.le_of_lt hb))
theorem LE_mul (a b : Nat) : LE (a * b) ≤ LE a + LE b := LE_le (mul_lt_pow _ (by decide) (LE_lt a) (LE_lt b))
theorem L_W (l : List Int) : L (W l) ≤ l.length := by
  apply L_le
  have := Dg.vl_lt (map_dig l) (by decide)
  rw [← W_map, List.length_map, show (4294967296 : Int) = ((4294967296 : Nat) : Int) from rfl, ← Int.natCast_pow] at this
  exact Int.ofNat_lt.1 this
def cmp (a b : Int) : Int := if a < b then -1 else if b < a then 1 else 0
theorem cmp_lt {a b : Int} (h : a < b) : cmp a b = -1 := by unfold cmp; rw [if_pos h]
theorem cmp_gt {a b : Int} (h : b < a) : cmp a b = 1 := by unfold cmp; rw [if_neg (by omega), if_pos h]
theorem cmp_swap (a b : Int) : cmp b a = - cmp a b := by unfold cmp; split <;> (try split) <;> (try split) <;> omega
theorem cmp_vals (a b : Int) : cmp a b = -1 ∨ cmp a b = 0 ∨ cmp a b = 1 := by unfold cmp; split <;> (try split) <;> omega
theorem cmp_top {B : Nat} {a b x y P : Int} (ha0 : 0 ≤ a) (ha : a < P) (hb0 : 0 ≤ b) (hb : b < P) (h : x < y) : a + x * P < b + y * P := by
  have : (x + 1) * P ≤ y * P := Int.mul_le_mul_of_nonneg_right (by omega) (by omega)
  rw [Int.add_mul] at this
  omega
end Go.Proofs.Ytfnhpojoaaegmaa.V
set_option linter.unusedVariables false
set_option linter.unusedSimpArgs false
namespace Go.Proofs.Ytfnhpojoaaegmaa.V
open Go.RowKit Go.Proofs.Ytfnhpojoaaegmaa.P Go.Proofs.YtfnhpojoaaegmaaW.PrintWords
theorem top_take {l : List Int} {n : Nat} (hn : n < l.length) (h : l.getD n 0 ≠ 0) : Dg.Top (l.take (n + 1)) := by
  intro _
  have hl : (l.take (n + 1)).length = n + 1 := by rw [List.length_take]; omega
  rw [hl, Nat.add_sub_cancel]
  rw [List.getD_eq_getElem?_getD, List.getElem?_take_of_lt (by omega), ← List.getD_eq_getElem?_getD]
  exact h
theorem nat_trim_l0 {l : List Int} (hd : Dg.Dig 4294967296 l) (hl : l.length ≤ 35184372088832) : ∀ n : Nat, n ≤ l.length →
    Ev (fun k => nat_trim.l0 k l (n : Int)) (D (Dg.vl 4294967296 (l.take n)).toNat) := by
  intro n
  induction n with
  | zero =>
    intro _
    refine Ev.succ ?_
    simp (disch := omega) only [nat_trim.l0, if_pos, if_neg]
    simp only [List.take_zero, Dg.vl, Int.toNat_zero, D_zero]
    exact Ev.ret _
  | succ n ih =>
    intro hn
    have e : wrap64 (((n + 1 : Nat) : Int) - 1) = (n : Int) := by rw [w64 (by omega) (by omega)]; omega
    refine Ev.succ ?_
    simp (disch := omega) only [nat_trim.l0, e, if_pos, if_neg, rd_nat]
    by_cases h : l.getD n 0 = 0
    · simp only [h, if_true]
      refine Ev.eq (ih (by omega)) ?_
      rw [Dg.vl_take_succ, h]
      simp
    · simp only [h, if_false]
      refine Ev.eq (Ev.ret _) ?_
      rw [Int.toNat_natCast]
      have hdd := hd.take (n + 1)
      refine D_of hdd (top_take (by omega) h) ?_
      have := Dg.vl_nonneg hdd (by decide)
      omega
theorem nat_trim_f {l : List Int} (hd : Dg.Dig 4294967296 l) (hl : l.length ≤ 35184372088832) {n : Nat} (hv : Dg.vl 4294967296 l = n) : Ev (fun k => nat_trim.f k l) (D n) := by
  have := nat_trim_l0 hd hl l.length (Nat.le_refl _)
  rw [List.take_length, hv, Int.toNat_natCast] at this
  exact this
theorem ref_Trim_l0 {l : List Int} (hd : Dg.Dig 10000 l) (hl : l.length ≤ 35184372088832) : ∀ n : Nat, n ≤ l.length →
    Ev (fun k => dendronref01_Trim.l0 k l (n : Int)) (E (Dg.vl 10000 (l.take n)).toNat) := by
  intro n
  induction n with
  | zero =>
    intro _
    refine Ev.succ ?_
    simp (disch := omega) only [dendronref01_Trim.l0, if_pos, if_neg]
    refine Ev.eq (Ev.ret _) ?_
    simp only [List.take_zero, Dg.vl, Int.toNat_zero, E_zero, Int.ofNat_zero, Int.toNat_natCast]
  | succ n ih =>
    intro hn
    have e : wrap64 (((n + 1 : Nat) : Int) - 1) = (n : Int) := by rw [w64 (by omega) (by omega)]; omega
    refine Ev.succ ?_
    simp (disch := omega) only [dendronref01_Trim.l0, e, if_pos, if_neg, rd_nat]
    by_cases h : l.getD n 0 = 0
    · simp only [h, if_true]
      refine Ev.eq (ih (by omega)) ?_
      rw [Dg.vl_take_succ, h]
      simp
    · simp only [h, if_false]
      refine Ev.eq (Ev.ret _) ?_
      rw [Int.toNat_natCast]
      have hdd := hd.take (n + 1)
      refine E_of hdd (top_take (by omega) h) ?_
      have := Dg.vl_nonneg hdd (by decide)
      omega
theorem ref_Trim_f {l : List Int} (hd : Dg.Dig 10000 l) (hl : l.length ≤ 35184372088832) {n : Nat} (hv : Dg.vl 10000 l = n) : Ev (fun k => dendronref01_Trim.f k l) (E n) := by
  have := ref_Trim_l0 hd hl l.length (Nat.le_refl _)
  rw [List.take_length, hv, Int.toNat_natCast] at this
  exact this
theorem set_take {l : List Int} {n : Nat} (v : Int) (h : n < l.length) : (l.set n v).take (n + 1) = l.take n ++ [v] := by
  have h2 : n < (l.set n v).length := by rw [List.length_set]; exact h
  rw [List.take_succ_eq_append_getElem h2, List.getElem_set_self, List.take_set_of_le (Nat.le_refl _)]
theorem map_take_succ {l : List Int} {n : Nat} (f : Int → Int) (h : n < l.length) : (l.map f).take (n + 1) = (l.map f).take n ++ [f (l.getD n 0)] := by
  have h2 : n < (l.map f).length := by rw [List.length_map]; exact h
  rw [List.take_succ_eq_append_getElem h2, List.getElem_map, List.getD_eq_getElem?_getD, List.getElem?_eq_getElem h, Option.getD_some]
theorem U_get {l : List Int} (h : U l) (n : Nat) : 0 ≤ l.getD n 0 ∧ l.getD n 0 ≤ 18446744073709551615 := by
  rw [List.getD_eq_getElem?_getD]
  rcases Nat.lt_or_ge n l.length with hn | hn
  · rw [List.getElem?_eq_getElem hn]; exact h _ (List.getElem_mem hn)
  · rw [List.getElem?_eq_none hn]; simp
theorem nat_Clean_l0 {l : List Int} (hu : U l) (hl : l.length ≤ 35184372088832) : ∀ (d i : Nat) (out : List Int), i + d = l.length → out.length = l.length → out.take i = (l.map (· % 4294967296)).take i →
    Ev (fun k => nat_Clean.l0 k out l (l.length : Int) (i : Int)) (D (W l)) := by
  intro d
  induction d with
  | zero =>
    intro i out hi ho ht
    have e : out = l.map (· % 4294967296) := by
      rw [List.take_of_length_le (by omega), List.take_of_length_le (by rw [List.length_map]; omega)] at ht
      exact ht
    refine Ev.succ ?_
    simp (disch := omega) only [nat_Clean.l0, if_pos, if_neg]
    rw [e]
    refine Ev.bind (nat_trim_f (map_dig l) (by rw [List.length_map]; exact hl) (W_map l).symm) ?_
    exact Ev.ret _
  | succ d ih =>
    intro i out hi ho ht
    have hg := U_get hu i
    have e : wrap64 ((i : Int) + 1) = ((i + 1 : Nat) : Int) := by rw [w64 (by omega) (by omega)]; omega
    refine Ev.succ ?_
    simp (disch := omega) only [nat_Clean.l0, if_pos, if_neg, rd_nat, e, and32, Int.toNat_natCast]
    refine ih (i + 1) _ (by omega) (by rw [List.length_set]; exact ho) ?_
    rw [set_take _ (by omega), map_take_succ _ (by omega), ht]
theorem nat_Clean_f {l : List Int} (hu : U l) (hl : l.length ≤ 35184372088832) : Ev (fun k => nat_Clean.f k l) (D (W l)) := by
  unfold nat_Clean.f
  simp (disch := omega) only [if_pos, Int.toNat_natCast]
  exact nat_Clean_l0 hu hl l.length 0 _ (by omega) (by rw [List.length_replicate]) (by simp)
theorem nat_order_l0 {a b : List Int} (ha : Dg.Dig 4294967296 a) (hb : Dg.Dig 4294967296 b) (hl : a.length = b.length) (hs : a.length ≤ 35184372088832) : ∀ n : Nat, n ≤ a.length →
    Ev (fun k => nat_order.l0 k a b ((n : Int) - 1)) (cmp (Dg.vl 4294967296 (a.take n)) (Dg.vl 4294967296 (b.take n))) := by
  intro n
  induction n with
  | zero =>
    intro _
    refine Ev.succ ?_
    simp (disch := omega) only [nat_order.l0, if_neg]
    exact Ev.ret _
  | succ n ih =>
    intro hn
    have e0 : ((n + 1 : Nat) : Int) - 1 = (n : Int) := by omega
    have e : wrap64 ((n : Int) - 1) = (n : Int) - 1 := w64 (by omega) (by omega)
    have ga := ha.getD (by decide) n
    have gb := hb.getD (by decide) n
    have a0 := Dg.vl_nonneg (ha.take n) (by decide)
    have b0 := Dg.vl_nonneg (hb.take n) (by decide)
    have a1 := Dg.vl_lt (ha.take n) (by decide)
    have b1 := Dg.vl_lt (hb.take n) (by decide)
    have hla : (a.take n).length = n := by rw [List.length_take]; omega
    have hlb : (b.take n).length = n := by rw [List.length_take]; omega
    rw [hla] at a1
    rw [hlb] at b1
    rw [e0]
    refine Ev.succ ?_
    simp (disch := omega) only [nat_order.l0, if_pos, rd_nat, e]
    rw [Dg.vl_take_succ, Dg.vl_take_succ]
    by_cases h1 : a.getD n 0 < b.getD n 0
    · refine Ev.pos h1 (Ev.eq (Ev.ret _) (cmp_lt (cmp_top (B := 0) a0 a1 b0 b1 h1)).symm)
    · refine Ev.neg h1 ?_
      by_cases h2 : b.getD n 0 < a.getD n 0
      · exact Ev.pos h2 (Ev.eq (Ev.ret _) (cmp_gt (cmp_top (B := 0) b0 b1 a0 a1 h2)).symm)
      · refine Ev.neg h2 (Ev.eq (ih (by omega)) ?_)
        have : a.getD n 0 = b.getD n 0 := by omega
        rw [this]
        unfold cmp
        split <;> split <;> (try split) <;> (try split) <;> first | rfl | omega
theorem nat_order_D {m n : Nat} (hm : L m ≤ 35184372088832) (hn : L n ≤ 35184372088832) : Ev (fun k => nat_order.f k (D m) (D n)) (cmp m n) := by
  unfold nat_order.f
  have hm' : (D m).length ≤ 35184372088832 := hm
  have hn' : (D n).length ≤ 35184372088832 := hn
  by_cases h1 : ((D m).length : Int) < ((D n).length : Int)
  · exact Ev.pos h1 (Ev.eq (Ev.ret _) (cmp_lt (by have := len_lt_imp _ (by decide) (show (D m).length < (D n).length by omega); omega)).symm)
  · refine Ev.neg h1 ?_
    by_cases h2 : ((D n).length : Int) < ((D m).length : Int)
    · exact Ev.pos h2 (Ev.eq (Ev.ret _) (cmp_gt (by have := len_lt_imp _ (by decide) (show (D n).length < (D m).length by omega); omega)).symm)
    · refine Ev.neg h2 ?_
      have e : wrap64 (((D m).length : Int) - 1) = ((D m).length : Int) - 1 := w64 (by omega) (by omega)
      simp only [e]
      refine Ev.eq (nat_order_l0 (D_dig m) (D_dig n) (by omega) hm' _ (Nat.le_refl _)) ?_
      rw [List.take_length, show (D m).length = (D n).length by omega, List.take_length, D_vl, D_vl]
theorem nat_Cmp_f {a b : List Int} (ha : U a) (hb : U b) (hla : a.length ≤ 35184372088832) (hlb : b.length ≤ 35184372088832) : Ev (fun k => nat_Cmp.f k a b) (cmp (W a) (W b)) := by
  unfold nat_Cmp.f
  refine Ev.bind (nat_Clean_f ha hla) ?_
  refine Ev.bind (nat_Clean_f hb hlb) ?_
  refine Ev.bind (nat_order_D (Nat.le_trans (L_W a) hla) (Nat.le_trans (L_W b) hlb)) ?_
  exact Ev.ret _
end Go.Proofs.Ytfnhpojoaaegmaa.V
set_option linter.unusedVariables false
set_option linter.unusedSimpArgs false
namespace Go.Proofs.Ytfnhpojoaaegmaa.V
open Go.RowKit Go.Proofs.Ytfnhpojoaaegmaa.P Go.Proofs.YtfnhpojoaaegmaaW.PrintWords
theorem mul_bound {x y M : Int} (hx0 : 0 ≤ x) (hx : x ≤ M) (hy0 : 0 ≤ y) (hy : y ≤ M) : 0 ≤ x * y ∧ x * y ≤ M * M :=
  ⟨Int.mul_nonneg hx0 hy0, Int.le_trans (Int.mul_le_mul_of_nonneg_right hx hy0) (Int.mul_le_mul_of_nonneg_left hy (by omega))⟩
theorem tdiv_pos {x y : Int} (h : 0 ≤ x) : Int.tdiv x y = x / y := Int.tdiv_eq_ediv_of_nonneg h
theorem tmod_pos {x y : Int} (h : 0 ≤ x) : Int.tmod x y = x % y := Int.tmod_eq_emod_of_nonneg h
theorem mul_step {B : Int} {out : List Int} {p : Nat} {c x S t : Int} (hlt : p < out.length) (hv : Dg.vl B out + c * B ^ p = S) (ht : t = c + out.getD p 0 + x) :
    Dg.vl B (out.set p (t % B)) + (t / B) * B ^ (p + 1) = S + x * B ^ p := by
  rw [Dg.vl_set _ _ _ _ hlt, Int.pow_succ]
  have h := Int.mul_ediv_add_emod t B
  have e : (t % B - out.getD p 0) * B ^ p + t / B * (B ^ p * B) = (t - out.getD p 0) * B ^ p := by
    have : t % B = t - B * (t / B) := by omega
    rw [this]
    grind
  rw [Int.add_assoc, e, ht, ← hv]
  grind
theorem zero_set {out : List Int} {p q : Nat} (v : Int) (h : p < q) (hz : ∀ j, q ≤ j → out.getD j 0 = 0) : ∀ j, q ≤ j → (out.set p v).getD j 0 = 0 := by
  intro j hj
  rw [List.getD_eq_getElem?_getD, List.getElem?_set_ne (by omega), ← List.getD_eq_getElem?_getD]
  exact hz j hj
theorem ref_Times_l0 {a b : List Int} (ha : Dg.Dig 10000 a) (hb : Dg.Dig 10000 b) (hl : a.length + b.length ≤ 35184372088832) {n : Nat} (hn : Dg.vl 10000 a * Dg.vl 10000 b = n) :
    ∀ (d i : Nat) (out : List Int), i + d = a.length → out.length = a.length + b.length → Dg.Dig 10000 out → Dg.vl 10000 out = Dg.vl 10000 (a.take i) * Dg.vl 10000 b → (∀ j, i + b.length ≤ j → out.getD j 0 = 0) →
    Ev (fun k => dendronref01_Times.l0 k a b out (i : Int)) (E n) := by
  intro d
  induction d with
  | zero =>
    intro i out hi ho hd hv hz
    refine Ev.succ ?_
    simp (disch := omega) only [dendronref01_Times.l0, if_neg]
    refine Ev.bind (ref_Trim_f hd (by omega) (n := n) ?_) (Ev.ret _)
    rw [hv, List.take_of_length_le (by omega), hn]
  | succ d ih =>
    intro i out hi ho hd hv hz
    refine Ev.succ ?_
    simp (disch := omega) only [dendronref01_Times.l0, if_pos]
    have gi := ha.getD (by decide) i
    have inner : ∀ (e m : Nat) (o : List Int) (c : Int), m + e = b.length → o.length = a.length + b.length → Dg.Dig 10000 o → 0 ≤ c → c ≤ 9999 → (∀ j, i + b.length ≤ j → o.getD j 0 = 0) →
        Dg.vl 10000 o + c * 10000 ^ (i + m) = Dg.vl 10000 out + a.getD i 0 * Dg.vl 10000 (b.take m) * 10000 ^ i → Ev (fun k => dendronref01_Times.l1 k a b o (i : Int) c (m : Int)) (E n) := by
      intro e
      induction e with
      | zero =>
        intro m o c hm ho2 hd2 hc0 hc1 hz2 hv2
        refine Ev.succ ?_
        simp (disch := omega) only [dendronref01_Times.l1, if_neg, if_pos, w64add, w64succ, Int.toNat_natCast]
        refine ih (i + 1) _ (by omega) (by rw [List.length_set]; exact ho2) (hd2.set _ hc0 (by omega)) ?_ ?_
        · have hmb : m = b.length := by omega
          subst hmb
          rw [Dg.vl_set _ _ _ _ (by omega), hz2 _ (Nat.le_refl _), Int.sub_zero, hv2, List.take_length, hv, Dg.vl_take_succ]
          grind
        · intro j hj
          exact zero_set c (q := i + b.length + 1) (by omega) (fun j hj => hz2 j (by omega)) j (by omega)
      | succ e ih2 =>
        intro m o c hm ho2 hd2 hc0 hc1 hz2 hv2
        have gm := hb.getD (by decide) m
        have go := hd2.getD (by decide) (i + m)
        have hx := mul_bound gi.1 (show a.getD i 0 ≤ 9999 by omega) gm.1 (show b.getD m 0 ≤ 9999 by omega)
        refine Ev.succ ?_
        simp (disch := omega) only [dendronref01_Times.l1, if_pos, rd_add, tn_add, rd_nat, w64, tdiv_pos, tmod_pos, Int.toNat_natCast]
        refine ih2 (m + 1) _ _ (by omega) (by rw [List.length_set]; exact ho2) (hd2.set _ (by omega) (by omega)) (by omega) (by omega) ?_ ?_
        · exact zero_set _ (by omega) hz2
        · have := mul_step (B := 10000) (x := a.getD i 0 * b.getD m 0) (show i + m < o.length by omega) hv2 (t := c + o.getD (i + m) 0 + a.getD i 0 * b.getD m 0) rfl
          rw [show i + (m + 1) = i + m + 1 by omega, this, Dg.vl_take_succ, Int.pow_add]
          grind
    refine inner b.length 0 out 0 (by omega) ho hd (by omega) (by omega) hz ?_
    simp [Dg.vl]
theorem ref_Times_f {x y : Nat} (hl : LE x + LE y ≤ 35184372088832) : Ev (fun k => dendronref01_Times.f k (E x) (E y)) (E (x * y)) := by
  have hl' : (E x).length + (E y).length ≤ 35184372088832 := hl
  unfold dendronref01_Times.f
  simp (disch := omega) only [w64add, if_pos, Int.toNat_natCast]
  refine ref_Times_l0 (E_dig x) (E_dig y) hl' (n := x * y) ?_ (E x).length 0 _ (by omega) (by rw [List.length_replicate]) (Dg.Dig.replicate (by decide) _) ?_ ?_
  · rw [E_vl, E_vl]; exact (Int.natCast_mul x y).symm
  · rw [Dg.vl_replicate_zero]; simp [Dg.vl]
  · intro j hj
    rw [List.getD_eq_getElem?_getD]
    by_cases h : j < (E x).length + (E y).length
    · simp [List.getElem?_replicate, h]
    · simp [List.getElem?_replicate, h]
theorem ref_digit_f (l : List Int) (i : Nat) : dendronref01_digit.f l (i : Int) = some (l.getD i 0) := by
  unfold dendronref01_digit.f
  by_cases h : (i : Int) < (l.length : Int)
  · rw [if_pos h, if_pos (by omega), rd_nat]
  · rw [if_neg h, List.getD_eq_getElem?_getD, List.getElem?_eq_none (by omega)]
    rfl
theorem getD_beyond {l : List Int} {i : Nat} (h : l.length ≤ i) : l.getD i 0 = 0 := by rw [List.getD_eq_getElem?_getD, List.getElem?_eq_none h]; rfl
theorem getD_snoc {l : List Int} {i : Nat} (x : Int) (h : l.length = i) : (l ++ [x]).getD i 0 = x := by
  subst h
  rw [List.getD_eq_getElem?_getD, List.getElem?_append_right (Nat.le_refl _), Nat.sub_self]
  rfl
theorem vl_snoc (B : Int) (l : List Int) (x : Int) : Dg.vl B (l ++ [x]) = Dg.vl B l + x * B ^ l.length := by
  rw [Dg.vl_append]
  simp [Dg.vl]
  exact Int.mul_comm _ _
theorem ref_Plus_l0 {a b : List Int} (ha : Dg.Dig 10000 a) (hb : Dg.Dig 10000 b) (ta : Dg.Top a) (tb : Dg.Top b) (hla : a.length ≤ 4398046511104) (hlb : b.length ≤ 4398046511104) {n : Nat} (hn : Dg.vl 10000 a + Dg.vl 10000 b = n) :
    ∀ (d i : Nat) (out : List Int) (c : Int), max a.length b.length + 1 ≤ i + d → i ≤ max a.length b.length + 1 → (i = max a.length b.length + 1 → c = 0) → out.length = i → Dg.Dig 10000 out → 0 ≤ c → c ≤ 1 → Dg.vl 10000 out + c * 10000 ^ i = Dg.vl 10000 (a.take i) + Dg.vl 10000 (b.take i) →
    (i = 0 ∨ i < max a.length b.length ∨ c ≠ 0 ∨ out.getD (i - 1) 0 ≠ 0) → Ev (fun k => dendronref01_Plus.l0 k a b out c (i : Int)) (E n) := by
  intro d
  induction d with
  | zero =>
    intro i out c hid hi2 hc9 ho hd hc0 hc1 hv ht
    have hi : i = max a.length b.length + 1 := by omega
    have hc := hc9 hi
    subst hc
    refine Ev.succ ?_
    simp (disch := omega) only [dendronref01_Plus.l0, if_neg]
    refine Ev.succ ?_
    simp (disch := omega) only [dendronref01_Plus.j1]
    refine Ev.eq (Ev.ret _) (E_of hd ?_ ?_)
    · intro _
      rw [ho]
      rcases ht with h | h | h | h
      · omega
      · omega
      · exact absurd rfl h
      · exact h
    · rw [List.take_of_length_le (by omega), List.take_of_length_le (by omega), hn] at hv
      simpa using hv
  | succ d ih =>
    intro i out c hid hi2 hc9 ho hd hc0 hc1 hv ht
    by_cases hgo : i < a.length ∨ i < b.length ∨ 0 < c
    · have ga := ha.getD (by decide) i
      have gb := hb.getD (by decide) i
      have hig : i ≤ max a.length b.length := by
        rcases Nat.lt_or_ge (max a.length b.length) i with h | h
        · have := hc9 (by omega); omega
        · exact h
      have step : Ev (fun k => dendronref01_Plus.j1 k a b out c (i : Int) true) (E n) := by
        refine Ev.succ ?_
        simp (disch := omega) only [dendronref01_Plus.j1, ref_digit_f, Option.bind_some, if_true, w64, tdiv_pos, tmod_pos, w64succ, if_pos]
        refine ih (i + 1) _ _ (by omega) (by omega) ?_ (by simp [ho]) (hd.append (Dg.Dig.cons (by omega) (by omega) Dg.Dig.nil)) (by omega) (by omega) ?_ ?_
        · intro h9
          have h1 := getD_beyond (l := a) (i := i) (by omega)
          have h2 := getD_beyond (l := b) (i := i) (by omega)
          rw [h1, h2]
          omega
        · rw [vl_snoc, ho, Dg.vl_take_succ, Dg.vl_take_succ, Int.pow_succ]
          have h := Int.mul_ediv_add_emod (c + a.getD i 0 + b.getD i 0) 10000
          grind
        · by_cases h9 : i + 1 < max a.length b.length
          · exact .inr (.inl h9)
          · refine .inr (.inr ?_)
            rw [Nat.add_sub_cancel, getD_snoc _ ho]
            have hs : 0 < c + a.getD i 0 + b.getD i 0 := by
              rcases Nat.lt_or_ge i (max a.length b.length) with h | h
              · by_cases hab : a.length = max a.length b.length
                · have := ta (fun e => by have h0 : a.length = 0 := (by rw [e]; rfl); omega)
                  rw [show a.length - 1 = i by omega] at this
                  omega
                · have := tb (fun e => by have h0 : b.length = 0 := (by rw [e]; rfl); omega)
                  rw [show b.length - 1 = i by omega] at this
                  omega
              · omega
            by_cases hq : (c + a.getD i 0 + b.getD i 0) / 10000 = 0
            · right; omega
            · left; exact hq
      refine Ev.succ ?_
      simp only [dendronref01_Plus.l0]
      by_cases h1 : (i : Int) < (a.length : Int)
      · exact Ev.pos h1 step
      · refine Ev.neg h1 ?_
        by_cases h2 : (i : Int) < (b.length : Int)
        · exact Ev.pos h2 step
        · refine Ev.neg h2 ?_
          have : decide (c > 0) = true := decide_eq_true (by omega)
          rw [this]
          exact step
    · have hc : c = 0 := by omega
      subst hc
      refine Ev.succ ?_
      simp (disch := omega) only [dendronref01_Plus.l0, if_neg]
      refine Ev.succ ?_
      simp (disch := omega) only [dendronref01_Plus.j1]
      refine Ev.eq (Ev.ret _) (E_of hd ?_ ?_)
      · intro hne
        rw [ho]
        rcases ht with h | h | h | h
        · subst h
          exact absurd (List.length_eq_zero_iff.1 ho) hne
        · omega
        · exact absurd rfl h
        · exact h
      · rw [List.take_of_length_le (by omega), List.take_of_length_le (by omega), hn] at hv
        simpa using hv
theorem ref_Plus_f {x y : Nat} (hx : LE x ≤ 4398046511104) (hy : LE y ≤ 4398046511104) : Ev (fun k => dendronref01_Plus.f k (E x) (E y)) (E (x + y)) := by
  unfold dendronref01_Plus.f
  refine ref_Plus_l0 (E_dig x) (E_dig y) (E_top x) (E_top y) hx hy (n := x + y) (by rw [E_vl, E_vl]; omega) (max (E x).length (E y).length + 1) 0 [] 0 (by omega) (by omega) (by omega) rfl Dg.Dig.nil (by omega) (by omega) (by simp [Dg.vl]) (.inl rfl)
theorem ref_Small_l0 (out : List Int) : ∀ (n : Nat), out.length + LE n ≤ 4398046511104 → n ≤ 9223372036854775807 → Ev (fun k => dendronref01_Small.l0 k (n : Int) out) (out ++ E n) := by
  intro n
  induction n using Nat.strongRecOn generalizing out with
  | _ n ih =>
    intro hl hn
    refine Ev.succ ?_
    by_cases h0 : n = 0
    · subst h0
      simp (disch := omega) only [dendronref01_Small.l0, if_neg]
      rw [E_zero, List.append_nil]
      exact Ev.ret _
    · have hE : E n = ((n % 10000 : Nat) : Int) :: E (n / 10000) := Dg.dg_succ (by decide) h0
      have hLE : LE n = LE (n / 10000) + 1 := by unfold LE; rw [hE]; rfl
      simp (disch := omega) only [dendronref01_Small.l0, if_pos, tdiv_pos, tmod_pos, w64]
      have := ih (n / 10000) (Nat.div_lt_self (by omega) (by omega)) (out ++ [((n % 10000 : Nat) : Int)]) (by rw [List.length_append, List.length_singleton]; omega) (by omega)
      rw [hE]
      have e1 : ((n / 10000 : Nat) : Int) = (n : Int) / 10000 := by omega
      have e2 : ((n % 10000 : Nat) : Int) = (n : Int) % 10000 := by omega
      rw [e1, e2] at this
      rw [e2]
      rw [List.append_assoc] at this
      exact this
theorem LE_u64 {n : Nat} (h : n ≤ 18446744073709551615) : LE n ≤ 5 := LE_le (by omega)
theorem ref_Small_f {x : Int} {n : Nat} (h : x = n) (hn : n ≤ 9223372036854775807) : Ev (fun k => dendronref01_Small.f k x) (E n) := by
  subst h
  unfold dendronref01_Small.f
  have := LE_u64 (n := n) (by omega)
  exact ref_Small_l0 [] n (by simp; omega) hn
theorem ref_Order_l0 {a b : List Int} (ha : Dg.Dig 10000 a) (hb : Dg.Dig 10000 b) (hl : a.length = b.length) (hs : a.length ≤ 35184372088832) : ∀ n : Nat, n ≤ a.length →
    Ev (fun k => dendronref01_Order.l0 k a b ((n : Int) - 1)) (cmp (Dg.vl 10000 (a.take n)) (Dg.vl 10000 (b.take n))) := by
  intro n
  induction n with
  | zero =>
    intro _
    refine Ev.succ ?_
    simp (disch := omega) only [dendronref01_Order.l0, if_neg]
    exact Ev.ret _
  | succ n ih =>
    intro hn
    have e0 : ((n + 1 : Nat) : Int) - 1 = (n : Int) := by omega
    have a0 := Dg.vl_nonneg (ha.take n) (by decide)
    have b0 := Dg.vl_nonneg (hb.take n) (by decide)
    have a1 := Dg.vl_lt (ha.take n) (by decide)
    have b1 := Dg.vl_lt (hb.take n) (by decide)
    have hla : (a.take n).length = n := by rw [List.length_take]; omega
    have hlb : (b.take n).length = n := by rw [List.length_take]; omega
    rw [hla] at a1
    rw [hlb] at b1
    rw [e0]
    refine Ev.succ ?_
    simp (disch := omega) only [dendronref01_Order.l0, if_pos, rd_nat, w64pred]
    rw [Dg.vl_take_succ, Dg.vl_take_succ]
    by_cases h1 : a.getD n 0 < b.getD n 0
    · refine Ev.pos h1 (Ev.eq (Ev.ret _) (cmp_lt (cmp_top (B := 0) a0 a1 b0 b1 h1)).symm)
    · refine Ev.neg h1 ?_
      by_cases h2 : b.getD n 0 < a.getD n 0
      · exact Ev.pos h2 (Ev.eq (Ev.ret _) (cmp_gt (cmp_top (B := 0) b0 b1 a0 a1 h2)).symm)
      · refine Ev.neg h2 (Ev.eq (ih (by omega)) ?_)
        have : a.getD n 0 = b.getD n 0 := by omega
        rw [this]
        unfold cmp
        split <;> split <;> (try split) <;> (try split) <;> first | rfl | omega
theorem ref_Order_f {m n : Nat} (hm : LE m ≤ 35184372088832) (hn : LE n ≤ 35184372088832) : Ev (fun k => dendronref01_Order.f k (E m) (E n)) (cmp m n) := by
  unfold dendronref01_Order.f
  have hm' : (E m).length ≤ 35184372088832 := hm
  have hn' : (E n).length ≤ 35184372088832 := hn
  by_cases h0 : ((E m).length : Int) = ((E n).length : Int)
  · refine Ev.pos h0 ?_
    simp (disch := omega) only [w64pred]
    refine Ev.eq (ref_Order_l0 (E_dig m) (E_dig n) (by omega) hm' _ (Nat.le_refl _)) ?_
    rw [List.take_length, show (E m).length = (E n).length by omega, List.take_length, E_vl, E_vl]
  · refine Ev.neg h0 ?_
    by_cases h1 : ((E m).length : Int) < ((E n).length : Int)
    · exact Ev.pos h1 (Ev.eq (Ev.ret _) (cmp_lt (by have := len_lt_imp 10000 (by decide) (show (E m).length < (E n).length by omega); omega)).symm)
    · exact Ev.neg h1 (Ev.eq (Ev.ret _) (cmp_gt (by have := len_lt_imp 10000 (by decide) (show (E n).length < (E m).length by omega); omega)).symm)
theorem LE_L (n : Nat) : LE n ≤ 3 * L n := by
  apply LE_le
  refine Nat.lt_of_lt_of_le (L_lt n) ?_
  rw [Nat.pow_mul]
  exact Nat.pow_le_pow_left (by decide) _
theorem W_drop_succ (l : List Int) (n : Nat) (h : n < l.length) : W (l.drop n) = (l.getD n 0 % 4294967296).toNat + 4294967296 * W (l.drop (n + 1)) := by
  have h1 := W_map (l.drop n)
  have h2 := W_map (l.drop (n + 1))
  rw [List.map_drop, Dg.vl_drop_succ, ← List.map_drop] at h1
  rw [← h2] at h1
  have h3 : (l.map (· % 4294967296)).getD n 0 = l.getD n 0 % 4294967296 := by
    rw [List.getD_eq_getElem?_getD, List.getD_eq_getElem?_getD, List.getElem?_map, List.getElem?_eq_getElem h]
    rfl
  rw [h3] at h1
  omega
theorem ref_From_l0 {l : List Int} (hu : U l) (hl : l.length ≤ 1000000000000) : ∀ n : Nat, n ≤ l.length → Ev (fun k => dendronref01_From.l0 k l (E (W (l.drop n))) (E 4294967296) ((n : Int) - 1)) (E (W l)) := by
  intro n
  induction n with
  | zero =>
    intro _
    refine Ev.succ ?_
    simp (disch := omega) only [dendronref01_From.l0, if_neg, List.drop_zero]
    exact Ev.ret _
  | succ n ih =>
    intro hn
    have e0 : ((n + 1 : Nat) : Int) - 1 = (n : Int) := by omega
    have hg := U_get hu n
    have hL1 : LE (W (l.drop (n + 1))) ≤ 3 * l.length := Nat.le_trans (LE_L _) (Nat.mul_le_mul_left _ (Nat.le_trans (L_W _) (by rw [List.length_drop]; omega)))
    have h5 : LE 4294967296 ≤ 5 := LE_u64 (by omega)
    have hL2 := LE_mul (W (l.drop (n + 1))) 4294967296
    have hv := W_drop_succ l n (by omega)
    have hs : LE (l.getD n 0 % 4294967296).toNat ≤ 5 := LE_u64 (by omega)
    rw [e0]
    refine Ev.succ ?_
    simp (disch := omega) only [dendronref01_From.l0, if_pos, rd_nat, w64pred, and32, w64]
    refine Ev.bind (ref_Times_f (by omega)) ?_
    refine Ev.bind (ref_Small_f (n := (l.getD n 0 % 4294967296).toNat) (by omega) (by omega)) ?_
    refine Ev.bind (ref_Plus_f (by omega) (by omega)) ?_
    have : W (l.drop (n + 1)) * 4294967296 + (l.getD n 0 % 4294967296).toNat = W (l.drop n) := by omega
    rw [this]
    exact ih (by omega)
theorem ref_From_f {l : List Int} (hu : U l) (hl : l.length ≤ 1000000000000) : Ev (fun k => dendronref01_From.f k l) (E (W l)) := by
  unfold dendronref01_From.f
  refine Ev.bind (ref_Small_f (n := 4294967296) rfl (by omega)) ?_
  simp (disch := omega) only [w64pred]
  have := ref_From_l0 hu hl l.length (Nat.le_refl _)
  rw [List.drop_length, W_nil, E_zero] at this
  exact this
end Go.Proofs.Ytfnhpojoaaegmaa.V
namespace Go.Proofs.Ytfnhpojoaaegmaa.V
open Go.RowKit Go.Proofs.Ytfnhpojoaaegmaa.P Go.Proofs.YtfnhpojoaaegmaaW.PrintWords
set_option maxRecDepth 100000 in
theorem awake_f : Ev (fun k => dendronlaw01_awake.f k) true := Ev.of (fun k => dendronlaw01_awake.mono k) (k := 100) (by decide +kernel)
theorem few_f (l : List Int) (n : Nat) : dendronlaw01_few.f l (n : Int) = some (l.take n) := by
  unfold dendronlaw01_few.f
  by_cases h : (l.length : Int) > (n : Int)
  · rw [if_pos h, if_pos (by omega), if_pos (by omega), Int.toNat_natCast]
  · rw [if_neg h, List.take_of_length_le (by omega)]
theorem U_take {l : List Int} (h : U l) (n : Nat) : U (l.take n) := fun x hx => h x (List.mem_of_mem_take hx)
theorem U_wf {l : List Int} (h : ∀ x ∈ l, (Lit.int .u64 x).wf = true) : U l := fun x hx => wf_u64 (h x hx)
theorem take_le (l : List Int) (n : Nat) : (l.take n).length ≤ n := by rw [List.length_take]; omega
theorem LE_W (l : List Int) : LE (W l) ≤ 3 * l.length := Nat.le_trans (LE_L _) (Nat.mul_le_mul_left _ (L_W l))
end Go.Proofs.Ytfnhpojoaaegmaa.V
namespace Go.Proofs.Ytfnhpojoaaegmaa.Pure
open Go.RowKit Go.Proofs.Ytfnhpojoaaegmaa.P Go.Proofs.Ytfnhpojoaaegmaa.V Go.Proofs.YtfnhpojoaaegmaaW.PrintWords
theorem NatOrders : dendronlaw01_NatOrders.Pure := by
  intro l0 l1 _ _ h0 _ _ h1
  have ha := U_take (U_wf h0) 40
  have hb := U_take (U_wf h1) 40
  have la := take_le l0 40
  have lb := take_le l1 40
  apply Ev.ex
  unfold dendronlaw01_NatOrders.f
  refine Ev.bind1 (few_f l0 40) (Ev.bind1 (few_f l1 40) ?_)
  generalize l0.take 40 = a at *
  generalize l1.take 40 = b at *
  have Ea := LE_W a
  have Eb := LE_W b
  have hv := cmp_vals (W a : Int) (W b)
  refine Ev.bind (nat_Cmp_f ha hb (by omega) (by omega)) ?_
  refine Ev.bind (ref_From_f ha (by omega)) ?_
  refine Ev.bind (ref_From_f hb (by omega)) ?_
  refine Ev.bind (ref_Order_f (by omega) (by omega)) ?_
  refine Ev.pos rfl ?_
  refine Ev.bind (nat_Cmp_f hb ha (by omega) (by omega)) ?_
  refine Ev.bind (nat_Cmp_f ha hb (by omega) (by omega)) ?_
  refine Ev.pos ?_ ?_
  · rw [w64 (by omega) (by omega)]
    exact cmp_swap _ _
  refine Ev.bind awake_f ?_
  exact Ev.ret _
end Go.Proofs.Ytfnhpojoaaegmaa.Pure
namespace Go.Proofs.YtfnhpojoaaegmaaW.PrintWords
open Go.ChangeShapes Go.WideShapes
theorem sized_ints {H : Type} {enc : TypeId × Value → H} {P : Program} {W : World} {base : Nat} {spare : Nat → Bool} {held : Bool} {t e : TypeId} {k : IntKind} {a : Option Addr} {len cap : Nat} {d : DataW H} {ps : List MemPlace} {ts : List TypeId} {ds : List (DataW H)} {j : Nat}
    (hsz : (DataW.weightsEach P ts ds).all (· ≤ reachBytes) = true) (ht : ts[j]? = some t) (hd : ds[j]? = some d) (hu : P.underlying t = some (.slice e)) (he : P.underlying e = some (.int k)) (hc : P.cellsOf e = 1) {B : Nat} (hB : P.bytesOf e = B)
    (h : DataW.Trod enc P W base spare held t (.slice a len cap) d ps) : len * B ≤ 140737488351232 := by
  obtain ⟨fuel, hf⟩ := h
  rcases open_ints hu he hc hf with ⟨hcs, _⟩ | ⟨x, l, c, zs, hcs, _, hl, _, hz, hx, _, _⟩
  · simp [Value.cells] at hcs
    obtain ⟨rfl, rfl, rfl⟩ := hcs
    simp
  · simp [Value.cells] at hcs
    obtain ⟨rfl, rfl, rfl⟩ := hcs
    obtain ⟨hx, _⟩ := Prod.mk.inj hx
    subst hx
    have z := sized_slice hsz ht hd hu
    rw [hB] at z
    have hl2 : len ≤ zs.length := by
      rw [hz]
      split
      · exact hl
      · exact Nat.le_refl _
    have h1 : (lits (H := H) k (zs.take len)).length + (lits (H := H) k (zs.drop len)).length = zs.length := by
      simp [lits]
      omega
    rw [h1] at z
    exact Nat.le_trans (Nat.mul_le_mul_right _ hl2) z
end Go.Proofs.YtfnhpojoaaegmaaW.PrintWords
