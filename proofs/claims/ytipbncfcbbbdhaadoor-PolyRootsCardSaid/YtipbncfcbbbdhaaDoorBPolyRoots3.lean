/- Part 3 of the texts of PolyRoots: words, the machine's side of functions (written by a program), plain lemmas. -/
import Derived.Test.YtipbncfcbbbdhaaDoorBPolyRoots2
import Derived.Below
set_option linter.unusedVariables false
set_option linter.unusedSimpArgs false
set_option linter.unusedSimpArgs false
set_option linter.unusedVariables false
open Go
namespace Go.Pe
abbrev Fn := Nat → Rat
def sh (f : Fn) : Fn := fun i => f (i + 1)
def mu : Fn → Fn → Nat → Rat
  | f, g, 0 => f 0 * g 0
  | f, g, j + 1 => f 0 * g (j + 1) + mu (sh f) g j
theorem mu_zero (f g : Fn) : mu f g 0 = f 0 * g 0 := by rw [mu]
theorem mu_succ (f g : Fn) (j : Nat) : mu f g (j + 1) = f 0 * g (j + 1) + mu (sh f) g j := by rw [mu]
theorem mu_addl (f f' g : Fn) : ∀ j, mu (fun i => f i + f' i) g j = mu f g j + mu f' g j := by
  intro j
  induction j generalizing f f' with
  | zero => rw [mu_zero, mu_zero, mu_zero]; grind
  | succ j ih => rw [mu_succ, mu_succ, mu_succ, show sh (fun i => f i + f' i) = fun i => sh f i + sh f' i from rfl, ih]; grind
theorem mu_scl (c : Rat) (f g : Fn) : ∀ j, mu (fun i => c * f i) g j = c * mu f g j := by
  intro j
  induction j generalizing f with
  | zero => rw [mu_zero, mu_zero]; grind
  | succ j ih => rw [mu_succ, mu_succ, show sh (fun i => c * f i) = fun i => c * sh f i from rfl, ih]; grind
theorem mu_scr (c : Rat) (f g : Fn) : ∀ j, mu f (fun i => c * g i) j = c * mu f g j := by
  intro j
  induction j generalizing f with
  | zero => rw [mu_zero, mu_zero]; grind
  | succ j ih => rw [mu_succ, mu_succ, ih]; grind
theorem mu_z (g : Fn) : ∀ j, mu (fun _ => 0) g j = 0 := by
  intro j
  induction j with
  | zero => rw [mu_zero]; grind
  | succ j ih => rw [mu_succ, show sh (fun _ => (0 : Rat)) = fun _ => 0 from rfl, ih]; grind
theorem mu_right (f g : Fn) : ∀ j, mu f g (j + 1) = mu f (sh g) j + f (j + 1) * g 0 := by
  intro j
  induction j generalizing f with
  | zero => rw [mu_succ, mu_zero, mu_zero]; rfl
  | succ j ih => rw [mu_succ, ih, mu_succ f (sh g)]; show _ + (_ + f (j + 1 + 1) * g 0) = f 0 * g (j + 1 + 1) + _ + _; grind
theorem mu_comm (f g : Fn) : ∀ j, mu f g j = mu g f j := by
  intro j
  induction j generalizing f with
  | zero => rw [mu_zero, mu_zero]; grind
  | succ j ih => rw [mu_succ, mu_right g f, ih]; grind
theorem mu_comm' (f g : Fn) : mu f g = mu g f := funext (mu_comm f g)
theorem mu_assoc (f g h : Fn) : ∀ j, mu (mu f g) h j = mu f (mu g h) j := by
  intro j
  induction j generalizing f with
  | zero => rw [mu_zero, mu_zero, mu_zero, mu_zero]; grind
  | succ j ih =>
    rw [mu_succ, mu_succ f]
    have e : sh (mu f g) = fun i => f 0 * sh g i + mu (sh f) g i := by funext i; exact mu_succ f g i
    rw [e, mu_addl, mu_scl, ih, mu_zero, mu_succ g h]
    grind
theorem mu_subl (f f' g : Fn) (j : Nat) : mu (fun i => f i - f' i) g j = mu f g j - mu f' g j := by
  have e : (fun i => f i - f' i) = fun i => f i + (-1) * f' i := by funext i; grind
  rw [e, mu_addl, mu_scl]; grind
def cv (f g : Fn) : Nat → Nat → Rat
  | 0, _ => 0
  | n + 1, j => cv f g n j + (if n ≤ j then f n * g (j - n) else 0)
theorem cv_front (f g : Fn) (j : Nat) : ∀ n, cv f g (n + 1) (j + 1) = f 0 * g (j + 1) + cv (sh f) g n j := by
  intro n
  induction n with
  | zero => unfold cv; unfold cv; rw [if_pos (by omega)]; rw [Nat.sub_zero]; grind
  | succ n ih =>
    rw [cv, ih]
    show _ = _ + (cv (sh f) g n j + (if n ≤ j then f (n + 1) * g (j - n) else 0))
    rw [show j + 1 - (n + 1) = j - n by omega]
    by_cases c : n ≤ j
    · rw [if_pos c, if_pos (by omega)]; grind
    · rw [if_neg c, if_neg (by omega)]; grind
theorem cv_mu (f g : Fn) : ∀ j, cv f g (j + 1) j = mu f g j := by
  intro j
  induction j generalizing f with
  | zero => unfold cv; unfold cv; rw [if_pos (by omega), mu_zero]; grind
  | succ j ih => rw [cv_front, ih, mu_succ]
def Dg (f : Fn) (n : Nat) : Prop := ∀ i, n ≤ i → f i = 0
theorem Dg.mono {f : Fn} {n m : Nat} (h : Dg f n) (hm : n ≤ m) : Dg f m := fun i hi => h i (by omega)
theorem cv_ge (f g : Fn) (j : Nat) : ∀ d n, (∀ i, n ≤ i → i ≤ j → f i = 0) → cv f g (n + d) j = cv f g n j := by
  intro d
  induction d with
  | zero => intro n _; rfl
  | succ d ih =>
    intro n h
    show cv f g (n + d) j + (if n + d ≤ j then f (n + d) * g (j - (n + d)) else 0) = _
    rw [ih n h]
    by_cases c : n + d ≤ j
    · rw [if_pos c, h (n + d) (by omega) c]; grind
    · rw [if_neg c]; grind
theorem cv_dg {f : Fn} {n : Nat} (h : Dg f n) (g : Fn) (j : Nat) : cv f g n j = mu f g j := by
  rw [← cv_mu]
  rcases Nat.le_total n (j + 1) with c | c
  · have := cv_ge f g j (j + 1 - n) n (fun i hi _ => h i hi)
    rw [← this, show n + (j + 1 - n) = j + 1 by omega]
  · have := cv_ge f g j (n - (j + 1)) (j + 1) (fun i hi hj => by omega)
    rw [← this, show j + 1 + (n - (j + 1)) = n by omega]
theorem mu_dg {f g : Fn} {n m : Nat} (hf : Dg f n) (hg : Dg g m) : ∀ j, n + m ≤ j + 1 → mu f g j = 0 := by
  induction n generalizing f with
  | zero =>
    intro j _
    have e : f = fun _ => 0 := by funext i; exact hf i (by omega)
    rw [e, mu_z]
  | succ n ih =>
    intro j hj
    cases j with
    | zero => rw [mu_zero, hg 0 (by omega)]; grind
    | succ j =>
      rw [mu_succ, hg (j + 1) (by omega), ih (f := sh f) (fun i hi => hf (i + 1) (by omega)) j (by omega)]; grind
theorem mu_dg' {f g : Fn} {n m : Nat} (hf : Dg f n) (hg : Dg g m) : Dg (mu f g) (n + m - 1) := fun j hj => mu_dg hf hg j (by omega)
theorem mu_top {f g : Fn} {a b : Nat} (hf : Dg f (a + 1)) (hg : Dg g (b + 1)) : mu f g (a + b) = f a * g b := by
  induction a generalizing f with
  | zero =>
    have e : sh f = fun _ => 0 := by funext i; exact hf (i + 1) (by omega)
    rw [Nat.zero_add]
    cases b with
    | zero => rw [mu_zero]
    | succ b => rw [mu_succ, e, mu_z]; grind
  | succ a ih =>
    rw [show a + 1 + b = (a + b) + 1 by omega, mu_succ, ih (f := sh f) (fun i hi => hf (i + 1) (by omega)), hg (a + b + 1) (by omega)]
    show _ + f (a + 1) * g b = _
    grind
theorem mu_low {t g : Fn} {b : Nat} (hg : Dg g (b + 1)) (h0 : g b ≠ 0) (hr : Dg (mu t g) b) : ∀ n, Dg t n → ∀ i, t i = 0 := by
  intro n
  induction n with
  | zero => intro h i; exact h i (by omega)
  | succ n ih =>
    intro h
    refine ih fun i hi => ?_
    by_cases e : i = n
    · have h1 := mu_top h hg
      rw [hr (n + b) (by omega)] at h1
      rw [e]
      rcases Rat.mul_eq_zero.1 h1.symm with k | k
      · exact k
      · exact absurd k h0
    · exact h i (by omega)
def ef : Fn → Nat → Rat → Rat
  | _, 0, _ => 0
  | f, n + 1, x => f 0 + x * ef (sh f) n x
theorem ef_zero (f : Fn) (x : Rat) : ef f 0 x = 0 := by rw [ef]
theorem ef_succ (f : Fn) (n : Nat) (x : Rat) : ef f (n + 1) x = f 0 + x * ef (sh f) n x := by rw [ef]
theorem ef_add (f g : Fn) (x : Rat) : ∀ n, ef (fun i => f i + g i) n x = ef f n x + ef g n x := by
  intro n
  induction n generalizing f g with
  | zero => rw [ef_zero, ef_zero, ef_zero]; grind
  | succ n ih => rw [ef_succ, ef_succ, ef_succ, show sh (fun i => f i + g i) = fun i => sh f i + sh g i from rfl, ih]; grind
theorem ef_sc (c : Rat) (f : Fn) (x : Rat) : ∀ n, ef (fun i => c * f i) n x = c * ef f n x := by
  intro n
  induction n generalizing f with
  | zero => rw [ef_zero, ef_zero]; grind
  | succ n ih => rw [ef_succ, ef_succ, show sh (fun i => c * f i) = fun i => c * sh f i from rfl, ih]; grind
theorem ef_z (x : Rat) : ∀ n, ef (fun _ => 0) n x = 0 := by
  intro n
  induction n with
  | zero => rw [ef_zero]
  | succ n ih => rw [ef_succ, show sh (fun _ => (0 : Rat)) = fun _ => 0 from rfl, ih]; grind
theorem ef_dg {f : Fn} {n m : Nat} (h : Dg f n) (hm : n ≤ m) (x : Rat) : ef f m x = ef f n x := by
  induction n generalizing f m with
  | zero =>
    have e : f = fun _ => 0 := by funext i; exact h i (by omega)
    rw [e, ef_z, ef_z]
  | succ n ih =>
    obtain ⟨m, rfl⟩ : ∃ k, m = k + 1 := ⟨m - 1, by omega⟩
    rw [ef_succ, ef_succ, ih (f := sh f) (fun i hi => h (i + 1) (by omega)) (by omega)]
theorem ef_mu {f g : Fn} {n m : Nat} (hf : Dg f n) (hg : Dg g m) (x : Rat) : ∀ N, n + m ≤ N → ef (mu f g) N x = ef f n x * ef g m x := by
  induction n generalizing f with
  | zero =>
    intro N _
    have e : f = fun _ => 0 := by funext i; exact hf i (by omega)
    have e2 : mu f g = fun _ => 0 := by funext i; rw [e, mu_z]
    rw [e2, ef_z, ef_zero]; grind
  | succ n ih =>
    intro N hN
    obtain ⟨M, rfl⟩ : ∃ k, N = k + 1 := ⟨N - 1, by omega⟩
    have e : mu f g = fun j => f 0 * g j + (match j with | 0 => 0 | j + 1 => mu (sh f) g j) := by
      funext j
      cases j with
      | zero => rw [mu_zero]; grind
      | succ j => rw [mu_succ]
    rw [e, ef_add, ef_sc, ef_dg hg (by omega)]
    have e2 : ef (fun j => (match j with | 0 => 0 | j + 1 => mu (sh f) g j : Rat)) (M + 1) x = x * ef (mu (sh f) g) M x := by
      rw [ef_succ]
      show (0 : Rat) + x * ef (mu (sh f) g) M x = _
      grind
    rw [e2, ih (f := sh f) (fun i hi => hf (i + 1) (by omega)) M (by omega), ef_succ]
    grind
def Dv (c a : Fn) : Prop := ∃ t n, Dg t n ∧ a = mu t c
theorem Dv.comb {c a b q : Fn} {m : Nat} (h1 : Dv c a) (h2 : Dv c b) (hq : Dg q m) : Dv c (fun i => a i - mu q b i) := by
  obtain ⟨t, n, ht, rfl⟩ := h1
  obtain ⟨s, k, hs, rfl⟩ := h2
  refine ⟨fun i => t i - mu q s i, max n (m + k), fun i hi => ?_, ?_⟩
  · show t i - mu q s i = 0
    rw [ht i (by omega), mu_dg' hq hs i (by omega)]; grind
  · funext i; rw [mu_subl, mu_assoc]
theorem Dv.comb2 {c r b q : Fn} {m : Nat} (h1 : Dv c r) (h2 : Dv c b) (hq : Dg q m) : Dv c (fun i => mu q b i + r i) := by
  obtain ⟨t, n, ht, rfl⟩ := h1
  obtain ⟨s, k, hs, rfl⟩ := h2
  refine ⟨fun i => mu q s i + t i, max n (m + k), fun i hi => ?_, ?_⟩
  · show mu q s i + t i = 0
    rw [ht i (by omega), mu_dg' hq hs i (by omega)]; grind
  · funext i; rw [mu_addl, mu_assoc]
theorem Dv.self (c : Fn) : Dv c c := by
  refine ⟨fun i => if i = 0 then 1 else 0, 1, fun i hi => by simp [show i ≠ 0 by omega], ?_⟩
  funext j
  cases j with
  | zero => rw [mu_zero]; simp
  | succ j => rw [mu_succ, show sh (fun i => if i = 0 then (1 : Rat) else 0) = fun _ => 0 from by funext i; simp [sh], mu_z]; simp; grind
theorem Dv.zero (c : Fn) : Dv c (fun _ => 0) := ⟨fun _ => 0, 0, fun _ _ => rfl, by funext j; rw [mu_z]⟩
theorem Dv.sc {c a : Fn} (h : Dv c a) (k : Rat) : Dv c (fun i => k * a i) := by
  obtain ⟨t, n, ht, rfl⟩ := h
  exact ⟨fun i => k * t i, n, fun i hi => by show k * t i = 0; rw [ht i hi]; grind, by funext j; rw [mu_scl]⟩
theorem Dv.of_sc {c a : Fn} {k : Rat} (hk : k ≠ 0) (h : Dv c a) : Dv (fun i => k * c i) a := by
  obtain ⟨t, n, ht, rfl⟩ := h
  refine ⟨fun i => k⁻¹ * t i, n, fun i hi => by show k⁻¹ * t i = 0; rw [ht i hi]; grind, ?_⟩
  funext j
  rw [mu_scl, mu_scr]
  have := Rat.mul_inv_cancel k hk
  grind
theorem rest_zero {a g q r : Fn} {b n : Nat} (hg : Dg g (b + 1)) (h0 : g b ≠ 0) (hr : Dg r b) (hq : Dg q n) (e : ∀ i, a i = mu q g i + r i) (h : Dv g a) : ∀ i, r i = 0 := by
  obtain ⟨t, m, ht, rfl⟩ := h
  have e1 : ∀ i, r i = mu (fun i => t i - q i) g i := fun i => by rw [mu_subl]; have := e i; grind
  have hd : Dg (fun i => t i - q i) (max m n) := fun i hi => by show t i - q i = 0; rw [ht i (by omega), hq i (by omega)]; grind
  have hl : Dg (mu (fun i => t i - q i) g) b := fun i hi => by rw [← e1 i]; exact hr i hi
  have hz := mu_low hg h0 hl _ hd
  intro i
  have e2 : (fun i => t i - q i) = fun _ => 0 := funext hz
  rw [e1 i, e2, mu_z]
end Go.Pe
set_option linter.unusedSimpArgs false
set_option linter.unusedVariables false
open Go
namespace Go.Pe
def co (l : List Rat) (i : Nat) : Rat := l.getD i 0
def mkL (f : Fn) (n : Nat) : List Rat := (List.range n).map f
theorem mkL_len (f : Fn) (n : Nat) : (mkL f n).length = n := by simp [mkL]
theorem co_mk (f : Fn) (n i : Nat) : co (mkL f n) i = if i < n then f i else 0 := by
  unfold co mkL
  rw [List.getD_eq_getElem?_getD, List.getElem?_map]
  by_cases h : i < n
  · rw [if_pos h, List.getElem?_range h]; rfl
  · rw [if_neg h, List.getElem?_eq_none (by rw [List.length_range]; omega)]; rfl
theorem co_big {l : List Rat} {i : Nat} (h : l.length ≤ i) : co l i = 0 := by
  unfold co
  rw [List.getD_eq_getElem?_getD, List.getElem?_eq_none h]; rfl
theorem co_dg (l : List Rat) : Dg (co l) l.length := fun i hi => co_big hi
theorem co_get {l : List Rat} {i : Nat} (h : i < l.length) : co l i = l[i] := by
  unfold co
  rw [List.getD_eq_getElem?_getD, List.getElem?_eq_getElem h]; rfl
theorem mk_co (l : List Rat) : mkL (co l) l.length = l := by
  apply List.ext_getElem
  · rw [mkL_len]
  · intro i h1 h2
    have := co_mk (co l) l.length i
    rw [if_pos h2, co_get h1, co_get h2] at this
    exact this
def tlR (l : List Rat) : Nat → Nat
  | 0 => 0
  | n + 1 => if co l n = 0 then tlR l n else n + 1
def tr (l : List Rat) : List Rat := l.take (tlR l l.length)
theorem tlR_le (l : List Rat) : ∀ n, tlR l n ≤ n := by
  intro n
  induction n with
  | zero => exact Nat.le_refl _
  | succ n ih => unfold tlR; split <;> omega
theorem tlR_zero {l : List Rat} : ∀ n i, tlR l n ≤ i → i < n → co l i = 0 := by
  intro n
  induction n with
  | zero => intro i _ h; omega
  | succ n ih =>
    intro i h1 h2
    unfold tlR at h1
    by_cases h0 : co l n = 0
    · rw [if_pos h0] at h1
      by_cases e : i = n
      · rw [e]; exact h0
      · exact ih i h1 (by omega)
    · rw [if_neg h0] at h1; omega
theorem tlR_top {l : List Rat} : ∀ n, 0 < tlR l n → co l (tlR l n - 1) ≠ 0 := by
  intro n
  induction n with
  | zero => intro h; exact absurd h (by unfold tlR; omega)
  | succ n ih =>
    intro h
    unfold tlR at h ⊢
    by_cases h0 : co l n = 0
    · rw [if_pos h0] at h ⊢; exact ih h
    · rw [if_neg h0]; exact h0
theorem tr_len (l : List Rat) : (tr l).length = tlR l l.length := by
  unfold tr
  rw [List.length_take]
  have := tlR_le l l.length
  omega
theorem tr_le (l : List Rat) : (tr l).length ≤ l.length := by rw [tr_len]; exact tlR_le _ _
theorem co_take (l : List Rat) (n i : Nat) : co (l.take n) i = if i < n then co l i else 0 := by
  unfold co
  rw [List.getD_eq_getElem?_getD, List.getD_eq_getElem?_getD]
  by_cases h : i < n
  · rw [if_pos h, List.getElem?_take_of_lt h]
  · rw [if_neg h, List.getElem?_eq_none (by rw [List.length_take]; omega)]; rfl
theorem co_tr (l : List Rat) (i : Nat) : co (tr l) i = co l i := by
  unfold tr
  rw [co_take]
  split
  · rfl
  · rename_i h
    by_cases h2 : i < l.length
    · exact (tlR_zero l.length i (by omega) h2).symm
    · rw [co_big (by omega)]
theorem co_tr' (l : List Rat) : co (tr l) = co l := funext (co_tr l)
def Ca (l : List Rat) : Prop := l.length = 0 ∨ co l (l.length - 1) ≠ 0
theorem ca_tr (l : List Rat) : Ca (tr l) := by
  unfold Ca
  rcases Nat.eq_zero_or_pos (tr l).length with h | h
  · exact .inl h
  · refine .inr ?_
    rw [co_tr, tr_len]
    rw [tr_len] at h
    exact tlR_top _ h
theorem ca_len {l : List Rat} {n : Nat} (h : Ca l) (hn : Dg (co l) n) : l.length ≤ n := by
  rcases h with h | h
  · omega
  · rcases Nat.lt_or_ge n l.length with k | k
    · exact absurd (hn _ (by omega)) h
    · exact k
theorem ca_ext {l m : List Rat} (hl : Ca l) (hm : Ca m) (h : ∀ i, co l i = co m i) : l = m := by
  have h1 : l.length ≤ m.length := ca_len hl fun i hi => by rw [h]; exact co_dg m i hi
  have h2 : m.length ≤ l.length := ca_len hm fun i hi => by rw [← h]; exact co_dg l i hi
  apply List.ext_getElem (by omega)
  intro i a b
  rw [← co_get a, ← co_get b, h]
theorem tr_ca {l : List Rat} (h : Ca l) : tr l = l := ca_ext (ca_tr l) h (co_tr l)
theorem ca_nil : Ca [] := .inl rfl
theorem ca_zero {l : List Rat} (h : Ca l) (hz : ∀ i, co l i = 0) : l = [] := by
  have := ca_len (n := 0) h fun i _ => hz i
  exact List.length_eq_zero_iff.1 (by omega)
theorem ca_top {l : List Rat} (h : Ca l) (hn : l ≠ []) : co l (l.length - 1) ≠ 0 := by
  rcases h with h | h
  · exact absurd (List.length_eq_zero_iff.1 h) hn
  · exact h
def tk (f : Fn) (n : Nat) : List Rat := tr (mkL f n)
theorem co_tk {f : Fn} {n : Nat} (h : Dg f n) : co (tk f n) = f := by
  funext i
  unfold tk
  rw [co_tr, co_mk]
  split
  · rfl
  · exact (h i (by omega)).symm
theorem ca_tk (f : Fn) (n : Nat) : Ca (tk f n) := ca_tr _
theorem tk_le (f : Fn) (n : Nat) : (tk f n).length ≤ n := Nat.le_trans (tr_le _) (Nat.le_of_eq (mkL_len f n))
theorem tr_mk (l : List Rat) : tr l = tk (co l) l.length := by unfold tk; rw [mk_co]
theorem dg_add {f g : Fn} {n m : Nat} (hf : Dg f n) (hg : Dg g m) : Dg (fun i => f i + g i) (max n m) := fun i hi => by show f i + g i = 0; rw [hf i (by omega), hg i (by omega)]; grind
theorem dg_sub {f g : Fn} {n m : Nat} (hf : Dg f n) (hg : Dg g m) : Dg (fun i => f i - g i) (max n m) := fun i hi => by show f i - g i = 0; rw [hf i (by omega), hg i (by omega)]; grind
theorem dg_sc {f : Fn} {n : Nat} (hf : Dg f n) (c : Rat) : Dg (fun i => f i * c) n := fun i hi => by show f i * c = 0; rw [hf i hi]; grind
def addT (a b : List Rat) : List Rat := tk (fun i => co a i + co b i) (max a.length b.length)
def subT (a b : List Rat) : List Rat := tk (fun i => co a i - co b i) (max a.length b.length)
def scT (a : List Rat) (c : Rat) : List Rat := tk (fun i => co a i * c) a.length
def muT (a b : List Rat) : List Rat := tk (mu (co a) (co b)) (a.length + b.length - 1)
theorem co_addT (a b : List Rat) : co (addT a b) = fun i => co a i + co b i := co_tk (dg_add (co_dg a) (co_dg b))
theorem co_subT (a b : List Rat) : co (subT a b) = fun i => co a i - co b i := co_tk (dg_sub (co_dg a) (co_dg b))
theorem co_scT (a : List Rat) (c : Rat) : co (scT a c) = fun i => co a i * c := co_tk (dg_sc (co_dg a) c)
theorem co_muT (a b : List Rat) : co (muT a b) = mu (co a) (co b) := co_tk (mu_dg' (co_dg a) (co_dg b))
def dvG (A B : Fn) (m n : Nat) : Nat → Fn
  | 0 => A
  | s + 1 => fun j => dvG A B m n s j - (if n - 1 - s ≤ j then dvG A B m n s (n - 1 - s + m) * (B m)⁻¹ * B (j - (n - 1 - s)) else 0)
def dvC (A B : Fn) (m n i : Nat) : Rat := dvG A B m n (n - 1 - i) (i + m) * (B m)⁻¹
def dvP (A B : Fn) (m n s : Nat) : Fn := fun i => if n - s ≤ i ∧ i < n then dvC A B m n i else 0
theorem mu_one (c : Rat) (g : Fn) : ∀ i j, mu (fun k => if k = i then c else 0) g j = if i ≤ j then c * g (j - i) else 0 := by
  intro i
  induction i with
  | zero =>
    intro j
    have e : sh (fun k => if k = 0 then c else 0) = fun _ => 0 := by funext k; simp [sh]
    cases j with
    | zero => rw [mu_zero]; simp
    | succ j => rw [mu_succ, e, mu_z]; simp; grind
  | succ i ih =>
    intro j
    have e : sh (fun k => if k = i + 1 then c else 0) = fun k => if k = i then c else 0 := by funext k; simp [sh]
    cases j with
    | zero => rw [mu_zero]; simp
    | succ j => rw [mu_succ, e, ih, Nat.add_sub_add_right]; simp [Rat.zero_add]
theorem dvP_succ {A B : Fn} {m n s : Nat} (h : s < n) : dvP A B m n (s + 1) = fun i => dvP A B m n s i + (if i = n - 1 - s then dvC A B m n (n - 1 - s) else 0) := by
  funext i
  unfold dvP
  by_cases c : i = n - 1 - s
  · rw [if_pos (by omega), if_neg (by omega), if_pos c, c]; grind
  · rw [if_neg c]
    by_cases d : n - s ≤ i ∧ i < n
    · rw [if_pos d, if_pos (by omega)]; grind
    · rw [if_neg d, if_neg (by omega)]; grind
theorem dv_eq {A B : Fn} {m n : Nat} : ∀ s, s ≤ n → ∀ j, A j = mu (dvP A B m n s) B j + dvG A B m n s j := by
  intro s
  induction s with
  | zero =>
    intro _ j
    have e : dvP A B m n 0 = fun _ => 0 := by funext i; unfold dvP; rw [if_neg (by omega)]
    rw [e, mu_z]; unfold dvG; grind
  | succ s ih =>
    intro hs j
    rw [dvP_succ (by omega), mu_addl, mu_one]
    have h := ih (by omega) j
    have e : dvC A B m n (n - 1 - s) = dvG A B m n s (n - 1 - s + m) * (B m)⁻¹ := by unfold dvC; rw [show n - 1 - (n - 1 - s) = s by omega]
    rw [e]
    show A j = _ + (dvG A B m n s j - (if n - 1 - s ≤ j then dvG A B m n s (n - 1 - s + m) * (B m)⁻¹ * B (j - (n - 1 - s)) else 0))
    grind
theorem dvG_dg {A B : Fn} {m n : Nat} (hA : Dg A (n + m)) (hB : Dg B (m + 1)) (h0 : B m ≠ 0) : ∀ s, s ≤ n → Dg (dvG A B m n s) (n - s + m) := by
  intro s
  induction s with
  | zero => intro _ i hi; exact hA i (by omega)
  | succ s ih =>
    intro hs j hj
    have h := ih (by omega)
    show dvG A B m n s j - (if n - 1 - s ≤ j then dvG A B m n s (n - 1 - s + m) * (B m)⁻¹ * B (j - (n - 1 - s)) else 0) = 0
    rw [if_pos (by omega)]
    by_cases c : j = n - 1 - s + m
    · rw [c, Nat.add_sub_cancel_left]
      have := Rat.inv_mul_cancel (B m) h0
      grind
    · rw [h j (by omega), hB (j - (n - 1 - s)) (by omega)]; grind
def dvQ (A B : List Rat) : List Rat := if A.length < B.length then [] else tk (dvC (co A) (co B) (B.length - 1) (A.length - B.length + 1)) (A.length - B.length + 1)
def dvR (A B : List Rat) : List Rat := if A.length < B.length then A else tk (dvG (co A) (co B) (B.length - 1) (A.length - B.length + 1) (A.length - B.length + 1)) A.length
theorem dvQ_ca (A B : List Rat) : Ca (dvQ A B) := by unfold dvQ; split; exact ca_nil; exact ca_tk _ _
theorem dvR_ca {A : List Rat} (B : List Rat) (h : Ca A) : Ca (dvR A B) := by unfold dvR; split; exact h; exact ca_tk _ _
theorem dvQ_le (A B : List Rat) : (dvQ A B).length ≤ A.length - B.length + 1 := by
  unfold dvQ
  split
  · exact Nat.zero_le _
  · exact tk_le _ _
theorem dvR_eq {A B : List Rat} (hB : Ca B) (hb : B ≠ []) : (∀ j, co A j = mu (co (dvQ A B)) (co B) j + co (dvR A B) j) ∧ Dg (co (dvR A B)) (B.length - 1) := by
  have hl : 0 < B.length := by cases B with | nil => exact absurd rfl hb | cons _ _ => simp
  unfold dvQ dvR
  by_cases c : A.length < B.length
  · rw [if_pos c, if_pos c]
    refine ⟨fun j => ?_, fun i hi => co_dg A i (by omega)⟩
    have e : co [] = fun _ => 0 := by funext i; rfl
    rw [e, mu_z]; grind
  · rw [if_neg c, if_neg c]
    have hg : Dg (co B) (B.length - 1 + 1) := fun i hi => co_dg B i (by omega)
    have h2 := dvG_dg (A := co A) (n := A.length - B.length + 1) (fun i hi => co_dg A i (by omega)) hg (ca_top hB hb) (A.length - B.length + 1) (by omega)
    rw [Nat.sub_self, Nat.zero_add] at h2
    have e1 : co (tk (dvG (co A) (co B) (B.length - 1) (A.length - B.length + 1) (A.length - B.length + 1)) A.length) = _ := co_tk (h2.mono (by omega))
    have h3 := dv_eq (A := co A) (B := co B) (m := B.length - 1) (n := A.length - B.length + 1) (A.length - B.length + 1) (Nat.le_refl _)
    have e2 : co (tk (dvC (co A) (co B) (B.length - 1) (A.length - B.length + 1)) (A.length - B.length + 1)) = dvP (co A) (co B) (B.length - 1) (A.length - B.length + 1) (A.length - B.length + 1) := by
      funext i
      unfold tk dvP
      rw [co_tr, co_mk, Nat.sub_self]
      by_cases k : i < A.length - B.length + 1
      · rw [if_pos k, if_pos (by omega)]
      · rw [if_neg k, if_neg (by omega)]
    rw [e1, e2]
    exact ⟨h3, h2⟩
theorem dvR_len {A B : List Rat} (hA : Ca A) (hB : Ca B) (hb : B ≠ []) : (dvR A B).length < B.length := by
  have hl : 0 < B.length := by cases B with | nil => exact absurd rfl hb | cons _ _ => simp
  have := ca_len (dvR_ca B hA) (dvR_eq (A := A) hB hb).2
  omega
theorem dvR_zero {A B : List Rat} (hA : Ca A) (hB : Ca B) (hb : B ≠ []) (h : Dv (co B) (co A)) : dvR A B = [] := by
  have hl : 0 < B.length := by cases B with | nil => exact absurd rfl hb | cons _ _ => simp
  obtain ⟨h1, h2⟩ := dvR_eq (A := A) hB hb
  refine ca_zero (dvR_ca B hA) ?_
  exact rest_zero (b := B.length - 1) (n := (dvQ A B).length) (fun i hi => co_dg B i (by omega)) (ca_top hB hb) h2 (co_dg _) h1 h
def moT (a : List Rat) : List Rat := if a = [] then [] else scT a (co a (a.length - 1))⁻¹
theorem moT_co {a : List Rat} (h : a ≠ []) : co (moT a) = fun i => co a i * (co a (a.length - 1))⁻¹ := by unfold moT; rw [if_neg h, co_scT]
theorem moT_ca (a : List Rat) : Ca (moT a) := by unfold moT; split; exact ca_nil; exact ca_tk _ _
theorem moT_len {a : List Rat} (h : Ca a) : (moT a).length = a.length := by
  by_cases hn : a = []
  · rw [hn]; rfl
  · have hl : 0 < a.length := by cases a with | nil => exact absurd rfl hn | cons _ _ => simp
    have h0 := ca_top h hn
    have e := moT_co hn
    have h1 : (moT a).length ≤ a.length := ca_len (moT_ca a) fun i hi => by rw [e]; show co a i * _ = 0; rw [co_dg a i hi]; grind
    rcases Nat.lt_or_ge (moT a).length a.length with k | k
    · have h2 := co_dg (moT a) (a.length - 1) (by omega)
      rw [e] at h2
      have := Rat.mul_inv_cancel _ h0
      have h3 : co a (a.length - 1) * (co a (a.length - 1))⁻¹ = 0 := h2
      rw [this] at h3
      exact absurd h3 (by decide)
    · omega
def gcF : Nat → List Rat → List Rat → List Rat
  | 0, a, _ => a
  | n + 1, a, b => if b = [] then a else gcF n b (dvR a b)
def gcT (a b : List Rat) : List Rat := moT (gcF (b.length + 1) a b)
theorem gcF_ca : ∀ n {a b : List Rat}, Ca a → Ca b → Ca (gcF n a b) := by
  intro n
  induction n with
  | zero => intro a b ha _; exact ha
  | succ n ih => intro a b ha hb; unfold gcF; split; exact ha; exact ih hb (dvR_ca b ha)
theorem gcF_len {m : Nat} : ∀ n {a b : List Rat}, Ca a → Ca b → a.length ≤ m → b.length ≤ m → (gcF n a b).length ≤ m := by
  intro n
  induction n with
  | zero => intro a b _ _ h _; exact h
  | succ n ih =>
    intro a b ha hb h1 h2
    unfold gcF
    split
    · exact h1
    · rename_i h0
      have := dvR_len ha hb h0
      exact ih hb (dvR_ca b ha) h2 (by omega)
theorem gcF_of {c : Fn} : ∀ n {a b : List Rat}, Ca a → Ca b → Dv c (co a) → Dv c (co b) → Dv c (co (gcF n a b)) := by
  intro n
  induction n with
  | zero => intro a b _ _ h1 _; exact h1
  | succ n ih =>
    intro a b ha hb h1 h2
    unfold gcF
    split
    · exact h1
    · rename_i h0
      refine ih hb (dvR_ca b ha) h2 ?_
      have e : co (dvR a b) = fun i => co a i - mu (co (dvQ a b)) (co b) i := by funext i; have := (dvR_eq (A := a) hb h0).1 i; grind
      rw [e]
      exact h1.comb h2 (co_dg _)
theorem gcF_dv : ∀ n {a b : List Rat}, Ca a → Ca b → b.length < n → Dv (co (gcF n a b)) (co a) ∧ Dv (co (gcF n a b)) (co b) := by
  intro n
  induction n with
  | zero => intro a b _ _ h; omega
  | succ n ih =>
    intro a b ha hb hl
    unfold gcF
    split
    · rename_i h0
      refine ⟨Dv.self _, ?_⟩
      rw [h0, show co [] = fun _ => 0 from by funext i; rfl]
      exact Dv.zero _
    · rename_i h0
      have hr := dvR_len ha hb h0
      obtain ⟨h1, h2⟩ := ih hb (dvR_ca b ha) (by omega)
      refine ⟨?_, h1⟩
      have e : co a = fun i => mu (co (dvQ a b)) (co b) i + co (dvR a b) i := by funext i; exact (dvR_eq (A := a) hb h0).1 i
      rw [e]
      exact h2.comb2 h1 (co_dg _)
end Go.Pe
set_option linter.unusedSimpArgs false
set_option linter.unusedVariables false
open Go
namespace Go.Pe
def vsQ (p : List RQt) : List Rat := p.map vQ
theorem vsQ_len (p : List RQt) : (vsQ p).length = p.length := List.length_map _
theorem vsQ_r (l : List Rat) : vsQ (l.map rQ) = l := by
  unfold vsQ
  rw [List.map_map]
  exact (List.map_congr_left fun x _ => vQ_rQ x).trans (List.map_id _)
theorem atV_vsQ (p : List RQt) : atV p = co (vsQ p) := by
  funext i
  unfold atV
  by_cases h : i < p.length
  · rw [if_pos h, co_get (by rw [vsQ_len]; exact h), List.getD_eq_getElem?_getD, List.getElem?_eq_getElem h]
    simp [vsQ]
  · rw [if_neg h, co_big (by rw [vsQ_len]; omega)]
theorem nf_mk (f : Fn) (n : Nat) : nf f n = (mkL f n).map rQ := by unfold nf mkL; rw [List.map_map]; rfl
theorem tl_nf (f : Fn) (n : Nat) : ∀ k, k ≤ n → tlQ (nf f n) k = tlR (mkL f n) k := by
  intro k
  induction k with
  | zero => intro _; rfl
  | succ k ih =>
    intro h
    unfold tlQ tlR
    rw [nf_get f (show k < n by omega), vQ_rQ, co_mk, if_pos (show k < n by omega), ih (by omega)]
theorem trim_tk (f : Fn) (n : Nat) : trimQ (nf f n) = (tk f n).map rQ := by
  unfold trimQ tk tr
  rw [tl_nf f n _ (Nat.le_of_eq (nf_len f n)), nf_len, nf_mk, mkL_len, List.map_take]
def SzE (f : Fn) (k : Nat) : Prop := ∀ i, sq (f i) ≤ k
theorem SzE.mono {f : Fn} {k m : Nat} (h : SzE f k) (hm : k ≤ m) : SzE f m := fun i => Nat.le_trans (h i) hm
theorem SmL.vsQ {p : List RQt} {k : Nat} (h : SmL p k) (h1k : 1 ≤ k) : SzE (co (vsQ p)) k := fun i => by rw [← atV_vsQ]; exact atV_sq h1k h
theorem SzE.sm {l : List Rat} {k : Nat} (h : SzE (co l) k) : SmL (l.map rQ) k := by
  intro x hx
  obtain ⟨v, hv, rfl⟩ := List.mem_map.1 hx
  obtain ⟨i, hi, rfl⟩ := List.getElem_of_mem hv
  have := h i
  rw [co_get hi] at this
  exact sm_cq this
theorem SzE.add {f g : Fn} {k m : Nat} (hf : SzE f k) (hg : SzE g m) : SzE (fun i => f i + g i) (k + m + 1) := fun i => by have := sq_add (f i) (g i); have := hf i; have := hg i; show sq (f i + g i) ≤ _; omega
theorem SzE.sub {f g : Fn} {k m : Nat} (hf : SzE f k) (hg : SzE g m) : SzE (fun i => f i - g i) (k + m + 1) := fun i => by have := sq_sub (f i) (g i); have := hf i; have := hg i; show sq (f i - g i) ≤ _; omega
theorem SzE.sc {f : Fn} {k m : Nat} (hf : SzE f k) {c : Rat} (hc : sq c ≤ m) : SzE (fun i => f i * c) (k + m) := fun i => by have := sq_mul (f i) c; have := hf i; show sq (f i * c) ≤ _; omega
theorem SzE.cv {f g : Fn} {k m : Nat} (hf : SzE f k) (hg : SzE g m) (j : Nat) : ∀ n, sq (cv f g n j) ≤ n * (k + m + 1) + 1 := by
  intro n
  induction n with
  | zero => have := sq_zero; rw [show Go.Pe.cv f g 0 j = 0 from rfl]; omega
  | succ n ih =>
    rw [show Go.Pe.cv f g (n + 1) j = Go.Pe.cv f g n j + (if n ≤ j then f n * g (j - n) else 0) from rfl]
    rw [Nat.add_mul]
    split
    · have := sq_add (Go.Pe.cv f g n j) (f n * g (j - n)); have := sq_mul (f n) (g (j - n)); have := hf n; have := hg (j - n); omega
    · rw [Rat.add_zero]; omega
theorem SzE.mu {f g : Fn} {k m n : Nat} (hf : SzE f k) (hg : SzE g m) (hd : Dg f n) : SzE (Go.Pe.mu f g) (n * (k + m + 1) + 1) := fun j => by rw [← cv_dg hd]; exact SzE.cv hf hg j n
theorem SzE.one : SzE (co [1]) 1 := fun i => by
  cases i with
  | zero => exact sq_one
  | succ i => rw [co_big (by simp)]; exact sq_zero
theorem SzE.nil : SzE (co []) 1 := fun i => by rw [co_big (by simp)]; exact sq_zero
theorem nf_sm {f : Nat → Rat} {n k : Nat} (h : ∀ i, i < n → sq (f i) ≤ k) : SmL (nf f n) k := by
  intro x hx
  unfold nf at hx
  obtain ⟨i, hi, rfl⟩ := List.mem_map.1 hx
  exact sm_cq (h i (List.mem_range.1 hi))
theorem fewQ_sm {p : List RQt} (hu : ∀ x ∈ p, OkQ x) (n : Nat) : SmL ((p.take n).map t2Q) 2 := by
  intro x hx
  obtain ⟨y, hy, rfl⟩ := List.mem_map.1 hx
  exact Sm.take (k := maxL) (hu y (List.mem_of_mem_take hy)) 2
theorem pclean_r {p : List RQt} {k : Nat} (hk : k ≤ 100000000000) (h1k : 1 ≤ k) (hn : p.length ≤ 100000000000) (hs : SmL p k) : R FF 174 [.l 3 (p.map eQ)] = some (AV.l 3 (List.map eQ (List.map rQ (tr (vsQ p))))) := by
  rw [pclean_c hk h1k hn hs, cleanL_nf, trim_tk, atV_vsQ, tr_mk, vsQ_len]
theorem pscale_r {p : List RQt} {x : Rat} {k : Nat} (hk : k ≤ 10000000000) (h1k : 1 ≤ k) (ha : p.length ≤ 100000000000) (h1 : SmL p k) (h2 : sq x ≤ k) : R FF 163 [.l 3 (p.map eQ), (AV.agg [AV.b (ng (Rat.num x)), (AV.l 1 (List.map u (D (Int.natAbs (Rat.num x))))), (AV.l 1 (List.map u (D (Rat.den x))))])] = some (AV.l 3 (List.map eQ (List.map rQ (scT (vsQ p) x)))) := by
  rw [pscale_c hk h1k ha h1 (sm_cq h2), qv_cq, scL_nf, trim_tk, atV_vsQ]; unfold scT; rw [vsQ_len]
theorem pscale_raw {p : List RQt} {x : RQt} {k : Nat} (hk : k ≤ 10000000000) (h1k : 1 ≤ k) (ha : p.length ≤ 100000000000) (h1 : SmL p k) (h2 : Sm x.2.1 x.2.2 k) : R FF 163 [.l 3 (p.map eQ), .agg (eQ x)] = some (AV.l 3 (List.map eQ (List.map rQ (scT (vsQ p) (vQ x))))) := by
  have h := pscale_c (q := x.1) hk h1k ha h1 h2
  rw [scL_nf, trim_tk, atV_vsQ] at h
  unfold scT
  rw [vsQ_len]
  exact h
theorem getD_r {l : List Rat} {i : Nat} (h : i < l.length) : (l.map rQ).getD i dQ = rQ (co l i) := by
  rw [List.getD_eq_getElem?_getD, List.getElem?_map, List.getElem?_eq_getElem h, co_get h]; rfl
end Go.Pe
set_option linter.unusedSimpArgs false
set_option linter.unusedVariables false
open Go
namespace Go.Pe
def SzF (f : Fn) (k : Nat) : Prop := ∃ e : Int, e ≠ 0 ∧ L e.natAbs ≤ k ∧ ∀ i, ∃ n : Int, L n.natAbs ≤ k ∧ f i * (e : Rat) = (n : Rat)
theorem cast_ne {e : Int} (h : e ≠ 0) : (e : Rat) ≠ 0 := fun k => h (by have := congrArg Rat.num k; simpa using this)
theorem sq_div {x : Rat} {e n : Int} {k : Nat} (he : e ≠ 0) (h1 : L e.natAbs ≤ k) (h2 : L n.natAbs ≤ k) (h : x * (e : Rat) = (n : Rat)) : sq x ≤ k := by
  have h0 := cast_ne he
  have hx : x = Rat.divInt n e := by
    rw [Rat.divInt_eq_div, Rat.div_def, ← h, Rat.mul_assoc, Rat.mul_inv_cancel _ h0, Rat.mul_one]
  rw [hx]
  rcases Int.lt_or_le e 0 with c | c
  · have e1 : e = -((e.natAbs : Nat) : Int) := by omega
    rw [e1, Rat.divInt_neg', Rat.divInt_ofNat]
    have := sq_mk (n := -n) (d := e.natAbs) (by omega)
    rw [Int.natAbs_neg] at this
    omega
  · have e1 : e = ((e.natAbs : Nat) : Int) := by omega
    rw [e1, Rat.divInt_ofNat]
    have := sq_mk (n := n) (d := e.natAbs) (by omega)
    omega
theorem SzF.sq {f : Fn} {k : Nat} (h : SzF f k) : SzE f k := by
  obtain ⟨e, he, h1, h2⟩ := h
  intro i
  obtain ⟨n, hn, h3⟩ := h2 i
  exact sq_div he h1 hn h3
theorem SzF.mono {f : Fn} {k m : Nat} (h : SzF f k) (hm : k ≤ m) : SzF f m := by
  obtain ⟨e, he, h1, h2⟩ := h
  exact ⟨e, he, by omega, fun i => by obtain ⟨n, hn, h3⟩ := h2 i; exact ⟨n, by omega, h3⟩⟩
theorem L_imul (a b : Int) : L (a * b).natAbs ≤ L a.natAbs + L b.natAbs := by rw [Int.natAbs_mul]; exact L_mul _ _
theorem L_isub (a b : Int) {k : Nat} (ha : L a.natAbs ≤ k) (hb : L b.natAbs ≤ k) : L (a - b).natAbs ≤ k + 1 := by
  have h1 := L_mono (Int.natAbs_sub_le a b)
  have h2 := L_add a.natAbs b.natAbs
  omega
theorem num_den (x : Rat) : x * ((x.den : Int) : Rat) = (x.num : Rat) := by
  have h0 : ((x.den : Int) : Rat) ≠ 0 := cast_ne (by have := x.den_nz; omega)
  have h := Rat.num_divInt_den x
  rw [Rat.divInt_eq_div, Rat.div_def] at h
  generalize ((x.den : Int) : Rat) = d at *
  generalize ((x.num : Int) : Rat) = n at *
  rw [← h, Rat.mul_assoc, Rat.inv_mul_cancel _ h0, Rat.mul_one]
theorem szF_of {f : Fn} {k : Nat} (h : SzE f k) : ∀ n, ∃ e : Int, e ≠ 0 ∧ L e.natAbs ≤ n * k + 1 ∧ ∀ i, i < n → ∃ m : Int, L m.natAbs ≤ n * k + 1 ∧ f i * (e : Rat) = (m : Rat) := by
  intro n
  induction n with
  | zero => exact ⟨1, by decide, by have : L 1 ≤ 1 := L_le (n := 1) (k := 1) (by decide); show L 1 ≤ _; omega, fun i hi => by omega⟩
  | succ n ih =>
    obtain ⟨e, he, h1, h2⟩ := ih
    have hn := h n
    have a1 := sq_num (f n)
    have a2 := sq_den (f n)
    have b1 := L_imul e ((f n).den : Int)
    rw [Int.natAbs_natCast] at b1
    rw [Nat.add_mul, Nat.one_mul]
    refine ⟨e * ((f n).den : Int), Int.mul_ne_zero he (by have := (f n).den_nz; omega), by omega, fun i hi => ?_⟩
    have hd := num_den (f n)
    by_cases c : i = n
    · refine ⟨(f n).num * e, ?_, ?_⟩
      · have := L_imul (f n).num e; omega
      · rw [c, Rat.intCast_mul, Rat.intCast_mul]; grind
    · obtain ⟨m, hm, h3⟩ := h2 i (by omega)
      refine ⟨m * ((f n).den : Int), ?_, ?_⟩
      · have := L_imul m ((f n).den : Int); rw [Int.natAbs_natCast] at this; omega
      · rw [Rat.intCast_mul, Rat.intCast_mul]; grind
theorem SzE.f {f : Fn} {k n : Nat} (h : SzE f k) (hd : Dg f n) : SzF f (n * k + 1) := by
  obtain ⟨e, he, h1, h2⟩ := szF_of h n
  refine ⟨e, he, h1, fun i => ?_⟩
  by_cases c : i < n
  · exact h2 i c
  · refine ⟨0, Nat.le_trans (L_le (n := 0) (k := 0) (by decide)) (Nat.zero_le _), ?_⟩
    rw [hd i (by omega)]
    show (0 : Rat) * _ = 0
    grind
theorem SzF.step {g b : Fn} {k m s t i : Nat} (hg : SzF g k) (hb : SzF b m) (h0 : b t ≠ 0) : SzF (fun j => g j - (if i ≤ j then g s * (b t)⁻¹ * b (j - i) else 0)) (k + m + 1) := by
  obtain ⟨e, he, h1, h2⟩ := hg
  obtain ⟨d, hd, k1, k2⟩ := hb
  obtain ⟨N, hN, hN2⟩ := h2 s
  obtain ⟨M, hM, hM2⟩ := k2 t
  have hM0 : M ≠ 0 := fun h => by
    rw [h] at hM2
    rcases Rat.mul_eq_zero.1 hM2 with h | h
    · exact h0 h
    · exact cast_ne hd h
  have hi := Rat.inv_mul_cancel _ h0
  refine ⟨e * M, Int.mul_ne_zero he hM0, by have := L_imul e M; omega, fun j => ?_⟩
  obtain ⟨n, hn, hn2⟩ := h2 j
  by_cases c : i ≤ j
  · obtain ⟨m', hm, hm2⟩ := k2 (j - i)
    refine ⟨n * M - N * m', L_isub _ _ (by have := L_imul n M; omega) (by have := L_imul N m'; omega), ?_⟩
    show (g j - (if i ≤ j then g s * (b t)⁻¹ * b (j - i) else 0)) * _ = _
    rw [if_pos c, Rat.intCast_mul, Rat.intCast_sub, Rat.intCast_mul, Rat.intCast_mul, ← hn2, ← hN2, ← hM2, ← hm2]
    generalize (b t)⁻¹ = v at *
    generalize (e : Rat) = e at *
    generalize (d : Rat) = d at *
    generalize b t = bt at *
    generalize g s = gs at *
    generalize g j = gj at *
    generalize b (j - i) = bj at *
    have e1 : (gj - gs * v * bj) * (e * (bt * d)) = gj * e * (bt * d) - gs * e * (bj * d) * (v * bt) := by grind
    rw [e1, hi]; grind
  · refine ⟨n * M, by have := L_imul n M; omega, ?_⟩
    show (g j - (if i ≤ j then g s * (b t)⁻¹ * b (j - i) else 0)) * _ = _
    rw [if_neg c, Rat.intCast_mul, Rat.intCast_mul, ← hn2]
    grind
theorem dvG_sz {A B : Fn} {k m n t : Nat} (hA : SzF A k) (hB : SzF B m) (h0 : B t ≠ 0) : ∀ s, SzF (dvG A B t n s) (k + s * (m + 1)) := by
  intro s
  induction s with
  | zero => exact hA.mono (by omega)
  | succ s ih => exact (SzF.step ih hB h0).mono (by rw [Nat.add_mul]; omega)
theorem sq_inv (x : Rat) : sq x⁻¹ ≤ sq x + 1 := by
  unfold sq
  rw [Rat.num_inv, Rat.den_inv, Int.natAbs_mul, Int.natAbs_natCast]
  have h1 : L (x.num.sign.natAbs * x.den) ≤ L x.den := L_mono (by
    have : x.num.sign.natAbs ≤ 1 := by rcases Int.lt_trichotomy x.num 0 with h | h | h
                                       · rw [Int.sign_eq_neg_one_of_neg h]; decide
                                       · rw [h]; decide
                                       · rw [Int.sign_eq_one_of_pos h]; decide
    calc x.num.sign.natAbs * x.den ≤ 1 * x.den := Nat.mul_le_mul_right _ this
      _ = x.den := Nat.one_mul _)
  split
  · have : L 1 ≤ 1 := L_le (n := 1) (k := 1) (by decide)
    omega
  · omega
theorem dvC_sz {A B : Fn} {k m n t : Nat} (hA : SzF A k) (hB : SzF B m) (h0 : B t ≠ 0) (i : Nat) (hi : i < n) : sq (dvC A B t n i) ≤ k + n * (m + 1) + m + 1 := by
  have h1 := (dvG_sz hA hB h0 (n := n) (n - 1 - i)).sq (i + t)
  have h2 := hB.sq t
  have h3 := sq_inv (B t)
  have h4 := sq_mul (dvG A B t n (n - 1 - i) (i + t)) (B t)⁻¹
  have h5 : (n - 1 - i) * (m + 1) ≤ n * (m + 1) := Nat.mul_le_mul_right _ (by omega)
  unfold dvC
  omega
theorem dvR_sz {A B : List Rat} {k : Nat} (hA : SzF (co A) k) (hB : SzF (co B) k) (hc : Ca B) (hb : B ≠ []) : SzF (co (dvR A B)) (k + (A.length - B.length + 1) * (k + 1)) := by
  unfold dvR
  split
  · exact hA.mono (Nat.le_add_right _ _)
  · rename_i c
    have hl : 0 < B.length := by cases B with | nil => exact absurd rfl hb | cons _ _ => simp
    have h2 := dvG_dg (A := co A) (B := co B) (m := B.length - 1) (n := A.length - B.length + 1) (fun i hi => co_dg A i (by omega)) (fun i hi => co_dg B i (by omega)) (ca_top hc hb) (A.length - B.length + 1) (Nat.le_refl _)
    rw [co_tk (h2.mono (by omega))]
    exact dvG_sz hA hB (ca_top hc hb) _
theorem dvQ_sz {A B : List Rat} {k : Nat} (hA : SzF (co A) k) (hB : SzF (co B) k) (hc : Ca B) (hb : B ≠ []) : SzE (co (dvQ A B)) (k + (A.length - B.length + 1) * (k + 1) + k + 1) := by
  intro i
  unfold dvQ
  split
  · have := sq_zero; rw [co_big (by simp)]; omega
  · unfold tk
    rw [co_tr, co_mk]
    split
    · rename_i h; exact dvC_sz hA hB (ca_top hc hb) i h
    · have := sq_zero; omega
theorem euc_sz {a b : List Rat} {k : Nat} (ha : Ca a) (hb : Ca b) (h1 : SzF (co a) k) (h2 : SzF (co b) k) (h0 : b ≠ []) (c : b.length ≤ a.length) :
    ∃ k', k ≤ k' ∧ SzF (co b) k' ∧ SzF (co (dvR a b)) k' ∧ (k' + 1) * 2 ^ (b.length + (dvR a b).length) ≤ (k + 1) * 2 ^ (a.length + b.length) := by
  have hr := dvR_len ha hb h0
  have h3 := dvR_sz h1 h2 hb h0
  refine ⟨_, Nat.le_add_right _ _, h2.mono (Nat.le_add_right k _), h3, ?_⟩
  have e1 : k + (a.length - b.length + 1) * (k + 1) + 1 = (a.length - b.length + 2) * (k + 1) := by rw [Nat.add_mul, Nat.add_mul (a.length - b.length) 2]; omega
  rw [e1]
  have e2 : a.length - b.length + 2 ≤ 2 ^ (a.length - b.length + 1) := by
    have : a.length - b.length + 1 < 2 ^ (a.length - b.length + 1) := Nat.lt_two_pow_self
    omega
  have e3 : 2 ^ (b.length + (dvR a b).length) ≤ 2 ^ (b.length + b.length - 1) := Nat.pow_le_pow_right (by omega) (by omega)
  calc (a.length - b.length + 2) * (k + 1) * 2 ^ (b.length + (dvR a b).length) ≤ 2 ^ (a.length - b.length + 1) * (k + 1) * 2 ^ (b.length + b.length - 1) := Nat.mul_le_mul (Nat.mul_le_mul_right _ e2) e3
    _ = (k + 1) * (2 ^ (a.length - b.length + 1) * 2 ^ (b.length + b.length - 1)) := by rw [Nat.mul_comm (2 ^ _) (k + 1), Nat.mul_assoc]
    _ = (k + 1) * 2 ^ (a.length + b.length) := by
      have hl : 0 < b.length := by cases b with | nil => exact absurd rfl h0 | cons _ _ => simp
      rw [← Nat.pow_add, show a.length - b.length + 1 + (b.length + b.length - 1) = a.length + b.length by omega]
theorem k_pow (k n : Nat) : k ≤ (k + 1) * 2 ^ n := by
  have hp : 1 ≤ 2 ^ n := Nat.one_le_two_pow
  have := Nat.mul_le_mul_left (k + 1) hp
  omega
theorem gcF_sz : ∀ n {a b : List Rat} {k : Nat}, Ca a → Ca b → SzF (co a) k → SzF (co b) k → SzF (co (gcF n a b)) ((k + 1) * 2 ^ (a.length + b.length)) := by
  intro n
  induction n with
  | zero => intro a b k _ _ h _; exact h.mono (k_pow _ _)
  | succ n ih =>
    intro a b k ha hb h1 h2
    unfold gcF
    split
    · exact h1.mono (k_pow _ _)
    · rename_i h0
      by_cases c : a.length < b.length
      · have e : dvR a b = a := by unfold dvR; rw [if_pos c]
        rw [e]
        have := ih hb ha h2 h1
        rw [Nat.add_comm a.length]; exact this
      · obtain ⟨k', _, h3, h4, h5⟩ := euc_sz ha hb h1 h2 h0 (by omega)
        exact (ih hb (dvR_ca b ha) h3 h4).mono h5
theorem SzF.scm {f : Fn} {k : Nat} (h : SzF f k) : SzF (fun i => f i * (-1)) k := by
  obtain ⟨e, he, h1, h2⟩ := h
  refine ⟨e, he, h1, fun i => ?_⟩
  obtain ⟨n, hn, h3⟩ := h2 i
  refine ⟨-n, by rw [Int.natAbs_neg]; exact hn, ?_⟩
  rw [Rat.intCast_neg, ← h3]; grind
end Go.Pe
set_option linter.unusedSimpArgs false
set_option linter.unusedVariables false
open Go
namespace Go.Pe
def evl (l : List Rat) (x : Rat) : Rat := ef (co l) l.length x
theorem ef_any {f : Fn} {n m : Nat} (h1 : Dg f n) (h2 : Dg f m) (x : Rat) : ef f n x = ef f m x := by
  rw [← ef_dg h1 (Nat.le_max_left n m), ← ef_dg h2 (Nat.le_max_right n m)]
theorem evl_of {l : List Rat} {f : Fn} {n : Nat} (h : co l = f) (hd : Dg f n) (x : Rat) : evl l x = ef f n x := by
  unfold evl
  rw [h]
  exact ef_any (by rw [← h]; exact co_dg l) hd x
theorem evl_ext {l m : List Rat} (h : ∀ i, co l i = co m i) (x : Rat) : evl l x = evl m x := evl_of (funext h) (co_dg m) x
theorem evl_add (a b : List Rat) (x : Rat) : evl (addT a b) x = evl a x + evl b x := by
  rw [evl_of (co_addT a b) (dg_add (co_dg a) (co_dg b)), ef_add, evl_of (l := a) rfl ((co_dg a).mono (Nat.le_max_left a.length b.length)), evl_of (l := b) rfl ((co_dg b).mono (Nat.le_max_right a.length b.length))]
theorem evl_sc (a : List Rat) (c x : Rat) : evl (scT a c) x = c * evl a x := by
  have e : (fun i => co a i * c) = fun i => c * co a i := by funext i; grind
  rw [evl_of (co_scT a c) (dg_sc (co_dg a) c), e, ef_sc]; rfl
theorem evl_mu (a b : List Rat) (x : Rat) : evl (muT a b) x = evl a x * evl b x := by
  rw [evl_of (co_muT a b) ((mu_dg' (co_dg a) (co_dg b)).mono (Nat.sub_le _ 1)), ef_mu (co_dg a) (co_dg b) x _ (Nat.le_refl _)]; rfl
theorem evl_nil (x : Rat) : evl [] x = 0 := ef_zero _ x
theorem evl_one (c x : Rat) : evl [c] x = c := by
  unfold evl
  rw [show [c].length = 0 + 1 from rfl, ef_succ, ef_zero]
  show c + x * 0 = c
  grind
theorem evl_two (c d x : Rat) : evl [c, d] x = c + x * d := by
  unfold evl
  rw [show [c, d].length = 0 + 1 + 1 from rfl, ef_succ, ef_succ, ef_zero]
  show c + x * (d + x * 0) = c + x * d
  grind
theorem ef_shift (f : Fn) (x : Rat) (i n : Nat) : ef (fun k => f (i + k)) (n + 1) x = f i + x * ef (fun k => f (i + 1 + k)) n x := by
  rw [ef_succ]
  have e : sh (fun k => f (i + k)) = fun k => f (i + 1 + k) := by funext k; show f (i + (k + 1)) = f (i + 1 + k); rw [show i + (k + 1) = i + 1 + k by omega]
  rw [e]; rfl
theorem ef_sq {f : Fn} {x : Rat} {k m : Nat} (hf : SzE f k) (hx : sq x ≤ m) : ∀ n, sq (ef f n x) ≤ n * (k + m + 1) + 1 := by
  intro n
  induction n generalizing f with
  | zero => rw [ef_zero]; have := sq_zero; omega
  | succ n ih =>
    rw [ef_succ, Nat.add_mul]
    have := ih (f := sh f) fun i => hf (i + 1)
    have := sq_add (f 0) (x * ef (sh f) n x)
    have := sq_mul x (ef (sh f) n x)
    have := hf 0
    omega
def dT (l : List Rat) : List Rat := tk (fun i => co l (i + 1) * ((i + 1 : Nat) : Int)) (l.length - 1)
theorem dT_dg (l : List Rat) : Dg (fun i => co l (i + 1) * (((i + 1 : Nat) : Int) : Rat)) (l.length - 1) := fun i hi => by
  show co l (i + 1) * _ = 0
  rw [co_big (by omega)]; grind
theorem co_dT (l : List Rat) : co (dT l) = fun i => co l (i + 1) * (((i + 1 : Nat) : Int) : Rat) := co_tk (dT_dg l)
theorem sq_int (n : Int) (h : n.natAbs < 4294967296) : sq (n : Rat) ≤ 1 := by
  unfold sq
  rw [Rat.num_intCast, Rat.den_intCast]
  have h1 : L n.natAbs ≤ 1 := L_le (n := n.natAbs) (k := 1) (by omega)
  have h2 : L 1 ≤ 1 := L_le (n := 1) (k := 1) (by decide)
  omega
end Go.Pe
set_option linter.unusedSimpArgs false
set_option linter.unusedVariables false
open Go
namespace Go.Pe
theorem qmake_c {n d : Int} (hn : L n.natAbs ≤ 100000000000) (hd : L d.natAbs ≤ 100000000000) (h0 : d ≠ 0) : R FF 122 [(AV.agg [AV.b (ng n), (AV.l 1 (List.map u (D (Int.natAbs n))))]), (AV.agg [AV.b (ng d), (AV.l 1 (List.map u (D (Int.natAbs d))))])] = some (.tup [(AV.agg [AV.b (ng (Rat.num ((Rat.divInt n d)))), (AV.l 1 (List.map u (D (Int.natAbs (Rat.num ((Rat.divInt n d))))))), (AV.l 1 (List.map u (D (Rat.den ((Rat.divInt n d))))))]), (AV.i .i64 0)]) := by
  have k1 := wclean_c (q := ng n) (D_U n.natAbs) (show L _ ≤ _ by omega)
  have k2 := wclean_c (q := ng d) (D_U d.natAbs) (show L _ ≤ _ by omega)
  have s1 := wsign_c (q := ng d) (D_U d.natAbs) (show L _ ≤ _ by omega)
  have m1 := wneg_c (q := ng n) (D_U n.natAbs) (show L _ ≤ _ by omega)
  rw [wv_ci] at k1 k2 s1 m1
  have c0 : ¬ cmp d 0 = 0 := fun h => h0 (cmp_eq_iff.1 h)
  rcases Int.lt_or_le d 0 with c | c
  · have e1 : d = -((d.natAbs : Nat) : Int) := by omega
    have e2 : Rat.divInt n d = mkRat (-n) d.natAbs := by
      conv => lhs; rw [e1]
      rw [Rat.divInt_neg', Rat.divInt_ofNat]
    have f1 := form_c (n := -n) (d := d.natAbs) (by omega) (by rw [Int.natAbs_neg]; omega) hd
    have b1 : ng d = true := by unfold ng; exact decide_eq_true c
    rw [e2]
    rw [b1] at k2 s1 ⊢
    generalize mkRat (-n) d.natAbs = z at *
    rw [R_go FF F122 c122.eq_1]
    simp only [RB, un, St.none, Nat.reduceEqDiff, Nat.reduceAdd, Nat.reduceMul, Nat.reduceMod, Nat.reduceLeDiff, Nat.reduceLT, Int.reduceLT, Int.reduceLE, Int.reduceEq, Int.reduceToNat, Int.reduceSub, Int.reduceNeg, Int.reduceAdd, ↓reduceIte, reduceCtorEq, ite_self, eq_self, if_true, if_false, pack, pid, parN, List.not_mem_nil, List.mem_cons, lid, chkK, apartV, List.map_nil, List.flatMap_nil, List.append_nil, List.nil_append, List.drop_zero, List.length_set, List.length_replicate, List.length_append, List.take_length, List.take_zero, List.drop_length, Option.isNone_none, Heap.none, k1, k2, s1, m1, c0, f1]
  · have e1 : d = ((d.natAbs : Nat) : Int) := by omega
    have e2 : Rat.divInt n d = mkRat n d.natAbs := by
      conv => lhs; rw [e1]
      rw [Rat.divInt_ofNat]
    have f1 := form_c (n := n) (d := d.natAbs) (by omega) hn hd
    have b1 : ng d = false := ng_false.2 c
    rw [e2]
    rw [b1] at k2 s1 ⊢
    generalize mkRat n d.natAbs = z at *
    rw [R_go FF F122 c122.eq_1]
    simp only [RB, un, St.none, Nat.reduceEqDiff, Nat.reduceAdd, Nat.reduceMul, Nat.reduceMod, Nat.reduceLeDiff, Nat.reduceLT, Int.reduceLT, Int.reduceLE, Int.reduceEq, Int.reduceToNat, Int.reduceSub, Int.reduceNeg, Int.reduceAdd, ↓reduceIte, reduceCtorEq, ite_self, eq_self, if_true, if_false, pack, pid, parN, List.not_mem_nil, List.mem_cons, lid, chkK, apartV, List.map_nil, List.flatMap_nil, List.append_nil, List.nil_append, List.drop_zero, List.length_set, List.length_replicate, List.length_append, List.take_length, List.take_zero, List.drop_length, Option.isNone_none, Heap.none, k1, k2, s1, m1, c0, f1]
theorem qinv_c {q : Bool} {l d : List Int} {k : Nat} (hk : k ≤ 10000000000) (h1k : 1 ≤ k) (h : Sm l d k) (h0 : qv q l d ≠ 0) : R FF 220 [(AV.agg [AV.b q, (AV.l 1 (List.map u l)), (AV.l 1 (List.map u d))])] = some (.tup [(AV.agg [AV.b (ng (Rat.num ((qv q l d)⁻¹))), (AV.l 1 (List.map u (D (Int.natAbs (Rat.num ((qv q l d)⁻¹)))))), (AV.l 1 (List.map u (D (Rat.den ((qv q l d)⁻¹)))))]), (AV.i .i64 0)]) := by
  have k1 := qclean_s (q := q) h (by omega)
  have s1 := Sm.sq (q := q) h h1k
  generalize qv q l d = x at *
  have e1 := qden_c (q := ng x.num) (l := D x.num.natAbs) (d := D x.den)
  have n1 := sq_num x
  have n2 := sq_den x
  have m1 := qmake_c (n := (x.den : Int)) (d := x.num) (by rw [Int.natAbs_natCast]; omega) (by omega) (fun h => h0 (Rat.num_eq_zero.1 h))
  rw [← Rat.inv_def, ng_false.2 (by omega), Int.natAbs_natCast] at m1
  generalize x⁻¹ = y at *
  rw [R_go FF F220 c220.eq_1]
  simp only [RB, un, St.none, Nat.reduceEqDiff, Nat.reduceAdd, Nat.reduceMul, Nat.reduceMod, Nat.reduceLeDiff, Nat.reduceLT, Int.reduceLT, Int.reduceLE, Int.reduceEq, Int.reduceToNat, Int.reduceSub, Int.reduceNeg, Int.reduceAdd, ↓reduceIte, reduceCtorEq, ite_self, eq_self, if_true, if_false, pack, pid, parN, List.not_mem_nil, List.mem_cons, lid, chkK, apartV, List.map_nil, List.flatMap_nil, List.append_nil, List.nil_append, List.drop_zero, List.length_set, List.length_replicate, List.length_append, List.take_length, List.take_zero, List.drop_length, Option.isNone_none, Heap.none, k1, e1, m1]
end Go.Pe
set_option linter.unusedSimpArgs false
set_option linter.unusedVariables false
open Go
namespace Go.Pe
theorem SzE.two {c d : Rat} {k : Nat} (h1k : 1 ≤ k) (h1 : sq c ≤ k) (h2 : sq d ≤ k) : SzE (co [c, d]) k := fun i => by
  match i with
  | 0 => exact h1
  | 1 => exact h2
  | i + 2 => rw [co_big (by simp)]; exact Nat.le_trans sq_zero h1k
theorem SzE.muT {a b : List Rat} {k m n : Nat} (ha : SzE (co a) k) (hb : SzE (co b) m) (hl : a.length ≤ n) : SzE (co (muT a b)) (n * (k + m + 1) + 1) := by
  rw [co_muT]
  exact SzE.mu ha hb ((co_dg a).mono hl)
theorem SzE.addT {a b : List Rat} {k m : Nat} (ha : SzE (co a) k) (hb : SzE (co b) m) : SzE (co (addT a b)) (k + m + 1) := by rw [co_addT]; exact SzE.add ha hb
theorem SzE.subT {a b : List Rat} {k m : Nat} (ha : SzE (co a) k) (hb : SzE (co b) m) : SzE (co (subT a b)) (k + m + 1) := by rw [co_subT]; exact SzE.sub ha hb
theorem SzE.scT {a : List Rat} {k m : Nat} (ha : SzE (co a) k) {c : Rat} (hc : sq c ≤ m) : SzE (co (scT a c)) (k + m) := by rw [co_scT]; exact SzE.sc ha hc
theorem SzE.single {c : Rat} {k : Nat} (h1k : 1 ≤ k) (h : sq c ≤ k) : SzE (co [c]) k := fun i => by
  match i with
  | 0 => exact h
  | i + 1 => rw [co_big (by simp)]; exact Nat.le_trans sq_zero h1k
theorem evl_sq {l : List Rat} {x : Rat} {k m n : Nat} (hl : SzE (co l) k) (hx : sq x ≤ m) (hn : l.length ≤ n) : sq (evl l x) ≤ n * (k + m + 1) + 1 := by
  have h := ef_sq hl hx l.length
  have := Nat.mul_le_mul_right (k + m + 1) hn
  unfold evl
  omega
structure Lst where
  r : List Rat
  s : List Rat
  x : List Rat
  y : List Rat
  u : List Rat
  v : List Rat
def lsN (t : Lst) : Lst := ⟨t.s, dvR t.r t.s, t.u, t.v, subT t.x (muT (dvQ t.r t.s) t.u), subT t.y (muT (dvQ t.r t.s) t.v)⟩
def chF : Nat → List Rat → List Rat → List (List Rat)
  | 0, _, _ => []
  | n + 1, p, q => if q = [] then [] else q :: chF n q (scT (dvR p q) (-1))
def chT (p : List Rat) : List (List Rat) := if p = [] then [] else p :: chF p.length p (dT p)
theorem scT_len {a : List Rat} {c : Rat} (h : Ca a) (hc : c ≠ 0) : (scT a c).length = a.length := by
  have h1 : (scT a c).length ≤ a.length := tk_le _ _
  rcases h with h | h
  · omega
  · rcases Nat.lt_or_ge (scT a c).length a.length with k | k
    · have h2 := co_dg (scT a c) (a.length - 1) (by omega)
      rw [co_scT] at h2
      rcases Rat.mul_eq_zero.1 h2 with h3 | h3
      · exact absurd h3 h
      · exact absurd h3 hc
    · omega
theorem dT_len (l : List Rat) : (dT l).length ≤ l.length - 1 := tk_le _ _
end Go.Pe
set_option linter.unusedSimpArgs false
set_option linter.unusedVariables false
open Go
namespace Go.Pe
def upF (g : Fn) (e : Nat) (v : Rat) : Fn := fun j => if j = e then v else g j
theorem nf_el (f : Fn) (n i : Nat) (h : i < (nf f n).length) : (nf f n)[i] = rQ (f i) := by simp [nf]
theorem nf_set (g : Fn) (n e : Nat) (v : Rat) : (nf g n).set e (rQ v) = nf (upF g e v) n := by
  apply List.ext_getElem
  · rw [List.length_set, nf_len, nf_len]
  · intro i h1 h2
    rw [List.getElem_set, nf_el, nf_el]
    unfold upF
    by_cases c : e = i
    · rw [if_pos c, if_pos c.symm]
    · rw [if_neg c, if_neg (fun h => c h.symm)]
theorem nf_put (g : Fn) (n e : Nat) (v : Rat) : putC 3 ((nf g n).map eQ) e 0 [.b (ng v.num), (AV.l 1 (List.map u (D v.num.natAbs))), (AV.l 1 (List.map u (D v.den)))] = (nf (upF g e v) n).map eQ := by
  rw [← nf_set]
  exact putC_map eQ 3 (nf g n) e (rQ v) rfl
theorem nf_vQ (g : Fn) {n i : Nat} (h : i < n) : vQ ((nf g n).getD i dQ) = g i := by rw [nf_get g h, vQ_rQ]
theorem vQ_r {l : List Rat} {i : Nat} (h : i < l.length) : vQ ((l.map rQ).getD i dQ) = co l i := by rw [getD_r h, vQ_rQ]
theorem smi_r {l : List Rat} {i k : Nat} (h : i < l.length) (hl : SzE (co l) k) : Sm ((l.map rQ).getD i dQ).2.1 ((l.map rQ).getD i dQ).2.2 k := by rw [getD_r h]; exact sm_cq (hl i)
def zlO (n i : Nat) : List (Option RQt) := List.replicate i (some (rQ 0)) ++ List.replicate (n - i) none
theorem zlO_len {n i : Nat} (h : i ≤ n) : (zlO n i).length = n := by
  unfold zlO
  rw [List.length_append, List.length_replicate, List.length_replicate]; omega
theorem zlO_set {n i : Nat} (h : i < n) : (zlO n i).set i (some (rQ 0)) = zlO n (i + 1) := by
  unfold zlO
  rw [List.set_append_right _ _ (by rw [List.length_replicate]; omega), List.length_replicate, Nat.sub_self, show n - i = (n - (i + 1)) + 1 by omega, List.replicate_succ (n := n - (i + 1)), List.set_cons_zero, List.replicate_succ' (n := i), List.append_assoc]
  rfl
theorem zlO_end (n : Nat) : (zlO n n).map eO = (nf (fun _ => 0) n).map eQ := by
  unfold zlO nf
  rw [Nat.sub_self, List.replicate_zero, List.append_nil, List.map_replicate, List.map_map]
  apply List.ext_getElem
  · simp
  · intro i h1 h2; simp [eO]
theorem pmul_z {A B : List Rat} {n : Nat} (hn : n ≤ 100000000000) : ∀ (d i : Nat), i + d = n →
    LP FF [(5, 1), (0, 0), (1, 0), (31, 0), (32, 0)] [(5, 1), (0, 0), (1, 0)] b164_2 [.own true 3 ((zlO n i).map eO), (AV.l 3 (List.map eQ (List.map rQ A))), (AV.l 3 (List.map eQ (List.map rQ B))), (AV.i .i64 ((n : Int))), (AV.i .i64 ((i : Int)))] = some (.exit 0, [.own true 3 ((nf (fun _ => 0) n).map eQ), (AV.l 3 (List.map eQ (List.map rQ A))), (AV.l 3 (List.map eQ (List.map rQ B)))]) := by
  intro d
  induction d with
  | zero =>
    intro i hi
    obtain rfl : i = n := by omega
    have c1 : ¬ (i : Int) < (i : Int) := by omega
    have t1 : List.take i (nf (fun _ => 0) i) = nf (fun _ => 0) i := List.take_of_length_le (by rw [nf_len]; exact Nat.le_refl _)
    rw [zlO_end]
    rw [LP_go FF b164_2.eq_1]
    simp only [RB, un, St.none, Nat.reduceEqDiff, Nat.reduceAdd, Nat.reduceMul, Nat.reduceMod, Nat.reduceLeDiff, Nat.reduceLT, Int.reduceLT, Int.reduceLE, Int.reduceEq, Int.reduceToNat, Int.reduceSub, Int.reduceNeg, Int.reduceAdd, ↓reduceIte, reduceCtorEq, ite_self, eq_self, if_true, if_false, pack, pid, parN, List.not_mem_nil, List.mem_cons, lid, chkK, apartV, List.map_nil, List.flatMap_nil, List.append_nil, List.nil_append, List.drop_zero, List.length_set, List.length_replicate, List.length_append, List.take_length, List.take_zero, List.drop_length, Option.isNone_none, Heap.none, c1, eQ_rules, t1, nf_len]
  | succ d ih =>
    intro i hi
    have h9 := ih (i + 1) (by omega)
    have c1 : (i : Int) < (n : Int) := by omega
    have e1 : IntKind.i64.wrap ((i : Int) + 1) = ((i + 1 : Nat) : Int) := w64succ (by omega)
    have z1 := qzero_c
    have hlen := zlO_len (show i ≤ n by omega)
    have p1 := eO_put (zlO n i) i (rQ 0)
    rw [zlO_set (by omega)] at p1
    change putC 3 (List.map eO (zlO n i)) i 0 [.b (ng (0 : Rat).num), (AV.l 1 (List.map u (D (0 : Rat).num.natAbs))), (AV.l 1 (List.map u (D (0 : Rat).den)))] = _ at p1
    have c3 : (i : Int) < ((List.map eO (zlO n i)).length : Int) := by rw [List.length_map, hlen]; omega
    have c4 : i < n := by omega
    have t1 : List.take n (zlO n (i + 1)) = zlO n (i + 1) := List.take_of_length_le (by rw [zlO_len (by omega)]; exact Nat.le_refl _)
    generalize zlO n i = L' at *
    generalize zlO n (i + 1) = L2 at *
    rw [LP_go FF b164_2.eq_1]
    simp only [RB, un, St.none, Nat.reduceEqDiff, Nat.reduceAdd, Nat.reduceMul, Nat.reduceMod, Nat.reduceLeDiff, Nat.reduceLT, Int.reduceLT, Int.reduceLE, Int.reduceEq, Int.reduceToNat, Int.reduceSub, Int.reduceNeg, Int.reduceAdd, ↓reduceIte, reduceCtorEq, ite_self, eq_self, if_true, if_false, pack, pid, parN, List.not_mem_nil, List.mem_cons, lid, chkK, apartV, List.map_nil, List.flatMap_nil, List.append_nil, List.nil_append, List.drop_zero, List.length_set, List.length_replicate, List.length_append, List.take_length, List.take_zero, List.drop_length, Option.isNone_none, Heap.none, c1, c4, e1, eQ_rules, eQ_row, Int.natCast_nonneg, z1, hlen, p1, List.length_map, t1]
    exact h9
def adF (g : Fn) (i : Nat) (x : Rat) (B : Fn) (k : Nat) : Fn := fun j => if i ≤ j ∧ j < i + k then g j + x * B (j - i) else g j
theorem adF_zero (g : Fn) (i : Nat) (x : Rat) (B : Fn) : adF g i x B 0 = g := by funext j; unfold adF; rw [if_neg (by omega)]
theorem adF_succ (g : Fn) (i : Nat) (x : Rat) (B : Fn) (k : Nat) : upF (adF g i x B k) (i + k) (g (i + k) + x * B k) = adF g i x B (k + 1) := by
  funext j
  unfold upF adF
  by_cases c : j = i + k
  · rw [if_pos c, if_pos (by omega), c, Nat.add_sub_cancel_left]
  · rw [if_neg c]
    by_cases d : i ≤ j ∧ j < i + k
    · rw [if_pos d, if_pos (by omega)]
    · rw [if_neg d, if_neg (by omega)]
theorem adF_at (g : Fn) (i : Nat) (x : Rat) (B : Fn) (k : Nat) : adF g i x B k (i + k) = g (i + k) := by unfold adF; rw [if_neg (by omega)]
theorem pmul_l1 {A B : List Rat} {g : Fn} {n i k m : Nat} (hk : k ≤ 10000000000) (hm : m ≤ 10000000000) (hn : n ≤ 100000000000) (hi : i < A.length) (hl : i + B.length ≤ n) (hA : SzE (co A) m) (hB : SzE (co B) m) (hg : SzE g k) : ∀ (d j : Nat), j + d = B.length →
    LP FF [(5, 1), (1, 0), (7, 0), (8, 0), (40, 0), (41, 0), (42, 0), (47, 0), (48, 0), (49, 0)] [(5, 1), (1, 0), (40, 0), (41, 0), (42, 0)] b164_1 [.own true 3 ((nf (adF g i (co A i) (co B) j) n).map eQ), (AV.l 3 (List.map eQ (List.map rQ B))), (AV.i .i64 ((i : Int))), .tp (eQ ((A.map rQ).getD i dQ)) 0, (AV.l 3 (List.map eQ (List.map rQ A))), (AV.i .i64 ((A.length : Int))), (AV.i .i64 ((i : Int))), (AV.l 3 (List.map eQ (List.map rQ B))), (AV.i .i64 ((B.length : Int))), (AV.i .i64 ((j : Int)))] =
      some (.exit 4, [.own true 3 ((nf (adF g i (co A i) (co B) B.length) n).map eQ), (AV.l 3 (List.map eQ (List.map rQ B))), (AV.l 3 (List.map eQ (List.map rQ A))), (AV.i .i64 ((A.length : Int))), (AV.i .i64 ((i : Int)))]) := by
  intro d
  induction d with
  | zero =>
    intro j hj
    obtain rfl : j = B.length := by omega
    have c1 : ¬ (B.length : Int) < (B.length : Int) := by omega
    have t1 : ∀ f : Fn, List.take n (nf f n) = nf f n := fun f => List.take_of_length_le (by rw [nf_len]; exact Nat.le_refl _)
    rw [LP_go FF b164_1.eq_1]
    simp only [RB, un, St.none, Nat.reduceEqDiff, Nat.reduceAdd, Nat.reduceMul, Nat.reduceMod, Nat.reduceLeDiff, Nat.reduceLT, Int.reduceLT, Int.reduceLE, Int.reduceEq, Int.reduceToNat, Int.reduceSub, Int.reduceNeg, Int.reduceAdd, ↓reduceIte, reduceCtorEq, ite_self, eq_self, if_true, if_false, pack, pid, parN, List.not_mem_nil, List.mem_cons, lid, chkK, apartV, List.map_nil, List.flatMap_nil, List.append_nil, List.nil_append, List.drop_zero, List.length_set, List.length_replicate, List.length_append, List.take_length, List.take_zero, List.drop_length, Option.isNone_none, Heap.none, c1, eQ_rules, t1, nf_len]
  | succ d ih =>
    intro j hj
    have h9 := ih (j + 1) (by omega)
    rw [← adF_succ] at h9
    have c1 : (j : Int) < (B.length : Int) := by omega
    have e1 : IntKind.i64.wrap ((j : Int) + 1) = ((j + 1 : Nat) : Int) := w64succ (by omega)
    have e2 : IntKind.i64.wrap ((i : Int) + (j : Int)) = ((i + j : Nat) : Int) := by rw [w64 (by omega) (by omega)]; omega
    have c2 : i + j < n := by omega
    have c3 : ((i + j : Nat) : Int) < (n : Int) := by omega
    have x1 := vQ_r hi
    have x2 := smi_r hi hA
    have y1 := vQ_r (show j < B.length by omega)
    have y2 := smi_r (show j < B.length by omega) hB
    have z1 := nf_vQ (adF g i (co A i) (co B) j) c2
    rw [adF_at] at z1
    have z2 : Sm ((nf (adF g i (co A i) (co B) j) n).getD (i + j) dQ).2.1 ((nf (adF g i (co A i) (co B) j) n).getD (i + j) dQ).2.2 k := by rw [nf_get _ c2, adF_at]; exact sm_cq (hg _)
    have b1 : sq (co A i * co B j) ≤ 20000000000 := by have := sq_mul (co A i) (co B j); have := hA i; have := hB j; omega
    have pu := fun v => nf_put (adF g i (co A i) (co B) j) n (i + j) v
    have ln := nf_len (adF g i (co A i) (co B) j) n
    have ln2 := fun v => nf_len (upF (adF g i (co A i) (co B) j) (i + j) v) n
    have t1 : ∀ v, List.take n (nf (upF (adF g i (co A i) (co B) j) (i + j) v) n) = nf (upF (adF g i (co A i) (co B) j) (i + j) v) n := fun v => List.take_of_length_le (by rw [nf_len]; exact Nat.le_refl _)
    generalize (A.map rQ).getD i dQ = X at *
    generalize hY : (B.map rQ).getD j dQ = Y at *
    generalize hZ : (nf (adF g i (co A i) (co B) j) n).getD (i + j) dQ = Z at *
    have g1 : R FF 94 [(AV.agg [AV.b X.1, (AV.l 1 (List.map u X.2.1)), (AV.l 1 (List.map u X.2.2))]), (AV.agg [AV.b Y.1, (AV.l 1 (List.map u Y.2.1)), (AV.l 1 (List.map u Y.2.2))])] = some (AV.agg [AV.b (ng (Rat.num ((vQ X * vQ Y)))), (AV.l 1 (List.map u (D (Int.natAbs (Rat.num ((vQ X * vQ Y))))))), (AV.l 1 (List.map u (D (Rat.den ((vQ X * vQ Y))))))]) := qmul_s x2 y2 (by omega) (by omega)
    rw [x1, y1] at g1
    have g2 : R FF 31 [(AV.agg [AV.b Z.1, (AV.l 1 (List.map u Z.2.1)), (AV.l 1 (List.map u Z.2.2))]), (AV.agg [AV.b (ng (Rat.num ((co A i * co B j)))), (AV.l 1 (List.map u (D (Int.natAbs (Rat.num ((co A i * co B j))))))), (AV.l 1 (List.map u (D (Rat.den ((co A i * co B j))))))])] = some (AV.agg [AV.b (ng (Rat.num ((vQ Z + qv (ng (co A i * co B j).num) (D (co A i * co B j).num.natAbs) (D (co A i * co B j).den))))), (AV.l 1 (List.map u (D (Int.natAbs (Rat.num ((vQ Z + qv (ng (co A i * co B j).num) (D (co A i * co B j).num.natAbs) (D (co A i * co B j).den)))))))), (AV.l 1 (List.map u (D (Rat.den ((vQ Z + qv (ng (co A i * co B j).num) (D (co A i * co B j).num.natAbs) (D (co A i * co B j).den)))))))]) := qadd_s z2 (sm_cq b1) (by omega) (by omega)
    rw [qv_cq, z1] at g2
    generalize nf (adF g i (co A i) (co B) j) n = N' at *
    generalize co A i * co B j = w at *
    generalize g (i + j) + w = w2 at *
    rw [LP_go FF b164_1.eq_1]
    simp only [RB, un, St.none, Nat.reduceEqDiff, Nat.reduceAdd, Nat.reduceMul, Nat.reduceMod, Nat.reduceLeDiff, Nat.reduceLT, Int.reduceLT, Int.reduceLE, Int.reduceEq, Int.reduceToNat, Int.reduceSub, Int.reduceNeg, Int.reduceAdd, ↓reduceIte, reduceCtorEq, ite_self, eq_self, if_true, if_false, pack, pid, parN, List.not_mem_nil, List.mem_cons, lid, chkK, apartV, List.map_nil, List.flatMap_nil, List.append_nil, List.nil_append, List.drop_zero, List.length_set, List.length_replicate, List.length_append, List.take_length, List.take_zero, List.drop_length, Option.isNone_none, Heap.none, c1, c2, c3, e1, e2, eQ_rules, eQ_row, Int.natCast_nonneg, List.length_map, ln, hY, hZ, g1, g2, pu, ln2, t1]
    exact h9
def muG (A B : Fn) (n : Nat) : Nat → Fn
  | 0 => fun _ => 0
  | i + 1 => adF (muG A B n i) i (A i) B n
theorem muG_cv {A B : Fn} {n : Nat} (hB : Dg B n) : ∀ i j, muG A B n i j = cv A B i j := by
  intro i
  induction i with
  | zero => intro j; rfl
  | succ i ih =>
    intro j
    show adF (muG A B n i) i (A i) B n j = cv A B i j + (if i ≤ j then A i * B (j - i) else 0)
    unfold adF
    rw [ih]
    by_cases c : i ≤ j
    · rw [if_pos c]
      by_cases d : j < i + n
      · rw [if_pos ⟨c, d⟩]
      · rw [if_neg (by omega), hB (j - i) (by omega)]; grind
    · rw [if_neg (by omega), if_neg c]; grind
theorem pmul_l0 {A B : List Rat} {n k m : Nat} (hk : k ≤ 10000000000) (hm : m ≤ 10000000000) (hn : n ≤ 100000000000) (hl : A.length + B.length ≤ n + 1) (hA : SzE (co A) m) (hB : SzE (co B) m) (hg : ∀ i, i ≤ A.length → SzE (muG (co A) (co B) B.length i) k) : ∀ (d i : Nat), i + d = A.length →
    LP FF [(5, 1), (1, 0), (40, 0), (41, 0), (42, 0)] [(5, 0)] b164_0 [.own true 3 ((nf (muG (co A) (co B) B.length i) n).map eQ), (AV.l 3 (List.map eQ (List.map rQ B))), (AV.l 3 (List.map eQ (List.map rQ A))), (AV.i .i64 ((A.length : Int))), (AV.i .i64 ((i : Int)))] = some (.exit 2, [.l 3 ((nf (muG (co A) (co B) B.length A.length) n).map eQ)]) := by
  intro d
  induction d with
  | zero =>
    intro i hi
    obtain rfl : i = A.length := by omega
    have c1 : ¬ (A.length : Int) < (A.length : Int) := by omega
    have t1 : ∀ f : Fn, List.take n (nf f n) = nf f n := fun f => List.take_of_length_le (by rw [nf_len]; exact Nat.le_refl _)
    rw [LP_go FF b164_0.eq_1]
    simp only [RB, un, St.none, Nat.reduceEqDiff, Nat.reduceAdd, Nat.reduceMul, Nat.reduceMod, Nat.reduceLeDiff, Nat.reduceLT, Int.reduceLT, Int.reduceLE, Int.reduceEq, Int.reduceToNat, Int.reduceSub, Int.reduceNeg, Int.reduceAdd, ↓reduceIte, reduceCtorEq, ite_self, eq_self, if_true, if_false, pack, pid, parN, List.not_mem_nil, List.mem_cons, lid, chkK, apartV, List.map_nil, List.flatMap_nil, List.append_nil, List.nil_append, List.drop_zero, List.length_set, List.length_replicate, List.length_append, List.take_length, List.take_zero, List.drop_length, Option.isNone_none, Heap.none, c1, eQ_rules, t1, nf_len]
  | succ d ih =>
    intro i hi
    have h9 := ih (i + 1) (by omega)
    have h1 := pmul_l1 (g := muG (co A) (co B) B.length i) hk hm hn (show i < A.length by omega) (by omega) hA hB (hg i (by omega)) B.length 0 (by omega)
    rw [adF_zero, Int.ofNat_zero] at h1
    have e0 : adF (muG (co A) (co B) B.length i) i (co A i) (co B) B.length = muG (co A) (co B) B.length (i + 1) := rfl
    rw [e0] at h1
    have c1 : (i : Int) < (A.length : Int) := by omega
    have e1 : IntKind.i64.wrap ((i : Int) + 1) = ((i + 1 : Nat) : Int) := w64succ (by omega)
    have t1 : ∀ f : Fn, List.take n (nf f n) = nf f n := fun f => List.take_of_length_le (by rw [nf_len]; exact Nat.le_refl _)
    rw [LP_go FF b164_0.eq_1]
    simp only [RB, un, St.none, Nat.reduceEqDiff, Nat.reduceAdd, Nat.reduceMul, Nat.reduceMod, Nat.reduceLeDiff, Nat.reduceLT, Int.reduceLT, Int.reduceLE, Int.reduceEq, Int.reduceToNat, Int.reduceSub, Int.reduceNeg, Int.reduceAdd, ↓reduceIte, reduceCtorEq, ite_self, eq_self, if_true, if_false, pack, pid, parN, List.not_mem_nil, List.mem_cons, lid, chkK, apartV, List.map_nil, List.flatMap_nil, List.append_nil, List.nil_append, List.drop_zero, List.length_set, List.length_replicate, List.length_append, List.take_length, List.take_zero, List.drop_length, Option.isNone_none, Heap.none, c1, e1, eQ_rules, eQ_row, Int.natCast_nonneg, List.length_map, nf_len, t1]
    rw [show eQ ((List.map rQ A).getD i dQ) = [.b ((List.map rQ A).getD i dQ).1, (AV.l 1 (List.map u (((List.map rQ A).getD i dQ).2.1))), (AV.l 1 (List.map u (((List.map rQ A).getD i dQ).2.2)))] from rfl] at h1
    simp only [RB, un, St.none, Nat.reduceEqDiff, Nat.reduceAdd, Nat.reduceMul, Nat.reduceMod, Nat.reduceLeDiff, Nat.reduceLT, Int.reduceLT, Int.reduceLE, Int.reduceEq, Int.reduceToNat, Int.reduceSub, Int.reduceNeg, Int.reduceAdd, ↓reduceIte, reduceCtorEq, ite_self, eq_self, if_true, if_false, pack, pid, parN, List.not_mem_nil, List.mem_cons, lid, chkK, apartV, List.map_nil, List.flatMap_nil, List.append_nil, List.nil_append, List.drop_zero, List.length_set, List.length_replicate, List.length_append, List.take_length, List.take_zero, List.drop_length, Option.isNone_none, Heap.none, h1, e1, eQ_rules, eQ_row, nf_len, t1]
    exact h9
theorem pmul_r {a b : List RQt} {k n : Nat} (hk : n * (2 * k + 1) + 1 ≤ 10000000000) (h1k : 1 ≤ k) (la : a.length ≤ n) (hn : n ≤ 1000000) (lb : b.length ≤ 1000000) (h1 : SmL a k) (h2 : SmL b k) (hk2 : k ≤ 1000000000) : R FF 164 [.l 3 (a.map eQ), .l 3 (b.map eQ)] = some (AV.l 3 (List.map eQ (List.map rQ (muT (vsQ a) (vsQ b))))) := by
  have k1 := pclean_r (p := a) (by omega) h1k (by omega) h1
  have k2 := pclean_r (p := b) (by omega) h1k (by omega) h2
  have ea := (SmL.vsQ h1 h1k)
  have eb := (SmL.vsQ h2 h1k)
  have lA : (tr (vsQ a)).length ≤ n := Nat.le_trans (tr_le _) (by rw [vsQ_len]; exact la)
  have lB : (tr (vsQ b)).length ≤ 1000000 := Nat.le_trans (tr_le _) (by rw [vsQ_len]; exact lb)
  have e0 : muT (vsQ a) (vsQ b) = muT (tr (vsQ a)) (tr (vsQ b)) := ca_ext (ca_tk _ _) (ca_tk _ _) fun i => by rw [co_muT, co_muT, co_tr', co_tr']
  rw [e0]
  rw [← co_tr'] at ea eb
  have cA := ca_tr (vsQ a)
  have cB := ca_tr (vsQ b)
  generalize tr (vsQ a) = A at *
  generalize tr (vsQ b) = B at *
  by_cases hA0 : A = []
  · have e1 : muT A B = [] := ca_zero (ca_tk _ _) fun i => by rw [co_muT, hA0, show co [] = fun _ => 0 from by funext i; rfl, mu_z]
    rw [e1]
    subst hA0
    rw [R_go FF F164 c164.eq_1]
    simp only [RB, un, St.none, Nat.reduceEqDiff, Nat.reduceAdd, Nat.reduceMul, Nat.reduceMod, Nat.reduceLeDiff, Nat.reduceLT, Int.reduceLT, Int.reduceLE, Int.reduceEq, Int.reduceToNat, Int.reduceSub, Int.reduceNeg, Int.reduceAdd, ↓reduceIte, reduceCtorEq, ite_self, eq_self, if_true, if_false, pack, pid, parN, List.not_mem_nil, List.mem_cons, lid, chkK, apartV, List.map_nil, List.flatMap_nil, List.append_nil, List.nil_append, List.drop_zero, List.length_set, List.length_replicate, List.length_append, List.take_length, List.take_zero, List.drop_length, Option.isNone_none, Heap.none, k1, k2, List.length_nil]
  · by_cases hB0 : B = []
    · have e1 : muT A B = [] := ca_zero (ca_tk _ _) fun i => by rw [co_muT, hB0, mu_comm, show co [] = fun _ => 0 from by funext i; rfl, mu_z]
      rw [e1]
      subst hB0
      have c1 : ¬ (A.length : Int) = 0 := by have := List.length_pos_iff.2 hA0; omega
      rw [R_go FF F164 c164.eq_1]
      simp only [RB, un, St.none, Nat.reduceEqDiff, Nat.reduceAdd, Nat.reduceMul, Nat.reduceMod, Nat.reduceLeDiff, Nat.reduceLT, Int.reduceLT, Int.reduceLE, Int.reduceEq, Int.reduceToNat, Int.reduceSub, Int.reduceNeg, Int.reduceAdd, ↓reduceIte, reduceCtorEq, ite_self, eq_self, if_true, if_false, pack, pid, parN, List.not_mem_nil, List.mem_cons, lid, chkK, apartV, List.map_nil, List.flatMap_nil, List.append_nil, List.nil_append, List.drop_zero, List.length_set, List.length_replicate, List.length_append, List.take_length, List.take_zero, List.drop_length, Option.isNone_none, Heap.none, k1, k2, List.length_nil, List.length_map, c1]
    · have p1 := List.length_pos_iff.2 hA0
      have p2 := List.length_pos_iff.2 hB0
      have c1 : ¬ (A.length : Int) = 0 := by omega
      have c2 : ¬ (B.length : Int) = 0 := by omega
      have e1 : IntKind.i64.wrap ((A.length : Int) + (B.length : Int)) = (A.length : Int) + (B.length : Int) := w64 (by omega) (by omega)
      have e2 : IntKind.i64.wrap ((A.length : Int) + (B.length : Int) - 1) = ((A.length + B.length - 1 : Nat) : Int) := by rw [w64 (by omega) (by omega)]; omega
      have hd := co_dg B
      have hz : ∀ i, i ≤ A.length → SzE (muG (co A) (co B) B.length i) 10000000000 := fun i hi j => by
        rw [muG_cv hd]
        have h3 := SzE.cv ea eb j i
        have h4 : i * (k + k + 1) ≤ n * (k + k + 1) := Nat.mul_le_mul_right _ (by omega)
        rw [show k + k = 2 * k by omega] at h3 h4
        omega
      have z0 := pmul_z (A := A) (B := B) (n := A.length + B.length - 1) (by omega) (A.length + B.length - 1) 0 (by omega)
      have l0 := pmul_l0 (n := A.length + B.length - 1) (k := 10000000000) (m := k) (by omega) (by omega) (by omega) (by omega) ea eb hz A.length 0 (by omega)
      have e3 : List.map eO (zlO (A.length + B.length - 1) 0) = List.replicate (A.length + B.length - 1) [AV.b false, AV.ns 1, AV.ns 1] := by
        unfold zlO
        rw [List.replicate_zero, List.nil_append, Nat.sub_zero, List.map_replicate]
        rfl
      rw [e3, Int.ofNat_zero] at z0
      rw [Int.ofNat_zero, show muG (co A) (co B) B.length 0 = fun _ => 0 from rfl] at l0
      have e4 : muG (co A) (co B) B.length A.length = mu (co A) (co B) := by funext j; rw [muG_cv hd, cv_dg (co_dg A)]
      have t1 := ptrim_c (p := nf (muG (co A) (co B) B.length A.length) (A.length + B.length - 1)) (k := 10000000000) (by omega) (by rw [nf_len]; have : maxL = 9223372036854775807 := rfl; omega) (nf_sm fun i _ => hz A.length (Nat.le_refl _) i)
      rw [trim_tk, e4, show tk (mu (co A) (co B)) (A.length + B.length - 1) = muT A B from rfl] at t1
      rw [e4] at l0
      have b1 : (A.length + B.length - 1) * 56 ≤ 281474976710656 := by omega
      have r1 : List.take (A.length + B.length - 1) (List.replicate (A.length + B.length - 1) [AV.b false, AV.ns 1, AV.ns 1]) = List.replicate (A.length + B.length - 1) [AV.b false, AV.ns 1, AV.ns 1] := List.take_of_length_le (by rw [List.length_replicate]; exact Nat.le_refl _)
      have t2 : ∀ f : Fn, List.take (A.length + B.length - 1) (nf f (A.length + B.length - 1)) = nf f (A.length + B.length - 1) := fun f => List.take_of_length_le (by rw [nf_len]; exact Nat.le_refl _)
      generalize A.length + B.length - 1 = N at *
      rw [R_go FF F164 c164.eq_1]
      simp only [RB, un, St.none, Nat.reduceEqDiff, Nat.reduceAdd, Nat.reduceMul, Nat.reduceMod, Nat.reduceLeDiff, Nat.reduceLT, Int.reduceLT, Int.reduceLE, Int.reduceEq, Int.reduceToNat, Int.reduceSub, Int.reduceNeg, Int.reduceAdd, ↓reduceIte, reduceCtorEq, ite_self, eq_self, if_true, if_false, pack, pid, parN, List.not_mem_nil, List.mem_cons, lid, chkK, apartV, List.map_nil, List.flatMap_nil, List.append_nil, List.nil_append, List.drop_zero, List.length_set, List.length_replicate, List.length_append, List.take_length, List.take_zero, List.drop_length, Option.isNone_none, Heap.none, k1, k2, List.length_map, c1, c2, e1, e2, b1, r1, Int.natCast_nonneg, z0, l0, t1, t2, nf_len]
end Go.Pe
set_option linter.unusedSimpArgs false
set_option linter.unusedVariables false
open Go
namespace Go.Pe
theorem ptrimw_l0 {p : List RQt} {k : Nat} (hk : k ≤ 100000000000) (hl : p.length ≤ maxL) (hs : SmL p k) : ∀ n, n ≤ p.length → LP FF [(200000, 2), (0, 1), (3, 0)] [(200000, 2), (0, 1), (3, 0)] b314_0 [.own false 3 (p.map eQ), .sl 200000 3 0 p.length, (AV.i .i64 ((n : Int)))] = some (.exit 0, [.own false 3 (p.map eQ), .sl 200000 3 0 p.length, (AV.i .i64 ((tlQ p n : Int)))]) := by
  intro n
  induction n with
  | zero =>
    intro _
    unfold tlQ
    rw [LP_go FF b314_0.eq_1]
    simp only [RB, un, St.none, Nat.reduceEqDiff, Nat.reduceAdd, Nat.reduceMul, Nat.reduceMod, Nat.reduceLeDiff, Nat.reduceLT, Int.reduceLT, Int.reduceLE, Int.reduceEq, Int.reduceToNat, Int.reduceSub, Int.reduceNeg, Int.reduceAdd, ↓reduceIte, reduceCtorEq, ite_self, eq_self, if_true, if_false, pack, pid, parN, List.not_mem_nil, List.mem_cons, lid, chkK, apartV, List.map_nil, List.flatMap_nil, List.append_nil, List.nil_append, List.drop_zero, List.length_set, List.length_replicate, List.length_append, List.take_length, List.take_zero, List.drop_length, Option.isNone_none, Heap.none]
  | succ n ih =>
    intro hn
    have h9 := ih (by omega)
    have c1 : (0 : Int) < ((n + 1 : Nat) : Int) := by omega
    have e1 : IntKind.i64.wrap (((n + 1 : Nat) : Int) - 1) = (n : Int) := by rw [w64 (by omega) (by have : maxL = 9223372036854775807 := rfl; omega)]; omega
    have c2 : (n : Int) < (p.length : Int) := by omega
    have c3 : n < p.length := by omega
    have g1 : R FF 162 [(AV.agg [AV.b ((p.getD n dQ).1), (AV.l 1 (List.map u (((p.getD n dQ).2.1)))), (AV.l 1 (List.map u (((p.getD n dQ).2.2))))])] = some (AV.i .i64 (cmp (vQ (p.getD n dQ)).num 0)) := qsign_c hk (hs _ (getD_mem' dQ (by omega)))
    have g2 := num_zero (x := vQ (p.getD n dQ))
    unfold tlQ
    by_cases h0 : vQ (p.getD n dQ) = 0
    · rw [if_pos h0]
      have g3 := g2.2 h0
      rw [LP_go FF b314_0.eq_1]
      simp only [RB, un, St.none, Nat.reduceEqDiff, Nat.reduceAdd, Nat.reduceMul, Nat.reduceMod, Nat.reduceLeDiff, Nat.reduceLT, Int.reduceLT, Int.reduceLE, Int.reduceEq, Int.reduceToNat, Int.reduceSub, Int.reduceNeg, Int.reduceAdd, ↓reduceIte, reduceCtorEq, ite_self, eq_self, if_true, if_false, pack, pid, parN, List.not_mem_nil, List.mem_cons, lid, chkK, apartV, List.map_nil, List.flatMap_nil, List.append_nil, List.nil_append, List.drop_zero, List.length_set, List.length_replicate, List.length_append, List.take_length, List.take_zero, List.drop_length, Option.isNone_none, Heap.none, c1, c2, c3, e1, eQ_rules, eQ_row, Int.natCast_nonneg, g1, g3]
      exact h9
    · rw [if_neg h0]
      have g3 : ¬ cmp (vQ (p.getD n dQ)).num 0 = 0 := fun h => h0 (g2.1 h)
      rw [LP_go FF b314_0.eq_1]
      simp only [RB, un, St.none, Nat.reduceEqDiff, Nat.reduceAdd, Nat.reduceMul, Nat.reduceMod, Nat.reduceLeDiff, Nat.reduceLT, Int.reduceLT, Int.reduceLE, Int.reduceEq, Int.reduceToNat, Int.reduceSub, Int.reduceNeg, Int.reduceAdd, ↓reduceIte, reduceCtorEq, ite_self, eq_self, if_true, if_false, pack, pid, parN, List.not_mem_nil, List.mem_cons, lid, chkK, apartV, List.map_nil, List.flatMap_nil, List.append_nil, List.nil_append, List.drop_zero, List.length_set, List.length_replicate, List.length_append, List.take_length, List.take_zero, List.drop_length, Option.isNone_none, Heap.none, c1, c2, c3, e1, eQ_rules, eQ_row, Int.natCast_nonneg, g1, g3]
theorem ptrimw_c {p : List RQt} {k : Nat} (hk : k ≤ 100000000000) (hl : p.length ≤ maxL) (hs : SmL p k) : R FF 314 [.own false 3 (p.map eQ)] = some (.back (.sl 200000 3 0 (tlQ p p.length)) [.own false 3 (p.map eQ)]) := by
  have l0 := ptrimw_l0 hk hl hs p.length (Nat.le_refl _)
  have h1 := tlQ_le p p.length
  have c1 : (tlQ p p.length : Int) ≤ (p.length : Int) := by omega
  rw [R_go FF F314 c314.eq_1]
  simp only [RB, un, St.none, Nat.reduceEqDiff, Nat.reduceAdd, Nat.reduceMul, Nat.reduceMod, Nat.reduceLeDiff, Nat.reduceLT, Int.reduceLT, Int.reduceLE, Int.reduceEq, Int.reduceToNat, Int.reduceSub, Int.reduceNeg, Int.reduceAdd, ↓reduceIte, reduceCtorEq, ite_self, eq_self, if_true, if_false, pack, pid, parN, List.not_mem_nil, List.mem_cons, lid, chkK, apartV, List.map_nil, List.flatMap_nil, List.append_nil, List.nil_append, List.drop_zero, List.length_set, List.length_replicate, List.length_append, List.take_length, List.take_zero, List.drop_length, Option.isNone_none, Heap.none, l0, c1, Int.natCast_nonneg, h1]
theorem pcleanw_l0 {p : List RQt} {n k : Nat} (hk : k ≤ 100000000000) (hp : p.length = n) (hn : n ≤ 100000000000) (hs : SmL p k) : ∀ (d i : Nat), i + d = n →
    LP FF [(3, 1), (9, 0), (10, 0), (11, 0)] [(3, 1)] b313_0 [.own true 3 ((clL p n i).map eO), .l 3 (p.map eQ), (AV.i .i64 ((n : Int))), (AV.i .i64 ((i : Int)))] = some (.exit 0, [.own true 3 ((cleanL p).map eQ)]) := by
  intro d
  induction d with
  | zero =>
    intro i hi
    obtain rfl : i = n := by omega
    have c1 : ¬ (i : Int) < (i : Int) := by omega
    have t1 : List.take (cleanL p).length (cleanL p) = cleanL p := List.take_length
    rw [clL_end p hp]
    rw [LP_go FF b313_0.eq_1]
    simp only [RB, un, St.none, Nat.reduceEqDiff, Nat.reduceAdd, Nat.reduceMul, Nat.reduceMod, Nat.reduceLeDiff, Nat.reduceLT, Int.reduceLT, Int.reduceLE, Int.reduceEq, Int.reduceToNat, Int.reduceSub, Int.reduceNeg, Int.reduceAdd, ↓reduceIte, reduceCtorEq, ite_self, eq_self, if_true, if_false, pack, pid, parN, List.not_mem_nil, List.mem_cons, lid, chkK, apartV, List.map_nil, List.flatMap_nil, List.append_nil, List.nil_append, List.drop_zero, List.length_set, List.length_replicate, List.length_append, List.take_length, List.take_zero, List.drop_length, Option.isNone_none, Heap.none, c1, eQ_rules, t1]
  | succ d ih =>
    intro i hi
    have h9 := ih (i + 1) (by omega)
    have c1 : (i : Int) < (n : Int) := by omega
    have c2 : (i : Int) < (p.length : Int) := by omega
    have e1 : IntKind.i64.wrap ((i : Int) + 1) = ((i + 1 : Nat) : Int) := w64succ (by omega)
    have g1 : R FF 63 [(AV.agg [AV.b ((p.getD i dQ).1), (AV.l 1 (List.map u (((p.getD i dQ).2.1)))), (AV.l 1 (List.map u (((p.getD i dQ).2.2))))])] = some (AV.agg [AV.b (ng (Rat.num (vQ (p.getD i dQ)))), (AV.l 1 (List.map u (D (Int.natAbs (Rat.num (vQ (p.getD i dQ))))))), (AV.l 1 (List.map u (D (Rat.den (vQ (p.getD i dQ))))))]) := qclean_s (hs _ (getD_mem' dQ (by omega))) hk
    have hlen := clL_len p (show i ≤ n by omega) hp
    have p1 := eO_put (clL p n i) i (rQ (vQ (p.getD i dQ)))
    rw [clL_set p (by omega) hp] at p1
    change putC 3 (List.map eO (clL p n i)) i 0 [.b (ng (vQ (p.getD i dQ)).num), (AV.l 1 (List.map u (D (vQ (p.getD i dQ)).num.natAbs))), (AV.l 1 (List.map u (D (vQ (p.getD i dQ)).den)))] = _ at p1
    have c4 : i < n := by omega
    have t1 : List.take n (clL p n (i + 1)) = clL p n (i + 1) := List.take_of_length_le (by rw [clL_len p (by omega) hp]; exact Nat.le_refl _)
    generalize clL p n i = L' at *
    generalize clL p n (i + 1) = L2 at *
    rw [LP_go FF b313_0.eq_1]
    simp only [RB, un, St.none, Nat.reduceEqDiff, Nat.reduceAdd, Nat.reduceMul, Nat.reduceMod, Nat.reduceLeDiff, Nat.reduceLT, Int.reduceLT, Int.reduceLE, Int.reduceEq, Int.reduceToNat, Int.reduceSub, Int.reduceNeg, Int.reduceAdd, ↓reduceIte, reduceCtorEq, ite_self, eq_self, if_true, if_false, pack, pid, parN, List.not_mem_nil, List.mem_cons, lid, chkK, apartV, List.map_nil, List.flatMap_nil, List.append_nil, List.nil_append, List.drop_zero, List.length_set, List.length_replicate, List.length_append, List.take_length, List.take_zero, List.drop_length, Option.isNone_none, Heap.none, c1, c2, c4, e1, eQ_rules, eQ_row, Int.natCast_nonneg, g1, hlen, p1, List.length_map, t1]
    exact h9
theorem cleanL_tr (p : List RQt) : trimQ (cleanL p) = (tr (vsQ p)).map rQ := by rw [cleanL_nf, trim_tk, atV_vsQ, tr_mk, vsQ_len]
theorem pcleanw_r {p : List RQt} {k : Nat} (hk : k ≤ 100000000000) (h1k : 1 ≤ k) (hn : p.length ≤ 100000000000) (hs : SmL p k) : R FF 313 [.l 3 (p.map eQ)] = some (if tr (vsQ p) = [] then .l 3 [] else .own true 3 (((tr (vsQ p)).map rQ).map eQ)) := by
  have hM : maxL = 9223372036854775807 := rfl
  have l0 := pcleanw_l0 hk rfl hn hs p.length 0 (by omega)
  have e0 : List.map eO (clL p p.length 0) = List.replicate p.length [AV.b false, AV.ns 1, AV.ns 1] := by
    unfold clL
    rw [List.take_zero, List.map_nil, List.nil_append, Nat.sub_zero, List.map_replicate]
    rfl
  rw [e0, Int.ofNat_zero] at l0
  have hcl : (cleanL p).length = p.length := List.length_map _
  have t1 := ptrimw_c hk (by rw [hcl]; omega) (cleanL_sm h1k hs)
  have b1 : p.length * 56 ≤ 281474976710656 := by omega
  have r1 : List.take p.length (List.replicate p.length [AV.b false, AV.ns 1, AV.ns 1]) = List.replicate p.length [AV.b false, AV.ns 1, AV.ns 1] := List.take_of_length_le (by rw [List.length_replicate]; exact Nat.le_refl _)
  have e1 := cleanL_tr p
  have e2 := trim_len (cleanL p)
  have h1 := tlQ_le (cleanL p) (cleanL p).length
  have r2 : List.take p.length (cleanL p) = cleanL p := List.take_of_length_le (by omega)
  have r4 : List.drop p.length (cleanL p) = [] := List.drop_of_length_le (by omega)
  by_cases h0 : tr (vsQ p) = []
  · rw [if_pos h0]
    rw [e1, h0, List.map_nil, List.length_nil] at e2
    rw [← e2] at t1
    rw [R_go FF F313 c313.eq_1]
    simp only [RB, un, St.none, Nat.reduceEqDiff, Nat.reduceAdd, Nat.reduceMul, Nat.reduceMod, Nat.reduceLeDiff, Nat.reduceLT, Int.reduceLT, Int.reduceLE, Int.reduceEq, Int.reduceToNat, Int.reduceSub, Int.reduceNeg, Int.reduceAdd, ↓reduceIte, reduceCtorEq, ite_self, eq_self, if_true, if_false, pack, pid, parN, List.not_mem_nil, List.mem_cons, lid, chkK, apartV, List.map_nil, List.flatMap_nil, List.append_nil, List.nil_append, List.drop_zero, List.length_set, List.length_replicate, List.length_append, List.take_length, List.take_zero, List.drop_length, Option.isNone_none, Heap.none, l0, b1, r1, Int.natCast_nonneg, hcl, r2, r4, t1, eQ_rules]
  · rw [if_neg h0, ← e1]
    have c1 : 0 < tlQ (cleanL p) (cleanL p).length := by
      rw [← e2, e1, List.length_map]
      exact List.length_pos_iff.2 h0
    have t3 : List.take (tlQ (cleanL p) (cleanL p).length) (cleanL p) = trimQ (cleanL p) := rfl
    generalize tlQ (cleanL p) (cleanL p).length = t at *
    generalize cleanL p = C at *
    rw [R_go FF F313 c313.eq_1]
    simp only [RB, un, St.none, Nat.reduceEqDiff, Nat.reduceAdd, Nat.reduceMul, Nat.reduceMod, Nat.reduceLeDiff, Nat.reduceLT, Int.reduceLT, Int.reduceLE, Int.reduceEq, Int.reduceToNat, Int.reduceSub, Int.reduceNeg, Int.reduceAdd, ↓reduceIte, reduceCtorEq, ite_self, eq_self, if_true, if_false, pack, pid, parN, List.not_mem_nil, List.mem_cons, lid, chkK, apartV, List.map_nil, List.flatMap_nil, List.append_nil, List.nil_append, List.drop_zero, List.length_set, List.length_replicate, List.length_append, List.take_length, List.take_zero, List.drop_length, Option.isNone_none, Heap.none, l0, b1, r1, Int.natCast_nonneg, hcl, r2, r4, t1, eQ_rules, c1, t3]
end Go.Pe
set_option linter.unusedSimpArgs false
set_option linter.unusedVariables false
open Go
namespace Go.Pe
def qlO (c : Fn) (n i : Nat) : List (Option RQt) := (List.range n).map fun j => if i ≤ j then some (rQ (c j)) else none
theorem qlO_len (c : Fn) (n i : Nat) : (qlO c n i).length = n := by simp [qlO]
theorem qlO_el (c : Fn) (n i j : Nat) (h : j < (qlO c n i).length) : (qlO c n i)[j] = if i ≤ j then some (rQ (c j)) else none := by simp [qlO]
theorem qlO_set (c : Fn) (n i : Nat) : (qlO c n (i + 1)).set i (some (rQ (c i))) = qlO c n i := by
  apply List.ext_getElem
  · rw [List.length_set, qlO_len, qlO_len]
  · intro j h1 h2
    rw [List.getElem_set, qlO_el, qlO_el]
    by_cases e : i = j
    · rw [if_pos e, if_pos (by omega), e]
    · rw [if_neg e]
      by_cases d : i + 1 ≤ j
      · rw [if_pos d, if_pos (by omega)]
      · rw [if_neg d, if_neg (by omega)]
theorem qlO_get (c : Fn) {n i : Nat} (h : i < n) : (qlO c n i).getD i none = some (rQ (c i)) := by
  rw [List.getD_eq_getElem?_getD, List.getElem?_eq_getElem (by rw [qlO_len]; exact h), qlO_el, if_pos (Nat.le_refl _)]; rfl
theorem qlO_end (c : Fn) (n : Nat) : (qlO c n 0).map eO = (nf c n).map eQ := by
  unfold qlO nf
  rw [List.map_map, List.map_map]
  apply List.map_congr_left
  intro j _
  show eO (if 0 ≤ j then some (rQ (c j)) else none) = _
  rw [if_pos (Nat.zero_le _)]; rfl
theorem qlO_top (c : Fn) (n : Nat) : (qlO c n n).map eO = List.replicate n [AV.b false, AV.ns 1, AV.ns 1] := by
  apply List.ext_getElem
  · simp [qlO]
  · intro j h1 h2
    rw [List.getElem_map, qlO_el, if_neg (by rw [List.length_replicate] at h2; omega), List.getElem_replicate]; rfl
theorem eO_at : (∀ (ap : Bool) e (l : List (Option RQt)), Row.at e (.sl ap 3 (l.map eO)) = if e < l.length then some (eO (l.getD e none)) else none) ∧ (∀ x, eO (some x) = eQ x) := ⟨fun ap e l => at_map eO none ap 3 e l, fun _ => rfl⟩
def sbF (g : Fn) (i : Nat) (c : Rat) (B : Fn) (k : Nat) : Fn := fun j => if i ≤ j ∧ j < i + k then g j - c * B (j - i) else g j
theorem sbF_zero (g : Fn) (i : Nat) (c : Rat) (B : Fn) : sbF g i c B 0 = g := by funext j; unfold sbF; rw [if_neg (by omega)]
theorem sbF_succ (g : Fn) (i : Nat) (c : Rat) (B : Fn) (k : Nat) : upF (sbF g i c B k) (i + k) (g (i + k) - c * B k) = sbF g i c B (k + 1) := by
  funext j
  unfold upF sbF
  by_cases h : j = i + k
  · rw [if_pos h, if_pos (by omega), h, Nat.add_sub_cancel_left]
  · rw [if_neg h]
    by_cases d : i ≤ j ∧ j < i + k
    · rw [if_pos d, if_pos (by omega)]
    · rw [if_neg d, if_neg (by omega)]
theorem sbF_at (g : Fn) (i : Nat) (c : Rat) (B : Fn) (k : Nat) : sbF g i c B k (i + k) = g (i + k) := by unfold sbF; rw [if_neg (by omega)]
theorem dvm_l1 {B : List Rat} {g c : Fn} {n la i k m : Nat} {hd : List AV} (hk : k ≤ 10000000000) (hm : m ≤ 10000000000) (hla : la ≤ 100000000000) (hi : i < n) (hl : i + B.length ≤ la) (hn : n ≤ 100000000000) (hB : SzE (co B) m) (hc : sq (c i) ≤ k) (hg : SzE g k) : ∀ (d j : Nat), j + d = B.length →
    LP FF [(0, 1), (9, 1), (1, 0), (7, 0), (10, 0), (63, 0), (64, 0), (65, 0)] [(0, 1), (9, 1), (1, 0), (7, 0), (10, 0)] b176_1 [.own true 3 ((nf (sbF g i (c i) (co B) j) la).map eQ), .own true 3 ((qlO c n i).map eO), (AV.l 3 (List.map eQ (List.map rQ B))), .tp hd 0, (AV.i .i64 ((i : Int))), (AV.l 3 (List.map eQ (List.map rQ B))), (AV.i .i64 ((B.length : Int))), (AV.i .i64 ((j : Int)))] =
      some (.exit 2, [.own true 3 ((nf (sbF g i (c i) (co B) B.length) la).map eQ), .own true 3 ((qlO c n i).map eO), (AV.l 3 (List.map eQ (List.map rQ B))), .tp hd 0, (AV.i .i64 ((i : Int)))]) := by
  intro d
  induction d with
  | zero =>
    intro j hj
    obtain rfl : j = B.length := by omega
    have c1 : ¬ (B.length : Int) < (B.length : Int) := by omega
    have t1 : ∀ f : Fn, List.take la (nf f la) = nf f la := fun f => List.take_of_length_le (by rw [nf_len]; exact Nat.le_refl _)
    have t2 : List.take n (qlO c n i) = qlO c n i := List.take_of_length_le (by rw [qlO_len]; exact Nat.le_refl _)
    rw [LP_go FF b176_1.eq_1]
    simp only [RB, un, St.none, Nat.reduceEqDiff, Nat.reduceAdd, Nat.reduceMul, Nat.reduceMod, Nat.reduceLeDiff, Nat.reduceLT, Int.reduceLT, Int.reduceLE, Int.reduceEq, Int.reduceToNat, Int.reduceSub, Int.reduceNeg, Int.reduceAdd, ↓reduceIte, reduceCtorEq, ite_self, eq_self, if_true, if_false, pack, pid, parN, List.not_mem_nil, List.mem_cons, lid, chkK, apartV, List.map_nil, List.flatMap_nil, List.append_nil, List.nil_append, List.drop_zero, List.length_set, List.length_replicate, List.length_append, List.take_length, List.take_zero, List.drop_length, Option.isNone_none, Heap.none, c1, eQ_rules, t1, t2, nf_len, qlO_len, List.length_map, ← List.map_take]
  | succ d ih =>
    intro j hj
    have h9 := ih (j + 1) (by omega)
    rw [← sbF_succ] at h9
    have c1 : (j : Int) < (B.length : Int) := by omega
    have e1 : IntKind.i64.wrap ((j : Int) + 1) = ((j + 1 : Nat) : Int) := w64succ (by omega)
    have e2 : IntKind.i64.wrap ((i : Int) + (j : Int)) = ((i + j : Nat) : Int) := by rw [w64 (by omega) (by omega)]; omega
    have c2 : i + j < la := by omega
    have c3 : ((i + j : Nat) : Int) < (la : Int) := by omega
    have c4 : (i : Int) < (n : Int) := by omega
    have y1 := vQ_r (show j < B.length by omega)
    have y2 := smi_r (show j < B.length by omega) hB
    have z1 := nf_vQ (sbF g i (c i) (co B) j) c2
    rw [sbF_at] at z1
    have z2 : Sm ((nf (sbF g i (c i) (co B) j) la).getD (i + j) dQ).2.1 ((nf (sbF g i (c i) (co B) j) la).getD (i + j) dQ).2.2 k := by rw [nf_get _ c2, sbF_at]; exact sm_cq (hg _)
    have b1 : sq (c i * co B j) ≤ 20000000000 := by have := sq_mul (c i) (co B j); have := hB j; omega
    have pu := fun v => nf_put (sbF g i (c i) (co B) j) la (i + j) v
    have ln := nf_len (sbF g i (c i) (co B) j) la
    have ln2 := fun v => nf_len (upF (sbF g i (c i) (co B) j) (i + j) v) la
    have t1 : ∀ v, List.take la (nf (upF (sbF g i (c i) (co B) j) (i + j) v) la) = nf (upF (sbF g i (c i) (co B) j) (i + j) v) la := fun v => List.take_of_length_le (by rw [nf_len]; exact Nat.le_refl _)
    have q1 := qlO_get c hi
    have q2 := qlO_len c n i
    have t2 : List.take n (qlO c n i) = qlO c n i := List.take_of_length_le (by rw [qlO_len]; exact Nat.le_refl _)
    generalize qlO c n i = Q' at *
    generalize hY : (B.map rQ).getD j dQ = Y at *
    generalize hZ : (nf (sbF g i (c i) (co B) j) la).getD (i + j) dQ = Z at *
    have g1 : R FF 94 [(AV.agg [AV.b ((rQ (c i)).1), (AV.l 1 (List.map u (((rQ (c i)).2.1)))), (AV.l 1 (List.map u (((rQ (c i)).2.2))))]), (AV.agg [AV.b Y.1, (AV.l 1 (List.map u Y.2.1)), (AV.l 1 (List.map u Y.2.2))])] = some (AV.agg [AV.b (ng (Rat.num ((vQ (rQ (c i)) * vQ Y)))), (AV.l 1 (List.map u (D (Int.natAbs (Rat.num ((vQ (rQ (c i)) * vQ Y))))))), (AV.l 1 (List.map u (D (Rat.den ((vQ (rQ (c i)) * vQ Y))))))]) := qmul_s (sm_cq hc) y2 (by omega) (by omega)
    rw [vQ_rQ, y1] at g1
    have g2 : R FF 55 [(AV.agg [AV.b Z.1, (AV.l 1 (List.map u Z.2.1)), (AV.l 1 (List.map u Z.2.2))]), (AV.agg [AV.b (ng (Rat.num ((c i * co B j)))), (AV.l 1 (List.map u (D (Int.natAbs (Rat.num ((c i * co B j))))))), (AV.l 1 (List.map u (D (Rat.den ((c i * co B j))))))])] = some (AV.agg [AV.b (ng (Rat.num ((vQ Z - qv (ng (c i * co B j).num) (D (c i * co B j).num.natAbs) (D (c i * co B j).den))))), (AV.l 1 (List.map u (D (Int.natAbs (Rat.num ((vQ Z - qv (ng (c i * co B j).num) (D (c i * co B j).num.natAbs) (D (c i * co B j).den)))))))), (AV.l 1 (List.map u (D (Rat.den ((vQ Z - qv (ng (c i * co B j).num) (D (c i * co B j).num.natAbs) (D (c i * co B j).den)))))))]) := qsub_s z2 (sm_cq b1) (by omega) (by omega)
    rw [qv_cq, z1] at g2
    generalize nf (sbF g i (c i) (co B) j) la = N' at *
    generalize hX : rQ (c i) = X at *
    generalize c i * co B j = w at *
    generalize g (i + j) - w = w2 at *
    rw [LP_go FF b176_1.eq_1]
    simp only [RB, un, St.none, Nat.reduceEqDiff, Nat.reduceAdd, Nat.reduceMul, Nat.reduceMod, Nat.reduceLeDiff, Nat.reduceLT, Int.reduceLT, Int.reduceLE, Int.reduceEq, Int.reduceToNat, Int.reduceSub, Int.reduceNeg, Int.reduceAdd, ↓reduceIte, reduceCtorEq, ite_self, eq_self, if_true, if_false, pack, pid, parN, List.not_mem_nil, List.mem_cons, lid, chkK, apartV, List.map_nil, List.flatMap_nil, List.append_nil, List.nil_append, List.drop_zero, List.length_set, List.length_replicate, List.length_append, List.take_length, List.take_zero, List.drop_length, Option.isNone_none, Heap.none, c1, c2, c3, c4, hi, e1, e2, eQ_rules, eQ_row, eO_at, Int.natCast_nonneg, List.length_map, ln, hY, hZ, q1, q2, g1, g2, pu, ln2, t1, t2, ← List.map_take]
    exact h9
theorem dvG_sb {A B : Fn} {m n i : Nat} (hi : i < n) (hB : Dg B (m + 1)) : sbF (dvG A B m n (n - (i + 1))) i (dvC A B m n i) B (m + 1) = dvG A B m n (n - i) := by
  obtain ⟨s, hs, e1⟩ : ∃ s, n - (i + 1) = s ∧ n - i = s + 1 := ⟨n - (i + 1), rfl, by omega⟩
  have e2 : n - 1 - i = s := by omega
  have e3 : n - 1 - s = i := by omega
  rw [hs, e1]
  funext j
  show sbF (dvG A B m n s) i (dvC A B m n i) B (m + 1) j = dvG A B m n s j - (if n - 1 - s ≤ j then dvG A B m n s (n - 1 - s + m) * (B m)⁻¹ * B (j - (n - 1 - s)) else 0)
  unfold sbF dvC
  rw [e2, e3]
  by_cases c : i ≤ j
  · rw [if_pos c]
    by_cases d : j < i + (m + 1)
    · rw [if_pos ⟨c, d⟩]
    · rw [if_neg (by omega), hB (j - i) (by omega)]; grind
  · rw [if_neg c, if_neg (by omega)]; grind
theorem dvm_l0 {A : Fn} {B : List Rat} {n la k m t : Nat} (hk : k ≤ 10000000000) (hm : m ≤ 10000000000) (hla : la ≤ 100000000000) (hlb : B.length = t + 1) (hl : n + t = la) (hB : SzE (co B) m) (hc : ∀ i, i < n → sq (dvC A (co B) t n i) ≤ k) (hg : ∀ s, s ≤ n → SzE (dvG A (co B) t n s) k) (hh : sq (co B t)⁻¹ ≤ k) : ∀ i, i ≤ n →
    LP FF [(0, 1), (9, 1), (1, 0), (7, 0), (10, 0)] [(0, 0), (9, 0)] b176_0 [.own true 3 ((nf (dvG A (co B) t n (n - i)) la).map eQ), .own true 3 ((qlO (dvC A (co B) t n) n i).map eO), (AV.l 3 (List.map eQ (List.map rQ B))), .tp [.b (ng (co B t)⁻¹.num), (AV.l 1 (List.map u (D (co B t)⁻¹.num.natAbs))), (AV.l 1 (List.map u (D (co B t)⁻¹.den)))] 0, (AV.i .i64 ((i : Int) - 1))] =
      some (.exit 0, [.l 3 ((nf (dvG A (co B) t n n) la).map eQ), .l 3 ((nf (dvC A (co B) t n) n).map eQ)]) := by
  intro i
  induction i with
  | zero =>
    intro _
    have t1 : ∀ f : Fn, List.take la (nf f la) = nf f la := fun f => List.take_of_length_le (by rw [nf_len]; exact Nat.le_refl _)
    have t2 : ∀ f : Fn, List.take n (nf f n) = nf f n := fun f => List.take_of_length_le (by rw [nf_len]; exact Nat.le_refl _)
    rw [qlO_end, Nat.sub_zero, Int.ofNat_zero]
    rw [LP_go FF b176_0.eq_1]
    simp only [RB, un, St.none, Nat.reduceEqDiff, Nat.reduceAdd, Nat.reduceMul, Nat.reduceMod, Nat.reduceLeDiff, Nat.reduceLT, Int.reduceLT, Int.reduceLE, Int.reduceEq, Int.reduceToNat, Int.reduceSub, Int.reduceNeg, Int.reduceAdd, ↓reduceIte, reduceCtorEq, ite_self, eq_self, if_true, if_false, pack, pid, parN, List.not_mem_nil, List.mem_cons, lid, chkK, apartV, List.map_nil, List.flatMap_nil, List.append_nil, List.nil_append, List.drop_zero, List.length_set, List.length_replicate, List.length_append, List.take_length, List.take_zero, List.drop_length, Option.isNone_none, Heap.none, eQ_rules, t1, t2, nf_len]
  | succ i ih =>
    intro hi
    have h9 := ih (by omega)
    have hBd : Dg (co B) (t + 1) := fun j hj => co_dg B j (by omega)
    have e0 : ((i + 1 : Nat) : Int) - 1 = (i : Int) := by omega
    have c0 : (0 : Int) ≤ (i : Int) := by omega
    have e2 : IntKind.i64.wrap ((i : Int) + (B.length : Int)) = (i : Int) + (B.length : Int) := w64 (by omega) (by omega)
    have e3 : IntKind.i64.wrap ((i : Int) + (B.length : Int) - 1) = ((i + t : Nat) : Int) := by rw [w64 (by omega) (by omega)]; omega
    have e4 : IntKind.i64.wrap ((i : Int) - 1) = (i : Int) - 1 := w64 (by omega) (by omega)
    have c2 : i + t < la := by omega
    have c4 : i < n := by omega
    have c3 : ((i + t : Nat) : Int) < (la : Int) := by omega
    have c5 : (i : Int) < (n : Int) := by omega
    have x1 := nf_vQ (dvG A (co B) t n (n - (i + 1))) c2
    have x2 : Sm ((nf (dvG A (co B) t n (n - (i + 1))) la).getD (i + t) dQ).2.1 ((nf (dvG A (co B) t n (n - (i + 1))) la).getD (i + t) dQ).2.2 k := by rw [nf_get _ c2]; exact sm_cq (hg _ (by omega) _)
    have ed : dvG A (co B) t n (n - (i + 1)) (i + t) * (co B t)⁻¹ = dvC A (co B) t n i := by unfold dvC; rw [show n - 1 - i = n - (i + 1) by omega]
    have l1 := dvm_l1 (hd := [.b (ng (co B t)⁻¹.num), (AV.l 1 (List.map u (D (co B t)⁻¹.num.natAbs))), (AV.l 1 (List.map u (D (co B t)⁻¹.den)))]) (c := dvC A (co B) t n) (g := dvG A (co B) t n (n - (i + 1))) hk hm hla c4 (by omega) (by omega) hB (hc i c4) (hg _ (by omega)) B.length 0 (by omega)
    rw [sbF_zero, Int.ofNat_zero] at l1
    have l1' := l1
    rw [hlb, dvG_sb c4 hBd, ← hlb] at l1'
    have pu := eO_put (qlO (dvC A (co B) t n) n (i + 1)) i (rQ (dvC A (co B) t n i))
    rw [qlO_set] at pu
    change putC 3 (List.map eO (qlO (dvC A (co B) t n) n (i + 1))) i 0 [.b (ng (dvC A (co B) t n i).num), (AV.l 1 (List.map u (D (dvC A (co B) t n i).num.natAbs))), (AV.l 1 (List.map u (D (dvC A (co B) t n i).den)))] = _ at pu
    have q2 := qlO_len (dvC A (co B) t n) n (i + 1)
    have q3 := qlO_len (dvC A (co B) t n) n i
    have t2 : List.take n (qlO (dvC A (co B) t n) n i) = qlO (dvC A (co B) t n) n i := List.take_of_length_le (by rw [q3]; exact Nat.le_refl _)
    have ln := nf_len (dvG A (co B) t n (n - (i + 1))) la
    have ln2 := nf_len (dvG A (co B) t n (n - i)) la
    have t1 : List.take la (nf (dvG A (co B) t n (n - (i + 1))) la) = nf (dvG A (co B) t n (n - (i + 1))) la := List.take_of_length_le (by rw [nf_len]; exact Nat.le_refl _)
    have t3 : List.take la (nf (dvG A (co B) t n (n - i)) la) = nf (dvG A (co B) t n (n - i)) la := List.take_of_length_le (by rw [nf_len]; exact Nat.le_refl _)
    clear l1 ih
    rw [e0]
    generalize hX : (nf (dvG A (co B) t n (n - (i + 1))) la).getD (i + t) dQ = X at *
    have g1 : R FF 94 [(AV.agg [AV.b X.1, (AV.l 1 (List.map u X.2.1)), (AV.l 1 (List.map u X.2.2))]), (AV.agg [AV.b (ng (Rat.num ((co B t)⁻¹))), (AV.l 1 (List.map u (D (Int.natAbs (Rat.num ((co B t)⁻¹)))))), (AV.l 1 (List.map u (D (Rat.den ((co B t)⁻¹)))))])] = some (AV.agg [AV.b (ng (Rat.num ((vQ X * qv (ng (co B t)⁻¹.num) (D (co B t)⁻¹.num.natAbs) (D (co B t)⁻¹.den))))), (AV.l 1 (List.map u (D (Int.natAbs (Rat.num ((vQ X * qv (ng (co B t)⁻¹.num) (D (co B t)⁻¹.num.natAbs) (D (co B t)⁻¹.den)))))))), (AV.l 1 (List.map u (D (Rat.den ((vQ X * qv (ng (co B t)⁻¹.num) (D (co B t)⁻¹.num.natAbs) (D (co B t)⁻¹.den)))))))]) := qmul_s x2 (sm_cq hh) (by omega) (by omega)
    rw [qv_cq, x1, ed] at g1
    generalize dvC A (co B) t n i = ci at *
    generalize nf (dvG A (co B) t n (n - (i + 1))) la = N1 at *
    generalize nf (dvG A (co B) t n (n - i)) la = N2 at *
    generalize qlO (dvC A (co B) t n) n (i + 1) = Q1 at *
    generalize qlO (dvC A (co B) t n) n i = Q2 at *
    generalize (co B t)⁻¹ = hv at *
    rw [LP_go FF b176_0.eq_1]
    simp only [RB, un, St.none, Nat.reduceEqDiff, Nat.reduceAdd, Nat.reduceMul, Nat.reduceMod, Nat.reduceLeDiff, Nat.reduceLT, Int.reduceLT, Int.reduceLE, Int.reduceEq, Int.reduceToNat, Int.reduceSub, Int.reduceNeg, Int.reduceAdd, ↓reduceIte, reduceCtorEq, ite_self, eq_self, if_true, if_false, pack, pid, parN, List.not_mem_nil, List.mem_cons, lid, chkK, apartV, List.map_nil, List.flatMap_nil, List.append_nil, List.nil_append, List.drop_zero, List.length_set, List.length_replicate, List.length_append, List.take_length, List.take_zero, List.drop_length, Option.isNone_none, Heap.none, c0, e2, e3, e4, c2, c3, c4, c5, eQ_rules, eQ_row, eO_at, Int.natCast_nonneg, List.length_map, ln, hX, g1, pu, q2, q3, t1, t2, ← List.map_take, l1', ln2, t3]
    exact h9
theorem pdm_r {a b : List RQt} {k : Nat} (hk : k ≤ 10000000) (h1k : 1 ≤ k) (la : a.length ≤ 100) (lb : b.length ≤ 100) (h1 : SmL a k) (h2 : SmL b k) (f1 : SzF (co (tr (vsQ a))) k) (f2 : SzF (co (tr (vsQ b))) k) (h0 : tr (vsQ b) ≠ []) :
    R FF 176 [.l 3 (a.map eQ), .l 3 (b.map eQ)] = some (.tup [(AV.l 3 (List.map eQ (List.map rQ (dvQ (tr (vsQ a)) (tr (vsQ b)))))), (AV.l 3 (List.map eQ (List.map rQ (dvR (tr (vsQ a)) (tr (vsQ b)))))), (AV.i .i64 0)]) := by
  have k1 := pcleanw_r (p := a) (by omega) h1k (by omega) h1
  have k2 := pcleanw_r (p := b) (by omega) h1k (by omega) h2
  have cB := ca_tr (vsQ b)
  have lA : (tr (vsQ a)).length ≤ 100 := Nat.le_trans (tr_le _) (by rw [vsQ_len]; exact la)
  have lB : (tr (vsQ b)).length ≤ 100 := Nat.le_trans (tr_le _) (by rw [vsQ_len]; exact lb)
  rw [if_neg h0] at k2
  generalize tr (vsQ a) = A at *
  generalize tr (vsQ b) = B at *
  have p2 := List.length_pos_iff.2 h0
  have c2 : ¬ (B.length : Int) = 0 := by omega
  by_cases hlt : A.length < B.length
  · have c3 : (A.length : Int) < (B.length : Int) := by omega
    unfold dvQ dvR
    rw [if_pos hlt, if_pos hlt, List.map_nil, List.map_nil]
    by_cases hA : A = []
    · subst hA
      rw [List.length_nil, Int.ofNat_zero] at c3
      rw [if_pos rfl] at k1
      rw [R_go FF F176 c176.eq_1]
      simp only [RB, un, St.none, Nat.reduceEqDiff, Nat.reduceAdd, Nat.reduceMul, Nat.reduceMod, Nat.reduceLeDiff, Nat.reduceLT, Int.reduceLT, Int.reduceLE, Int.reduceEq, Int.reduceToNat, Int.reduceSub, Int.reduceNeg, Int.reduceAdd, ↓reduceIte, reduceCtorEq, ite_self, eq_self, if_true, if_false, pack, pid, parN, List.not_mem_nil, List.mem_cons, lid, chkK, apartV, List.map_nil, List.flatMap_nil, List.append_nil, List.nil_append, List.drop_zero, List.length_set, List.length_replicate, List.length_append, List.take_length, List.take_zero, List.drop_length, Option.isNone_none, Heap.none, k1, k2, List.length_nil, List.length_map, c2, c3]
    · rw [if_neg hA] at k1
      have t1 : List.take A.length (A.map rQ) = A.map rQ := List.take_of_length_le (by rw [List.length_map]; exact Nat.le_refl _)
      rw [R_go FF F176 c176.eq_1]
      simp only [RB, un, St.none, Nat.reduceEqDiff, Nat.reduceAdd, Nat.reduceMul, Nat.reduceMod, Nat.reduceLeDiff, Nat.reduceLT, Int.reduceLT, Int.reduceLE, Int.reduceEq, Int.reduceToNat, Int.reduceSub, Int.reduceNeg, Int.reduceAdd, ↓reduceIte, reduceCtorEq, ite_self, eq_self, if_true, if_false, pack, pid, parN, List.not_mem_nil, List.mem_cons, lid, chkK, apartV, List.map_nil, List.flatMap_nil, List.append_nil, List.nil_append, List.drop_zero, List.length_set, List.length_replicate, List.length_append, List.take_length, List.take_zero, List.drop_length, Option.isNone_none, Heap.none, k1, k2, List.length_nil, List.length_map, c2, c3, t1]
  · have c3 : ¬ (A.length : Int) < (B.length : Int) := by omega
    have hA : A ≠ [] := fun h => hlt (by rw [h]; exact p2)
    rw [if_neg hA] at k1
    unfold dvQ dvR
    rw [if_neg hlt, if_neg hlt]
    have ht := ca_top cB h0
    obtain ⟨t, ht1⟩ : ∃ t, B.length = t + 1 := ⟨B.length - 1, by omega⟩
    have et : B.length - 1 = t := by omega
    obtain ⟨n, hn⟩ : ∃ n, A.length - B.length + 1 = n := ⟨_, rfl⟩
    rw [et, hn]
    rw [et] at ht
    have x1 := vQ_r (show t < B.length by omega)
    have x2 := smi_r (show t < B.length by omega) f2.sq
    have gz : ∀ s, s ≤ n → SzE (dvG (co A) (co B) t n s) 10000000000 := fun s hs => ((dvG_sz f1 f2 ht s).mono (by
      have : s * (k + 1) ≤ 100 * (k + 1) := Nat.mul_le_mul_right _ (by omega)
      omega)).sq
    have cz : ∀ i, i < n → sq (dvC (co A) (co B) t n i) ≤ 10000000000 := fun i hi => Nat.le_trans (dvC_sz f1 f2 ht i hi) (by
      have : n * (k + 1) ≤ 100 * (k + 1) := Nat.mul_le_mul_right _ (by omega)
      omega)
    have hz : sq (co B t)⁻¹ ≤ 10000000000 := by have := sq_inv (co B t); have := f2.sq t; omega
    have l0 := dvm_l0 (A := co A) (la := A.length) (k := 10000000000) (m := k) (by omega) (by omega) (by omega) ht1 (by omega) f2.sq cz gz hz n (Nat.le_refl _)
    rw [qlO_top, Nat.sub_self, show dvG (co A) (co B) t n 0 = co A from rfl, nf_mk (co A), mk_co] at l0
    have t1 := ptrim_c (p := nf (dvC (co A) (co B) t n) n) (k := 10000000000) (by omega) (by rw [nf_len]; have : maxL = 9223372036854775807 := rfl; omega) (nf_sm cz)
    have t2 := ptrim_c (p := nf (dvG (co A) (co B) t n n) A.length) (k := 10000000000) (by omega) (by rw [nf_len]; have : maxL = 9223372036854775807 := rfl; omega) (nf_sm fun i _ => gz n (Nat.le_refl _) i)
    rw [trim_tk] at t1 t2
    have e1 : IntKind.i64.wrap ((B.length : Int) - 1) = (t : Int) := by rw [w64 (by omega) (by omega)]; omega
    have e2 : IntKind.i64.wrap ((A.length : Int) - (B.length : Int)) = (A.length : Int) - (B.length : Int) := w64 (by omega) (by omega)
    have e3 : IntKind.i64.wrap ((A.length : Int) - (B.length : Int) + 1) = (n : Int) := by rw [w64 (by omega) (by omega)]; omega
    have e4 : IntKind.i64.wrap ((n : Int) - 1) = (n : Int) - 1 := w64 (by omega) (by omega)
    have c4 : (t : Int) < (B.length : Int) := by omega
    have c5 : t < B.length := by omega
    have b1 : n * 56 ≤ 281474976710656 := by omega
    have r1 : List.take n (List.replicate n [AV.b false, AV.ns 1, AV.ns 1]) = List.replicate n [AV.b false, AV.ns 1, AV.ns 1] := List.take_of_length_le (by rw [List.length_replicate]; exact Nat.le_refl _)
    have r2 : List.take A.length (A.map rQ) = A.map rQ := List.take_of_length_le (by rw [List.length_map]; exact Nat.le_refl _)
    have r3 : List.take B.length (B.map rQ) = B.map rQ := List.take_of_length_le (by rw [List.length_map]; exact Nat.le_refl _)
    generalize hX : (B.map rQ).getD t dQ = X at *
    have i1 : R FF 220 [(AV.agg [AV.b X.1, (AV.l 1 (List.map u X.2.1)), (AV.l 1 (List.map u X.2.2))])] = some (.tup [(AV.agg [AV.b (ng (Rat.num ((vQ X)⁻¹))), (AV.l 1 (List.map u (D (Int.natAbs (Rat.num ((vQ X)⁻¹)))))), (AV.l 1 (List.map u (D (Rat.den ((vQ X)⁻¹)))))]), (AV.i .i64 0)]) := qinv_c (by omega) h1k x2 (by show vQ X ≠ 0; rw [x1]; exact ht)
    rw [x1] at i1
    generalize nf (dvC (co A) (co B) t n) n = N1 at *
    generalize nf (dvG (co A) (co B) t n n) A.length = N2 at *
    generalize (co B t)⁻¹ = hv at *
    rw [R_go FF F176 c176.eq_1]
    simp only [RB, un, St.none, Nat.reduceEqDiff, Nat.reduceAdd, Nat.reduceMul, Nat.reduceMod, Nat.reduceLeDiff, Nat.reduceLT, Int.reduceLT, Int.reduceLE, Int.reduceEq, Int.reduceToNat, Int.reduceSub, Int.reduceNeg, Int.reduceAdd, ↓reduceIte, reduceCtorEq, ite_self, eq_self, if_true, if_false, pack, pid, parN, List.not_mem_nil, List.mem_cons, lid, chkK, apartV, List.map_nil, List.flatMap_nil, List.append_nil, List.nil_append, List.drop_zero, List.length_set, List.length_replicate, List.length_append, List.take_length, List.take_zero, List.drop_length, Option.isNone_none, Heap.none, k1, k2, List.length_map, c2, c3, e1, e2, e3, e4, c4, c5, b1, r1, r2, r3, hX, i1, eQ_rules, eQ_row, Int.natCast_nonneg, l0, t1, t2]
end Go.Pe
set_option linter.unusedSimpArgs false
set_option linter.unusedVariables false
open Go
namespace Go.Pe
theorem pmonic_r {p : List RQt} {k : Nat} (hk : k ≤ 1000000000) (h1k : 1 ≤ k) (hn : p.length ≤ 1000000) (hs : SmL p k) : R FF 180 [.l 3 (p.map eQ)] = some (AV.l 3 (List.map eQ (List.map rQ (moT (tr (vsQ p)))))) := by
  have k1 := pclean_r (p := p) (by omega) h1k (by omega) hs
  have ez := SmL.vsQ hs h1k
  rw [← co_tr'] at ez
  have ll : (tr (vsQ p)).length ≤ 1000000 := Nat.le_trans (tr_le _) (by rw [vsQ_len]; exact hn)
  have cA := ca_tr (vsQ p)
  generalize tr (vsQ p) = A at *
  unfold moT
  by_cases h0 : A = []
  · subst h0
    rw [if_pos rfl, List.map_nil, List.map_nil]
    rw [R_go FF F180 c180.eq_1]
    simp only [RB, un, St.none, Nat.reduceEqDiff, Nat.reduceAdd, Nat.reduceMul, Nat.reduceMod, Nat.reduceLeDiff, Nat.reduceLT, Int.reduceLT, Int.reduceLE, Int.reduceEq, Int.reduceToNat, Int.reduceSub, Int.reduceNeg, Int.reduceAdd, ↓reduceIte, reduceCtorEq, ite_self, eq_self, if_true, if_false, pack, pid, parN, List.not_mem_nil, List.mem_cons, lid, chkK, apartV, List.map_nil, List.flatMap_nil, List.append_nil, List.nil_append, List.drop_zero, List.length_set, List.length_replicate, List.length_append, List.take_length, List.take_zero, List.drop_length, Option.isNone_none, Heap.none, k1, List.length_nil]
  · rw [if_neg h0]
    have p1 := List.length_pos_iff.2 h0
    have ht := ca_top cA h0
    have c1 : ¬ (A.length : Int) = 0 := by omega
    have e1 : IntKind.i64.wrap ((A.length : Int) - 1) = ((A.length - 1 : Nat) : Int) := by rw [w64 (by omega) (by omega)]; omega
    have c2 : ((A.length - 1 : Nat) : Int) < (A.length : Int) := by omega
    have x1 := vQ_r (show A.length - 1 < A.length by omega)
    have x2 := smi_r (show A.length - 1 < A.length by omega) ez
    have hv := sq_inv (co A (A.length - 1))
    have hz := ez (A.length - 1)
    have s1 := pscale_r (p := A.map rQ) (x := (co A (A.length - 1))⁻¹) (k := k + 1) (by omega) (by omega) (by rw [List.length_map]; omega) (SzE.sm (ez.mono (by omega))) (by omega)
    rw [vsQ_r] at s1
    generalize hX : (A.map rQ).getD (A.length - 1) dQ = X at *
    have i1 : R FF 220 [(AV.agg [AV.b X.1, (AV.l 1 (List.map u X.2.1)), (AV.l 1 (List.map u X.2.2))])] = some (.tup [(AV.agg [AV.b (ng (Rat.num ((vQ X)⁻¹))), (AV.l 1 (List.map u (D (Int.natAbs (Rat.num ((vQ X)⁻¹)))))), (AV.l 1 (List.map u (D (Rat.den ((vQ X)⁻¹)))))]), (AV.i .i64 0)]) := qinv_c (by omega) h1k x2 (by show vQ X ≠ 0; rw [x1]; exact ht)
    rw [x1] at i1
    generalize (co A (A.length - 1))⁻¹ = v at *
    rw [R_go FF F180 c180.eq_1]
    simp only [RB, un, St.none, Nat.reduceEqDiff, Nat.reduceAdd, Nat.reduceMul, Nat.reduceMod, Nat.reduceLeDiff, Nat.reduceLT, Int.reduceLT, Int.reduceLE, Int.reduceEq, Int.reduceToNat, Int.reduceSub, Int.reduceNeg, Int.reduceAdd, ↓reduceIte, reduceCtorEq, ite_self, eq_self, if_true, if_false, pack, pid, parN, List.not_mem_nil, List.mem_cons, lid, chkK, apartV, List.map_nil, List.flatMap_nil, List.append_nil, List.nil_append, List.drop_zero, List.length_set, List.length_replicate, List.length_append, List.take_length, List.take_zero, List.drop_length, Option.isNone_none, Heap.none, k1, List.length_map, c1, e1, c2, hX, i1, eQ_rules, eQ_row, Int.natCast_nonneg, s1]
theorem pgcd_l0 {K : Nat} (hK : K ≤ 10000000) : ∀ (n : Nat) {A B : List Rat} {k : Nat}, Ca A → Ca B → B.length < n → A.length ≤ 100 → B.length ≤ 100 → SzF (co A) k → SzF (co B) k → (k + 1) * 2 ^ (A.length + B.length) ≤ K →
    LP FF [(0, 0), (1, 0)] [(0, 0)] b175_0 [(AV.l 3 (List.map eQ (List.map rQ A))), (AV.l 3 (List.map eQ (List.map rQ B)))] = some (.exit 0, [(AV.l 3 (List.map eQ (List.map rQ (gcF n A B))))]) := by
  intro n
  induction n with
  | zero => intro A B k _ _ h; omega
  | succ n ih =>
    intro A B k cA cB hl lA lB f1 f2 hK2
    have hk1 : k + 1 ≤ (k + 1) * 2 ^ (A.length + B.length) := Nat.le_mul_of_pos_right _ (Nat.two_pow_pos _)
    unfold gcF
    by_cases h0 : B = []
    · rw [if_pos h0]
      subst h0
      rw [LP_go FF b175_0.eq_1]
      simp only [RB, un, St.none, Nat.reduceEqDiff, Nat.reduceAdd, Nat.reduceMul, Nat.reduceMod, Nat.reduceLeDiff, Nat.reduceLT, Int.reduceLT, Int.reduceLE, Int.reduceEq, Int.reduceToNat, Int.reduceSub, Int.reduceNeg, Int.reduceAdd, ↓reduceIte, reduceCtorEq, ite_self, eq_self, if_true, if_false, pack, pid, parN, List.not_mem_nil, List.mem_cons, lid, chkK, apartV, List.map_nil, List.flatMap_nil, List.append_nil, List.nil_append, List.drop_zero, List.length_set, List.length_replicate, List.length_append, List.take_length, List.take_zero, List.drop_length, Option.isNone_none, Heap.none, List.length_nil]
    · rw [if_neg h0]
      have c1 : (0 : Int) < (B.length : Int) := by have := List.length_pos_iff.2 h0; omega
      have hr := dvR_len cA cB h0
      have cR := dvR_ca B cA
      have z1 := pdm_r (a := A.map rQ) (b := B.map rQ) (k := k + 1) (by omega) (by omega) (by rw [List.length_map]; exact lA) (by rw [List.length_map]; exact lB) (SzE.sm (f1.sq.mono (by omega))) (SzE.sm (f2.sq.mono (by omega))) (by rw [vsQ_r, tr_ca cA]; exact f1.mono (by omega)) (by rw [vsQ_r, tr_ca cB]; exact f2.mono (by omega)) (by rw [vsQ_r, tr_ca cB]; exact h0)
      rw [vsQ_r, vsQ_r, tr_ca cA, tr_ca cB] at z1
      have h9 : LP FF [(0, 0), (1, 0)] [(0, 0)] b175_0 [(AV.l 3 (List.map eQ (List.map rQ B))), (AV.l 3 (List.map eQ (List.map rQ (dvR A B))))] = some (.exit 0, [(AV.l 3 (List.map eQ (List.map rQ (gcF n B (dvR A B)))))]) := by
        by_cases c : A.length < B.length
        · have e : dvR A B = A := by unfold dvR; rw [if_pos c]
          rw [e] at hr ⊢
          exact ih cB cA (by omega) lB lA f2 f1 (by rw [Nat.add_comm B.length]; exact hK2)
        · obtain ⟨k', _, h3, h4, h5⟩ := euc_sz cA cB f1 f2 h0 (by omega)
          exact ih cB cR (by omega) lB (by omega) h3 h4 (Nat.le_trans h5 hK2)
      rw [LP_go FF b175_0.eq_1]
      simp only [RB, un, St.none, Nat.reduceEqDiff, Nat.reduceAdd, Nat.reduceMul, Nat.reduceMod, Nat.reduceLeDiff, Nat.reduceLT, Int.reduceLT, Int.reduceLE, Int.reduceEq, Int.reduceToNat, Int.reduceSub, Int.reduceNeg, Int.reduceAdd, ↓reduceIte, reduceCtorEq, ite_self, eq_self, if_true, if_false, pack, pid, parN, List.not_mem_nil, List.mem_cons, lid, chkK, apartV, List.map_nil, List.flatMap_nil, List.append_nil, List.nil_append, List.drop_zero, List.length_set, List.length_replicate, List.length_append, List.take_length, List.take_zero, List.drop_length, Option.isNone_none, Heap.none, c1, z1, List.length_map]
      exact h9
theorem pgcd_r {a b : List RQt} {k : Nat} (hk : k ≤ 1000000000) (h1k : 1 ≤ k) (la : a.length ≤ 100) (lb : b.length ≤ 100) (h1 : SmL a k) (h2 : SmL b k) (f1 : SzF (co (tr (vsQ a))) k) (f2 : SzF (co (tr (vsQ b))) k) (hK : (k + 1) * 2 ^ ((tr (vsQ a)).length + (tr (vsQ b)).length) ≤ 10000000) :
    R FF 175 [.l 3 (a.map eQ), .l 3 (b.map eQ)] = some (AV.l 3 (List.map eQ (List.map rQ (gcT (tr (vsQ a)) (tr (vsQ b)))))) := by
  have k1 := pclean_r (p := a) (by omega) h1k (by omega) h1
  have k2 := pclean_r (p := b) (by omega) h1k (by omega) h2
  have lA : (tr (vsQ a)).length ≤ 100 := Nat.le_trans (tr_le _) (by rw [vsQ_len]; exact la)
  have lB : (tr (vsQ b)).length ≤ 100 := Nat.le_trans (tr_le _) (by rw [vsQ_len]; exact lb)
  have cA := ca_tr (vsQ a)
  have cB := ca_tr (vsQ b)
  generalize tr (vsQ a) = A at *
  generalize tr (vsQ b) = B at *
  have l0 := pgcd_l0 (Nat.le_refl 10000000) (B.length + 1) cA cB (by omega) lA lB f1 f2 hK
  have cG := gcF_ca (B.length + 1) cA cB
  have lG := gcF_len (m := 100) (B.length + 1) cA cB lA lB
  have zG := (gcF_sz (B.length + 1) cA cB f1 f2).mono hK
  have m1 := pmonic_r (p := (gcF (B.length + 1) A B).map rQ) (k := 10000000) (by omega) (by omega) (by rw [List.length_map]; omega) zG.sq.sm
  rw [vsQ_r, tr_ca cG] at m1
  unfold gcT
  rw [R_go FF F175 c175.eq_1]
  simp only [RB, un, St.none, Nat.reduceEqDiff, Nat.reduceAdd, Nat.reduceMul, Nat.reduceMod, Nat.reduceLeDiff, Nat.reduceLT, Int.reduceLT, Int.reduceLE, Int.reduceEq, Int.reduceToNat, Int.reduceSub, Int.reduceNeg, Int.reduceAdd, ↓reduceIte, reduceCtorEq, ite_self, eq_self, if_true, if_false, pack, pid, parN, List.not_mem_nil, List.mem_cons, lid, chkK, apartV, List.map_nil, List.flatMap_nil, List.append_nil, List.nil_append, List.drop_zero, List.length_set, List.length_replicate, List.length_append, List.take_length, List.take_zero, List.drop_length, Option.isNone_none, Heap.none, k1, k2, l0, m1]
theorem peval_l0 {p : List RQt} {x y : RQt} {n k : Nat} (hk : n * (k + k + 1) + 1 ≤ 10000000000) (h1k : 1 ≤ k) (hp : p.length = n) (hn : n ≤ 1000000) (hs : SmL p k) (hx : Sm x.2.1 x.2.2 k) : ∀ i, i ≤ n →
    LP FF [(4, 1), (5, 1), (0, 0), (3, 0), (6, 0)] [(4, 1), (5, 0)] b193_0 [.ownp [.b false, .l 1 [], .l 1 []], .ownp [.b (ng (ef (fun j => co (vsQ p) (i + j)) (n - i) (vQ x)).num), (AV.l 1 (List.map u (D (ef (fun j => co (vsQ p) (i + j)) (n - i) (vQ x)).num.natAbs))), (AV.l 1 (List.map u (D (ef (fun j => co (vsQ p) (i + j)) (n - i) (vQ x)).den)))], .l 3 (p.map eQ), .tp (eQ x) 0, (AV.i .i64 ((i : Int) - 1))] =
      some (.exit 0, [.ownp [.b false, .l 1 [], .l 1 []], .tp [.b (ng (ef (co (vsQ p)) n (vQ x)).num), (AV.l 1 (List.map u (D (ef (co (vsQ p)) n (vQ x)).num.natAbs))), (AV.l 1 (List.map u (D (ef (co (vsQ p)) n (vQ x)).den)))] 0]) := by
  intro i
  induction i with
  | zero =>
    intro _
    have e : (fun j => co (vsQ p) (0 + j)) = co (vsQ p) := by funext j; rw [Nat.zero_add]
    rw [e, Nat.sub_zero, Int.ofNat_zero]
    rw [LP_go FF b193_0.eq_1]
    simp only [RB, un, St.none, Nat.reduceEqDiff, Nat.reduceAdd, Nat.reduceMul, Nat.reduceMod, Nat.reduceLeDiff, Nat.reduceLT, Int.reduceLT, Int.reduceLE, Int.reduceEq, Int.reduceToNat, Int.reduceSub, Int.reduceNeg, Int.reduceAdd, ↓reduceIte, reduceCtorEq, ite_self, eq_self, if_true, if_false, pack, pid, parN, List.not_mem_nil, List.mem_cons, lid, chkK, apartV, List.map_nil, List.flatMap_nil, List.append_nil, List.nil_append, List.drop_zero, List.length_set, List.length_replicate, List.length_append, List.take_length, List.take_zero, List.drop_length, Option.isNone_none, Heap.none, eQ_rules]
  | succ i ih =>
    intro hi
    have h9 := ih (by omega)
    have e0 : ((i + 1 : Nat) : Int) - 1 = (i : Int) := by omega
    have c0 : (0 : Int) ≤ (i : Int) := by omega
    have e4 : IntKind.i64.wrap ((i : Int) - 1) = (i : Int) - 1 := w64 (by omega) (by omega)
    have c2 : i < p.length := by omega
    have c3 : (i : Int) < (p.length : Int) := by omega
    have es := ef_shift (co (vsQ p)) (vQ x) i (n - (i + 1))
    rw [show n - (i + 1) + 1 = n - i by omega] at es
    have ez := SmL.vsQ hs h1k
    have sx : sq (vQ x) ≤ k := Sm.sq hx h1k
    have s1 : sq (ef (fun j => co (vsQ p) (i + 1 + j)) (n - (i + 1)) (vQ x)) ≤ 10000000000 := by
      have h1 := ef_sq (f := fun j => co (vsQ p) (i + 1 + j)) (x := vQ x) (fun j => ez (i + 1 + j)) sx (n - (i + 1))
      have h2 : (n - (i + 1)) * (k + k + 1) ≤ n * (k + k + 1) := Nat.mul_le_mul_right _ (by omega)
      omega
    have hk2 : k ≤ 10000000000 := by
      have : 1 * (k + k + 1) ≤ n * (k + k + 1) := Nat.mul_le_mul_right _ (by omega)
      omega
    have x1 : vQ (p.getD i dQ) = co (vsQ p) i := by rw [← atV_vsQ]; unfold atV; rw [if_pos c2]
    have x2 := hs _ (getD_mem' dQ c2)
    rw [es] at h9
    rw [e0]
    generalize ef (fun j => co (vsQ p) (i + 1 + j)) (n - (i + 1)) (vQ x) = v at *
    have s2 := sq_mul v (vQ x)
    have g1 : R FF 94 [(AV.agg [AV.b (ng (Rat.num v)), (AV.l 1 (List.map u (D (Int.natAbs (Rat.num v))))), (AV.l 1 (List.map u (D (Rat.den v))))]), (AV.agg [AV.b x.1, (AV.l 1 (List.map u x.2.1)), (AV.l 1 (List.map u x.2.2))])] = some (AV.agg [AV.b (ng (Rat.num ((qv (ng v.num) (D v.num.natAbs) (D v.den) * vQ x)))), (AV.l 1 (List.map u (D (Int.natAbs (Rat.num ((qv (ng v.num) (D v.num.natAbs) (D v.den) * vQ x))))))), (AV.l 1 (List.map u (D (Rat.den ((qv (ng v.num) (D v.num.natAbs) (D v.den) * vQ x))))))]) := qmul_s (sm_cq s1) hx (by omega) (by omega)
    rw [qv_cq] at g1
    have g2 : R FF 31 [(AV.agg [AV.b (ng (Rat.num ((v * vQ x)))), (AV.l 1 (List.map u (D (Int.natAbs (Rat.num ((v * vQ x))))))), (AV.l 1 (List.map u (D (Rat.den ((v * vQ x))))))]), (AV.agg [AV.b ((p.getD i dQ).1), (AV.l 1 (List.map u (((p.getD i dQ).2.1)))), (AV.l 1 (List.map u (((p.getD i dQ).2.2))))])] = some (AV.agg [AV.b (ng (Rat.num ((qv (ng (v * vQ x).num) (D (v * vQ x).num.natAbs) (D (v * vQ x).den) + vQ (p.getD i dQ))))), (AV.l 1 (List.map u (D (Int.natAbs (Rat.num ((qv (ng (v * vQ x).num) (D (v * vQ x).num.natAbs) (D (v * vQ x).den) + vQ (p.getD i dQ)))))))), (AV.l 1 (List.map u (D (Rat.den ((qv (ng (v * vQ x).num) (D (v * vQ x).num.natAbs) (D (v * vQ x).den) + vQ (p.getD i dQ)))))))]) := qadd_s (sm_cq (x := v * vQ x) (k := 20000000000) (by omega)) x2 (by omega) (by omega)
    rw [qv_cq, x1, show v * vQ x + co (vsQ p) i = co (vsQ p) i + vQ x * v by grind] at g2
    generalize co (vsQ p) i + vQ x * v = v2 at *
    generalize v * vQ x = v3 at *
    rw [LP_go FF b193_0.eq_1]
    simp only [RB, un, St.none, Nat.reduceEqDiff, Nat.reduceAdd, Nat.reduceMul, Nat.reduceMod, Nat.reduceLeDiff, Nat.reduceLT, Int.reduceLT, Int.reduceLE, Int.reduceEq, Int.reduceToNat, Int.reduceSub, Int.reduceNeg, Int.reduceAdd, ↓reduceIte, reduceCtorEq, ite_self, eq_self, if_true, if_false, pack, pid, parN, List.not_mem_nil, List.mem_cons, lid, chkK, apartV, List.map_nil, List.flatMap_nil, List.append_nil, List.nil_append, List.drop_zero, List.length_set, List.length_replicate, List.length_append, List.take_length, List.take_zero, List.drop_length, Option.isNone_none, Heap.none, c0, c2, c3, e4, eQ_rules, eQ_row, Int.natCast_nonneg, g1, g2]
    exact h9
theorem peval_r {p : List RQt} {x : RQt} {k : Nat} (hk : p.length * (k + k + 1) + 1 ≤ 10000000000) (h1k : 1 ≤ k) (hn : p.length ≤ 1000000) (hs : SmL p k) (hx : Sm x.2.1 x.2.2 k) : R FF 193 [.l 3 (p.map eQ), .agg (eQ x)] = some (AV.agg [AV.b (ng (Rat.num ((evl (vsQ p) (vQ x))))), (AV.l 1 (List.map u (D (Int.natAbs (Rat.num ((evl (vsQ p) (vQ x)))))))), (AV.l 1 (List.map u (D (Rat.den ((evl (vsQ p) (vQ x)))))))]) := by
  have l0 := peval_l0 (y := x) hk h1k rfl hn hs hx p.length (Nat.le_refl _)
  rw [Nat.sub_self, ef_zero] at l0
  have z1 := qzero_c
  have e1 : IntKind.i64.wrap ((p.length : Int) - 1) = (p.length : Int) - 1 := w64 (by omega) (by omega)
  unfold evl
  rw [vsQ_len]
  simp only [eQ] at l0 ⊢
  generalize ef (co (vsQ p)) p.length (vQ x) = v at *
  rw [R_go FF F193 c193.eq_1]
  simp only [RB, un, St.none, Nat.reduceEqDiff, Nat.reduceAdd, Nat.reduceMul, Nat.reduceMod, Nat.reduceLeDiff, Nat.reduceLT, Int.reduceLT, Int.reduceLE, Int.reduceEq, Int.reduceToNat, Int.reduceSub, Int.reduceNeg, Int.reduceAdd, ↓reduceIte, reduceCtorEq, ite_self, eq_self, if_true, if_false, pack, pid, parN, List.not_mem_nil, List.mem_cons, lid, chkK, apartV, List.map_nil, List.flatMap_nil, List.append_nil, List.nil_append, List.drop_zero, List.length_set, List.length_replicate, List.length_append, List.take_length, List.take_zero, List.drop_length, Option.isNone_none, Heap.none, z1, e1, l0]
end Go.Pe
set_option linter.unusedSimpArgs false
set_option linter.unusedVariables false
open Go
namespace Go.Pe
def dF (f : Fn) : Fn := fun i => f (i + 1) * (((i + 1 : Nat) : Int) : Rat)
theorem pderive_l0 {p : List RQt} {n k : Nat} (hk : k ≤ 10000000000) (hp : p.length = n) (hn : n ≤ 1000000) (hs : SmL p k) : ∀ (d i : Nat), i + d = n - 1 →
    LP FF [(3, 1), (0, 0), (4, 0)] [(3, 0)] b185_0 [.own true 3 ((nf (dF (co (vsQ p))) i).map eQ), .l 3 (p.map eQ), (AV.i .i64 (((i + 1 : Nat) : Int)))] = some (.exit 0, [.l 3 ((nf (dF (co (vsQ p))) (n - 1)).map eQ)]) := by
  intro d
  induction d with
  | zero =>
    intro i hi
    obtain rfl : i = n - 1 := by omega
    have c1 : ¬ ((n - 1 + 1 : Nat) : Int) < (p.length : Int) := by omega
    have t1 : ∀ f : Fn, List.take (n - 1) (nf f (n - 1)) = nf f (n - 1) := fun f => List.take_of_length_le (by rw [nf_len]; exact Nat.le_refl _)
    rw [LP_go FF b185_0.eq_1]
    simp only [RB, un, St.none, Nat.reduceEqDiff, Nat.reduceAdd, Nat.reduceMul, Nat.reduceMod, Nat.reduceLeDiff, Nat.reduceLT, Int.reduceLT, Int.reduceLE, Int.reduceEq, Int.reduceToNat, Int.reduceSub, Int.reduceNeg, Int.reduceAdd, ↓reduceIte, reduceCtorEq, ite_self, eq_self, if_true, if_false, pack, pid, parN, List.not_mem_nil, List.mem_cons, lid, chkK, apartV, List.map_nil, List.flatMap_nil, List.append_nil, List.nil_append, List.drop_zero, List.length_set, List.length_replicate, List.length_append, List.take_length, List.take_zero, List.drop_length, Option.isNone_none, Heap.none, c1, eQ_rules, t1, nf_len]
  | succ d ih =>
    intro i hi
    have h9 := ih (i + 1) (by omega)
    have c2 : i + 1 < p.length := by omega
    have c1 : ((i + 1 : Nat) : Int) < (p.length : Int) := by omega
    have e1 : IntKind.i64.wrap (((i + 1 : Nat) : Int) + 1) = ((i + 1 + 1 : Nat) : Int) := w64succ (by omega)
    have o1 := qof_c (n := ((i + 1 : Nat) : Int)) (by omega) (by omega)
    have so := sq_int ((i + 1 : Nat) : Int) (by omega)
    have x1 : vQ (p.getD (i + 1) dQ) = co (vsQ p) (i + 1) := by rw [← atV_vsQ]; unfold atV; rw [if_pos c2]
    have x2 := hs _ (getD_mem' dQ c2)
    have b2 : (i + 1) * 56 ≤ 140737488355328 := by omega
    have m2 : ∀ (f : Nat → Rat) (y : RQt), List.take (i + 1) (nf f i ++ [y]) = nf f i ++ [y] := fun f y => List.take_of_length_le (by rw [List.length_append, nf_len]; simp)
    have m3 : ∀ f : Nat → Rat, List.take i (nf f i) = nf f i := fun f => List.take_of_length_le (by rw [nf_len]; exact Nat.le_refl _)
    have m1 : ∀ (f : Nat → Rat) (v : Rat), List.map eQ (nf f i) ++ [[.b (ng v.num), (AV.l 1 (List.map u (D v.num.natAbs))), (AV.l 1 (List.map u (D v.den)))]] = List.map eQ (nf f i ++ [rQ v]) := fun f v => by rw [List.map_append]; rfl
    rw [nf_succ] at h9
    have ed : dF (co (vsQ p)) i = co (vsQ p) (i + 1) * (((i + 1 : Nat) : Int) : Rat) := rfl
    rw [ed] at h9
    have ln := nf_len (dF (co (vsQ p))) i
    generalize ((((i + 1 : Nat) : Int)) : Rat) = y at *
    generalize hX : p.getD (i + 1) dQ = X at *
    have g1 : R FF 94 [(AV.agg [AV.b X.1, (AV.l 1 (List.map u X.2.1)), (AV.l 1 (List.map u X.2.2))]), (AV.agg [AV.b (ng (Rat.num y)), (AV.l 1 (List.map u (D (Int.natAbs (Rat.num y))))), (AV.l 1 (List.map u (D (Rat.den y))))])] = some (AV.agg [AV.b (ng (Rat.num ((vQ X * qv (ng y.num) (D y.num.natAbs) (D y.den))))), (AV.l 1 (List.map u (D (Int.natAbs (Rat.num ((vQ X * qv (ng y.num) (D y.num.natAbs) (D y.den)))))))), (AV.l 1 (List.map u (D (Rat.den ((vQ X * qv (ng y.num) (D y.num.natAbs) (D y.den)))))))]) := qmul_s x2 (sm_cq so) (by omega) (by omega)
    rw [qv_cq, x1] at g1
    rw [LP_go FF b185_0.eq_1]
    simp only [RB, un, St.none, Nat.reduceEqDiff, Nat.reduceAdd, Nat.reduceMul, Nat.reduceMod, Nat.reduceLeDiff, Nat.reduceLT, Int.reduceLT, Int.reduceLE, Int.reduceEq, Int.reduceToNat, Int.reduceSub, Int.reduceNeg, Int.reduceAdd, ↓reduceIte, reduceCtorEq, ite_self, eq_self, if_true, if_false, pack, pid, parN, List.not_mem_nil, List.mem_cons, lid, chkK, apartV, List.map_nil, List.flatMap_nil, List.append_nil, List.nil_append, List.drop_zero, List.length_set, List.length_replicate, List.length_append, List.take_length, List.take_zero, List.drop_length, Option.isNone_none, Heap.none, c1, c2, e1, eQ_rules, eQ_row, Int.natCast_nonneg, o1, hX, g1, ln, b2, m1, m2, m3]
    exact h9
theorem pderive_r {p : List RQt} {k : Nat} (hk : k ≤ 10000000000) (h1k : 1 ≤ k) (hn : p.length ≤ 1000000) (hs : SmL p k) : R FF 185 [.l 3 (p.map eQ)] = some (AV.l 3 (List.map eQ (List.map rQ (dT (vsQ p))))) := by
  have l0 := pderive_l0 hk rfl hn hs (p.length - 1) 0 (by omega)
  rw [show nf (dF (co (vsQ p))) 0 = [] from rfl, List.map_nil] at l0
  have ez := SmL.vsQ hs h1k
  have t1 := ptrim_c (p := nf (dF (co (vsQ p))) (p.length - 1)) (k := 20000000000) (by omega) (by rw [nf_len]; have : maxL = 9223372036854775807 := rfl; omega) (nf_sm fun i hi => by
    have h1 := sq_mul (co (vsQ p) (i + 1)) (((i + 1 : Nat) : Int) : Rat)
    have h2 := sq_int ((i + 1 : Nat) : Int) (by omega)
    have h3 := ez (i + 1)
    show sq (co (vsQ p) (i + 1) * (((i + 1 : Nat) : Int) : Rat)) ≤ _
    omega)
  rw [trim_tk] at t1
  have e0 : dT (vsQ p) = tk (dF (co (vsQ p))) (p.length - 1) := by unfold dT; rw [vsQ_len]; rfl
  rw [e0]
  rw [show (((0 + 1 : Nat)) : Int) = 1 from rfl] at l0
  generalize nf (dF (co (vsQ p))) (p.length - 1) = N at *
  rw [R_go FF F185 c185.eq_1]
  simp only [RB, un, St.none, Nat.reduceEqDiff, Nat.reduceAdd, Nat.reduceMul, Nat.reduceMod, Nat.reduceLeDiff, Nat.reduceLT, Int.reduceLT, Int.reduceLE, Int.reduceEq, Int.reduceToNat, Int.reduceSub, Int.reduceNeg, Int.reduceAdd, ↓reduceIte, reduceCtorEq, ite_self, eq_self, if_true, if_false, pack, pid, parN, List.not_mem_nil, List.mem_cons, lid, chkK, apartV, List.map_nil, List.flatMap_nil, List.append_nil, List.nil_append, List.drop_zero, List.length_set, List.length_replicate, List.length_append, List.take_length, List.take_zero, List.drop_length, Option.isNone_none, Heap.none, l0, t1]
def eL (l : List Rat) : List AV := [(AV.l 3 (List.map eQ (List.map rQ l)))]
theorem eL_rules : (∀ x, (eL x).length = 1) ∧ (∀ h x, (eL x).map (tellC h) = eL x) ∧ (∀ h x, (eL x).map (tell0 h) = eL x) ∧ (∀ h x, (eL x).flatMap (refC h) = []) ∧ (∀ x, (eL x).flatMap ref0 = []) ∧
    (∀ x, ldC false 1 0 (eL x) = some (AV.l 3 (List.map eQ (List.map rQ x)))) := by
  refine ⟨?_, ?_, ?_, ?_, ?_, ?_⟩ <;> intros <;> rfl
theorem eL_row : type_of% (row_rules eL [] 1 (fun _ => rfl) (fun _ _ => rfl)) := row_rules eL [] 1 (fun _ => rfl) (fun _ _ => rfl)
def tnS (c : List (List Rat)) (x : Rat) : Nat → Int × Int
  | 0 => (0, 0)
  | i + 1 => if cmp (evl (c.getD i []) x).num 0 = 0 then tnS c x i else ((tnS c x i).1 + (if (tnS c x i).2 ≠ 0 ∧ cmp (evl (c.getD i []) x).num 0 ≠ (tnS c x i).2 then 1 else 0), cmp (evl (c.getD i []) x).num 0)
theorem tnS_le (c : List (List Rat)) (x : Rat) : ∀ i, 0 ≤ (tnS c x i).1 ∧ (tnS c x i).1 ≤ i := by
  intro i
  induction i with
  | zero => exact ⟨Int.le_refl _, Int.le_refl _⟩
  | succ i ih =>
    unfold tnS
    split
    · omega
    · simp only
      split <;> omega
def SzL (c : List (List Rat)) (k n : Nat) : Prop := ∀ l ∈ c, SzE (co l) k ∧ l.length ≤ n
theorem pturns_l0 {c : List (List Rat)} {x : RQt} {k n m : Nat} (hk : n * (k + k + 1) + 1 ≤ 10000000000) (h1k : 1 ≤ k) (hn : n ≤ 1000000) (hc : SzL c k n) (hx : Sm x.2.1 x.2.2 k) (hm : c.length = m) (hm2 : m ≤ 1000000) : ∀ (d i : Nat), i + d = m →
    LP FF [(3, 0), (5, 0), (6, 0), (10, 0), (11, 0), (12, 0)] [(5, 0)] b213_0 [.tp (eQ x) 0, (AV.i .i64 ((tnS c (vQ x) i).1)), (AV.i .i64 ((tnS c (vQ x) i).2)), .l 1 (c.map eL), (AV.i .i64 ((m : Int))), (AV.i .i64 ((i : Int)))] = some (.exit 0, [(AV.i .i64 ((tnS c (vQ x) m).1))]) := by
  intro d
  induction d with
  | zero =>
    intro i hi
    obtain rfl : i = m := by omega
    have c1 : ¬ (i : Int) < (i : Int) := by omega
    rw [LP_go FF b213_0.eq_1]
    simp only [RB, un, St.none, Nat.reduceEqDiff, Nat.reduceAdd, Nat.reduceMul, Nat.reduceMod, Nat.reduceLeDiff, Nat.reduceLT, Int.reduceLT, Int.reduceLE, Int.reduceEq, Int.reduceToNat, Int.reduceSub, Int.reduceNeg, Int.reduceAdd, ↓reduceIte, reduceCtorEq, ite_self, eq_self, if_true, if_false, pack, pid, parN, List.not_mem_nil, List.mem_cons, lid, chkK, apartV, List.map_nil, List.flatMap_nil, List.append_nil, List.nil_append, List.drop_zero, List.length_set, List.length_replicate, List.length_append, List.take_length, List.take_zero, List.drop_length, Option.isNone_none, Heap.none, c1]
  | succ d ih =>
    intro i hi
    have h9 := ih (i + 1) (by omega)
    have c1 : (i : Int) < (m : Int) := by omega
    have c3 : (i : Int) < (c.length : Int) := by omega
    have e1 : IntKind.i64.wrap ((i : Int) + 1) = ((i + 1 : Nat) : Int) := w64succ (by omega)
    obtain ⟨z1, z2⟩ := hc (c.getD i []) (getD_mem' [] (by omega))
    have tl := tnS_le c (vQ x) i
    have e2 : IntKind.i64.wrap ((tnS c (vQ x) i).1 + 1) = (tnS c (vQ x) i).1 + 1 := w64 (by omega) (by omega)
    have hm1 : (c.getD i []).length * (k + k + 1) ≤ n * (k + k + 1) := Nat.mul_le_mul_right _ z2
    have v1 := peval_r (p := (c.getD i []).map rQ) (x := x) (k := k) (by rw [List.length_map]; omega) h1k (by rw [List.length_map]; omega) z1.sm hx
    rw [vsQ_r] at v1
    have s1 := evl_sq z1 (Sm.sq (q := x.1) hx h1k) z2
    change sq (evl (c.getD i []) (vQ x)) ≤ _ at s1
    have g1 : R FF 162 [(AV.agg [AV.b (ng (Rat.num ((evl (c.getD i []) (vQ x))))), (AV.l 1 (List.map u (D (Int.natAbs (Rat.num ((evl (c.getD i []) (vQ x)))))))), (AV.l 1 (List.map u (D (Rat.den ((evl (c.getD i []) (vQ x)))))))])] = _ := qsign_c (q := ng (evl (c.getD i []) (vQ x)).num) (k := 100000000000) (by omega) (sm_cq (by omega))
    rw [qv_cq] at g1
    have ts : tnS c (vQ x) (i + 1) = if cmp (evl (c.getD i []) (vQ x)).num 0 = 0 then tnS c (vQ x) i else ((tnS c (vQ x) i).1 + (if (tnS c (vQ x) i).2 ≠ 0 ∧ cmp (evl (c.getD i []) (vQ x)).num 0 ≠ (tnS c (vQ x) i).2 then 1 else 0), cmp (evl (c.getD i []) (vQ x)).num 0) := rfl
    rw [ts] at h9
    generalize hP : (c.getD i []) = P at *
    generalize cmp (evl P (vQ x)).num 0 = s at *
    generalize tnS c (vQ x) i = T at *
    obtain ⟨a, b⟩ := T
    simp only at h9 e2 ⊢
    simp only [eQ] at v1 h9 ⊢
    by_cases hs : s = 0
    · rw [if_pos hs] at h9
      subst hs
      rw [LP_go FF b213_0.eq_1]
      simp only [RB, un, St.none, Nat.reduceEqDiff, Nat.reduceAdd, Nat.reduceMul, Nat.reduceMod, Nat.reduceLeDiff, Nat.reduceLT, Int.reduceLT, Int.reduceLE, Int.reduceEq, Int.reduceToNat, Int.reduceSub, Int.reduceNeg, Int.reduceAdd, ↓reduceIte, reduceCtorEq, ite_self, eq_self, if_true, if_false, pack, pid, parN, List.not_mem_nil, List.mem_cons, lid, chkK, apartV, List.map_nil, List.flatMap_nil, List.append_nil, List.nil_append, List.drop_zero, List.length_set, List.length_replicate, List.length_append, List.take_length, List.take_zero, List.drop_length, Option.isNone_none, Heap.none, c1, c3, e1, eL_rules, eL_row, Int.natCast_nonneg, hP, v1, g1]
      exact h9
    · rw [if_neg hs] at h9
      simp only at h9
      by_cases hb : b = 0
      · subst hb
        rw [if_neg (by intro h; exact h.1 rfl), Int.add_zero] at h9
        rw [LP_go FF b213_0.eq_1]
        simp only [RB, un, St.none, Nat.reduceEqDiff, Nat.reduceAdd, Nat.reduceMul, Nat.reduceMod, Nat.reduceLeDiff, Nat.reduceLT, Int.reduceLT, Int.reduceLE, Int.reduceEq, Int.reduceToNat, Int.reduceSub, Int.reduceNeg, Int.reduceAdd, ↓reduceIte, reduceCtorEq, ite_self, eq_self, if_true, if_false, pack, pid, parN, List.not_mem_nil, List.mem_cons, lid, chkK, apartV, List.map_nil, List.flatMap_nil, List.append_nil, List.nil_append, List.drop_zero, List.length_set, List.length_replicate, List.length_append, List.take_length, List.take_zero, List.drop_length, Option.isNone_none, Heap.none, c1, c3, e1, eL_rules, eL_row, Int.natCast_nonneg, hP, v1, g1, hs]
        exact h9
      · by_cases hsb : s = b
        · subst hsb
          rw [if_neg (by intro h; exact h.2 rfl), Int.add_zero] at h9
          rw [LP_go FF b213_0.eq_1]
          simp only [RB, un, St.none, Nat.reduceEqDiff, Nat.reduceAdd, Nat.reduceMul, Nat.reduceMod, Nat.reduceLeDiff, Nat.reduceLT, Int.reduceLT, Int.reduceLE, Int.reduceEq, Int.reduceToNat, Int.reduceSub, Int.reduceNeg, Int.reduceAdd, ↓reduceIte, reduceCtorEq, ite_self, eq_self, if_true, if_false, pack, pid, parN, List.not_mem_nil, List.mem_cons, lid, chkK, apartV, List.map_nil, List.flatMap_nil, List.append_nil, List.nil_append, List.drop_zero, List.length_set, List.length_replicate, List.length_append, List.take_length, List.take_zero, List.drop_length, Option.isNone_none, Heap.none, c1, c3, e1, eL_rules, eL_row, Int.natCast_nonneg, hP, v1, g1, hs]
          exact h9
        · rw [if_pos ⟨hb, hsb⟩] at h9
          rw [LP_go FF b213_0.eq_1]
          simp only [RB, un, St.none, Nat.reduceEqDiff, Nat.reduceAdd, Nat.reduceMul, Nat.reduceMod, Nat.reduceLeDiff, Nat.reduceLT, Int.reduceLT, Int.reduceLE, Int.reduceEq, Int.reduceToNat, Int.reduceSub, Int.reduceNeg, Int.reduceAdd, ↓reduceIte, reduceCtorEq, ite_self, eq_self, if_true, if_false, pack, pid, parN, List.not_mem_nil, List.mem_cons, lid, chkK, apartV, List.map_nil, List.flatMap_nil, List.append_nil, List.nil_append, List.drop_zero, List.length_set, List.length_replicate, List.length_append, List.take_length, List.take_zero, List.drop_length, Option.isNone_none, Heap.none, c1, c3, e1, e2, eL_rules, eL_row, Int.natCast_nonneg, hP, v1, g1, hs, hb, hsb]
          exact h9
theorem pturns_r {c : List (List Rat)} {x : RQt} {k n : Nat} (hk : n * (k + k + 1) + 1 ≤ 10000000000) (h1k : 1 ≤ k) (hn : n ≤ 1000000) (hc : SzL c k n) (hx : Sm x.2.1 x.2.2 k) (hm2 : c.length ≤ 1000000) : R FF 213 [.l 1 (c.map eL), .agg (eQ x)] = some (AV.i .i64 ((tnS c (vQ x) c.length).1)) := by
  have l0 := pturns_l0 hk h1k hn hc hx rfl hm2 c.length 0 (by omega)
  rw [Int.ofNat_zero, show tnS c (vQ x) 0 = (0, 0) from rfl] at l0
  simp only [eQ] at l0 ⊢
  rw [R_go FF F213 c213.eq_1]
  simp only [RB, un, St.none, Nat.reduceEqDiff, Nat.reduceAdd, Nat.reduceMul, Nat.reduceMod, Nat.reduceLeDiff, Nat.reduceLT, Int.reduceLT, Int.reduceLE, Int.reduceEq, Int.reduceToNat, Int.reduceSub, Int.reduceNeg, Int.reduceAdd, ↓reduceIte, reduceCtorEq, ite_self, eq_self, if_true, if_false, pack, pid, parN, List.not_mem_nil, List.mem_cons, lid, chkK, apartV, List.map_nil, List.flatMap_nil, List.append_nil, List.nil_append, List.drop_zero, List.length_set, List.length_replicate, List.length_append, List.take_length, List.take_zero, List.drop_length, Option.isNone_none, Heap.none, l0, List.length_map]
end Go.Pe
set_option linter.unusedSimpArgs false
set_option linter.unusedVariables false
open Go
namespace Go.Pe
structure ChZ (p q : List Rat) (n K : Nat) : Prop where
  cp : Ca p
  cq : Ca q
  lt : q.length < p.length
  ln : q.length ≤ n
  lp : p.length ≤ n + 1
  z : ∃ k, SzF (co p) k ∧ SzF (co q) k ∧ (k + 1) * 2 ^ (p.length + q.length) ≤ K
theorem ChZ.bnd {p q : List Rat} {n K : Nat} (h : ChZ p q n K) : SzF (co p) K ∧ SzF (co q) K := by
  obtain ⟨k, h1, h2, h3⟩ := h.z
  have := k_pow k (p.length + q.length)
  exact ⟨h1.mono (by omega), h2.mono (by omega)⟩
theorem ChZ.next {p q : List Rat} {n K : Nat} (h : ChZ p q (n + 1) K) (h0 : q ≠ []) : ChZ q (scT (dvR p q) (-1)) n K ∧ SzF (co (dvR p q)) K := by
  have hr := dvR_len h.cp h.cq h0
  have hlt := h.lt
  have hln := h.ln
  obtain ⟨k, k1, k2, k3⟩ := h.z
  obtain ⟨k', _, h3, h4, h5⟩ := euc_sz h.cp h.cq k1 k2 h0 (by omega)
  have hs : (scT (dvR p q) (-1)).length = (dvR p q).length := scT_len (dvR_ca q h.cp) (by decide)
  refine ⟨⟨h.cq, ca_tk _ _, by omega, by omega, by omega, k', h3, ?_, ?_⟩, ?_⟩
  · rw [co_scT]; exact SzF.scm h4
  · rw [hs]; exact Nat.le_trans h5 k3
  · have := k_pow k' (q.length + (dvR p q).length)
    exact h4.mono (by omega)
theorem dT_ca (l : List Rat) : Ca (dT l) := ca_tk _ _
theorem dT_ext {l m : List Rat} (h : co l = co m) : dT l = dT m := ca_ext (dT_ca l) (dT_ca m) fun i => by rw [co_dT, co_dT, h]
theorem qof_m1 : R FF 68 [(AV.i .i64 (-1))] = some (AV.agg [AV.b (ng (Rat.num ((-1 : Rat)))), (AV.l 1 (List.map u (D (Int.natAbs (Rat.num ((-1 : Rat))))))), (AV.l 1 (List.map u (D (Rat.den ((-1 : Rat))))))]) := qof_c (n := -1) (by omega) (by omega)
theorem sq_m1 : sq (-1 : Rat) ≤ 1 := by rw [sq_neg]; exact sq_one
theorem snoc_get (pre : List (List Rat)) (p q : List Rat) : (pre ++ [p] ++ [q]).getD pre.length [] = p := by simp [List.getD_eq_getElem?_getD]
theorem pchain_l0 {K : Nat} (hK : K ≤ 10000000) : ∀ (n : Nat) {pre : List (List Rat)} {p q : List Rat}, ChZ p q n K → n ≤ 90 → pre.length + n ≤ 100000 →
    LP FF [(3, 1), (4, 0)] [(3, 0)] b191_0 [.own true 1 ((pre ++ [p]).map eL), (AV.l 3 (List.map eQ (List.map rQ q)))] = some (.exit 0, [.l 1 ((pre ++ p :: chF n p q).map eL)]) := by
  intro n
  induction n with
  | zero =>
    intro pre p q hz _ _
    have h0 : q = [] := List.length_eq_zero_iff.1 (by have := hz.ln; omega)
    subst h0
    rw [show chF 0 p [] = [] from rfl]
    have t1 : List.take (pre ++ [p]).length (pre ++ [p]) = pre ++ [p] := List.take_length
    generalize pre ++ [p] = N at *
    rw [LP_go FF b191_0.eq_1]
    simp only [RB, un, St.none, Nat.reduceEqDiff, Nat.reduceAdd, Nat.reduceMul, Nat.reduceMod, Nat.reduceLeDiff, Nat.reduceLT, Int.reduceLT, Int.reduceLE, Int.reduceEq, Int.reduceToNat, Int.reduceSub, Int.reduceNeg, Int.reduceAdd, ↓reduceIte, reduceCtorEq, ite_self, eq_self, if_true, if_false, pack, pid, parN, List.not_mem_nil, List.mem_cons, lid, chkK, apartV, List.map_nil, List.flatMap_nil, List.append_nil, List.nil_append, List.drop_zero, List.length_set, List.length_replicate, List.length_append, List.take_length, List.take_zero, List.drop_length, Option.isNone_none, Heap.none, List.length_nil, eL_rules, t1, List.length_map]
  | succ n ih =>
    intro pre p q hz hn90 hpn
    unfold chF
    by_cases h0 : q = []
    · rw [if_pos h0]
      subst h0
      have t1 : List.take (pre ++ [p]).length (pre ++ [p]) = pre ++ [p] := List.take_length
      generalize pre ++ [p] = N at *
      rw [LP_go FF b191_0.eq_1]
      simp only [RB, un, St.none, Nat.reduceEqDiff, Nat.reduceAdd, Nat.reduceMul, Nat.reduceMod, Nat.reduceLeDiff, Nat.reduceLT, Int.reduceLT, Int.reduceLE, Int.reduceEq, Int.reduceToNat, Int.reduceSub, Int.reduceNeg, Int.reduceAdd, ↓reduceIte, reduceCtorEq, ite_self, eq_self, if_true, if_false, pack, pid, parN, List.not_mem_nil, List.mem_cons, lid, chkK, apartV, List.map_nil, List.flatMap_nil, List.append_nil, List.nil_append, List.drop_zero, List.length_set, List.length_replicate, List.length_append, List.take_length, List.take_zero, List.drop_length, Option.isNone_none, Heap.none, List.length_nil, eL_rules, t1, List.length_map]
    · rw [if_neg h0]
      obtain ⟨hz2, zr⟩ := hz.next h0
      obtain ⟨fp, fq⟩ := hz.bnd
      have cp := hz.cp
      have cq := hz.cq
      have llp := hz.lp
      have llq := hz.ln
      have lt := hz.lt
      have h9 := ih (pre := pre ++ [p]) hz2 (by omega) (by rw [List.length_append, List.length_singleton]; omega)
      have c1 : (0 : Int) < (q.length : Int) := by have := List.length_pos_iff.2 h0; omega
      have hl := dvR_len cp cq h0
      have z1 := pdm_r (a := p.map rQ) (b := q.map rQ) (k := K + 0) (by omega) (by
        obtain ⟨k, _, _, h⟩ := hz.z
        have : 1 ≤ (k + 1) * 2 ^ (p.length + q.length) := Nat.mul_pos (by omega) (Nat.two_pow_pos _)
        omega) (by rw [List.length_map]; omega) (by rw [List.length_map]; omega) fp.sq.sm fq.sq.sm (by rw [vsQ_r, tr_ca cp]; exact fp) (by rw [vsQ_r, tr_ca cq]; exact fq) (by rw [vsQ_r, tr_ca cq]; exact h0)
      rw [vsQ_r, vsQ_r, tr_ca cp, tr_ca cq] at z1
      have s1 := pscale_r (p := (dvR p q).map rQ) (x := -1) (k := K + 1) (by omega) (by omega) (by rw [List.length_map]; omega) (SzE.sm (zr.sq.mono (by omega))) (Nat.le_trans sq_m1 (by omega))
      rw [vsQ_r] at s1
      have o1 := qof_m1
      have b1 : (pre.length + 1 + 1) * 24 ≤ 140737488355328 := by omega
      have m0 : (pre ++ [p]).length = pre.length + 1 := by simp
      have m1 : List.map eL (pre ++ [p]) ++ [[(AV.l 3 (List.map eQ (List.map rQ q)))]] = List.map eL (pre ++ [p] ++ [q]) := by rw [List.map_append (l₁ := pre ++ [p])]; rfl
      have m2 : (pre ++ [p] ++ [q]).length = pre.length + 1 + 1 := by simp
      have m3 := snoc_get pre p q
      have t1 : List.take (pre.length + 1) (pre ++ [p]) = pre ++ [p] := List.take_of_length_le (by omega)
      have t2 : List.take (pre.length + 1 + 1) (pre ++ [p] ++ [q]) = pre ++ [p] ++ [q] := List.take_of_length_le (by omega)
      have e1 : IntKind.i64.wrap (((pre.length + 1 + 1 : Nat) : Int) - 2) = (pre.length : Int) := by rw [w64 (by omega) (by omega)]; omega
      have c2 : (pre.length : Int) < ((pre.length + 1 + 1 : Nat) : Int) := by omega
      have c3 : pre.length < pre.length + 1 + 1 := by omega
      have e9 : pre ++ [p] ++ q :: chF n q (scT (dvR p q) (-1)) = pre ++ p :: q :: chF n q (scT (dvR p q) (-1)) := by simp
      rw [e9] at h9
      generalize pre ++ [p] ++ [q] = N2 at *
      generalize pre ++ [p] = N1 at *
      generalize pre ++ p :: q :: chF n q (scT (dvR p q) (-1)) = N3 at *
      rw [LP_go FF b191_0.eq_1]
      simp only [RB, un, St.none, Nat.reduceEqDiff, Nat.reduceAdd, Nat.reduceMul, Nat.reduceMod, Nat.reduceLeDiff, Nat.reduceLT, Int.reduceLT, Int.reduceLE, Int.reduceEq, Int.reduceToNat, Int.reduceSub, Int.reduceNeg, Int.reduceAdd, ↓reduceIte, reduceCtorEq, ite_self, eq_self, if_true, if_false, pack, pid, parN, List.not_mem_nil, List.mem_cons, lid, chkK, apartV, List.map_nil, List.flatMap_nil, List.append_nil, List.nil_append, List.drop_zero, List.length_set, List.length_replicate, List.length_append, List.take_length, List.take_zero, List.drop_length, Option.isNone_none, Heap.none, c1, eL_rules, eL_row, m0, m1, m2, m3, t1, t2, b1, e1, c2, c3, Int.natCast_nonneg, z1, o1, s1, List.length_map]
      exact h9
theorem dT_sz {l : List Rat} {k : Nat} (h : SzE (co l) k) (hn : l.length < 4294967296) : SzE (co (dT l)) (k + 1) := fun i => by
  rw [co_dT]
  by_cases c : i + 1 < l.length
  · have h1 := sq_mul (co l (i + 1)) (((i + 1 : Nat) : Int) : Rat)
    have h2 := sq_int ((i + 1 : Nat) : Int) (by omega)
    have := h (i + 1)
    show sq (co l (i + 1) * (((i + 1 : Nat) : Int) : Rat)) ≤ _
    omega
  · show sq (co l (i + 1) * (((i + 1 : Nat) : Int) : Rat)) ≤ _
    rw [co_big (by omega), Rat.zero_mul]
    have := sq_zero; omega
theorem ChZ.init {P : List Rat} {n m : Nat} (hc : Ca P) (h0 : P ≠ []) (hn : P.length ≤ n) (hn2 : n < 4294967296) (hz : SzE (co P) m) : ChZ P (dT P) P.length ((n * (m + 1) + 2) * 2 ^ (n + n)) := by
  have hl := dT_len P
  have hp := List.length_pos_iff.2 h0
  have hd := dT_sz hz (by omega)
  refine ⟨hc, dT_ca P, by omega, by omega, by omega, n * (m + 1) + 1, ?_, ?_, ?_⟩
  · exact (SzE.f hz (co_dg P)).mono (by
      have h1 : P.length * m ≤ n * m := Nat.mul_le_mul_right _ hn
      have h2 : n * m ≤ n * (m + 1) := Nat.mul_le_mul_left _ (by omega)
      omega)
  · exact (SzE.f hd (co_dg (dT P))).mono (by
      have h1 : (dT P).length * (m + 1) ≤ n * (m + 1) := Nat.mul_le_mul_right _ (by omega)
      omega)
  · exact Nat.mul_le_mul_left _ (Nat.pow_le_pow_right (by omega) (by omega))
theorem pchain_r {p : List RQt} {k K : Nat} (hk : k ≤ 10000000000) (h1k : 1 ≤ k) (hn : p.length ≤ 90) (hs : SmL p k) (h0 : tr (vsQ p) ≠ []) (hz : ChZ (tr (vsQ p)) (dT (tr (vsQ p))) (tr (vsQ p)).length K) (hK : K ≤ 10000000) : R FF 191 [.l 3 (p.map eQ)] = some (.l 1 ((chT (tr (vsQ p))).map eL)) := by
  have k1 := pclean_r (p := p) (by omega) h1k (by omega) hs
  have ez := SmL.vsQ hs h1k
  rw [← co_tr'] at ez
  have ll : (tr (vsQ p)).length ≤ 90 := Nat.le_trans (tr_le _) (by rw [vsQ_len]; exact hn)
  generalize tr (vsQ p) = P at *
  have c1 : ¬ (P.length : Int) = 0 := by have := List.length_pos_iff.2 h0; omega
  have d1 := pderive_r (p := P.map rQ) (k := k) (by omega) h1k (by rw [List.length_map]; omega) ez.sm
  rw [vsQ_r] at d1
  have l0 := pchain_l0 hK P.length (pre := []) hz ll (by rw [List.length_nil]; omega)
  have e0 : chT P = [] ++ P :: chF P.length P (dT P) := by unfold chT; rw [if_neg h0]; rfl
  rw [e0]
  generalize [] ++ P :: chF P.length P (dT P) = C at *
  simp only [List.nil_append, List.map_cons, List.map_nil, eL] at l0
  rw [R_go FF F191 c191.eq_1]
  simp only [RB, un, St.none, Nat.reduceEqDiff, Nat.reduceAdd, Nat.reduceMul, Nat.reduceMod, Nat.reduceLeDiff, Nat.reduceLT, Int.reduceLT, Int.reduceLE, Int.reduceEq, Int.reduceToNat, Int.reduceSub, Int.reduceNeg, Int.reduceAdd, ↓reduceIte, reduceCtorEq, ite_self, eq_self, if_true, if_false, pack, pid, parN, List.not_mem_nil, List.mem_cons, lid, chkK, apartV, List.map_nil, List.flatMap_nil, List.append_nil, List.nil_append, List.drop_zero, List.length_set, List.length_replicate, List.length_append, List.take_length, List.take_zero, List.drop_length, Option.isNone_none, Heap.none, k1, List.length_map, c1, d1, l0]
theorem ex_mul : muT [1, 1] [1, -1] = [1, 0, -1] := by decide +kernel
def exP : List Rat := [-2, 0, 1]
theorem ex_d : dT exP = [0, 2] := by decide +kernel
theorem ex_g : gcT exP [0, 2] = [1] := by decide +kernel
theorem ex_q : dvQ exP [1] = exP := by decide +kernel
theorem ex_c : chT exP = [exP, [0, 2], [2]] := by decide +kernel
theorem ex_t0 : (tnS [exP, [0, 2], [2]] 0 3).1 = 1 := by decide +kernel
theorem ex_t2 : (tnS [exP, [0, 2], [2]] 2 3).1 = 0 := by decide +kernel
theorem szE_list {l : List Rat} {k : Nat} (h1k : 1 ≤ k) (h : ∀ x ∈ l, sq x ≤ k) : SzE (co l) k := fun i => by
  by_cases c : i < l.length
  · rw [co_get c]; exact h _ (List.getElem_mem c)
  · rw [co_big (by omega)]; have := sq_zero; omega
theorem sq_two : sq (2 : Rat) ≤ 1 := sq_int 2 (by decide)
theorem sq_m2 : sq (-2 : Rat) ≤ 1 := by rw [sq_neg]; exact sq_two
theorem ex_z : SzE (co exP) 1 := szE_list (by omega) (by
  intro x hx
  simp only [exP, List.mem_cons, List.not_mem_nil, or_false] at hx
  rcases hx with rfl | rfl | rfl
  · exact sq_m2
  · exact sq_zero
  · exact sq_one)
theorem ex_z2 : SzE (co [0, 2]) 1 := SzE.two (by omega) sq_zero sq_two
theorem ex_ca : Ca exP := .inr (by decide +kernel)
theorem ex_roots : R FF 165 [(AV.l 3 (List.map eQ (List.map rQ exP))), (AV.agg [AV.b (ng (Rat.num ((0 : Rat)))), (AV.l 1 (List.map u (D (Int.natAbs (Rat.num ((0 : Rat))))))), (AV.l 1 (List.map u (D (Rat.den ((0 : Rat))))))]), (AV.agg [AV.b (ng (Rat.num ((2 : Rat)))), (AV.l 1 (List.map u (D (Int.natAbs (Rat.num ((2 : Rat))))))), (AV.l 1 (List.map u (D (Rat.den ((2 : Rat))))))])] = some (.tup [(AV.i .i64 1), (AV.i .i64 0)]) := by
  have f0 : exP.length = 3 := rfl
  have fP : SzF (co exP) 4 := (SzE.f ex_z (co_dg exP)).mono (by omega)
  have fD : SzF (co [0, 2]) 4 := (SzE.f ex_z2 (co_dg [0, 2])).mono (by simp)
  have fG : SzF (co [1]) 4 := (SzE.f SzE.one (co_dg [1])).mono (by simp)
  have cD : Ca [0, 2] := .inr (by decide +kernel)
  have cG : Ca [1] := .inr (by decide +kernel)
  have nG : ([1] : List Rat) ≠ [] := by decide
  have l1 : (exP.map rQ).length ≤ 90 := by rw [List.length_map, f0]; omega
  have k1 := pclean_r (p := exP.map rQ) (k := 4) (by omega) (by omega) (by omega) fP.sq.sm
  have k2 : R FF 14 [(AV.agg [AV.b (ng (Rat.num ((0 : Rat)))), (AV.l 1 (List.map u (D (Int.natAbs (Rat.num ((0 : Rat))))))), (AV.l 1 (List.map u (D (Rat.den ((0 : Rat))))))]), (AV.agg [AV.b (ng (Rat.num ((2 : Rat)))), (AV.l 1 (List.map u (D (Int.natAbs (Rat.num ((2 : Rat))))))), (AV.l 1 (List.map u (D (Rat.den ((2 : Rat))))))])] = _ := qcmp_s (sm_cq (x := 0) sq_zero) (sm_cq (x := 2) sq_two) (by omega) (by omega)
  have k3 := pderive_r (p := exP.map rQ) (k := 4) (by omega) (by omega) (by omega) fP.sq.sm
  have k4 := pgcd_r (a := exP.map rQ) (b := ([0, 2] : List Rat).map rQ) (k := 4) (by omega) (by omega) (by omega) (by simp) fP.sq.sm fD.sq.sm (by rw [vsQ_r, tr_ca ex_ca]; exact fP) (by rw [vsQ_r, tr_ca cD]; exact fD) (by rw [vsQ_r, tr_ca ex_ca, vsQ_r, tr_ca cD]; decide)
  have k5 := pdm_r (a := exP.map rQ) (b := ([1] : List Rat).map rQ) (k := 4) (by omega) (by omega) (by omega) (by simp) fP.sq.sm fG.sq.sm (by rw [vsQ_r, tr_ca ex_ca]; exact fP) (by rw [vsQ_r, tr_ca cG]; exact fG) (by rw [vsQ_r, tr_ca cG]; exact nG)
  have k6 := pchain_r (p := exP.map rQ) (k := 4) (K := 10000) (by omega) (by omega) l1 fP.sq.sm (by rw [vsQ_r, tr_ca ex_ca]; decide) (by
    rw [vsQ_r, tr_ca ex_ca]
    have h := ChZ.init (n := 3) (m := 1) ex_ca (by decide) (by omega) (by omega) ex_z
    obtain ⟨a1, a2, a3, a4, a5, k, a6, a7, a8⟩ := h
    exact ⟨a1, a2, a3, a4, a5, k, a6, a7, by omega⟩) (by omega)
  rw [vsQ_r, tr_ca ex_ca] at k1 k6
  rw [vsQ_r, ex_d] at k3
  rw [vsQ_r, vsQ_r, tr_ca ex_ca, tr_ca cD, ex_g] at k4
  rw [vsQ_r, vsQ_r, tr_ca ex_ca, tr_ca cG, ex_q] at k5
  rw [ex_c] at k6
  have zC : SzL [exP, [0, 2], [2]] 1 3 := by
    intro l hl
    simp only [List.mem_cons, List.not_mem_nil, or_false] at hl
    rcases hl with rfl | rfl | rfl
    · exact ⟨ex_z, by omega⟩
    · exact ⟨ex_z2, by simp⟩
    · exact ⟨SzE.single (by omega) sq_two, by simp⟩
  have k7 := pturns_r (x := rQ 0) (k := 1) (n := 3) (by omega) (by omega) (by omega) zC (sm_cq sq_zero) (by simp)
  have k8 := pturns_r (x := rQ 2) (k := 1) (n := 3) (by omega) (by omega) (by omega) zC (sm_cq sq_two) (by simp)
  rw [vQ_rQ, show [exP, [0, 2], [2]].length = 3 from rfl] at k7 k8
  rw [ex_t0] at k7
  rw [ex_t2] at k8
  rw [qv_cq, qv_cq, show qcmp 0 2 = -1 by decide +kernel] at k2
  simp only [eQ, rQ] at k7 k8
  generalize List.map eL [exP, [0, 2], [2]] = C at *
  have c1 : ¬ (exP.length : Int) = 0 := by rw [f0]; omega
  have e1 : IntKind.i64.wrap (1 : Int) = 1 := by decide
  generalize exP = P at *
  generalize ([0, 2] : List Rat) = P2 at *
  generalize ([1] : List Rat) = P1 at *
  rw [R_go FF F165 c165.eq_1]
  simp only [RB, un, St.none, Nat.reduceEqDiff, Nat.reduceAdd, Nat.reduceMul, Nat.reduceMod, Nat.reduceLeDiff, Nat.reduceLT, Int.reduceLT, Int.reduceLE, Int.reduceEq, Int.reduceToNat, Int.reduceSub, Int.reduceNeg, Int.reduceAdd, ↓reduceIte, reduceCtorEq, ite_self, eq_self, if_true, if_false, pack, pid, parN, List.not_mem_nil, List.mem_cons, lid, chkK, apartV, List.map_nil, List.flatMap_nil, List.append_nil, List.nil_append, List.drop_zero, List.length_set, List.length_replicate, List.length_append, List.take_length, List.take_zero, List.drop_length, Option.isNone_none, Heap.none, k1, List.length_map, c1, k2, k3, k4, k5, k6, k7, k8, e1]
theorem awake04 : R FF 166 [] = some (.b true) := by
  have o1 := qone_c
  have o2 := qof_m1
  have o3 : R FF 68 [(AV.i .i64 (-2))] = some (AV.agg [AV.b (ng (Rat.num ((-2 : Rat)))), (AV.l 1 (List.map u (D (Int.natAbs (Rat.num ((-2 : Rat))))))), (AV.l 1 (List.map u (D (Rat.den ((-2 : Rat))))))]) := qof_c (n := -2) (by omega) (by omega)
  have o4 := qzero_c
  have o5 : R FF 68 [(AV.i .i64 2)] = some (AV.agg [AV.b (ng (Rat.num ((2 : Rat)))), (AV.l 1 (List.map u (D (Int.natAbs (Rat.num ((2 : Rat))))))), (AV.l 1 (List.map u (D (Rat.den ((2 : Rat))))))]) := qof_c (n := 2) (by omega) (by omega)
  have z1 : SzE (co [1, 1]) 1 := SzE.two (by omega) sq_one sq_one
  have z2 : SzE (co [1, -1]) 1 := SzE.two (by omega) sq_one sq_m1
  have m1 := pmul_r (a := ([1, 1] : List Rat).map rQ) (b := ([1, -1] : List Rat).map rQ) (k := 1) (n := 2) (by omega) (by omega) (by simp) (by omega) (by simp) z1.sm z2.sm (by omega)
  rw [vsQ_r, vsQ_r, ex_mul] at m1
  have r1 := ex_roots
  simp only [exP, List.map_cons, List.map_nil, eQ, rQ] at m1 r1
  have s1 : R FF 57 [(AV.agg [AV.b (ng (Rat.num ((-1 : Rat)))), (AV.l 1 (List.map u (D (Int.natAbs (Rat.num ((-1 : Rat))))))), (AV.l 1 (List.map u (D (Rat.den ((-1 : Rat))))))]), (AV.agg [AV.b (ng (Rat.num ((-1 : Rat)))), (AV.l 1 (List.map u (D (Int.natAbs (Rat.num ((-1 : Rat))))))), (AV.l 1 (List.map u (D (Rat.den ((-1 : Rat))))))])] = _ := qsame_s (sm_cq sq_m1) (sm_cq sq_m1) (by omega) (by omega)
  rw [decide_eq_true rfl] at s1
  rw [R_go FF F166 c166.eq_1]
  simp only [RB, un, St.none, Nat.reduceEqDiff, Nat.reduceAdd, Nat.reduceMul, Nat.reduceMod, Nat.reduceLeDiff, Nat.reduceLT, Int.reduceLT, Int.reduceLE, Int.reduceEq, Int.reduceToNat, Int.reduceSub, Int.reduceNeg, Int.reduceAdd, ↓reduceIte, reduceCtorEq, ite_self, eq_self, if_true, if_false, pack, pid, parN, List.not_mem_nil, List.mem_cons, lid, chkK, apartV, List.map_nil, List.flatMap_nil, List.append_nil, List.nil_append, List.drop_zero, List.length_set, List.length_replicate, List.length_append, List.take_length, List.take_zero, List.drop_length, Option.isNone_none, Heap.none, o1, o2, o3, o4, o5, m1, r1, s1, List.length_cons, List.length_nil, List.cons_append]
end Go.Pe
set_option linter.unusedSimpArgs false
set_option linter.unusedVariables false
open Go
namespace Go.Pe
theorem SmL.mono {p : List RQt} {k m : Nat} (h : SmL p k) (hm : k ≤ m) : SmL p m := fun x hx => Sm.mono (h x hx) hm
theorem SzE.tr {l : List Rat} {k : Nat} (h : SzE (co l) k) : SzE (co (Go.Pe.tr l)) k := by rw [co_tr']; exact h
end Go.Pe
set_option linter.unusedSimpArgs false
set_option linter.unusedVariables false
open Go
namespace Go.Pe
def lsR : Nat → Lst → Lst
  | 0, t => t
  | n + 1, t => if t.s = [] then t else lsR n (lsN t)
structure LsZ (t : Lst) (i : Nat) : Prop where
  cr : Ca t.r
  cs : Ca t.s
  lr : t.r.length ≤ 4
  ls : t.s.length + i ≤ 4
  rs : ∃ k, SzF (co t.r) k ∧ SzF (co t.s) k ∧ (k + 1) * 2 ^ (t.r.length + t.s.length) ≤ 2560
  x : SzE (co t.x) (6 ^ i * 80000)
  y : SzE (co t.y) (6 ^ i * 80000)
  u : SzE (co t.u) (6 ^ i * 80000)
  v : SzE (co t.v) (6 ^ i * 80000)
  lx : t.x.length ≤ 1 + 5 * i
  ly : t.y.length ≤ 1 + 5 * i
  lu : t.u.length ≤ 1 + 5 * i
  lv : t.v.length ≤ 1 + 5 * i
theorem LsZ.bnd {t : Lst} {i : Nat} (h : LsZ t i) : SzF (co t.r) 2560 ∧ SzF (co t.s) 2560 := by
  obtain ⟨k, h1, h2, h3⟩ := h.rs
  have := k_pow k (t.r.length + t.s.length)
  exact ⟨h1.mono (by omega), h2.mono (by omega)⟩
theorem LsZ.qz {t : Lst} {i : Nat} (h : LsZ t i) (h0 : t.s ≠ []) : SzE (co (dvQ t.r t.s)) 18000 ∧ (dvQ t.r t.s).length ≤ 5 := by
  obtain ⟨h1, h2⟩ := h.bnd
  have hl := dvQ_le t.r t.s
  have := h.lr
  refine ⟨(dvQ_sz h1 h2 h.cs h0).mono ?_, by omega⟩
  have h3 : t.r.length - t.s.length + 1 ≤ 4 := by have := List.length_pos_iff.2 h0; omega
  have := Nat.mul_le_mul_right (2560 + 1) h3
  omega
theorem LsZ.next {t : Lst} {i : Nat} (h : LsZ t i) (h0 : t.s ≠ []) : LsZ (lsN t) (i + 1) := by
  obtain ⟨q1, q2⟩ := h.qz h0
  have hr := dvR_len h.cr h.cs h0
  have hs := List.length_pos_iff.2 h0
  have h6 : 1 ≤ 6 ^ i := Nat.one_le_pow _ _ (by omega)
  have e6 : 6 ^ (i + 1) * 80000 = 6 * (6 ^ i * 80000) := by rw [Nat.pow_succ]; omega
  have l5 := h.ls
  have hq4 : (dvQ t.r t.s).length ≤ 4 := by have := dvQ_le t.r t.s; have := h.lr; omega
  have hstep : ∀ x u : List Rat, SzE (co x) (6 ^ i * 80000) → SzE (co u) (6 ^ i * 80000) → SzE (co (subT x (muT (dvQ t.r t.s) u))) (6 ^ (i + 1) * 80000) := fun x u hx hu => by
    rw [e6]
    refine (SzE.subT hx (SzE.muT q1 hu (n := 4) hq4)).mono ?_
    have : 80000 ≤ 6 ^ i * 80000 := Nat.le_mul_of_pos_left _ h6
    omega
  have hlen : ∀ x u : List Rat, x.length ≤ 1 + 5 * i → u.length ≤ 1 + 5 * i → (subT x (muT (dvQ t.r t.s) u)).length ≤ 1 + 5 * (i + 1) := fun x u hx hu => by
    have h1 : (subT x (muT (dvQ t.r t.s) u)).length ≤ max x.length (muT (dvQ t.r t.s) u).length := tk_le _ _
    have h2 : (muT (dvQ t.r t.s) u).length ≤ (dvQ t.r t.s).length + u.length - 1 := tk_le _ _
    omega
  have hmono : ∀ f : Fn, SzE f (6 ^ i * 80000) → SzE f (6 ^ (i + 1) * 80000) := fun f hf => hf.mono (by rw [e6]; omega)
  refine ⟨h.cs, dvR_ca _ h.cr, by show t.s.length ≤ 4; omega, by show (dvR t.r t.s).length + (i + 1) ≤ 4; omega, ?_, hmono _ h.u, hmono _ h.v, hstep _ _ h.x h.u, hstep _ _ h.y h.v, by have := h.lu; show t.u.length ≤ _; omega, by have := h.lv; show t.v.length ≤ _; omega, hlen _ _ h.lx h.lu, hlen _ _ h.ly h.lv⟩
  obtain ⟨k, k1, k2, k3⟩ := h.rs
  by_cases c : t.s.length ≤ t.r.length
  · obtain ⟨k', _, h3, h4, h5⟩ := euc_sz h.cr h.cs k1 k2 h0 c
    exact ⟨k', h3, h4, Nat.le_trans h5 k3⟩
  · refine ⟨k, k2, ?_, ?_⟩
    · show SzF (co (dvR t.r t.s)) k
      unfold dvR; rw [if_pos (by omega)]; exact k1
    · show (k + 1) * 2 ^ (t.s.length + (dvR t.r t.s).length) ≤ 2560
      unfold dvR; rw [if_pos (by omega), Nat.add_comm t.s.length]; exact k3
theorem LsZ.run : ∀ d t i, LsZ t i → ∃ j, LsZ (lsR d t) j := by
  intro d
  induction d with
  | zero => intro t i h; exact ⟨i, h⟩
  | succ d ih =>
    intro t i h
    unfold lsR
    split
    · exact ⟨i, h⟩
    · rename_i h0; exact ih _ _ (h.next h0)
end Go.Pe
set_option linter.unusedSimpArgs false
set_option linter.unusedVariables false
open Go
namespace Go.Pe
def ab (x : Rat) : Rat := if x < 0 then -x else x
theorem ab_nn (x : Rat) : 0 ≤ ab x := by unfold ab; split <;> grind
theorem ab_le {x b : Rat} (h1 : x ≤ b) (h2 : -x ≤ b) : ab x ≤ b := by unfold ab; split <;> grind
theorem le_ab (x : Rat) : x ≤ ab x := by unfold ab; split <;> grind
theorem nle_ab (x : Rat) : -x ≤ ab x := by unfold ab; split <;> grind
theorem ab_add (x y : Rat) : ab (x + y) ≤ ab x + ab y := by unfold ab; split <;> split <;> split <;> grind
theorem ab_neg (x : Rat) : ab (-x) = ab x := by unfold ab; split <;> split <;> grind
theorem ab_sub (x y : Rat) : ab (x - y) = ab (y - x) := by unfold ab; split <;> split <;> grind
theorem ab_zero : ab 0 = 0 := by decide +kernel
theorem ab_pos {x : Rat} (h : x ≠ 0) : 0 < ab x := by unfold ab; split <;> grind
theorem ab_of_nn {x : Rat} (h : 0 ≤ x) : ab x = x := by unfold ab; split <;> grind
theorem ab_of_np {x : Rat} (h : x ≤ 0) : ab x = -x := by unfold ab; split <;> grind
theorem ab_mul (x y : Rat) : ab (x * y) = ab x * ab y := by
  rcases Std.le_total (a := (0 : Rat)) (b := x) with hx | hx <;> rcases Std.le_total (a := (0 : Rat)) (b := y) with hy | hy
  · rw [ab_of_nn hx, ab_of_nn hy, ab_of_nn (Rat.mul_nonneg hx hy)]
  · have := Rat.mul_nonneg hx (show 0 ≤ -y by grind)
    rw [ab_of_nn hx, ab_of_np hy, ab_of_np (by grind)]; grind
  · have := Rat.mul_nonneg (show 0 ≤ -x by grind) hy
    rw [ab_of_np hx, ab_of_nn hy, ab_of_np (by grind)]; grind
  · have := Rat.mul_nonneg (show 0 ≤ -x by grind) (show 0 ≤ -y by grind)
    rw [ab_of_np hx, ab_of_np hy, ab_of_nn (by grind)]; grind
theorem mul_mono {a b c d : Rat} (h1 : a ≤ b) (h2 : c ≤ d) (hc : 0 ≤ c) (hb : 0 ≤ b) : a * c ≤ b * d := by
  have e1 := Rat.mul_nonneg (show 0 ≤ b - a by grind) hc
  have e2 := Rat.mul_nonneg hb (show 0 ≤ d - c by grind)
  grind
theorem mul_lt_of {a b c : Rat} (h : a < b) (hc : 0 < c) : a * c < b * c := by
  have := Rat.mul_pos (show 0 < b - a by grind) hc
  grind
theorem small (m e : Rat) (hm : 0 ≤ m) (he : 0 < e) : ∃ d, 0 < d ∧ m * d < e := by
  have h1 : (0 : Rat) < m + 1 := by grind
  have h2 : (m + 1) * (m + 1)⁻¹ = 1 := Rat.mul_inv_cancel _ (by grind)
  have h3 : 0 < (m + 1)⁻¹ := Rat.inv_pos.2 h1
  refine ⟨e * (m + 1)⁻¹, Rat.mul_pos he h3, ?_⟩
  have h4 := Rat.mul_pos he h3
  have h5 : (m + 1) * (e * (m + 1)⁻¹) = e := by grind
  grind
theorem min_pos {a b : Rat} (ha : 0 < a) (hb : 0 < b) : ∃ d, 0 < d ∧ d ≤ a ∧ d ≤ b := by
  rcases Std.le_total (a := a) (b := b) with h | h
  · exact ⟨a, ha, by grind, h⟩
  · exact ⟨b, hb, h, by grind⟩
def Bn (R : Rat) (f : Rat → Rat) : Prop := ∃ B, 0 ≤ B ∧ ∀ x, ab x ≤ R → ab (f x) ≤ B
def Lip (R : Rat) (f : Rat → Rat) : Prop := ∃ L, 0 ≤ L ∧ ∀ x y, ab x ≤ R → ab y ≤ R → ab (f y - f x) ≤ L * ab (y - x)
def Tay (R : Rat) (f g : Rat → Rat) : Prop := ∃ K, 0 ≤ K ∧ ∀ x y, ab x ≤ R → ab y ≤ R → ab (f y - f x - (y - x) * g x) ≤ K * (ab (y - x) * ab (y - x))
def Apt (R : Rat) (f g : Rat → Rat) : Prop := ∃ e, 0 < e ∧ ∀ x, ab x ≤ R → e ≤ ab (f x) ∨ e ≤ ab (g x)
theorem ef_bn (R : Rat) (hR : 0 ≤ R) : ∀ (n : Nat) (f : Fn), Bn R (fun x => ef f n x) := by
  intro n
  induction n with
  | zero => intro f; exact ⟨0, by grind, fun x _ => by show ab (ef f 0 x) ≤ 0; rw [ef_zero, ab_zero]; grind⟩
  | succ n ih =>
    intro f
    obtain ⟨B, hB, h⟩ := ih (sh f)
    refine ⟨ab (f 0) + R * B, by have := ab_nn (f 0); have := Rat.mul_nonneg hR hB; grind, fun x hx => ?_⟩
    show ab (ef f (n + 1) x) ≤ _
    rw [ef_succ]
    have h1 := ab_add (f 0) (x * ef (sh f) n x)
    have h2 := ab_mul x (ef (sh f) n x)
    have h3 := mul_mono hx (h x hx) (ab_nn _) hR
    grind
theorem ef_lip (R : Rat) (hR : 0 ≤ R) : ∀ (n : Nat) (f : Fn), Lip R (fun x => ef f n x) := by
  intro n
  induction n with
  | zero => intro f; exact ⟨0, by grind, fun x y _ _ => by show ab (ef f 0 y - ef f 0 x) ≤ _; rw [ef_zero, ef_zero, show (0 : Rat) - 0 = 0 by grind, ab_zero]; grind⟩
  | succ n ih =>
    intro f
    obtain ⟨L, hL, h⟩ := ih (sh f)
    obtain ⟨B, hB, b⟩ := ef_bn R hR n (sh f)
    refine ⟨B + R * L, by have := Rat.mul_nonneg hR hL; grind, fun x y hx hy => ?_⟩
    show ab (ef f (n + 1) y - ef f (n + 1) x) ≤ _
    rw [ef_succ, ef_succ]
    have e1 : f 0 + y * ef (sh f) n y - (f 0 + x * ef (sh f) n x) = (y - x) * ef (sh f) n y + x * (ef (sh f) n y - ef (sh f) n x) := by grind
    rw [e1]
    have h1 := ab_add ((y - x) * ef (sh f) n y) (x * (ef (sh f) n y - ef (sh f) n x))
    rw [ab_mul, ab_mul] at h1
    have h2 := mul_mono (Rat.le_refl (a := ab (y - x))) (b y hy) (ab_nn _) (ab_nn _)
    have h3 := mul_mono hx (h x y hx hy) (ab_nn _) hR
    have h4 : ab (ef (sh f) n y - ef (sh f) n x) ≤ L * ab (y - x) := h x y hx hy
    grind
def dE (f : Fn) : Nat → Rat → Rat
  | 0, _ => 0
  | n + 1, x => ef (sh f) n x + x * dE (sh f) n x
theorem ef_tay (R : Rat) (hR : 0 ≤ R) : ∀ (n : Nat) (f : Fn), Tay R (fun x => ef f n x) (fun x => dE f n x) := by
  intro n
  induction n with
  | zero =>
    intro f
    refine ⟨0, by grind, fun x y _ _ => ?_⟩
    show ab (ef f 0 y - ef f 0 x - (y - x) * dE f 0 x) ≤ _
    rw [ef_zero, ef_zero, show dE f 0 x = 0 from rfl, show (0 : Rat) - 0 - (y - x) * 0 = 0 by grind, ab_zero]
    grind
  | succ n ih =>
    intro f
    obtain ⟨K, hK, h⟩ := ih (sh f)
    obtain ⟨L, hL, l⟩ := ef_lip R hR n (sh f)
    refine ⟨R * K + L, by have := Rat.mul_nonneg hR hK; grind, fun x y hx hy => ?_⟩
    show ab (ef f (n + 1) y - ef f (n + 1) x - (y - x) * dE f (n + 1) x) ≤ _
    rw [ef_succ, ef_succ, show dE f (n + 1) x = ef (sh f) n x + x * dE (sh f) n x from rfl]
    have e1 : f 0 + y * ef (sh f) n y - (f 0 + x * ef (sh f) n x) - (y - x) * (ef (sh f) n x + x * dE (sh f) n x)
      = x * (ef (sh f) n y - ef (sh f) n x - (y - x) * dE (sh f) n x) + (y - x) * (ef (sh f) n y - ef (sh f) n x) := by grind
    rw [e1]
    have h1 := ab_add (x * (ef (sh f) n y - ef (sh f) n x - (y - x) * dE (sh f) n x)) ((y - x) * (ef (sh f) n y - ef (sh f) n x))
    rw [ab_mul, ab_mul] at h1
    have h2 := mul_mono hx (h x y hx hy) (ab_nn _) hR
    have h3 := mul_mono (Rat.le_refl (a := ab (y - x))) (l x y hx hy) (ab_nn _) (ab_nn _)
    have h4 : ab x * ab (ef (sh f) n y - ef (sh f) n x - (y - x) * dE (sh f) n x) ≤ R * (K * (ab (y - x) * ab (y - x))) := h2
    have h5 : ab (y - x) * ab (ef (sh f) n y - ef (sh f) n x) ≤ ab (y - x) * (L * ab (y - x)) := h3
    grind
theorem dE_ef : ∀ (n : Nat) (f : Fn) (x : Rat), dE f (n + 1) x = ef (fun i => f (i + 1) * (((i + 1 : Nat) : Int) : Rat)) n x := by
  intro n
  induction n with
  | zero => intro f x; rw [show dE f 1 x = ef (sh f) 0 x + x * dE (sh f) 0 x from rfl, ef_zero, ef_zero, show dE (sh f) 0 x = 0 from rfl]; grind
  | succ n ih =>
    intro f x
    rw [show dE f (n + 1 + 1) x = ef (sh f) (n + 1) x + x * dE (sh f) (n + 1) x from rfl, ih, ef_succ, ef_succ]
    have e1 : sh (fun i => f (i + 1) * (((i + 1 : Nat) : Int) : Rat)) = fun i => sh (sh f) i + (sh f (i + 1) * (((i + 1 : Nat) : Int) : Rat)) := by
      funext i
      show f (i + 1 + 1) * (((i + 1 + 1 : Nat) : Int) : Rat) = f (i + 1 + 1) + f (i + 1 + 1) * (((i + 1 : Nat) : Int) : Rat)
      have : (((i + 1 + 1 : Nat) : Int) : Rat) = (((i + 1 : Nat) : Int) : Rat) + 1 := by rw [Int.natCast_add (i + 1) 1, Rat.intCast_add]; rfl
      rw [this]; grind
    rw [e1, ef_add]
    show f 1 + x * ef (sh (sh f)) n x + x * ef (fun i => sh f (i + 1) * (((i + 1 : Nat) : Int) : Rat)) n x = f 1 * (((0 + 1 : Nat) : Int) : Rat) + _
    have : (((0 + 1 : Nat) : Int) : Rat) = 1 := rfl
    rw [this]; grind
theorem evl_bn {R : Rat} (hR : 0 ≤ R) (l : List Rat) : Bn R (evl l) := ef_bn R hR l.length (co l)
theorem evl_lip {R : Rat} (hR : 0 ≤ R) (l : List Rat) : Lip R (evl l) := ef_lip R hR l.length (co l)
theorem evl_tay {R : Rat} (hR : 0 ≤ R) (l : List Rat) : Tay R (evl l) (evl (dT l)) := by
  have h := ef_tay R hR l.length (co l)
  have e : (fun x => dE (co l) l.length x) = evl (dT l) := by
    funext x
    rw [evl_of (co_dT l) (dT_dg l)]
    cases hl : l.length with
    | zero => rw [show (0 - 1 : Nat) = 0 from rfl, ef_zero]; rfl
    | succ n => rw [dE_ef, Nat.add_sub_cancel]
  rw [e] at h
  exact h
end Go.Pe
set_option linter.unusedSimpArgs false
set_option linter.unusedVariables false
open Go
namespace Go.Pe
def sg (x : Rat) : Int := cmp x.num 0
theorem sg_zero {x : Rat} : sg x = 0 ↔ x = 0 := by
  have h2 := Rat.num_eq_zero (q := x)
  unfold sg cmp
  split
  · constructor
    · intro h; omega
    · intro h; have := h2.2 h; omega
  · split
    · constructor
      · intro h; omega
      · intro h; have := h2.2 h; omega
    · exact ⟨fun _ => h2.1 (by omega), fun _ => rfl⟩
theorem sg_neg {x : Rat} : sg x = -1 ↔ x < 0 := by
  have h1 := Rat.num_nonneg (q := x)
  have h3 : x < 0 ↔ ¬ 0 ≤ x := by grind
  rw [h3, ← h1]
  unfold sg cmp
  split
  · constructor
    · intro _; omega
    · intro _; rfl
  · split
    · constructor
      · intro h; omega
      · intro h; omega
    · constructor
      · intro h; omega
      · intro h; omega
theorem sg_or (x : Rat) : sg x = 0 ∨ sg x = 1 ∨ sg x = -1 := by
  unfold sg cmp
  split
  · exact .inr (.inr rfl)
  · split
    · exact .inr (.inl rfl)
    · exact .inl rfl
theorem sg_pos {x : Rat} : sg x = 1 ↔ 0 < x := by
  have h1 := @sg_zero x
  have h2 := @sg_neg x
  constructor
  · intro h
    have h3 : ¬ x = 0 := fun e => by have := h1.2 e; omega
    have h4 : ¬ x < 0 := fun e => by have := h2.2 e; omega
    grind
  · intro h
    rcases sg_or x with k | k | k
    · have := h1.1 k; grind
    · exact k
    · have := h2.1 k; grind
theorem sg_opp {x y : Rat} (h : x = -y) : sg x = -sg y := by
  rcases sg_or y with k | k | k
  · have := sg_zero.1 k; rw [k, sg_zero.2 (by grind)]; rfl
  · have := sg_pos.1 k; rw [k, sg_neg.2 (by grind)]
  · have := sg_neg.1 k; rw [k, sg_pos.2 (by grind)]; rfl
theorem sg_const {u v e : Rat} (he : e ≤ ab u) (h : ab (v - u) < e) : sg v = sg u ∧ sg u ≠ 0 := by
  have h1 := le_ab (v - u)
  have h2 := nle_ab (v - u)
  rcases sg_or u with k | k | k
  · have := sg_zero.1 k
    subst this
    rw [ab_zero] at he
    have := ab_nn (v - 0)
    grind
  · have hu := sg_pos.1 k
    rw [ab_of_nn (by grind)] at he
    rw [k, sg_pos.2 (by grind)]
    decide
  · have hu := sg_neg.1 k
    rw [ab_of_np (by grind)] at he
    rw [k, sg_neg.2 (by grind)]
    decide
def st1 (s : Int × Int) (a : Int) : Int × Int := if a = 0 then s else (s.1 + (if s.2 ≠ 0 ∧ a ≠ s.2 then 1 else 0), a)
def tf (s : Int × Int) (l : List Int) : Int × Int := l.foldl st1 s
theorem tf_cons (s : Int × Int) (a : Int) (l : List Int) : tf s (a :: l) = tf (st1 s a) l := rfl
theorem tnS_tf (c : List (List Rat)) (x : Rat) : ∀ i, i ≤ c.length → tnS c x i = tf (0, 0) ((c.take i).map fun l => sg (evl l x)) := by
  intro i
  induction i with
  | zero => intro _; rfl
  | succ i ih =>
    intro h
    have e1 : c.take (i + 1) = c.take i ++ [c.getD i []] := by
      rw [List.take_add_one, List.getD_eq_getElem?_getD, List.getElem?_eq_getElem (by omega)]
      rfl
    have ih' := ih (by omega)
    rw [e1, List.map_append]
    unfold tf at ih' ⊢
    rw [List.foldl_append, ← ih']
    show tnS c x (i + 1) = st1 (tnS c x i) (sg (evl (c.getD i []) x))
    rw [tnS]
    rfl
theorem tf_shift : ∀ (l : List Int) (n p : Int), (tf (n, p) l).1 = (tf (0, p) l).1 + n := by
  intro l
  induction l with
  | nil => intro n p; show n = 0 + n; omega
  | cons a l ih =>
    intro n p
    rw [tf_cons, tf_cons]
    unfold st1
    split
    · exact ih n p
    · simp only
      rw [ih, ih (0 + _)]
      omega
inductive Alike : Int → List (Int × Int) → Prop
  | nil {p} : Alike p []
  | same {p a l} : a = 1 ∨ a = -1 → Alike a l → Alike p ((a, a) :: l)
  | over {p a b l} : a = 0 ∨ a = 1 ∨ a = -1 → b = 0 ∨ b = 1 ∨ b = -1 → Alike (-p) l → Alike p ((a, b) :: (-p, -p) :: l)
theorem tf_over {p a n : Int} (hp : p = 1 ∨ p = -1) (ha : a = 0 ∨ a = 1 ∨ a = -1) (l : List Int) : tf (n, p) (a :: -p :: l) = tf (n + 1, -p) l := by
  rw [tf_cons, tf_cons]
  have : st1 (st1 (n, p) a) (-p) = (n + 1, -p) := by
    unfold st1
    rcases hp with rfl | rfl <;> rcases ha with rfl | rfl | rfl <;> simp
  rw [this]
theorem Alike.eq {p : Int} {l : List (Int × Int)} (h : Alike p l) : p = 1 ∨ p = -1 → ∀ n, (tf (n, p) (l.map Prod.fst)).1 = (tf (n, p) (l.map Prod.snd)).1 := by
  induction h with
  | nil => intro _ _; rfl
  | @same p a l ha hl ih =>
    intro hp n
    rw [List.map_cons, List.map_cons, tf_cons, tf_cons]
    have : ∀ m, st1 (n, p) a = m → m.2 = a := by
      intro m hm
      subst hm
      unfold st1
      rw [if_neg (by omega)]
    have e := this _ rfl
    show (tf (st1 (n, p) a) _).1 = (tf (st1 (n, p) a) _).1
    generalize st1 (n, p) a = s at *
    obtain ⟨s1, s2⟩ := s
    cases e
    exact ih ha s1
  | @over p a b l ha hb hl ih =>
    intro hp n
    simp only [List.map_cons]
    rw [tf_over hp ha, tf_over hp hb]
    exact ih (by omega) (n + 1)
inductive Ch (R : Rat) : (Rat → Rat) → List (Rat → Rat) → Prop
  | last {p q} : Lip R q → (∃ e, 0 < e ∧ ∀ x, ab x ≤ R → e ≤ ab (q x)) → Ch R p [q]
  | step {p q r rest m} : Lip R q → Lip R r → Bn R m → (∀ x, p x = m x * q x - r x) → Apt R q r → Ch R q (r :: rest) → Ch R p (q :: r :: rest)
def Near (R : Rat) (p : Rat → Rat) (l : List (Rat → Rat)) : Prop :=
  ∃ d, 0 < d ∧ ∀ x y, ab x ≤ R → ab y ≤ R → ab (y - x) < d → sg (p y) = sg (p x) → sg (p x) ≠ 0 → Alike (sg (p x)) (l.map fun q => (sg (q x), sg (q y)))
theorem lip_small {R : Rat} {f : Rat → Rat} (h : Lip R f) {e : Rat} (he : 0 < e) : ∃ d, 0 < d ∧ ∀ x y, ab x ≤ R → ab y ≤ R → ab (y - x) < d → ab (f y - f x) < e := by
  obtain ⟨L, hL, h⟩ := h
  obtain ⟨d, hd, h1⟩ := small L e hL he
  refine ⟨d, hd, fun x y hx hy hxy => ?_⟩
  have h2 := h x y hx hy
  have h3 := mul_mono (Rat.le_refl (a := L)) (show ab (y - x) ≤ d by grind) (ab_nn _) hL
  grind
theorem sg1 {x : Rat} (h : sg x ≠ 0) : sg x = 1 ∨ sg x = -1 := by rcases sg_or x with k | k | k <;> omega
theorem Ch.near {R : Rat} {p : Rat → Rat} {l : List (Rat → Rat)} (h : Ch R p l) : Near R p l ∧ ∀ q rest, l = q :: rest → Near R q rest := by
  induction h with
  | @last p q hq hfar =>
    obtain ⟨e, he, hf⟩ := hfar
    obtain ⟨d, hd, hs⟩ := lip_small hq he
    refine ⟨⟨d, hd, fun x y hx hy hxy _ _ => ?_⟩, fun q' rest e => ?_⟩
    · obtain ⟨h1, h2⟩ := sg_const (hf x hx) (hs x y hx hy hxy)
      show Alike _ [(sg (q x), sg (q y))]
      rw [h1]
      exact .same (sg1 h2) .nil
    · cases e
      exact ⟨1, by decide, fun x y _ _ _ _ _ => .nil⟩
  | @step p q r rest m lq lr hm hpq hap hch ih =>
    obtain ⟨ih1, ih2⟩ := ih
    obtain ⟨d1, hd1, n1⟩ := ih1
    obtain ⟨d2, hd2, n2⟩ := ih2 r rest rfl
    refine ⟨?_, fun q' rest' e => by cases e; exact ⟨d1, hd1, n1⟩⟩
    obtain ⟨e, he, hf⟩ := hap
    obtain ⟨M, hM, hm⟩ := hm
    obtain ⟨t, ht, hMt⟩ := small M e hM he
    obtain ⟨u, hu, hut, hue⟩ := min_pos ht he
    obtain ⟨d3, hd3, s3⟩ := lip_small lq hu
    obtain ⟨d4, hd4, s4⟩ := lip_small lr he
    obtain ⟨da, hda, a1, a2⟩ := min_pos hd1 hd2
    obtain ⟨db, hdb, b1, b2⟩ := min_pos hd3 hd4
    obtain ⟨d, hd, c1, c2⟩ := min_pos hda hdb
    refine ⟨d, hd, fun x y hx hy hxy hs h0 => ?_⟩
    have x1 := n1 x y hx hy (by grind)
    have x2 := n2 x y hx hy (by grind)
    have x3 := s3 x y hx hy (by grind)
    have x4 := s4 x y hx hy (by grind)
    show Alike (sg (p x)) ((sg (q x), sg (q y)) :: (sg (r x), sg (r y)) :: rest.map fun q => (sg (q x), sg (q y)))
    by_cases hq : u ≤ ab (q x)
    · obtain ⟨k1, k2⟩ := sg_const hq x3
      have := x1 k1 k2
      rw [k1]
      exact .same (sg1 k2) this
    · have hr : e ≤ ab (r x) := by
        rcases hf x hx with k | k
        · grind
        · exact k
      obtain ⟨k1, k2⟩ := sg_const hr x4
      have hmq : ab (m x * q x) < e := by
        rw [ab_mul]
        have := mul_mono (hm x hx) (show ab (q x) ≤ t by grind) (ab_nn _) hM
        grind
      have k3 : sg (p x) = sg (-r x) := by
        have e1 : ab (-r x) = ab (r x) := ab_neg _
        refine (sg_const (u := -r x) (v := p x) (e := e) (by rw [e1]; exact hr) ?_).1
        rw [hpq x, show m x * q x - r x - -r x = m x * q x by grind]
        exact hmq
      have k4 : sg (-r x) = -sg (r x) := sg_opp rfl
      have k5 : sg (r x) = -sg (p x) := by omega
      have x2' := x2 k1 k2
      rw [k1, k5]
      rw [k5] at x2'
      exact .over (sg_or _) (sg_or _) x2'
def vr (l : List (Rat → Rat)) (x : Rat) : Int := (tf (0, 0) (l.map fun q => sg (q x))).1
def cnt (rs : List Rat) (x y : Rat) : Nat := (rs.filter fun r => decide (x < r) && decide (r ≤ y)).length
theorem cnt_zero {rs : List Rat} {x y : Rat} (h : ∀ r ∈ rs, ¬ (x < r ∧ r ≤ y)) : cnt rs x y = 0 := by
  unfold cnt
  rw [List.length_eq_zero_iff, List.filter_eq_nil_iff]
  intro r hr
  have := h r hr
  simpa using this
theorem cnt_one {rs : List Rat} (hn : rs.Nodup) {x y r : Rat} (hr : r ∈ rs) (h1 : x < r ∧ r ≤ y) (h : ∀ s ∈ rs, x < s ∧ s ≤ y → s = r) : cnt rs x y = 1 := by
  unfold cnt
  have hn2 : (rs.filter fun r => decide (x < r) && decide (r ≤ y)).Nodup := hn.filter _
  have hm : r ∈ rs.filter fun r => decide (x < r) && decide (r ≤ y) := List.mem_filter.2 ⟨hr, by simpa using h1⟩
  have hall : ∀ s ∈ rs.filter fun r => decide (x < r) && decide (r ≤ y), s = r := fun s hs => by
    obtain ⟨g1, g2⟩ := List.mem_filter.1 hs
    exact h s g1 (by simpa using g2)
  generalize rs.filter (fun r => decide (x < r) && decide (r ≤ y)) = l at *
  match l, hn2, hm, hall with
  | [a], _, _, _ => rfl
  | a :: b :: l, hn2, _, hall =>
    have e1 := hall a (by simp)
    have e2 := hall b (by simp)
    have := List.nodup_cons.1 hn2
    exact absurd (by rw [e1, e2]; simp) this.1
theorem cnt_add {rs : List Rat} {x y z : Rat} (h1 : x ≤ y) (h2 : y ≤ z) : cnt rs x z = cnt rs x y + cnt rs y z := by
  unfold cnt
  induction rs with
  | nil => rfl
  | cons r rs ih =>
    simp only [List.filter_cons]
    rcases Std.le_total (a := r) (b := y) with h | h
    · by_cases c : x < r
      · rw [if_pos (by simp <;> grind), if_pos (by simp <;> grind), if_neg (by simp <;> grind)]
        simp only [List.length_cons]; omega
      · rw [if_neg (by simp <;> grind), if_neg (by simp <;> grind), if_neg (by simp <;> grind)]
        exact ih
    · by_cases c0 : r = y
      · subst c0
        by_cases c : x < r
        · rw [if_pos (by simp <;> grind), if_pos (by simp <;> grind), if_neg (by simp <;> grind)]
          simp only [List.length_cons]; omega
        · rw [if_neg (by simp <;> grind), if_neg (by simp <;> grind), if_neg (by simp <;> grind)]
          exact ih
      · by_cases c : r ≤ z
        · rw [if_pos (by simp <;> grind), if_neg (by simp <;> grind), if_pos (by simp <;> grind)]
          simp only [List.length_cons]; omega
        · rw [if_neg (by simp <;> grind), if_neg (by simp <;> grind), if_neg (by simp <;> grind)]
          exact ih
theorem tf_first {a s : Int} (hs : s = 1 ∨ s = -1) (l : List Int) : (tf (0, 0) (a :: s :: l)).1 = (tf (0, s) l).1 + if a ≠ 0 ∧ a ≠ s then 1 else 0 := by
  rw [tf_cons, tf_cons]
  by_cases h : a = 0
  · subst h
    rw [if_neg (by simp)]
    have : st1 (st1 (0, 0) 0) s = (0, s) := by unfold st1; rcases hs with rfl | rfl <;> simp
    rw [this]; omega
  · have : st1 (st1 (0, 0) a) s = (if a ≠ 0 ∧ a ≠ s then 1 else 0, s) := by
      unfold st1
      rw [if_neg h]
      simp only [h, ne_eq, not_false_eq_true, not_true_eq_false, false_and, if_false, true_and]
      rw [if_neg (by omega)]
      congr 1
      by_cases c : s = a
      · subst c; simp
      · rw [if_pos c, if_pos (Ne.symm c)]; omega
    rw [this, tf_shift]
theorem tf_zero {a : Int} (ha : a ≠ 0) (l : List Int) : tf (0, 0) (a :: l) = tf (0, a) l := by
  rw [tf_cons]
  have : st1 (0, 0) a = (0, a) := by unfold st1; rw [if_neg ha]; simp
  rw [this]
theorem near_first {R : Rat} {f g : Rat → Rat} {rest : List (Rat → Rat)} (hc : Ch R f (g :: rest)) (lf : Lip R f) (lg : Lip R g) (ha : Apt R f g) (ht : Tay R f g)
    {rs : List Rat} (hn : rs.Nodup) (hz : ∀ x, f x = 0 ↔ x ∈ rs) (hs : ∀ x y, x ≤ y → (∀ r ∈ rs, ¬ (x ≤ r ∧ r ≤ y)) → sg (f x) = sg (f y)) :
    ∃ d, 0 < d ∧ ∀ x y, ab x ≤ R → ab y ≤ R → x ≤ y → y - x < d → vr (f :: g :: rest) x - vr (f :: g :: rest) y = cnt rs x y := by
  obtain ⟨⟨d1, hd1, n1⟩, k2⟩ := hc.near
  obtain ⟨d2, hd2, n2⟩ := k2 g rest rfl
  obtain ⟨e, he, hf⟩ := ha
  obtain ⟨d3, hd3, s3⟩ := lip_small lf he
  obtain ⟨h2, hh0, hh1⟩ : ∃ h2 : Rat, 0 < h2 ∧ h2 + h2 = e := ⟨e * (1/2), Rat.mul_pos he (by decide +kernel), by grind⟩
  obtain ⟨d4, hd4, s4⟩ := lip_small lg hh0
  obtain ⟨K, hK, ht⟩ := ht
  obtain ⟨d5, hd5, hK5⟩ := small K h2 hK hh0
  obtain ⟨da, hda, a1, a2⟩ := min_pos hd1 hd2
  obtain ⟨db, hdb, b1, b2⟩ := min_pos hd3 hd4
  obtain ⟨dc, hdc, c1, c2⟩ := min_pos hda hdb
  obtain ⟨d, hd, e1, e2⟩ := min_pos hdc hd5
  refine ⟨d, hd, fun x y hx hy hxy hdl => ?_⟩
  have hab : ab (y - x) = y - x := ab_of_nn (by grind)
  have inR : ∀ u, x ≤ u → u ≤ y → ab u ≤ R := fun u h1 h2 => by
    refine ab_le ?_ ?_
    · have := le_ab y; grind
    · have := nle_ab x; grind
  by_cases hfx : e ≤ ab (f x)
  · -- no root is near
    obtain ⟨q1, q2⟩ := sg_const hfx (s3 x y hx hy (by grind))
    have h0 := n1 x y hx hy (by grind) q1 q2
    have hv : vr (f :: g :: rest) x = vr (f :: g :: rest) y := by
      have vx0 : vr (f :: g :: rest) x = (tf (0, sg (f x)) ((g :: rest).map fun q => sg (q x))).1 := by unfold vr; rw [List.map_cons, tf_zero q2]
      have vy0 : vr (f :: g :: rest) y = (tf (0, sg (f y)) ((g :: rest).map fun q => sg (q y))).1 := by unfold vr; rw [List.map_cons, tf_zero (by rw [q1]; exact q2)]
      rw [vx0, vy0, q1]
      have := h0.eq (sg1 q2) 0
      rw [List.map_map, List.map_map] at this
      exact this
    have hcn : cnt rs x y = 0 := cnt_zero fun r hr hrr => by
      have z := (hz r).2 hr
      have := s3 x r hx (inR r (by grind) hrr.2) (by rw [ab_of_nn (by grind)]; grind)
      rw [z] at this
      have e9 : ab (0 - f x) = ab (f x) := by rw [ab_sub]; congr 1; grind
      grind
    rw [hv, hcn]
    omega
  · have hg : e ≤ ab (g x) := by
      rcases hf x hx with k | k
      · exact absurd k hfx
      · exact k
    have gsg : ∀ u, x ≤ u → u ≤ y → sg (g u) = sg (g x) ∧ h2 ≤ ab (g u) := fun u h1 h2' => by
      have h3 := s4 x u hx (inR u h1 h2') (by rw [ab_of_nn (by grind)]; grind)
      refine ⟨(sg_const hg (by grind)).1, ?_⟩
      have h4 := ab_add (g u) (g x - g u)
      rw [show g u + (g x - g u) = g x by grind, ab_sub (g x)] at h4
      grind
    have g0 : sg (g x) ≠ 0 := (sg_const hg (v := g x) (by rw [show g x - g x = 0 by grind, ab_zero]; exact he)).2
    -- f goes one way alone
    have mono : ∀ u v, x ≤ u → u < v → v ≤ y → sg (f v - f u) = sg (g x) := fun u v h1 h3 h4 => by
      obtain ⟨p1, p2⟩ := gsg u h1 (by grind)
      have t1 := ht u v (inR u h1 (by grind)) (inR v (by grind) h4)
      have hvu : ab (v - u) = v - u := ab_of_nn (by grind)
      have m1 : K * (ab (v - u) * ab (v - u)) ≤ K * d5 * (v - u) := by
        rw [hvu]
        have := mul_mono (Rat.le_refl (a := K)) (show v - u ≤ d5 by grind) (by grind) hK
        have := mul_mono this (Rat.le_refl (a := v - u)) (by grind) (Rat.mul_nonneg hK (by grind))
        grind
      have m2 : K * d5 * (v - u) < h2 * (v - u) := mul_lt_of hK5 (by grind)
      have m3 : ab ((v - u) * g u) = (v - u) * ab (g u) := by rw [ab_mul, hvu]
      have m4 := mul_mono (Rat.le_refl (a := v - u)) p2 (by grind) (by grind)
      have e8 : sg (f v - f u) = sg ((v - u) * g u) := by
        refine (sg_const (e := h2 * (v - u)) ?_ ?_).1
        · rw [m3]; grind
        · grind
      rw [e8, ← p1]
      have hvu0 : 0 < v - u := by grind
      rcases sg_or (g u) with k | k | k
      · rw [k, sg_zero]
        rw [sg_zero.1 k]; grind
      · rw [k, sg_pos]; exact Rat.mul_pos hvu0 (sg_pos.1 k)
      · rw [k, sg_neg]
        have := Rat.mul_pos hvu0 (show 0 < -g u by have := sg_neg.1 k; grind)
        grind
    have sgy := (gsg y hxy Rat.le_refl).1
    have common := (n2 x y hx hy (by grind) sgy g0).eq (sg1 g0) 0
    rw [List.map_map, List.map_map] at common
    have vx : vr (f :: g :: rest) x = (tf (0, sg (g x)) (rest.map fun q => sg (q x))).1 + if sg (f x) ≠ 0 ∧ sg (f x) ≠ sg (g x) then 1 else 0 := tf_first (sg1 g0) _
    have vy : vr (f :: g :: rest) y = (tf (0, sg (g x)) (rest.map fun q => sg (q y))).1 + if sg (f y) ≠ 0 ∧ sg (f y) ≠ sg (g x) then 1 else 0 := by
      have := tf_first (a := sg (f y)) (s := sg (g y)) (by rw [sgy]; exact sg1 g0) (rest.map fun q => sg (q y))
      rw [sgy] at this
      unfold vr
      rw [List.map_cons, List.map_cons, sgy]
      exact this
    have cm : (tf (0, sg (g x)) (rest.map fun q => sg (q x))).1 = (tf (0, sg (g x)) (rest.map fun q => sg (q y))).1 := common
    rw [vx, vy, cm]
    by_cases hroot : ∃ r ∈ rs, x < r ∧ r ≤ y
    · obtain ⟨r, hr, h1, h3⟩ := hroot
      have zr := (hz r).2 hr
      have m1 := mono x r Rat.le_refl h1 h3
      rw [zr] at m1
      have m2 : sg (f x) = -sg (g x) := by
        have := sg_opp (x := f x) (y := 0 - f x) (by grind)
        rw [this, m1]
      have hone : cnt rs x y = 1 := cnt_one hn hr ⟨h1, h3⟩ fun s hs hss => by
        have zs := (hz s).2 hs
        rcases Std.lt_trichotomy s r with c | c | c
        · have := mono s r (by grind) c h3
          rw [zr, zs, show (0 : Rat) - 0 = 0 by grind, sg_zero.2 rfl] at this
          exact absurd this.symm g0
        · exact c
        · have := mono r s (by grind) c hss.2
          rw [zr, zs, show (0 : Rat) - 0 = 0 by grind, sg_zero.2 rfl] at this
          exact absurd this.symm g0
      have hy2 : sg (f y) = 0 ∨ sg (f y) = sg (g x) := by
        rcases Std.lt_trichotomy r y with c | c | c
        · have := mono r y (by grind) c Rat.le_refl
          rw [zr, show f y - 0 = f y by grind] at this
          exact .inr this
        · subst c; exact .inl (sg_zero.2 zr)
        · grind
      rw [hone, if_pos ⟨by omega, by have := sg1 g0; omega⟩, if_neg (by omega)]
      omega
    · have hc0 : cnt rs x y = 0 := cnt_zero fun r hr hh => hroot ⟨r, hr, hh⟩
      rw [hc0]
      by_cases hx0 : f x = 0
      · rw [if_neg (by rw [sg_zero.2 hx0]; simp)]
        by_cases hxy2 : x = y
        · subst hxy2
          rw [if_neg (by rw [sg_zero.2 hx0]; simp)]; omega
        · have := mono x y Rat.le_refl (by grind) Rat.le_refl
          rw [hx0, show f y - 0 = f y by grind] at this
          rw [if_neg (by omega)]; omega
      · have := hs x y hxy fun r hr hh => by
          by_cases c : x = r
          · subst c; exact hx0 ((hz _).2 hr)
          · exact hroot ⟨r, hr, by grind, hh.2⟩
        rw [this]
        omega
theorem arch (x d : Rat) (hd : 0 < d) : ∃ n : Nat, x ≤ ((n : Int) : Rat) * d := by
  rcases Std.le_total (a := x) (b := 0) with h | h
  · exact ⟨0, by show x ≤ 0 * d; grind⟩
  · have hi := Rat.inv_pos.2 hd
    have h1 : 0 ≤ x * d⁻¹ := Rat.mul_nonneg h (by grind)
    have h2 : x * d⁻¹ * d = x := by have := Rat.inv_mul_cancel d (by grind); grind
    generalize x * d⁻¹ = q at *
    refine ⟨q.num.natAbs, ?_⟩
    have h3 := num_den q
    have h4 := Rat.num_nonneg.2 h1
    have h5 : ((q.num.natAbs : Int) : Rat) = (q.num : Rat) := by rw [Int.natAbs_of_nonneg h4]
    have h6 : (1 : Rat) ≤ ((q.den : Int) : Rat) := by
      have := q.den_pos
      have : (1 : Int) ≤ (q.den : Int) := by omega
      exact Rat.intCast_le_intCast.2 this
    have h7 := mul_mono (Rat.le_refl (a := q)) h6 (by decide) h1
    have h8 : q ≤ ((q.num.natAbs : Int) : Rat) := by rw [h5, ← h3]; grind
    have := mul_mono h8 (Rat.le_refl (a := d)) (by grind) (by grind)
    grind
theorem sturm {R : Rat} {f g : Rat → Rat} {rest : List (Rat → Rat)} (hc : Ch R f (g :: rest)) (lf : Lip R f) (lg : Lip R g) (ha : Apt R f g) (ht : Tay R f g)
    {rs : List Rat} (hn : rs.Nodup) (hz : ∀ x, f x = 0 ↔ x ∈ rs) (hs : ∀ x y, x ≤ y → (∀ r ∈ rs, ¬ (x ≤ r ∧ r ≤ y)) → sg (f x) = sg (f y)) {x y : Rat} (hx : ab x ≤ R) (hy : ab y ≤ R) (hxy : x ≤ y) :
    vr (f :: g :: rest) x - vr (f :: g :: rest) y = cnt rs x y := by
  obtain ⟨d, hd, near⟩ := near_first hc lf lg ha ht hn hz hs
  obtain ⟨h, hh0, hh1⟩ : ∃ h : Rat, 0 < h ∧ h + h = d := ⟨d * (1/2), Rat.mul_pos hd (by decide +kernel), by grind⟩
  obtain ⟨n, hn2⟩ := arch (y - x) h hh0
  induction n generalizing x with
  | zero =>
    have h0 : y - x ≤ 0 * h := hn2
    exact near x y hx hy hxy (by grind)
  | succ n ih =>
    by_cases c : y - x < d
    · exact near x y hx hy hxy c
    · have e1 : ((((n + 1 : Nat) : Int)) : Rat) = ((n : Int) : Rat) + 1 := by rw [Int.natCast_add n 1, Rat.intCast_add]; rfl
      rw [e1] at hn2
      have hz1 : ab (x + h) ≤ R := ab_le (by have := le_ab y; grind) (by have := nle_ab x; grind)
      have k1 := near x (x + h) hx hz1 (by grind) (by grind)
      have k2 := ih hz1 (by grind) (by grind)
      have k3 := cnt_add (rs := rs) (show x ≤ x + h by grind) (show x + h ≤ y by grind)
      omega
end Go.Pe
set_option linter.unusedSimpArgs false
set_option linter.unusedVariables false
open Go
namespace Go.Pe
theorem chF_nil (n : Nat) (p : List Rat) : chF n p [] = [] := by cases n <;> simp [chF]
theorem chF_cons {n : Nat} {p q : List Rat} (h : q ≠ []) : chF (n + 1) p q = q :: chF n q (scT (dvR p q) (-1)) := by rw [chF, if_neg h]
end Go.Pe
set_option linter.unusedSimpArgs false
set_option linter.unusedVariables false
open Go
namespace Go.Pe
theorem evl_cons (c : Rat) (t : List Rat) (x : Rat) : evl (c :: t) x = c + x * evl t x := by
  unfold evl
  rw [List.length_cons, ef_succ]
  rfl
theorem evl_split (r : Rat) : ∀ F : List Rat, ∃ G : List Rat, G.length ≤ F.length - 1 ∧ ∀ x, evl F x = evl F r + (x - r) * evl G x := by
  intro F
  induction F with
  | nil => exact ⟨[], by simp, fun x => by simp only [evl_nil]; grind⟩
  | cons c t ih =>
    obtain ⟨G, hl, h⟩ := ih
    cases t with
    | nil => exact ⟨[], by simp, fun x => by simp only [evl_cons, evl_nil]; grind⟩
    | cons d t =>
      refine ⟨evl (d :: t) r :: G, by simp at hl ⊢; omega, fun x => ?_⟩
      rw [evl_cons c, evl_cons c, evl_cons (evl (d :: t) r), h x]
      grind
theorem evl_zero_ge : ∀ (n : Nat) (F : List Rat) (a : Rat), F.length ≤ n → (∀ x, a ≤ x → evl F x = 0) → ∀ x, evl F x = 0 := by
  intro n
  induction n with
  | zero =>
    intro F a h _ x
    have : F = [] := List.length_eq_zero_iff.1 (by omega)
    rw [this, evl_nil]
  | succ n ih =>
    intro F a h hz x
    obtain ⟨G, hl, hG⟩ := evl_split a F
    have h0 := hz a Rat.le_refl
    have := ih G (a + 1) (by omega) (fun y hy => by
      have h1 := hG y
      rw [hz y (by grind), h0] at h1
      have h2 : (y - a) * evl G y = 0 := by grind
      rcases Rat.mul_eq_zero.1 h2 with k | k
      · grind
      · exact k) x
    rw [hG x, h0, this]
    grind
theorem evl_eq_ge {F G : List Rat} {a : Rat} (h : ∀ x, a ≤ x → evl F x = evl G x) : ∀ x, evl F x = evl G x := by
  intro x
  have := evl_zero_ge _ (subT F G) a (Nat.le_refl _) (fun y hy => by
    have e : evl (subT F G) y = evl F y - evl G y := by
      have h1 : evl (subT F G) y = evl (addT F (scT G (-1))) y := evl_ext (fun i => by rw [co_subT, co_addT, co_scT]; grind) y
      rw [h1, evl_add, evl_sc]; grind
    rw [e, h y hy]; grind) x
  have e : evl (subT F G) x = evl F x - evl G x := by
    have h1 : evl (subT F G) x = evl (addT F (scT G (-1))) x := evl_ext (fun i => by rw [co_subT, co_addT, co_scT]; grind) x
    rw [h1, evl_add, evl_sc]; grind
  grind
theorem co_zero_of : ∀ (F : List Rat), (∀ x, evl F x = 0) → ∀ i, co F i = 0 := by
  intro F
  induction F with
  | nil => intro _ i; rfl
  | cons c t ih =>
    intro h i
    have h0 := h 0
    rw [evl_cons] at h0
    have hc : c = 0 := by grind
    cases i with
    | zero => exact hc
    | succ i =>
      refine ih (fun x => ?_) i
      refine evl_zero_ge _ t 1 (Nat.le_refl _) (fun y hy => ?_) x
      have := h y
      rw [evl_cons, hc] at this
      have h2 : y * evl t y = 0 := by grind
      rcases Rat.mul_eq_zero.1 h2 with k | k
      · grind
      · exact k
theorem co_of_evl {F G : List Rat} (h : ∀ x, evl F x = evl G x) : co F = co G := by
  have hz := co_zero_of (addT F (scT G (-1))) fun x => by rw [evl_add, evl_sc, h x]; grind
  funext i
  have := hz i
  rw [co_addT, co_scT] at this
  grind
theorem Bn.mul {R : Rat} {f g : Rat → Rat} (h : Bn R f) (k : Bn R g) : Bn R fun x => f x * g x := by
  obtain ⟨B, hB, h⟩ := h
  obtain ⟨C, hC, k⟩ := k
  exact ⟨B * C, Rat.mul_nonneg hB hC, fun x hx => by show ab (f x * g x) ≤ _; rw [ab_mul]; exact mul_mono (h x hx) (k x hx) (ab_nn _) hB⟩
theorem Tay.mul {R : Rat} {f g u v : Rat → Rat} (hf : Tay R f g) (hu : Tay R u v) (lf : Lip R f) (lu : Lip R u) (bf : Bn R f) (bu : Bn R u) : Tay R (fun x => f x * u x) fun x => g x * u x + f x * v x := by
  obtain ⟨K, hK, hf⟩ := hf
  obtain ⟨M, hM, hu⟩ := hu
  obtain ⟨L, hL, lf⟩ := lf
  obtain ⟨N, hN, lu⟩ := lu
  obtain ⟨B, hB, bf⟩ := bf
  obtain ⟨C, hC, bu⟩ := bu
  refine ⟨K * C + B * M + L * N, by have := Rat.mul_nonneg hK hC; have := Rat.mul_nonneg hB hM; have := Rat.mul_nonneg hL hN; grind, fun x y hx hy => ?_⟩
  show ab (f y * u y - f x * u x - (y - x) * (g x * u x + f x * v x)) ≤ _
  have e : f y * u y - f x * u x - (y - x) * (g x * u x + f x * v x) = (f y - f x - (y - x) * g x) * u x + (f x * (u y - u x - (y - x) * v x) + (f y - f x) * (u y - u x)) := by grind
  rw [e]
  have h1 := ab_add ((f y - f x - (y - x) * g x) * u x) (f x * (u y - u x - (y - x) * v x) + (f y - f x) * (u y - u x))
  have h2 := ab_add (f x * (u y - u x - (y - x) * v x)) ((f y - f x) * (u y - u x))
  rw [ab_mul] at h1
  rw [ab_mul, ab_mul (f y - f x)] at h2
  have n2 := Rat.mul_nonneg (ab_nn (y - x)) (ab_nn (y - x))
  have m1 := mul_mono (hf x y hx hy) (bu x hx) (ab_nn _) (Rat.mul_nonneg hK n2)
  have m2 := mul_mono (bf x hx) (hu x y hx hy) (ab_nn _) hB
  have m3 := mul_mono (lf x y hx hy) (lu x y hx hy) (ab_nn _) (Rat.mul_nonneg hL (ab_nn _))
  grind
theorem Tay.uniq {R : Rat} {f g v : Rat → Rat} (h : Tay R f g) (k : Tay R f v) {x : Rat} (hx : ab x + 1 ≤ R) : g x = v x := by
  obtain ⟨K, hK, h⟩ := h
  obtain ⟨M, hM, k⟩ := k
  by_cases c : g x = v x
  · exact c
  · exfalso
    have hp := ab_pos (show g x - v x ≠ 0 by grind)
    obtain ⟨t, ht, h1⟩ := small (K + M) (ab (g x - v x)) (by grind) hp
    obtain ⟨u, hu, hut, hu1⟩ := min_pos ht (show (0 : Rat) < 1 by decide)
    have hab : ab (x + u - x) = u := by rw [ab_of_nn (by grind)]; grind
    have hr : ab (x + u) ≤ R := by
      have := ab_add x u
      rw [ab_of_nn (show 0 ≤ u by grind)] at this
      grind
    have a1 := h x (x + u) (by grind) hr
    have a2 := k x (x + u) (by grind) hr
    have a3 := ab_add (f (x + u) - f x - (x + u - x) * v x) (-(f (x + u) - f x - (x + u - x) * g x))
    rw [ab_neg, show f (x + u) - f x - (x + u - x) * v x + -(f (x + u) - f x - (x + u - x) * g x) = u * (g x - v x) by grind, ab_mul, ab_of_nn (show 0 ≤ u by grind)] at a3
    rw [hab] at a1 a2
    have a4 : u * ab (g x - v x) ≤ (K + M) * (u * u) := by grind
    have a5 := mul_lt_of (show (K + M) * u < ab (g x - v x) by
      have := mul_mono (Rat.le_refl (a := K + M)) hut (by grind) (by grind)
      grind) hu
    grind
theorem ab_big (x : Rat) : 0 ≤ ab x + 1 := by have := ab_nn x; grind
theorem dT_mu (A B : List Rat) (x : Rat) : evl (dT (muT A B)) x = evl (dT A) x * evl B x + evl A x * evl (dT B) x := by
  have hR := ab_big x
  have t1 := evl_tay hR (muT A B)
  have t2 := (evl_tay hR A).mul (evl_tay hR B) (evl_lip hR A) (evl_lip hR B) (evl_bn hR A) (evl_bn hR B)
  have e : (fun y => evl A y * evl B y) = evl (muT A B) := by funext y; rw [evl_mu]
  rw [e] at t2
  exact t1.uniq t2 (by grind)
theorem dT_of {A B : List Rat} (h : ∀ x, evl A x = evl B x) (x : Rat) : evl (dT A) x = evl (dT B) x := by rw [dT_ext (co_of_evl h)]
theorem dT_lin (r x : Rat) : evl (dT [-r, 1]) x = 1 := by
  have : ∀ i, co (dT [-r, 1]) i = co [1] i := fun i => by
    rw [co_dT]
    match i with
    | 0 =>
      show (1 : Rat) * (((0 + 1 : Nat) : Int) : Rat) = 1
      rw [show (((0 + 1 : Nat) : Int) : Rat) = 1 from rfl]
      grind
    | i + 1 =>
      show co [-r, 1] (i + 2) * _ = 0
      rw [co_big (by simp)]; grind
  rw [evl_ext this, evl_one]
def Cop (A B : List Rat) : Prop := ∃ s t : List Rat, ∀ x, evl A x * evl s x + evl B x * evl t x = 1
theorem Cop.symm {A B : List Rat} (h : Cop A B) : Cop B A := by obtain ⟨s, t, h⟩ := h; exact ⟨t, s, fun x => by have := h x; grind⟩
theorem Cop.mul {A B C : List Rat} (h : Cop A C) (k : Cop B C) : Cop (muT A B) C := by
  obtain ⟨s, t, h⟩ := h
  obtain ⟨u, v, k⟩ := k
  refine ⟨muT s u, addT (muT A (muT s v)) t, fun x => ?_⟩
  rw [evl_mu, evl_mu, evl_add, evl_mu, evl_mu]
  have h1 := h x
  have h2 := k x
  have : evl A x * evl s x * (evl B x * evl u x + evl C x * evl v x) + evl C x * evl t x = 1 := by rw [h2]; grind
  grind
theorem Cop.of {A B C : List Rat} (h : ∀ x, evl A x = evl B x) (k : Cop A C) : Cop B C := by obtain ⟨s, t, k⟩ := k; exact ⟨s, t, fun x => by rw [← h x]; exact k x⟩
theorem Cop.lin {F : List Rat} {r : Rat} (h : evl F r ≠ 0) : Cop [-r, 1] F := by
  obtain ⟨G, _, hG⟩ := evl_split r F
  have h1 := Rat.mul_inv_cancel _ h
  refine ⟨scT G (-(evl F r)⁻¹), [(evl F r)⁻¹], fun x => ?_⟩
  have h2 := hG x
  rw [evl_two, evl_sc, evl_one, h2]
  grind
theorem Cop.const {c : Rat} (hc : c ≠ 0) (F : List Rat) : Cop [c] F := by
  have h1 := Rat.mul_inv_cancel _ hc
  exact ⟨[c⁻¹], [], fun x => by rw [evl_one, evl_one, evl_nil]; grind⟩
theorem Cop.apt {A B : List Rat} (h : Cop A B) {R : Rat} (hR : 0 ≤ R) : Apt R (evl A) (evl B) := by
  obtain ⟨s, t, h⟩ := h
  obtain ⟨C, hC, bs⟩ := evl_bn hR s
  obtain ⟨D, hD, bt⟩ := evl_bn hR t
  obtain ⟨d, hd, hs⟩ := small (C + D) 1 (by grind) (by decide)
  refine ⟨d, hd, fun x hx => ?_⟩
  by_cases c1 : d ≤ ab (evl A x)
  · exact .inl c1
  · by_cases c2 : d ≤ ab (evl B x)
    · exact .inr c2
    · exfalso
      have h1 := ab_add (evl A x * evl s x) (evl B x * evl t x)
      rw [h x, ab_mul, ab_mul, show ab 1 = 1 from by decide +kernel] at h1
      have m1 := mul_mono (show ab (evl A x) ≤ d by grind) (bs x hx) (ab_nn _) (by grind)
      have m2 := mul_mono (show ab (evl B x) ≤ d by grind) (bt x hx) (ab_nn _) (by grind)
      grind
theorem dv_val {p q : List Rat} (hq : Ca q) (h0 : q ≠ []) (x : Rat) : evl p x = evl (dvQ p q) x * evl q x + evl (dvR p q) x := by
  have e := (dvR_eq (A := p) hq h0).1
  rw [evl_ext (m := addT (muT (dvQ p q) q) (dvR p q)) (fun i => by rw [co_addT, co_muT]; exact e i) x, evl_add, evl_mu]
theorem ch_of {R : Rat} (hR : 0 ≤ R) : ∀ (n : Nat) {p q : List Rat}, Ca p → Ca q → q ≠ [] → q.length ≤ n → Apt R (evl p) (evl q) → Ch R (evl p) ((chF n p q).map evl) := by
  intro n
  induction n with
  | zero => intro p q _ _ h0 hl _; exact absurd (List.length_eq_zero_iff.1 (by omega)) h0
  | succ n ih =>
    intro p q hp hq h0 hl hap
    rw [chF_cons h0]
    have hlen := dvR_len hp hq h0
    have hr : Ca (scT (dvR p q) (-1)) := ca_tk _ _
    have hrl : (scT (dvR p q) (-1)).length = (dvR p q).length := scT_len (dvR_ca q hp) (by decide)
    have e1 : ∀ x, evl p x = evl (dvQ p q) x * evl q x - evl (scT (dvR p q) (-1)) x := fun x => by rw [dv_val hq h0 x, evl_sc]; grind
    obtain ⟨e, he, hf⟩ := hap
    obtain ⟨M, hM, hm⟩ := evl_bn hR (dvQ p q)
    by_cases h1 : scT (dvR p q) (-1) = []
    · rw [h1, chF_nil]
      obtain ⟨d, hd, hs⟩ := small M e hM he
      obtain ⟨u, hu, hud, hue⟩ := min_pos hd he
      refine .last (evl_lip hR q) ⟨u, hu, fun x hx => ?_⟩
      rcases hf x hx with k | k
      · by_cases c : u ≤ ab (evl q x)
        · exact c
        · exfalso
          rw [e1 x, h1, evl_nil, show ∀ a : Rat, a - 0 = a by intro a; grind, ab_mul] at k
          have m1 := mul_mono (hm x hx) (show ab (evl q x) ≤ d by grind) (ab_nn _) hM
          grind
      · grind
    · have hap2 : Apt R (evl q) (evl (scT (dvR p q) (-1))) := by
        obtain ⟨h2, hh0, hh1⟩ : ∃ h2 : Rat, 0 < h2 ∧ h2 + h2 = e := ⟨e * (1/2), Rat.mul_pos he (by decide +kernel), by grind⟩
        obtain ⟨d, hd, hs⟩ := small M h2 hM hh0
        obtain ⟨u, hu, hud, hue⟩ := min_pos hd hh0
        refine ⟨u, hu, fun x hx => ?_⟩
        by_cases c : u ≤ ab (evl q x)
        · exact .inl c
        · refine .inr ?_
          rcases hf x hx with k | k
          · rw [e1 x] at k
            have m1 := mul_mono (hm x hx) (show ab (evl q x) ≤ d by grind) (ab_nn _) hM
            have a1 := ab_add (evl (dvQ p q) x * evl q x) (-evl (scT (dvR p q) (-1)) x)
            rw [ab_neg, ab_mul, show evl (dvQ p q) x * evl q x + -evl (scT (dvR p q) (-1)) x = evl (dvQ p q) x * evl q x - evl (scT (dvR p q) (-1)) x by grind] at a1
            grind
          · grind
      have h3 := ih hq hr h1 (by omega) hap2
      match n, h3, hrl with
      | 0, _, hrl => exact absurd (List.length_eq_zero_iff.1 (by omega)) h1
      | n + 1, h3, _ =>
        rw [chF_cons h1] at h3 ⊢
        exact .step (evl_lip hR q) (evl_lip hR _) (evl_bn hR _) e1 hap2 h3
def pdL : List Rat → List Rat
  | [] => [1]
  | r :: rs => muT [-r, 1] (pdL rs)
def pdV : List Rat → Rat → Rat
  | [], _ => 1
  | r :: rs, x => (x - r) * pdV rs x
theorem evl_pd : ∀ (rs : List Rat) (x : Rat), evl (pdL rs) x = pdV rs x := by
  intro rs
  induction rs with
  | nil => intro x; exact evl_one 1 x
  | cons r rs ih => intro x; rw [pdL, evl_mu, evl_two, ih, pdV]; grind
theorem pdV_zero {rs : List Rat} {x : Rat} : pdV rs x = 0 ↔ x ∈ rs := by
  induction rs with
  | nil => simp [pdV]
  | cons r rs ih =>
    rw [pdV, Rat.mul_eq_zero, ih, List.mem_cons]
    constructor
    · rintro (h | h)
      · exact .inl (by grind)
      · exact .inr h
    · rintro (h | h)
      · exact .inl (by grind)
      · exact .inr h
theorem pdV_erase {rs : List Rat} {s : Rat} (h : s ∈ rs) (x : Rat) : pdV rs x = (x - s) * pdV (rs.erase s) x := by
  induction rs with
  | nil => cases h
  | cons r rs ih =>
    by_cases c : r = s
    · subst c; rw [List.erase_cons_head, pdV]
    · rw [List.erase_cons_tail (by simpa using c), pdV, pdV, ih (by simpa [Ne.symm c] using h)]
      grind
theorem pdV_sg {rs : List Rat} {x y : Rat} (hxy : x ≤ y) (h : ∀ r ∈ rs, ¬ (x ≤ r ∧ r ≤ y)) : 0 < pdV rs x * pdV rs y := by
  induction rs with
  | nil => show (0 : Rat) < 1 * 1; decide +kernel
  | cons r rs ih =>
    have h1 := ih fun s hs => h s (List.mem_cons_of_mem _ hs)
    have h2 := h r List.mem_cons_self
    have h3 : 0 < (x - r) * (y - r) := by
      by_cases c : x ≤ r
      · have := Rat.mul_pos (show 0 < r - x by grind) (show 0 < r - y by grind)
        grind
      · exact Rat.mul_pos (by grind) (by grind)
    have := Rat.mul_pos h3 h1
    rw [pdV, pdV]
    grind
theorem sg_same {u v : Rat} (h : 0 < u * v) : sg u = sg v := by
  rcases sg_or u with k | k | k
  · rw [sg_zero.1 k] at h; grind
  · have hu := sg_pos.1 k
    rw [k, eq_comm, sg_pos]
    by_cases c : 0 < v
    · exact c
    · have := Rat.mul_nonneg (show 0 ≤ u by grind) (show 0 ≤ -v by grind)
      grind
  · have hu := sg_neg.1 k
    rw [k, eq_comm, sg_neg]
    by_cases c : v < 0
    · exact c
    · have := Rat.mul_nonneg (show 0 ≤ -u by grind) (show 0 ≤ v by grind)
      grind
def wV (x : Rat) : Rat := 1 + 3 * (x * x)
theorem wV_pos (x : Rat) : 1 ≤ wV x := by
  have : 0 ≤ x * x := by
    rcases Std.le_total (a := (0 : Rat)) (b := x) with h | h
    · exact Rat.mul_nonneg h h
    · have := Rat.mul_nonneg (show 0 ≤ -x by grind) (show 0 ≤ -x by grind)
      grind
  unfold wV
  grind
def wL : List Rat := [1, 0, 3]
theorem evl_w (x : Rat) : evl wL x = wV x := by
  unfold wL wV
  rw [evl_cons, evl_cons, evl_cons, evl_nil]; grind
theorem dT_w (x : Rat) : evl (dT wL) x = 6 * x := by
  have : ∀ i, co (dT wL) i = co [0, 6] i := fun i => by
    rw [co_dT]
    match i with
    | 0 => show (0 : Rat) * 1 = 0; grind
    | 1 => show (3 : Rat) * ((2 : Int) : Rat) = 6; decide +kernel
    | i + 2 =>
      show co wL (i + 3) * _ = 0
      rw [co_big (by simp [wL])]; grind
  rw [evl_ext this, evl_two]; grind
def nL (c : Rat) (rs : List Rat) : List Rat := muT [c] (muT wL (pdL rs))
theorem evl_n (c : Rat) (rs : List Rat) (x : Rat) : evl (nL c rs) x = c * (wV x * pdV rs x) := by
  unfold nL
  rw [evl_mu, evl_mu, evl_one, evl_w, evl_pd]
theorem dT_n (c : Rat) (rs : List Rat) (x : Rat) : evl (dT (nL c rs)) x = c * (6 * x) * pdV rs x + wV x * (c * evl (dT (pdL rs)) x) := by
  unfold nL
  have hc : evl (dT [c]) x = 0 := by
    have h1 : (dT [c]).length ≤ 0 := dT_len [c]
    have h2 : dT [c] = [] := List.length_eq_zero_iff.1 (by omega)
    rw [h2, evl_nil]
  rw [dT_mu, dT_mu, hc, evl_one, evl_w, evl_pd, dT_w, evl_mu, evl_w, evl_pd]
  grind
theorem dT_root {c : Rat} {rs : List Rat} {r : Rat} (h : r ∈ rs) : evl (dT (nL c rs)) r = c * (wV r * pdV (rs.erase r) r) := by
  have e1 : ∀ x, evl (nL c rs) x = evl (muT [-r, 1] (nL c (rs.erase r))) x := fun x => by
    rw [evl_mu, evl_two, evl_n, evl_n, pdV_erase h]; grind
  rw [dT_of e1, dT_mu, dT_lin, evl_two, evl_n]
  grind
theorem dT_root_ne {c : Rat} (hc : c ≠ 0) {rs : List Rat} (hn : rs.Nodup) {r : Rat} (h : r ∈ rs) : evl (dT (nL c rs)) r ≠ 0 := by
  rw [dT_root h]
  intro h0
  have hw := wV_pos r
  rcases Rat.mul_eq_zero.1 h0 with k | k
  · exact hc k
  · rcases Rat.mul_eq_zero.1 k with k | k
    · grind
    · have := pdV_zero.1 k
      exact absurd this (by rw [List.Nodup.mem_erase_iff hn]; simp)
theorem slope_of {c : Rat} {rs : List Rat} : ∀ (ms : List Rat), (∀ s ∈ ms, s ∈ rs) →
    ∃ F K : List Rat, (∀ x, evl (dT (muT (nL c rs) (pdL ms))) x = pdV ms x * evl F x) ∧ (∀ x, evl F x = c * (6 * x) * pdV rs x + wV x * evl K x) ∧ ∀ r ∈ rs, ∃ k : Rat, 1 ≤ k ∧ evl F r = k * evl (dT (nL c rs)) r := by
  intro ms
  induction ms with
  | nil =>
    intro _
    refine ⟨dT (nL c rs), scT (dT (pdL rs)) c, fun x => ?_, fun x => ?_, fun r _ => ⟨1, Rat.le_refl, by grind⟩⟩
    · have e1 : ∀ x, evl (muT (nL c rs) (pdL [])) x = evl (nL c rs) x := fun x => by rw [evl_mu, evl_pd, pdV]; grind
      rw [dT_of e1, pdV]; grind
    · rw [dT_n, evl_sc]
  | cons s ms ih =>
    intro hm
    obtain ⟨F, K, h1, h2, h3⟩ := ih fun t ht => hm t (List.mem_cons_of_mem _ ht)
    have hs := hm s List.mem_cons_self
    refine ⟨addT F (nL c (rs.erase s)), addT K (scT (pdL (rs.erase s)) c), fun x => ?_, fun x => ?_, fun r hr => ?_⟩
    · have e1 : ∀ x, evl (muT (nL c rs) (pdL (s :: ms))) x = evl (muT [-s, 1] (muT (nL c rs) (pdL ms))) x := fun x => by
        rw [evl_mu, evl_mu, evl_mu, evl_pd, evl_pd, pdV, evl_two]; grind
      rw [dT_of e1, dT_mu, dT_lin, h1 x, evl_mu, evl_pd, evl_two, evl_add, evl_n, evl_n, pdV_erase hs, pdV]
      grind
    · rw [evl_add, evl_add, h2 x, evl_n, evl_sc, evl_pd]; grind
    · obtain ⟨k, hk, h4⟩ := h3 r hr
      rw [evl_add, h4]
      by_cases c1 : r = s
      · subst c1
        refine ⟨k + 1, by grind, ?_⟩
        rw [evl_n, ← dT_root hr]; grind
      · refine ⟨k, hk, ?_⟩
        have : r ∈ rs.erase s := (List.mem_erase_of_ne c1).2 hr
        rw [evl_n, pdV_zero.2 this]; grind
theorem cop_pd {F : List Rat} : ∀ (rs : List Rat), (∀ r ∈ rs, evl F r ≠ 0) → Cop (pdL rs) F := by
  intro rs
  induction rs with
  | nil => intro _; exact Cop.const (by decide +kernel) F
  | cons r rs ih => intro h; exact (Cop.lin (h r List.mem_cons_self)).mul (ih fun s hs => h s (List.mem_cons_of_mem _ hs))
theorem cop_w : Cop [0, 6] wL := ⟨[0, -(1/2)], [1], fun x => by rw [evl_two, evl_two, evl_one, evl_w, wV]; grind⟩
theorem cop_n {c : Rat} (hc : c ≠ 0) {rs : List Rat} (hn : rs.Nodup) {F K : List Rat} (h2 : ∀ x, evl F x = c * (6 * x) * pdV rs x + wV x * evl K x) (h3 : ∀ r ∈ rs, ∃ k : Rat, 1 ≤ k ∧ evl F r = k * evl (dT (nL c rs)) r) : Cop (nL c rs) F := by
  have hr : ∀ r ∈ rs, evl F r ≠ 0 := fun r hr h0 => by
    obtain ⟨k, hk, h⟩ := h3 r hr
    rw [h0] at h
    rcases Rat.mul_eq_zero.1 h.symm with e | e
    · grind
    · exact dT_root_ne hc hn hr e
  have w1 : Cop (muT [c] (muT [0, 6] (pdL rs))) wL := (Cop.const hc _).mul (cop_w.mul (cop_pd rs fun r _ => by rw [evl_w]; have := wV_pos r; grind))
  have w2 : Cop F wL := by
    obtain ⟨s, t, h⟩ := w1
    refine ⟨s, addT t (scT (muT s K) (-1)), fun x => ?_⟩
    have := h x
    rw [evl_mu, evl_mu, evl_one, evl_two, evl_pd] at this
    rw [h2 x, evl_add, evl_sc, evl_mu, evl_w]
    rw [evl_w] at this
    grind
  exact (Cop.const hc F).mul (w2.symm.mul (cop_pd rs hr))
theorem Dv.val {a b : List Rat} (h : Dv (co a) (co b)) : ∃ t : List Rat, ∀ x, evl b x = evl t x * evl a x := by
  obtain ⟨t, n, ht, e⟩ := h
  refine ⟨mkL t n, fun x => ?_⟩
  have ec : co (mkL t n) = t := by
    funext i
    rw [co_mk]
    split
    · rfl
    · rw [ht i (by omega)]
  rw [← evl_mu]
  exact evl_ext (fun i => by rw [co_muT, ec, e]) x
theorem Dv.of_val {a b t : List Rat} (h : ∀ x, evl b x = evl t x * evl a x) : Dv (co a) (co b) := by
  refine ⟨co t, t.length, co_dg t, ?_⟩
  rw [← co_muT]
  exact co_of_evl fun x => by rw [evl_mu, h x]
theorem unit_const {u v : List Rat} (h : ∀ x, evl u x * evl v x = 1) : ∃ k : Rat, k ≠ 0 ∧ ∀ x, evl v x = k := by
  have e : co (muT (tr u) (tr v)) = co [1] := co_of_evl fun x => by rw [evl_mu, evl_one, evl_ext (co_tr u) x, evl_ext (co_tr v) x, h x]
  rw [co_muT] at e
  have hu : tr u ≠ [] := fun h0 => by have := h 0; rw [← evl_ext (co_tr u) 0, h0, evl_nil] at this; grind
  have hv : tr v ≠ [] := fun h0 => by have := h 0; rw [← evl_ext (co_tr v) 0, h0, evl_nil] at this; grind
  have lu := List.length_pos_iff.2 hu
  have lv := List.length_pos_iff.2 hv
  have t1 := mu_top (f := co (tr u)) (g := co (tr v)) (a := (tr u).length - 1) (b := (tr v).length - 1) (by rw [Nat.sub_add_cancel (by omega)]; exact co_dg _) (by rw [Nat.sub_add_cancel (by omega)]; exact co_dg _)
  have n1 := ca_top (ca_tr u) hu
  have n2 := ca_top (ca_tr v) hv
  have hlen : (tr v).length = 1 := by
    rcases Nat.lt_or_ge 1 (tr v).length with c | c
    · exfalso
      rw [e, co_big (show [(1 : Rat)].length ≤ _ by simp; omega)] at t1
      rcases Rat.mul_eq_zero.1 t1.symm with k | k
      · exact n1 k
      · exact n2 k
    · omega
  rw [hlen] at n2
  refine ⟨co (tr v) 0, n2, fun x => ?_⟩
  rw [← evl_ext (co_tr v) x]
  match tr v, hlen with
  | [k], _ => rw [evl_one]; rfl
theorem above (rs : List Rat) : ∃ a : Rat, ∀ x, a ≤ x → x ∉ rs := by
  induction rs with
  | nil => exact ⟨0, fun x _ h => by cases h⟩
  | cons r rs ih =>
    obtain ⟨a, h⟩ := ih
    rcases Std.le_total (a := a) (b := r + 1) with c | c
    · exact ⟨r + 1, fun x hx hm => by
        rcases List.mem_cons.1 hm with e | e
        · grind
        · exact h x (by grind) e⟩
    · exact ⟨a, fun x hx hm => by
        rcases List.mem_cons.1 hm with e | e
        · grind
        · exact h x hx e⟩
theorem pd_top : ∀ (rs : List Rat), co (pdL rs) rs.length = 1 ∧ Dg (co (pdL rs)) (rs.length + 1) := by
  intro rs
  induction rs with
  | nil => exact ⟨rfl, fun i hi => co_big hi⟩
  | cons r rs ih =>
    obtain ⟨h1, h2⟩ := ih
    have e : co (pdL (r :: rs)) = mu (co [-r, 1]) (co (pdL rs)) := co_muT _ _
    have d : Dg (co [-r, 1]) (1 + 1) := co_dg [-r, 1]
    refine ⟨?_, fun i hi => ?_⟩
    · have := mu_top d h2
      rw [e, List.length_cons, Nat.add_comm, this, h1]
      show (1 : Rat) * 1 = 1
      grind
    · rw [e]
      exact mu_dg' d h2 i (by rw [List.length_cons] at hi; omega)
theorem free_of {c : Rat} (hc : c ≠ 0) {rs ms P : List Rat} (hn : rs.Nodup) (hm : ∀ s ∈ ms, s ∈ rs) (hP : Ca P) (hv : ∀ x, evl P x = c * (wV x * pdV rs x) * pdV ms x) :
    (∀ x, evl (dvQ P (gcT P (dT P))) x = c * (wV x * pdV rs x)) ∧ dvR P (gcT P (dT P)) = [] ∧ ∀ x, evl (gcT P (dT P)) x = pdV ms x := by
  obtain ⟨F, K, h1, h2, h3⟩ := slope_of (c := c) ms hm
  have hcop := cop_n hc hn h2 h3
  have e1 : ∀ x, evl P x = evl (muT (nL c rs) (pdL ms)) x := fun x => by rw [hv x, evl_mu, evl_n, evl_pd]
  have e2 : ∀ x, evl (dT P) x = pdV ms x * evl F x := fun x => by rw [dT_of e1, h1]
  have hD : Ca (dT P) := dT_ca P
  have hP0 : P ≠ [] := fun h0 => by
    obtain ⟨a, ha⟩ := above (rs ++ ms)
    have := hv a
    rw [h0, evl_nil] at this
    have n1 := ha a Rat.le_refl
    rw [List.mem_append, not_or] at n1
    have hw := wV_pos a
    rcases Rat.mul_eq_zero.1 this.symm with k | k
    · rcases Rat.mul_eq_zero.1 k with k | k
      · exact hc k
      · rcases Rat.mul_eq_zero.1 k with k | k
        · grind
        · exact n1.1 (pdV_zero.1 k)
    · exact n1.2 (pdV_zero.1 k)
  obtain ⟨d1, d2⟩ := gcF_dv ((dT P).length + 1) hP hD (by omega)
  have d3 := gcF_of (c := co (pdL ms)) ((dT P).length + 1) hP hD (Dv.of_val (t := nL c rs) fun x => by rw [e1 x, evl_mu]) (Dv.of_val (t := F) fun x => by rw [e2 x, evl_pd]; grind)
  have cg := gcF_ca ((dT P).length + 1) hP hD
  unfold gcT
  generalize gcF ((dT P).length + 1) P (dT P) = g at *
  have hg0 : g ≠ [] := fun h0 => by
    obtain ⟨t, ht⟩ := d1.val
    exact hP0 (ca_zero hP (co_zero_of P fun x => by rw [ht x, h0, evl_nil]; grind))
  obtain ⟨a, ha⟩ := d1.val
  obtain ⟨b, hb⟩ := d2.val
  obtain ⟨v, hvv⟩ := d3.val
  obtain ⟨s, t, hst⟩ := hcop
  obtain ⟨z, hz⟩ := above ms
  have hG : ∀ x, pdV ms x = evl (addT (muT s a) (muT t b)) x * evl g x := fun x => by
    have h5 := hst x
    have h6 := ha x
    have h7 := hb x
    rw [e2 x] at h7
    rw [e1 x, evl_mu, evl_pd] at h6
    rw [evl_add, evl_mu, evl_mu]
    have : pdV ms x * (evl (nL c rs) x * evl s x + evl F x * evl t x) = pdV ms x := by rw [h5]; grind
    grind
  have hu : ∀ x, evl (addT (muT s a) (muT t b)) x * evl v x = 1 := fun x => by
    have := evl_eq_ge (F := muT (addT (muT s a) (muT t b)) v) (G := [1]) (a := z) (fun y hy => by
      have h5 := hG y
      have h6 := hvv y
      rw [evl_pd] at h6
      rw [evl_mu, evl_one]
      have hne : pdV ms y ≠ 0 := fun h0 => hz y hy (pdV_zero.1 h0)
      rw [h6] at h5
      have h7 : pdV ms y * (1 - evl (addT (muT s a) (muT t b)) y * evl v y) = 0 := by grind
      rcases Rat.mul_eq_zero.1 h7 with k | k
      · exact absurd k hne
      · grind) x
    rw [evl_mu, evl_one] at this
    exact this
  obtain ⟨k, hk, hkv⟩ := unit_const hu
  have ht := ca_top cg hg0
  have co1 := moT_co hg0
  have cM := moT_ca g
  have hM0 : moT g ≠ [] := fun h => by have ln := moT_len cg; rw [h] at ln; exact hg0 (List.length_eq_zero_iff.1 ln.symm)
  have hinv : (co g (g.length - 1))⁻¹ ≠ 0 := fun h => by have := Rat.mul_inv_cancel _ ht; rw [h] at this; simp at this
  have e3 : co (moT g) = fun i => (co g (g.length - 1))⁻¹ * co g i := by rw [co1]; funext i; exact Rat.mul_comm _ _
  have d4 : Dv (co (moT g)) (co P) := by rw [e3]; exact d1.of_sc hinv
  have hR0 := dvR_zero hP cM hM0 d4
  have hm1 : (co g (g.length - 1))⁻¹ * co g (g.length - 1) = 1 := Rat.inv_mul_cancel _ ht
  generalize (co g (g.length - 1))⁻¹ = m at *
  have eM : ∀ x, evl (moT g) x = m * evl g x := fun x => by
    rw [evl_ext (m := scT g m) (fun i => by rw [e3, co_scT]; grind) x, evl_sc]
  have hmk0 : m * k ≠ 0 := fun h => by rcases Rat.mul_eq_zero.1 h with e | e; exact hinv e; exact hk e
  have eG : ∀ x, evl (moT g) x = m * k * pdV ms x := fun x => by rw [eM, hvv x, hkv x, evl_pd]; grind
  have hmk : m * k = 1 := by
    have ec : co (moT g) = co (scT (pdL ms) (m * k)) := co_of_evl fun x => by rw [eG, evl_sc, evl_pd]
    rw [co_scT] at ec
    obtain ⟨t1, t2⟩ := pd_top ms
    have top : co (moT g) (g.length - 1) = 1 := by rw [e3]; show m * co g (g.length - 1) = 1; exact hm1
    have ln := moT_len cg
    have a1 : ms.length ≤ g.length - 1 := by
      rcases Nat.lt_or_ge (g.length - 1) ms.length with c1 | c1
      · exfalso
        have h1 := co_big (l := moT g) (i := ms.length) (by omega)
        rw [ec] at h1
        have h2 : co (pdL ms) ms.length * (m * k) = 0 := h1
        rw [t1] at h2
        exact hmk0 (by grind)
      · exact c1
    have a2 : g.length - 1 ≤ ms.length := by
      rcases Nat.lt_or_ge ms.length (g.length - 1) with c1 | c1
      · exfalso
        rw [ec] at top
        have h2 : co (pdL ms) (g.length - 1) * (m * k) = 1 := top
        rw [t2 _ (by omega)] at h2
        grind
      · exact c1
    rw [ec, show g.length - 1 = ms.length by omega] at top
    have h2 : co (pdL ms) ms.length * (m * k) = 1 := top
    rw [t1] at h2
    grind
  have eG1 : ∀ x, evl (moT g) x = pdV ms x := fun x => by rw [eG, hmk]; grind
  refine ⟨fun x => ?_, hR0, eG1⟩
  have := evl_eq_ge (F := dvQ P (moT g)) (G := scT (muT wL (pdL rs)) c) (a := z) (fun y hy => by
    have h5 := dv_val (p := P) cM hM0 y
    rw [hR0, evl_nil, eG1 y, hv y] at h5
    have hne : pdV ms y ≠ 0 := fun h0 => hz y hy (pdV_zero.1 h0)
    rw [evl_sc, evl_mu, evl_w, evl_pd]
    have h7 : pdV ms y * (evl (dvQ P (moT g)) y - c * (wV y * pdV rs y)) = 0 := by grind
    rcases Rat.mul_eq_zero.1 h7 with e | e
    · exact absurd e hne
    · grind) x
  rw [evl_sc, evl_mu, evl_w, evl_pd] at this
  exact this
theorem roots_of {c : Rat} (hc : c ≠ 0) {rs ms P : List Rat} (hn : rs.Nodup) (hm : ∀ s ∈ ms, s ∈ rs) (hP : Ca P) (hv : ∀ x, evl P x = c * (wV x * pdV rs x) * pdV ms x) {x y : Rat} (hxy : x ≤ y) :
    (tnS (chT (dvQ P (gcT P (dT P)))) x (chT (dvQ P (gcT P (dT P)))).length).1 - (tnS (chT (dvQ P (gcT P (dT P)))) y (chT (dvQ P (gcT P (dT P)))).length).1 = (cnt rs x y : Int) := by
  obtain ⟨hq, _⟩ := free_of hc hn hm hP hv
  have hk := hc
  generalize c = k at hk hq
  have cQ := dvQ_ca P (gcT P (dT P))
  generalize dvQ P (gcT P (dT P)) = Q at *
  have hR : 0 ≤ ab x + ab y := by have := ab_nn x; have := ab_nn y; grind
  have hcop : Cop Q (dT Q) := by
    obtain ⟨F, K, h1, h2, h3⟩ := slope_of (c := k) (rs := rs) [] (fun s hs => by cases hs)
    have e1 : ∀ x, evl (nL k rs) x = evl Q x := fun x => by rw [hq x, evl_n]
    have e2 : ∀ x, evl F x = evl (dT Q) x := fun x => by
      have := h1 x
      rw [pdV] at this
      have e3 : ∀ x, evl (muT (nL k rs) (pdL [])) x = evl Q x := fun x => by rw [evl_mu, evl_pd, pdV, e1]; grind
      rw [dT_of e3] at this
      grind
    exact ((cop_n hk hn h2 h3).of e1).symm.of e2 |>.symm
  have hQ0 : Q ≠ [] := fun h0 => by
    obtain ⟨a, ha⟩ := above rs
    have := hq a
    rw [h0, evl_nil] at this
    have hw := wV_pos a
    rcases Rat.mul_eq_zero.1 this.symm with e | e
    · exact hk e
    · rcases Rat.mul_eq_zero.1 e with e | e
      · grind
      · exact ha a Rat.le_refl (pdV_zero.1 e)
  have hD0 : dT Q ≠ [] := fun h0 => by
    obtain ⟨s, t, h⟩ := hcop
    have h1 : ∀ x, evl s x * evl Q x = 1 := fun x => by have := h x; rw [h0, evl_nil] at this; grind
    obtain ⟨m, _, hm⟩ := unit_const h1
    have h2 : ∀ x, k * (wV x * pdV rs x) = m := fun x => by rw [← hq x, hm x]
    obtain ⟨a, ha⟩ := above rs
    -- the polynomial grows
    have h3 := co_of_evl (F := Q) (G := [m]) fun x => by rw [hm x, evl_one]
    have h4 := co_of_evl (F := muT [k] (muT wL (pdL rs))) (G := [m]) fun x => by rw [evl_mu, evl_mu, evl_one, evl_one, evl_w, evl_pd, h2 x]
    have h5 : ∃ n, co (muT wL (pdL rs)) (2 + n) ≠ 0 := by
      have hp0 : tr (pdL rs) ≠ [] := fun h0 => by
        have := evl_pd rs a
        rw [← evl_ext (co_tr _) a, h0, evl_nil] at this
        exact ha a Rat.le_refl (pdV_zero.1 this.symm)
      have lp := List.length_pos_iff.2 hp0
      have t1 := mu_top (f := co wL) (g := co (tr (pdL rs))) (a := 2) (b := (tr (pdL rs)).length - 1) (co_dg wL) (by rw [Nat.sub_add_cancel (by omega)]; exact co_dg _)
      refine ⟨(tr (pdL rs)).length - 1, ?_⟩
      rw [co_muT, ← co_tr' (pdL rs), t1]
      intro h0
      rcases Rat.mul_eq_zero.1 h0 with e | e
      · exact absurd e (by decide +kernel)
      · exact ca_top (ca_tr _) hp0 e
    obtain ⟨n, h5⟩ := h5
    have h6 := congrFun h4 (2 + n)
    rw [co_big (l := [m]) (by simp; omega), show co (muT [k] (muT wL (pdL rs))) (2 + n) = k * co (muT wL (pdL rs)) (2 + n) by
      have : co (muT [k] (muT wL (pdL rs))) = co (scT (muT wL (pdL rs)) k) := co_of_evl fun x => by rw [evl_mu, evl_one, evl_sc]
      rw [this, co_scT]; exact Rat.mul_comm _ _] at h6
    rcases Rat.mul_eq_zero.1 h6 with e | e
    · exact hk e
    · exact h5 e
  have hlen := dT_len Q
  have lQ := List.length_pos_iff.2 hQ0
  have hap := hcop.apt hR
  have hch := ch_of hR Q.length cQ (dT_ca Q) hD0 (by omega) hap
  have hct : chT Q = Q :: chF Q.length Q (dT Q) := by unfold chT; rw [if_neg hQ0]
  have hvr : ∀ u, (tnS (chT Q) u (chT Q).length).1 = vr ((chT Q).map evl) u := fun u => by
    rw [tnS_tf _ _ _ (Nat.le_refl _), List.take_length]
    unfold vr
    rw [List.map_map]
    rfl
  rw [hvr, hvr, hct, List.map_cons]
  have hm1 : ∃ m, Q.length = m + 1 := ⟨Q.length - 1, by omega⟩
  obtain ⟨m, hm1⟩ := hm1
  rw [hm1] at hch ⊢
  rw [chF_cons hD0] at hch ⊢
  rw [List.map_cons] at hch ⊢
  refine sturm hch (evl_lip hR Q) (evl_lip hR _) hap (evl_tay hR Q) hn (fun u => ?_) (fun u v huv hr => ?_) (by have := ab_nn y; grind) (by have := ab_nn x; grind) hxy
  · rw [hq u]
    have hw := wV_pos u
    constructor
    · intro h0
      rcases Rat.mul_eq_zero.1 h0 with e | e
      · exact absurd e hk
      · rcases Rat.mul_eq_zero.1 e with e | e
        · grind
        · exact pdV_zero.1 e
    · intro h0; rw [pdV_zero.2 h0]; grind
  · rw [hq u, hq v]
    refine sg_same ?_
    have h1 := pdV_sg huv hr
    have w1 := wV_pos u
    have w2 := wV_pos v
    have h2 : 0 < k * k := by
      by_cases c : 0 < k
      · exact Rat.mul_pos c c
      · have := Rat.mul_pos (show 0 < -k by grind) (show 0 < -k by grind)
        grind
    have h3 := Rat.mul_pos (Rat.mul_pos (show 0 < wV u by grind) (show 0 < wV v by grind)) h1
    have h4 := Rat.mul_pos h2 h3
    grind
end Go.Pe
set_option linter.unusedSimpArgs false
set_option linter.unusedVariables false
open Go
namespace Go.Pe
theorem mu_lin (r : Rat) (f : Fn) (j : Nat) : mu (co [-r, 1]) f j = -r * f j + (if j = 0 then 0 else f (j - 1)) := by
  cases j with
  | zero => rw [mu_zero, if_pos rfl]; show -r * f 0 = _; grind
  | succ j =>
    have e : sh (co [-r, 1]) = fun k => if k = 0 then (1 : Rat) else 0 := by
      funext k
      cases k with
      | zero => rfl
      | succ k => show co [-r, 1] (k + 2) = _; rw [co_big (by simp), if_neg (by omega)]
    rw [mu_succ, e, mu_one, if_pos (Nat.zero_le _), if_neg (by omega)]
    show -r * f (j + 1) + 1 * f (j - 0) = _
    rw [Nat.sub_zero, Nat.add_sub_cancel]
    grind
theorem szF_lin {f : Fn} {k : Nat} (h : SzF f k) {r : Rat} (hr : sq r ≤ 2) : SzF (mu f (co [-r, 1])) (k + 3) := by
  obtain ⟨e, he, hL, hn⟩ := h
  have hd := num_den r
  have d0 : ((r.den : Int)) ≠ 0 := by have := r.den_pos; omega
  have l1 := sq_num r
  have l2 := sq_den r
  have l3 : L ((r.den : Int)).natAbs ≤ 2 := by rw [Int.natAbs_natCast]; omega
  refine ⟨e * r.den, fun h0 => ?_, ?_, fun j => ?_⟩
  · rcases Int.mul_eq_zero.1 h0 with h1 | h1
    · exact he h1
    · exact d0 h1
  · have := L_imul e r.den
    omega
  · obtain ⟨m, hm1, hm2⟩ := hn j
    obtain ⟨m', hm1', hm2'⟩ : ∃ m' : Int, L m'.natAbs ≤ k ∧ (if j = 0 then 0 else f (j - 1)) * (e : Rat) = (m' : Rat) := by
      by_cases hj : j = 0
      · exact ⟨0, by rw [show (0 : Int).natAbs = 0 from rfl, show L 0 = 0 by unfold L; rw [D_zero]; rfl]; exact Nat.zero_le _, by rw [if_pos hj]; show (0 : Rat) * _ = 0; grind⟩
      · obtain ⟨m', h1, h2⟩ := hn (j - 1)
        exact ⟨m', h1, by rw [if_neg hj]; exact h2⟩
    refine ⟨r.den * m' - r.num * m, ?_, ?_⟩
    · have a1 := L_imul r.den m'
      have a2 := L_imul r.num m
      exact Nat.le_trans (L_isub _ _ (k := k + 2) (by omega) (by omega)) (by omega)
    · rw [mu_comm, mu_lin, Rat.intCast_mul, Rat.intCast_sub, Rat.intCast_mul, Rat.intCast_mul, ← hm2, ← hm2', ← hd]
      grind
theorem szF_dT {l : List Rat} {k : Nat} (h : SzF (co l) k) (hl : l.length < 4294967296) : SzF (co (dT l)) (k + 1) := by
  obtain ⟨e, he, hL, hn⟩ := h
  refine ⟨e, he, by omega, fun i => ?_⟩
  rw [co_dT]
  by_cases c : i + 1 < l.length
  · obtain ⟨m, h1, h2⟩ := hn (i + 1)
    refine ⟨m * ((i + 1 : Nat) : Int), ?_, ?_⟩
    · have a1 := L_imul m ((i + 1 : Nat) : Int)
      have a2 : L (((i + 1 : Nat) : Int)).natAbs ≤ 1 := by rw [Int.natAbs_natCast]; exact L_le (by omega)
      omega
    · show co l (i + 1) * (((i + 1 : Nat) : Int) : Rat) * (e : Rat) = _
      rw [Rat.intCast_mul, ← h2]
      grind
  · refine ⟨0, by rw [show (0 : Int).natAbs = 0 from rfl, show L 0 = 0 by unfold L; rw [D_zero]; rfl]; exact Nat.zero_le _, ?_⟩
    show co l (i + 1) * (((i + 1 : Nat) : Int) : Rat) * (e : Rat) = 0
    rw [co_big (by omega)]; grind
theorem szF_w (c : Rat) (hc : sq c ≤ 2) : SzF (co (scT wL c)) 4 := by
  have hd := num_den c
  have d0 : ((c.den : Int)) ≠ 0 := by have := c.den_pos; omega
  have l1 := sq_num c
  have l2 := sq_den c
  refine ⟨c.den, d0, by rw [Int.natAbs_natCast]; omega, fun i => ?_⟩
  have key : ∀ n : Int, n.natAbs ≤ 3 → co wL i = (n : Rat) → ∃ m : Int, L m.natAbs ≤ 4 ∧ co (scT wL c) i * ((c.den : Int) : Rat) = (m : Rat) := by
    intro n hn hco
    refine ⟨n * c.num, ?_, ?_⟩
    · have a1 := L_imul n c.num
      have a2 : L n.natAbs ≤ 1 := L_le (by omega)
      omega
    · rw [co_scT]
      show co wL i * c * ((c.den : Int) : Rat) = _
      rw [hco, Rat.intCast_mul, ← hd]
      grind
  match i with
  | 0 => exact key 1 (by decide) rfl
  | 1 => exact key 0 (by decide) rfl
  | 2 => exact key 3 (by decide) rfl
  | i + 3 => exact key 0 (by decide) (co_big (by simp [wL]))
theorem scT_one {l : List Rat} (h : Ca l) : scT l 1 = l := ca_ext (ca_tk _ _) h fun i => by rw [co_scT]; show co l i * 1 = _; grind
theorem wL_ca : Ca wL := .inr (by decide +kernel)
def pA (R : Nat → Rat) (tw : Int) (c : Rat) : Nat → List Rat
  | 0 => scT wL c
  | i + 1 => if (i : Int) = tw then muT (muT (pA R tw c i) [-R i, 1]) [-R i, 1] else muT (pA R tw c i) [-R i, 1]
def mcN (tw : Int) (i : Nat) : Nat := i + if 0 ≤ tw ∧ tw < i then 1 else 0
theorem mcN_succ (tw : Int) (i : Nat) : mcN tw (i + 1) = mcN tw i + if (i : Int) = tw then 2 else 1 := by
  unfold mcN
  by_cases h : (i : Int) = tw
  · rw [if_pos h, if_pos (by omega), if_neg (by omega)]
  · rw [if_neg h]
    by_cases h2 : 0 ≤ tw ∧ tw < i
    · rw [if_pos (by omega), if_pos h2]
    · rw [if_neg (by omega), if_neg h2]
theorem mcN_le (tw : Int) (i : Nat) : mcN tw i ≤ i + 1 := by unfold mcN; split <;> omega
theorem mulin_len (A : List Rat) (r : Rat) : (muT A [-r, 1]).length ≤ A.length + 1 := Nat.le_trans (tk_le _ _) (by simp)
theorem pA_ok {R : Nat → Rat} (hR : ∀ i, sq (R i) ≤ 2) {c : Rat} (hc : sq c ≤ 2) (tw : Int) : ∀ i, SzF (co (pA R tw c i)) (4 + 3 * mcN tw i) ∧ (pA R tw c i).length ≤ 3 + mcN tw i ∧ Ca (pA R tw c i) := by
  intro i
  induction i with
  | zero => exact ⟨(szF_w c hc).mono (by omega), Nat.le_trans (tk_le _ _) (by show 3 ≤ _; omega), ca_tk _ _⟩
  | succ i ih =>
    obtain ⟨h1, h2, _⟩ := ih
    have l1 := mulin_len (pA R tw c i) (R i)
    have l2 := mulin_len (muT (pA R tw c i) [-R i, 1]) (R i)
    have s1 : SzF (co (muT (pA R tw c i) [-R i, 1])) (4 + 3 * mcN tw i + 3) := by rw [co_muT]; exact szF_lin h1 (hR i)
    have s2 : SzF (co (muT (muT (pA R tw c i) [-R i, 1]) [-R i, 1])) (4 + 3 * mcN tw i + 3 + 3) := by rw [co_muT]; exact szF_lin s1 (hR i)
    rw [pA, mcN_succ]
    split
    · exact ⟨s2.mono (by omega), by omega, ca_tk _ _⟩
    · exact ⟨s1.mono (by omega), by omega, ca_tk _ _⟩
def rsL (R : Nat → Rat) : Nat → List Rat
  | 0 => []
  | i + 1 => if R i ∈ rsL R i then rsL R i else R i :: rsL R i
def msL (R : Nat → Rat) (tw : Int) : Nat → List Rat
  | 0 => []
  | i + 1 => (if (i : Int) = tw then [R i] else []) ++ ((if R i ∈ rsL R i then [R i] else []) ++ msL R tw i)
theorem rsL_mem {R : Nat → Rat} {x : Rat} : ∀ {i : Nat}, x ∈ rsL R i ↔ ∃ k, k < i ∧ R k = x := by
  intro i
  induction i with
  | zero => simp [rsL]
  | succ i ih =>
    rw [rsL]
    constructor
    · intro h
      split at h
      · obtain ⟨k, h1, h2⟩ := ih.1 h; exact ⟨k, by omega, h2⟩
      · rcases List.mem_cons.1 h with h | h
        · exact ⟨i, by omega, h.symm⟩
        · obtain ⟨k, h1, h2⟩ := ih.1 h; exact ⟨k, by omega, h2⟩
    · rintro ⟨k, h1, h2⟩
      by_cases hk : k = i
      · subst hk
        split
        · rename_i h; rw [← h2]; exact h
        · rw [← h2]; exact List.mem_cons_self
      · have := ih.2 ⟨k, by omega, h2⟩
        split
        · exact this
        · exact List.mem_cons_of_mem _ this
theorem rsL_nodup (R : Nat → Rat) : ∀ i, (rsL R i).Nodup := by
  intro i
  induction i with
  | zero => exact List.nodup_nil
  | succ i ih =>
    rw [rsL]
    split
    · exact ih
    · rename_i h; exact List.nodup_cons.2 ⟨h, ih⟩
theorem rsL_mono {R : Nat → Rat} {i : Nat} {x : Rat} (h : x ∈ rsL R i) : x ∈ rsL R (i + 1) := by
  obtain ⟨k, h1, h2⟩ := rsL_mem.1 h
  exact rsL_mem.2 ⟨k, by omega, h2⟩
theorem msL_sub {R : Nat → Rat} {tw : Int} : ∀ {i : Nat}, ∀ s ∈ msL R tw i, s ∈ rsL R i := by
  intro i
  induction i with
  | zero => intro s hs; cases hs
  | succ i ih =>
    intro s hs
    have hi : R i ∈ rsL R (i + 1) := rsL_mem.2 ⟨i, by omega, rfl⟩
    rw [msL, List.mem_append, List.mem_append] at hs
    rcases hs with h | h | h
    · split at h
      · rw [List.mem_singleton.1 h]; exact hi
      · cases h
    · split at h
      · rw [List.mem_singleton.1 h]; exact hi
      · cases h
    · exact rsL_mono (ih s h)
theorem pdV_append (l m : List Rat) (x : Rat) : pdV (l ++ m) x = pdV l x * pdV m x := by
  induction l with
  | nil => rw [List.nil_append, pdV]; grind
  | cons r l ih => rw [List.cons_append, pdV, pdV, ih]; grind
theorem pA_val (R : Nat → Rat) (tw : Int) (c : Rat) (x : Rat) : ∀ i, evl (pA R tw c i) x = c * (wV x * pdV (rsL R i) x) * pdV (msL R tw i) x := by
  intro i
  induction i with
  | zero => rw [pA, evl_sc, evl_w, rsL, msL, pdV]; grind
  | succ i ih =>
    have e1 : evl (pA R tw c (i + 1)) x = evl (pA R tw c i) x * (x - R i) * (if (i : Int) = tw then (x - R i) else 1) := by
      rw [pA]
      split
      · rw [evl_mu, evl_mu, evl_two]; grind
      · rw [evl_mu, evl_two]; grind
    have e2 : pdV (rsL R (i + 1)) x * pdV (if R i ∈ rsL R i then [R i] else []) x = pdV (rsL R i) x * (x - R i) := by
      rw [rsL]
      split
      · rw [pdV, pdV]; grind
      · rw [pdV, pdV]; grind
    have e3 : pdV (if (i : Int) = tw then [R i] else []) x = (if (i : Int) = tw then (x - R i) else 1) := by
      split
      · rw [pdV, pdV]; grind
      · rfl
    rw [e1, ih, msL, pdV_append, pdV_append, e3]
    generalize pdV (if R i ∈ rsL R i then [R i] else []) x = A at *
    generalize pdV (rsL R (i + 1)) x = B at *
    generalize (if (i : Int) = tw then (x - R i) else 1) = C at *
    grind
def cN (R : Nat → Rat) (a b : Rat) (i : Nat) : Nat := cnt (rsL R i) a b
theorem cN_succ (R : Nat → Rat) (a b : Rat) (i : Nat) : cN R a b (i + 1) = cN R a b i + if R i ∉ rsL R i ∧ a < R i ∧ R i ≤ b then 1 else 0 := by
  unfold cN
  rw [rsL]
  by_cases h : R i ∈ rsL R i
  · rw [if_pos h, if_neg (fun k => k.1 h)]; omega
  · rw [if_neg h]
    unfold cnt
    rw [List.filter_cons]
    by_cases h2 : a < R i ∧ R i ≤ b
    · rw [if_pos (by simpa using h2), if_pos ⟨h, h2⟩]; rfl
    · rw [if_neg (by simpa using h2), if_neg (fun k => h2 k.2)]; omega
def snF (R : Nat → Rat) (i : Nat) : Nat → Bool
  | 0 => false
  | k + 1 => snF R i k || decide (R k = R i)
theorem snF_spec (R : Nat → Rat) (i : Nat) : ∀ k, snF R i k = true ↔ ∃ j, j < k ∧ R j = R i := by
  intro k
  induction k with
  | zero => simp [snF]
  | succ k ih =>
    rw [snF, Bool.or_eq_true, ih, decide_eq_true_eq]
    constructor
    · rintro (⟨j, h1, h2⟩ | h)
      · exact ⟨j, by omega, h2⟩
      · exact ⟨k, by omega, h⟩
    · rintro ⟨j, h1, h2⟩
      by_cases h : j = k
      · subst h; exact .inr h2
      · exact .inl ⟨j, by omega, h2⟩
theorem snF_mem (R : Nat → Rat) (i : Nat) : snF R i i = true ↔ R i ∈ rsL R i := by rw [snF_spec, rsL_mem]
end Go.Pe
set_option linter.unusedSimpArgs false
set_option linter.unusedVariables false
open Go
namespace Go.Pe
theorem chF_sz {K : Nat} : ∀ (n : Nat) {p q : List Rat}, ChZ p q n K → ∀ l ∈ chF n p q, SzF (co l) K ∧ l.length ≤ n := by
  intro n
  induction n with
  | zero => intro p q _ l hl; cases hl
  | succ n ih =>
    intro p q hz l hl
    unfold chF at hl
    split at hl
    · cases hl
    · rename_i h0
      rcases List.mem_cons.1 hl with h | h
      · rw [h]; exact ⟨hz.bnd.2, hz.ln⟩
      · obtain ⟨h1, h2⟩ := ih (hz.next h0).1 l h
        exact ⟨h1, by omega⟩
theorem pdL_sz : ∀ (ms : List Rat), (∀ r ∈ ms, sq r ≤ 2) → SzF (co (pdL ms)) (1 + 3 * ms.length) := by
  intro ms
  induction ms with
  | nil =>
    intro _
    have l1 : L (1 : Int).natAbs ≤ 1 + 3 * ([] : List Rat).length := Nat.le_trans (L_le (k := 1) (by decide)) (by simp)
    have l0 : L (0 : Int).natAbs ≤ 1 + 3 * ([] : List Rat).length := Nat.le_trans (L_le (k := 1) (by decide)) (by simp)
    refine ⟨1, by decide, l1, fun i => ?_⟩
    cases i with
    | zero => exact ⟨1, l1, by show (1 : Rat) * 1 = 1; decide +kernel⟩
    | succ i => exact ⟨0, l0, by show co [1] (i + 1) * 1 = 0; rw [co_big (by simp)]; grind⟩
  | cons r ms ih =>
    intro h
    rw [pdL, co_muT, mu_comm']
    exact (szF_lin (ih fun s hs => h s (List.mem_cons_of_mem _ hs)) (h r List.mem_cons_self)).mono (by rw [List.length_cons]; omega)
def qL (c : Rat) : List Rat → List Rat
  | [] => scT wL c
  | r :: rs => muT (qL c rs) [-r, 1]
theorem qL_ok {c : Rat} (hc : sq c ≤ 2) : ∀ (rs : List Rat), (∀ r ∈ rs, sq r ≤ 2) → SzF (co (qL c rs)) (4 + 3 * rs.length) ∧ (qL c rs).length ≤ 3 + rs.length ∧ ∀ x, evl (qL c rs) x = c * (wV x * pdV rs x) := by
  intro rs
  induction rs with
  | nil => intro _; exact ⟨(szF_w c hc).mono (by omega), tk_le _ _, fun x => by rw [qL, evl_sc, evl_w, pdV]; grind⟩
  | cons r rs ih =>
    intro h
    obtain ⟨h1, h2, h3⟩ := ih fun s hs => h s (List.mem_cons_of_mem _ hs)
    have l1 := mulin_len (qL c rs) r
    refine ⟨?_, by rw [qL, List.length_cons]; omega, fun x => ?_⟩
    · rw [qL, co_muT]
      exact (szF_lin h1 (h r List.mem_cons_self)).mono (by rw [List.length_cons]; omega)
    · rw [qL, evl_mu, evl_two, h3, pdV]; grind
theorem msL_len (R : Nat → Rat) (tw : Int) : ∀ i, (msL R tw i).length ≤ 2 * i := by
  intro i
  induction i with
  | zero => exact Nat.le_refl _
  | succ i ih =>
    rw [msL, List.length_append, List.length_append]
    have h1 : (if (i : Int) = tw then [R i] else []).length ≤ 1 := by split <;> simp
    have h2 : (if R i ∈ rsL R i then [R i] else []).length ≤ 1 := by split <;> simp
    omega
theorem rsL_len (R : Nat → Rat) : ∀ i, (rsL R i).length ≤ i := by
  intro i
  induction i with
  | zero => exact Nat.le_refl _
  | succ i ih => rw [rsL]; split <;> (try rw [List.length_cons]) <;> omega
theorem wPos {c x : Rat} {rs ms : List Rat} (hc : c ≠ 0) (h1 : x ∉ rs) (h2 : x ∉ ms) : c * (wV x * pdV rs x) * pdV ms x ≠ 0 := by
  intro h
  have hw := wV_pos x
  rcases Rat.mul_eq_zero.1 h with k | k
  · rcases Rat.mul_eq_zero.1 k with k | k
    · exact hc k
    · rcases Rat.mul_eq_zero.1 k with k | k
      · grind
      · exact h1 (pdV_zero.1 k)
  · exact h2 (pdV_zero.1 k)
theorem roots_r {A rs ms : List Rat} {c : Rat} {x y : RQt} (hc : c ≠ 0) (hsc : sq c ≤ 2) (hn : rs.Nodup) (hm : ∀ s ∈ ms, s ∈ rs) (hs : ∀ s ∈ rs, sq s ≤ 2) (hA : Ca A) (hv : ∀ x, evl A x = c * (wV x * pdV rs x) * pdV ms x) (zA : SzF (co A) 22) (lA : A.length ≤ 9) (lr : rs.length ≤ 5) (lm : ms.length ≤ 10)
    (hx : Sm x.2.1 x.2.2 2) (hy : Sm y.2.1 y.2.2 2) : R FF 165 [(AV.l 3 (List.map eQ (List.map rQ A))), (AV.agg [AV.b x.1, (AV.l 1 (List.map u x.2.1)), (AV.l 1 (List.map u x.2.2))]), (AV.agg [AV.b y.1, (AV.l 1 (List.map u y.2.1)), (AV.l 1 (List.map u y.2.2))])] = some (if vQ y < vQ x then .tup [(AV.i .i64 0), (AV.i .i64 8)] else .tup [(AV.i .i64 ((cnt rs (vQ x) (vQ y) : Int))), (AV.i .i64 0)]) := by
  have hA0 : A ≠ [] := fun h0 => by
    obtain ⟨a, ha⟩ := above (rs ++ ms)
    have := ha a Rat.le_refl
    rw [List.mem_append, not_or] at this
    refine wPos (rs := rs) (ms := ms) hc this.1 this.2 ?_
    rw [← hv a, h0, evl_nil]
  have k1 := pclean_r (p := A.map rQ) (k := 22) (by omega) (by omega) (by rw [List.length_map]; omega) zA.sq.sm
  have k2 := qcmp_s (q := x.1) (r := y.1) hx hy (by omega) (by omega)
  rw [show qv x.1 x.2.1 x.2.2 = vQ x from rfl, show qv y.1 y.2.1 y.2.2 = vQ y from rfl] at k2
  rw [vsQ_r, tr_ca hA] at k1
  have c1 : ¬ (A.length : Int) = 0 := by have := List.length_pos_iff.2 hA0; omega
  by_cases hxy : vQ y < vQ x
  · have c2 : 0 < qcmp (vQ x) (vQ y) := qcmp_gt.2 hxy
    rw [if_pos hxy]
    generalize qcmp (vQ x) (vQ y) = qc at *
    rw [R_go FF F165 c165.eq_1]
    simp only [RB, un, St.none, Nat.reduceEqDiff, Nat.reduceAdd, Nat.reduceMul, Nat.reduceMod, Nat.reduceLeDiff, Nat.reduceLT, Int.reduceLT, Int.reduceLE, Int.reduceEq, Int.reduceToNat, Int.reduceSub, Int.reduceNeg, Int.reduceAdd, ↓reduceIte, reduceCtorEq, ite_self, eq_self, if_true, if_false, pack, pid, parN, List.not_mem_nil, List.mem_cons, lid, chkK, apartV, List.map_nil, List.flatMap_nil, List.append_nil, List.nil_append, List.drop_zero, List.length_set, List.length_replicate, List.length_append, List.take_length, List.take_zero, List.drop_length, Option.isNone_none, Heap.none, k1, List.length_map, c1, k2, c2]
  · rw [if_neg hxy]
    have c2 : ¬ 0 < qcmp (vQ x) (vQ y) := fun h => hxy (qcmp_gt.1 h)
    generalize qcmp (vQ x) (vQ y) = qc at *
    have cD := dT_ca A
    have lD := dT_len A
    have zD : SzF (co (dT A)) 23 := szF_dT zA (by omega)
    have zA3 : SzF (co A) 23 := zA.mono (by omega)
    have k3 := pderive_r (p := A.map rQ) (k := 22) (by omega) (by omega) (by rw [List.length_map]; omega) zA.sq.sm
    rw [vsQ_r] at k3
    have hK : (23 + 1) * 2 ^ (A.length + (dT A).length) ≤ 10000000 := by
      have h1 : 2 ^ (A.length + (dT A).length) ≤ 2 ^ 17 := Nat.pow_le_pow_right (by omega) (by omega)
      have := Nat.mul_le_mul_left (23 + 1) h1
      omega
    have k4 := pgcd_r (a := A.map rQ) (b := (dT A).map rQ) (k := 23) (by omega) (by omega) (by rw [List.length_map]; omega) (by rw [List.length_map]; omega) zA3.sq.sm zD.sq.sm (by rw [vsQ_r, tr_ca hA]; exact zA3) (by rw [vsQ_r, tr_ca cD]; exact zD) (by rw [vsQ_r, tr_ca hA, vsQ_r, tr_ca cD]; exact hK)
    rw [vsQ_r, vsQ_r, tr_ca hA, tr_ca cD] at k4
    obtain ⟨hq, hr, hg⟩ := free_of hc hn hm hA hv
    have hroots := roots_of hc hn hm hA hv (x := vQ x) (y := vQ y) (by grind)
    have cG : Ca (gcT A (dT A)) := moT_ca _
    have eG : co (gcT A (dT A)) = co (pdL ms) := co_of_evl fun x => by rw [hg, evl_pd]
    have zG : SzF (co (gcT A (dT A))) 40 := by rw [eG]; exact (pdL_sz ms fun s h => hs s (hm s h)).mono (by omega)
    have lG : (gcT A (dT A)).length ≤ 11 := ca_len cG (by rw [eG]; exact fun i hi => (pd_top ms).2 i (by omega))
    have hG0 : gcT A (dT A) ≠ [] := fun h0 => by
      have := (pd_top ms).1
      rw [← eG, h0] at this
      have h2 : (0 : Rat) = 1 := this
      exact absurd h2 (by decide)
    have zA4 : SzF (co A) 40 := zA.mono (by omega)
    generalize gcT A (dT A) = G at *
    have k5 := pdm_r (a := A.map rQ) (b := G.map rQ) (k := 40) (by omega) (by omega) (by rw [List.length_map]; omega) (by rw [List.length_map]; omega) zA4.sq.sm zG.sq.sm (by rw [vsQ_r, tr_ca hA]; exact zA4) (by rw [vsQ_r, tr_ca cG]; exact zG) (by rw [vsQ_r, tr_ca cG]; exact hG0)
    rw [vsQ_r, vsQ_r, tr_ca hA, tr_ca cG] at k5
    obtain ⟨z1, z2, z3⟩ := qL_ok hsc rs hs
    have cQ := dvQ_ca A G
    have eQ' : co (dvQ A G) = co (qL c rs) := co_of_evl fun x => by rw [hq, z3]
    have zQ : SzF (co (dvQ A G)) 20 := by rw [eQ']; exact z1.mono (by omega)
    have lQ : (dvQ A G).length ≤ 8 := ca_len cQ (by rw [eQ']; exact fun i hi => co_dg _ i (by omega))
    have hQ0 : dvQ A G ≠ [] := fun h0 => by
      obtain ⟨a, ha⟩ := above rs
      have h1 := hq a
      rw [h0, evl_nil] at h1
      refine wPos (rs := rs) (ms := []) hc (ha a Rat.le_refl) (by simp) ?_
      rw [pdV, ← h1]; grind
    generalize dvQ A G = Q at *
    have lDQ := dT_len Q
    have lQ1 := List.length_pos_iff.2 hQ0
    have hz : ChZ Q (dT Q) Q.length 1000000 := ⟨cQ, dT_ca Q, by omega, by omega, by omega, 21, zQ.mono (by omega), szF_dT zQ (by omega), by
      have h1 : 2 ^ (Q.length + (dT Q).length) ≤ 2 ^ 15 := Nat.pow_le_pow_right (by omega) (by omega)
      have := Nat.mul_le_mul_left (21 + 1) h1
      omega⟩
    have k6 := pchain_r (p := Q.map rQ) (k := 20) (K := 1000000) (by omega) (by omega) (by rw [List.length_map]; omega) zQ.sq.sm (by rw [vsQ_r, tr_ca cQ]; exact hQ0) (by rw [vsQ_r, tr_ca cQ]; exact hz) (by omega)
    rw [vsQ_r, tr_ca cQ] at k6
    have hct : chT Q = Q :: chF Q.length Q (dT Q) := by unfold chT; rw [if_neg hQ0]
    have zC : SzL (chT Q) 1000000 9 := by
      intro l hl
      rw [hct] at hl
      rcases List.mem_cons.1 hl with h | h
      · rw [h]; exact ⟨SzE.mono zQ.sq (by omega), by omega⟩
      · obtain ⟨h1, h2⟩ := chF_sz _ hz l h
        exact ⟨h1.sq, by omega⟩
    have chl : ∀ n (p q : List Rat), (chF n p q).length ≤ n := by
      intro n
      induction n with
      | zero => intro p q; exact Nat.le_refl _
      | succ n ih =>
        intro p q
        unfold chF
        split
        · exact Nat.zero_le _
        · rw [List.length_cons]; have := ih q (scT (dvR p q) (-1)); omega
    have lC : (chT Q).length ≤ 9 := by
      rw [hct, List.length_cons]
      have := chl Q.length Q (dT Q)
      omega
    have k7 := pturns_r (x := x) (k := 1000000) (n := 9) (by omega) (by omega) (by omega) zC (Sm.mono hx (by omega)) (by omega)
    have k8 := pturns_r (x := y) (k := 1000000) (n := 9) (by omega) (by omega) (by omega) zC (Sm.mono hy (by omega)) (by omega)
    have lcnt : cnt rs (vQ x) (vQ y) ≤ 5 := Nat.le_trans (List.length_filter_le _ _) lr
    have e1 : IntKind.i64.wrap ((tnS (chT Q) (vQ x) (chT Q).length).1 - (tnS (chT Q) (vQ y) (chT Q).length).1) = (cnt rs (vQ x) (vQ y) : Int) := by rw [hroots, w64 (by omega) (by omega)]
    simp only [eQ] at k7 k8
    generalize List.map eL (chT Q) = CC at *
    generalize (tnS (chT Q) (vQ x) (chT Q).length).1 = t1 at *
    generalize (tnS (chT Q) (vQ y) (chT Q).length).1 = t2 at *
    generalize dvR A G = RR at *
    generalize dT A = DA at *
    rw [R_go FF F165 c165.eq_1]
    simp only [RB, un, St.none, Nat.reduceEqDiff, Nat.reduceAdd, Nat.reduceMul, Nat.reduceMod, Nat.reduceLeDiff, Nat.reduceLT, Int.reduceLT, Int.reduceLE, Int.reduceEq, Int.reduceToNat, Int.reduceSub, Int.reduceNeg, Int.reduceAdd, ↓reduceIte, reduceCtorEq, ite_self, eq_self, if_true, if_false, pack, pid, parN, List.not_mem_nil, List.mem_cons, lid, chkK, apartV, List.map_nil, List.flatMap_nil, List.append_nil, List.nil_append, List.drop_zero, List.length_set, List.length_replicate, List.length_append, List.take_length, List.take_zero, List.drop_length, Option.isNone_none, Heap.none, k1, List.length_map, c1, k2, c2, k3, k4, k5, k6, k7, k8, e1]
theorem roots_nil {x y : RQt} : R FF 165 [.l 3 [], (AV.agg [AV.b x.1, (AV.l 1 (List.map u x.2.1)), (AV.l 1 (List.map u x.2.2))]), (AV.agg [AV.b y.1, (AV.l 1 (List.map u y.2.1)), (AV.l 1 (List.map u y.2.2))])] = some (.tup [(AV.i .i64 0), (AV.i .i64 2)]) := by
  have k1 := pclean_r (p := []) (k := 1) (by omega) (by omega) (by simp) (fun x hx => by cases hx)
  rw [show tr (vsQ []) = [] from rfl, List.map_nil, List.map_nil, List.map_nil] at k1
  rw [R_go FF F165 c165.eq_1]
  simp only [RB, un, St.none, Nat.reduceEqDiff, Nat.reduceAdd, Nat.reduceMul, Nat.reduceMod, Nat.reduceLeDiff, Nat.reduceLT, Int.reduceLT, Int.reduceLE, Int.reduceEq, Int.reduceToNat, Int.reduceSub, Int.reduceNeg, Int.reduceAdd, ↓reduceIte, reduceCtorEq, ite_self, eq_self, if_true, if_false, pack, pid, parN, List.not_mem_nil, List.mem_cons, lid, chkK, apartV, List.map_nil, List.flatMap_nil, List.append_nil, List.nil_append, List.drop_zero, List.length_set, List.length_replicate, List.length_append, List.take_length, List.take_zero, List.drop_length, Option.isNone_none, Heap.none, k1, List.length_nil]
end Go.Pe
set_option linter.unusedSimpArgs false
set_option linter.unusedVariables false
open Go
namespace Go.Pe
def vR (l : List RQt) (i : Nat) : Rat := vQ (l.getD i dQ)
theorem seen_l1 {l : List RQt} {tw : Int} {fr to : RQt} {A : List Rat} {ct : Int} {i : Nat} (hs : SmL l 2) (hl : l.length ≤ 5) (hi : i < l.length) : ∀ (d k : Nat), k + d = i →
    LP FF [(0, 0), (1, 0), (7, 0), (8, 0), (11, 0), (12, 0), (13, 0), (15, 0), (16, 0)] [(0, 0), (1, 0), (7, 0), (8, 0), (11, 0), (12, 0), (13, 0), (15, 0)] b142_1 [.l 3 (l.map eQ), (AV.i .i64 tw), .tp (eQ fr) 0, .tp (eQ to) 0, (AV.l 3 (List.map eQ (List.map rQ A))), (AV.i .i64 ct), (AV.i .i64 ((i : Int))), .b (snF (vR l) i k), (AV.i .i64 ((k : Int)))] =
      some (.exit 2, [.l 3 (l.map eQ), (AV.i .i64 tw), .tp (eQ fr) 0, .tp (eQ to) 0, (AV.l 3 (List.map eQ (List.map rQ A))), (AV.i .i64 ct), (AV.i .i64 ((i : Int))), .b (snF (vR l) i i)]) := by
  intro d
  induction d with
  | zero =>
    intro k hk
    obtain rfl : k = i := by omega
    have c1 : ¬ (k : Int) < (k : Int) := by omega
    generalize snF (vR l) k k = b at *
    rw [LP_go FF b142_1.eq_1]
    simp only [RB, un, St.none, Nat.reduceEqDiff, Nat.reduceAdd, Nat.reduceMul, Nat.reduceMod, Nat.reduceLeDiff, Nat.reduceLT, Int.reduceLT, Int.reduceLE, Int.reduceEq, Int.reduceToNat, Int.reduceSub, Int.reduceNeg, Int.reduceAdd, ↓reduceIte, reduceCtorEq, ite_self, eq_self, if_true, if_false, pack, pid, parN, List.not_mem_nil, List.mem_cons, lid, chkK, apartV, List.map_nil, List.flatMap_nil, List.append_nil, List.nil_append, List.drop_zero, List.length_set, List.length_replicate, List.length_append, List.take_length, List.take_zero, List.drop_length, Option.isNone_none, Heap.none, c1, eQ_rules]
  | succ d ih =>
    intro k hk
    have h9 := ih (k + 1) (by omega)
    have c1 : (k : Int) < (i : Int) := by omega
    have c2 : k < l.length := by omega
    have c3 : (k : Int) < (l.length : Int) := by omega
    have c4 : (i : Int) < (l.length : Int) := by omega
    have e1 : IntKind.i64.wrap ((k : Int) + 1) = ((k + 1 : Nat) : Int) := w64succ (by omega)
    have sx := hs _ (getD_mem' dQ c2)
    have sy := hs _ (getD_mem' dQ hi)
    have v1 : vQ (l.getD k dQ) = vR l k := rfl
    have v2 : vQ (l.getD i dQ) = vR l i := rfl
    rw [snF] at h9
    generalize hX : l.getD k dQ = X at *
    generalize hY : l.getD i dQ = Y at *
    have g1 : R FF 57 [(AV.agg [AV.b X.1, (AV.l 1 (List.map u X.2.1)), (AV.l 1 (List.map u X.2.2))]), (AV.agg [AV.b Y.1, (AV.l 1 (List.map u Y.2.1)), (AV.l 1 (List.map u Y.2.2))])] = some (.b (decide (vQ X = vQ Y))) := qsame_s sx sy (by omega) (by omega)
    rw [v1, v2] at g1
    generalize decide (vR l k = vR l i) = q at *
    generalize snF (vR l) i k = b at *
    generalize snF (vR l) i i = b2 at *
    cases b
    · rw [LP_go FF b142_1.eq_1]
      simp only [RB, un, St.none, Nat.reduceEqDiff, Nat.reduceAdd, Nat.reduceMul, Nat.reduceMod, Nat.reduceLeDiff, Nat.reduceLT, Int.reduceLT, Int.reduceLE, Int.reduceEq, Int.reduceToNat, Int.reduceSub, Int.reduceNeg, Int.reduceAdd, ↓reduceIte, reduceCtorEq, ite_self, eq_self, if_true, if_false, pack, pid, parN, List.not_mem_nil, List.mem_cons, lid, chkK, apartV, List.map_nil, List.flatMap_nil, List.append_nil, List.nil_append, List.drop_zero, List.length_set, List.length_replicate, List.length_append, List.take_length, List.take_zero, List.drop_length, Option.isNone_none, Heap.none, c1, c2, c3, c4, hi, e1, eQ_rules, eQ_row, Int.natCast_nonneg, hX, hY, g1]
      exact h9
    · rw [LP_go FF b142_1.eq_1]
      simp only [RB, un, St.none, Nat.reduceEqDiff, Nat.reduceAdd, Nat.reduceMul, Nat.reduceMod, Nat.reduceLeDiff, Nat.reduceLT, Int.reduceLT, Int.reduceLE, Int.reduceEq, Int.reduceToNat, Int.reduceSub, Int.reduceNeg, Int.reduceAdd, ↓reduceIte, reduceCtorEq, ite_self, eq_self, if_true, if_false, pack, pid, parN, List.not_mem_nil, List.mem_cons, lid, chkK, apartV, List.map_nil, List.flatMap_nil, List.append_nil, List.nil_append, List.drop_zero, List.length_set, List.length_replicate, List.length_append, List.take_length, List.take_zero, List.drop_length, Option.isNone_none, Heap.none, c1, c2, c3, c4, hi, e1, eQ_rules, eQ_row, Int.natCast_nonneg, hX, hY, g1]
      exact h9
theorem roots_l0 {l : List RQt} {tw : Int} {fr to : RQt} {c : Rat} (hc : sq c ≤ 2) (hs : SmL l 2) (hl : l.length ≤ 5) (hfr : Sm fr.2.1 fr.2.2 2) (hto : Sm to.2.1 to.2.2 2) : ∀ (d i : Nat), i + d = l.length →
    LP FF [(0, 0), (1, 0), (7, 0), (8, 0), (11, 0), (12, 0), (13, 0)] [(7, 0), (8, 0), (11, 0), (12, 0)] b142_0 [.l 3 (l.map eQ), (AV.i .i64 tw), .tp (eQ fr) 0, .tp (eQ to) 0, (AV.l 3 (List.map eQ (List.map rQ (pA (vR l) tw c i)))), (AV.i .i64 ((cN (vR l) (vQ fr) (vQ to) i : Int))), (AV.i .i64 ((i : Int)))] =
      some (.exit 0, [.tp (eQ fr) 0, .tp (eQ to) 0, (AV.l 3 (List.map eQ (List.map rQ (pA (vR l) tw c l.length)))), (AV.i .i64 ((cN (vR l) (vQ fr) (vQ to) l.length : Int)))]) := by
  have hR : ∀ i, sq (vR l i) ≤ 2 := fun i => by
    unfold vR
    by_cases h : i < l.length
    · exact Sm.sq (hs _ (getD_mem' dQ h)) (by omega)
    · rw [List.getD_eq_getElem?_getD, List.getElem?_eq_none (by omega)]
      exact Nat.le_trans (Sm.sq (q := false) (l := []) (d := []) (k := 1) ⟨⟨fun _ h => (List.not_mem_nil h).elim, Nat.zero_le _⟩, fun _ h => (List.not_mem_nil h).elim, Nat.zero_le _⟩ (by omega)) (by omega)
  intro d
  induction d with
  | zero =>
    intro i hi
    obtain rfl : i = l.length := by omega
    have c1 : ¬ (l.length : Int) < (l.length : Int) := by omega
    generalize pA (vR l) tw c l.length = A at *
    generalize cN (vR l) (vQ fr) (vQ to) l.length = n at *
    rw [LP_go FF b142_0.eq_1]
    simp only [RB, un, St.none, Nat.reduceEqDiff, Nat.reduceAdd, Nat.reduceMul, Nat.reduceMod, Nat.reduceLeDiff, Nat.reduceLT, Int.reduceLT, Int.reduceLE, Int.reduceEq, Int.reduceToNat, Int.reduceSub, Int.reduceNeg, Int.reduceAdd, ↓reduceIte, reduceCtorEq, ite_self, eq_self, if_true, if_false, pack, pid, parN, List.not_mem_nil, List.mem_cons, lid, chkK, apartV, List.map_nil, List.flatMap_nil, List.append_nil, List.nil_append, List.drop_zero, List.length_set, List.length_replicate, List.length_append, List.take_length, List.take_zero, List.drop_length, Option.isNone_none, Heap.none, c1, eQ_rules]
  | succ d ih =>
    intro i hi
    have h9 := ih (i + 1) (by omega)
    have c1 : i < l.length := by omega
    have c2 : (i : Int) < (l.length : Int) := by omega
    have e1 : IntKind.i64.wrap ((i : Int) + 1) = ((i + 1 : Nat) : Int) := w64succ (by omega)
    have s1 : ∀ A : List Rat, _ := fun A => seen_l1 (tw := tw) (fr := fr) (to := to) (A := A) (ct := (cN (vR l) (vQ fr) (vQ to) i : Int)) hs hl c1 i 0 (by omega)
    simp only [show snF (vR l) i 0 = false from rfl, Int.ofNat_zero] at s1
    obtain ⟨z1, z2, z3⟩ := pA_ok hR hc tw i
    have hmc := mcN_le tw i
    have lcn : cN (vR l) (vQ fr) (vQ to) i ≤ i := Nat.le_trans (List.length_filter_le _ _) (rsL_len _ i)
    have e2 : IntKind.i64.wrap ((cN (vR l) (vQ fr) (vQ to) i : Int) + 1) = ((cN (vR l) (vQ fr) (vQ to) i : Int) + 1) := w64 (by omega) (by omega)
    rw [cN_succ] at h9
    have zl : SzE (co [-vR l i, 1]) 100 := SzE.two (by omega) (by rw [sq_neg]; have := hR i; omega) (Nat.le_trans sq_one (by omega))
    have zA : SzF (co (pA (vR l) tw c i)) 100 := z1.mono (by omega)
    have m1 := pmul_r (a := (pA (vR l) tw c i).map rQ) (b := ([-vR l i, 1] : List Rat).map rQ) (k := 100) (n := 20) (by omega) (by omega) (by rw [List.length_map]; omega) (by omega) (by simp) zA.sq.sm zl.sm (by omega)
    rw [vsQ_r, vsQ_r] at m1
    have zB : SzF (co (muT (pA (vR l) tw c i) [-vR l i, 1])) 100 := by rw [co_muT]; exact (szF_lin z1 (hR i)).mono (by omega)
    have lB := mulin_len (pA (vR l) tw c i) (vR l i)
    have m2 := pmul_r (a := (muT (pA (vR l) tw c i) [-vR l i, 1]).map rQ) (b := ([-vR l i, 1] : List Rat).map rQ) (k := 100) (n := 20) (by omega) (by omega) (by rw [List.length_map]; omega) (by omega) (by simp) zB.sq.sm zl.sm (by omega)
    rw [vsQ_r, vsQ_r] at m2
    have hsn := snF_mem (vR l) i
    have sx := hs _ (getD_mem' dQ c1)
    have v1 : vQ (l.getD i dQ) = vR l i := rfl
    rw [pA] at h9
    generalize hX : l.getD i dQ = X at *
    have g0 : R FF 96 [(AV.agg [AV.b X.1, (AV.l 1 (List.map u X.2.1)), (AV.l 1 (List.map u X.2.2))])] = some (AV.agg [AV.b (ng (Rat.num ((-vQ X)))), (AV.l 1 (List.map u (D (Int.natAbs (Rat.num ((-vQ X))))))), (AV.l 1 (List.map u (D (Rat.den ((-vQ X))))))]) := qneg_c sx.1.1 (by have := sx.1.2; omega) sx.2.1 (by have := sx.2.2; omega)
    have g1 := qone_c
    have g2 : R FF 14 [(AV.agg [AV.b X.1, (AV.l 1 (List.map u X.2.1)), (AV.l 1 (List.map u X.2.2))]), (AV.agg [AV.b fr.1, (AV.l 1 (List.map u fr.2.1)), (AV.l 1 (List.map u fr.2.2))])] = some (AV.i .i64 (qcmp (vQ X) (vQ fr))) := qcmp_s sx hfr (by omega) (by omega)
    have g3 : R FF 14 [(AV.agg [AV.b X.1, (AV.l 1 (List.map u X.2.1)), (AV.l 1 (List.map u X.2.2))]), (AV.agg [AV.b to.1, (AV.l 1 (List.map u to.2.1)), (AV.l 1 (List.map u to.2.2))])] = some (AV.i .i64 (qcmp (vQ X) (vQ to))) := qcmp_s sx hto (by omega) (by omega)
    rw [v1] at g0 g2 g3
    have q1 := @qcmp_gt (vR l i) (vQ fr)
    have q2 := @qcmp_le (vR l i) (vQ to)
    generalize qcmp (vR l i) (vQ fr) = qa at *
    generalize qcmp (vR l i) (vQ to) = qb at *
    generalize snF (vR l) i i = sn at *
    simp only [List.map_cons, List.map_nil, eQ, rQ] at m1 m2
    generalize cN (vR l) (vQ fr) (vQ to) i = n0 at *
    generalize cN (vR l) (vQ fr) (vQ to) l.length = n1 at *
    generalize pA (vR l) tw c l.length = A1 at *
    generalize muT (muT (pA (vR l) tw c i) [-vR l i, 1]) [-vR l i, 1] = A3 at *
    generalize muT (pA (vR l) tw c i) [-vR l i, 1] = A2 at *
    generalize pA (vR l) tw c i = A0 at *
    have both : ∀ (A : List Rat), (if sn = false ∧ 0 < qa ∧ qb ≤ 0 then n0 + 1 else n0) = (n0 + if vR l i ∉ rsL (vR l) i ∧ vQ fr < vR l i ∧ vR l i ≤ vQ to then 1 else 0) := fun _ => by
      by_cases h1 : sn = true
      · rw [if_neg (by rw [h1]; simp), if_neg (fun h => h.1 (hsn.1 h1))]; omega
      · have h1' : sn = false := by simpa using h1
        by_cases h2 : 0 < qa ∧ qb ≤ 0
        · rw [if_pos ⟨h1', h2⟩, if_pos ⟨fun h => h1 (hsn.2 h), q1.1 h2.1, q2.1 h2.2⟩]
        · rw [if_neg (fun h => h2 h.2), if_neg (fun h => h2 ⟨q1.2 h.2.1, q2.2 h.2.2⟩)]; omega
    rw [← both A0] at h9
    have e3 : (((if sn = false ∧ 0 < qa ∧ qb ≤ 0 then n0 + 1 else n0 : Nat)) : Int) = if sn = false ∧ 0 < qa ∧ qb ≤ 0 then (n0 : Int) + 1 else (n0 : Int) := by split <;> rfl
    rw [e3] at h9
    by_cases ht : (i : Int) = tw
    · rw [if_pos ht] at h9
      subst ht
      have s2 := s1 A3
      cases sn
      · by_cases h2 : 0 < qa
        · by_cases h3 : qb ≤ 0
          · rw [if_pos ⟨rfl, h2, h3⟩] at h9
            rw [LP_go FF b142_0.eq_1]
            simp only [RB, un, St.none, Nat.reduceEqDiff, Nat.reduceAdd, Nat.reduceMul, Nat.reduceMod, Nat.reduceLeDiff, Nat.reduceLT, Int.reduceLT, Int.reduceLE, Int.reduceEq, Int.reduceToNat, Int.reduceSub, Int.reduceNeg, Int.reduceAdd, ↓reduceIte, reduceCtorEq, ite_self, eq_self, if_true, if_false, pack, pid, parN, List.not_mem_nil, List.mem_cons, lid, chkK, apartV, List.map_nil, List.flatMap_nil, List.append_nil, List.nil_append, List.drop_zero, List.length_set, List.length_replicate, List.length_append, List.take_length, List.take_zero, List.drop_length, Option.isNone_none, Heap.none, c1, c2, e1, e2, h2, h3, eQ_rules, eQ_row, Int.natCast_nonneg, hX, g0, g1, m1, m2, s2, g2, g3, Row.freeze]
            exact h9
          · rw [if_neg (fun h => h3 h.2.2)] at h9
            rw [LP_go FF b142_0.eq_1]
            simp only [RB, un, St.none, Nat.reduceEqDiff, Nat.reduceAdd, Nat.reduceMul, Nat.reduceMod, Nat.reduceLeDiff, Nat.reduceLT, Int.reduceLT, Int.reduceLE, Int.reduceEq, Int.reduceToNat, Int.reduceSub, Int.reduceNeg, Int.reduceAdd, ↓reduceIte, reduceCtorEq, ite_self, eq_self, if_true, if_false, pack, pid, parN, List.not_mem_nil, List.mem_cons, lid, chkK, apartV, List.map_nil, List.flatMap_nil, List.append_nil, List.nil_append, List.drop_zero, List.length_set, List.length_replicate, List.length_append, List.take_length, List.take_zero, List.drop_length, Option.isNone_none, Heap.none, c1, c2, e1, e2, h2, h3, eQ_rules, eQ_row, Int.natCast_nonneg, hX, g0, g1, m1, m2, s2, g2, g3, Row.freeze]
            exact h9
        · rw [if_neg (fun h => h2 h.2.1)] at h9
          rw [LP_go FF b142_0.eq_1]
          simp only [RB, un, St.none, Nat.reduceEqDiff, Nat.reduceAdd, Nat.reduceMul, Nat.reduceMod, Nat.reduceLeDiff, Nat.reduceLT, Int.reduceLT, Int.reduceLE, Int.reduceEq, Int.reduceToNat, Int.reduceSub, Int.reduceNeg, Int.reduceAdd, ↓reduceIte, reduceCtorEq, ite_self, eq_self, if_true, if_false, pack, pid, parN, List.not_mem_nil, List.mem_cons, lid, chkK, apartV, List.map_nil, List.flatMap_nil, List.append_nil, List.nil_append, List.drop_zero, List.length_set, List.length_replicate, List.length_append, List.take_length, List.take_zero, List.drop_length, Option.isNone_none, Heap.none, c1, c2, e1, e2, h2, eQ_rules, eQ_row, Int.natCast_nonneg, hX, g0, g1, m1, m2, s2, g2, g3, Row.freeze]
          exact h9
      · rw [if_neg (fun h => by cases h.1)] at h9
        rw [LP_go FF b142_0.eq_1]
        simp only [RB, un, St.none, Nat.reduceEqDiff, Nat.reduceAdd, Nat.reduceMul, Nat.reduceMod, Nat.reduceLeDiff, Nat.reduceLT, Int.reduceLT, Int.reduceLE, Int.reduceEq, Int.reduceToNat, Int.reduceSub, Int.reduceNeg, Int.reduceAdd, ↓reduceIte, reduceCtorEq, ite_self, eq_self, if_true, if_false, pack, pid, parN, List.not_mem_nil, List.mem_cons, lid, chkK, apartV, List.map_nil, List.flatMap_nil, List.append_nil, List.nil_append, List.drop_zero, List.length_set, List.length_replicate, List.length_append, List.take_length, List.take_zero, List.drop_length, Option.isNone_none, Heap.none, c1, c2, e1, e2, eQ_rules, eQ_row, Int.natCast_nonneg, hX, g0, g1, m1, m2, s2, g2, g3, Row.freeze]
        exact h9
    · rw [if_neg ht] at h9
      have s2 := s1 A2
      cases sn
      · by_cases h2 : 0 < qa
        · by_cases h3 : qb ≤ 0
          · rw [if_pos ⟨rfl, h2, h3⟩] at h9
            rw [LP_go FF b142_0.eq_1]
            simp only [RB, un, St.none, Nat.reduceEqDiff, Nat.reduceAdd, Nat.reduceMul, Nat.reduceMod, Nat.reduceLeDiff, Nat.reduceLT, Int.reduceLT, Int.reduceLE, Int.reduceEq, Int.reduceToNat, Int.reduceSub, Int.reduceNeg, Int.reduceAdd, ↓reduceIte, reduceCtorEq, ite_self, eq_self, if_true, if_false, pack, pid, parN, List.not_mem_nil, List.mem_cons, lid, chkK, apartV, List.map_nil, List.flatMap_nil, List.append_nil, List.nil_append, List.drop_zero, List.length_set, List.length_replicate, List.length_append, List.take_length, List.take_zero, List.drop_length, Option.isNone_none, Heap.none, c1, c2, e1, e2, ht, h2, h3, eQ_rules, eQ_row, Int.natCast_nonneg, hX, g0, g1, m1, m2, s2, g2, g3, Row.freeze]
            exact h9
          · rw [if_neg (fun h => h3 h.2.2)] at h9
            rw [LP_go FF b142_0.eq_1]
            simp only [RB, un, St.none, Nat.reduceEqDiff, Nat.reduceAdd, Nat.reduceMul, Nat.reduceMod, Nat.reduceLeDiff, Nat.reduceLT, Int.reduceLT, Int.reduceLE, Int.reduceEq, Int.reduceToNat, Int.reduceSub, Int.reduceNeg, Int.reduceAdd, ↓reduceIte, reduceCtorEq, ite_self, eq_self, if_true, if_false, pack, pid, parN, List.not_mem_nil, List.mem_cons, lid, chkK, apartV, List.map_nil, List.flatMap_nil, List.append_nil, List.nil_append, List.drop_zero, List.length_set, List.length_replicate, List.length_append, List.take_length, List.take_zero, List.drop_length, Option.isNone_none, Heap.none, c1, c2, e1, e2, ht, h2, h3, eQ_rules, eQ_row, Int.natCast_nonneg, hX, g0, g1, m1, m2, s2, g2, g3, Row.freeze]
            exact h9
        · rw [if_neg (fun h => h2 h.2.1)] at h9
          rw [LP_go FF b142_0.eq_1]
          simp only [RB, un, St.none, Nat.reduceEqDiff, Nat.reduceAdd, Nat.reduceMul, Nat.reduceMod, Nat.reduceLeDiff, Nat.reduceLT, Int.reduceLT, Int.reduceLE, Int.reduceEq, Int.reduceToNat, Int.reduceSub, Int.reduceNeg, Int.reduceAdd, ↓reduceIte, reduceCtorEq, ite_self, eq_self, if_true, if_false, pack, pid, parN, List.not_mem_nil, List.mem_cons, lid, chkK, apartV, List.map_nil, List.flatMap_nil, List.append_nil, List.nil_append, List.drop_zero, List.length_set, List.length_replicate, List.length_append, List.take_length, List.take_zero, List.drop_length, Option.isNone_none, Heap.none, c1, c2, e1, e2, ht, h2, eQ_rules, eQ_row, Int.natCast_nonneg, hX, g0, g1, m1, m2, s2, g2, g3, Row.freeze]
          exact h9
      · rw [if_neg (fun h => by cases h.1)] at h9
        rw [LP_go FF b142_0.eq_1]
        simp only [RB, un, St.none, Nat.reduceEqDiff, Nat.reduceAdd, Nat.reduceMul, Nat.reduceMod, Nat.reduceLeDiff, Nat.reduceLT, Int.reduceLT, Int.reduceLE, Int.reduceEq, Int.reduceToNat, Int.reduceSub, Int.reduceNeg, Int.reduceAdd, ↓reduceIte, reduceCtorEq, ite_self, eq_self, if_true, if_false, pack, pid, parN, List.not_mem_nil, List.mem_cons, lid, chkK, apartV, List.map_nil, List.flatMap_nil, List.append_nil, List.nil_append, List.drop_zero, List.length_set, List.length_replicate, List.length_append, List.take_length, List.take_zero, List.drop_length, Option.isNone_none, Heap.none, c1, c2, e1, e2, ht, eQ_rules, eQ_row, Int.natCast_nonneg, hX, g0, g1, m1, m2, s2, g2, g3, Row.freeze]
        exact h9
end Go.Pe
set_option linter.unusedSimpArgs false
set_option linter.unusedVariables false
open Go
namespace Go.Pe
theorem rsL_sq {R : Nat → Rat} (hR : ∀ i, sq (R i) ≤ 2) {i : Nat} : ∀ s ∈ rsL R i, sq s ≤ 2 := fun s hs => by
  obtain ⟨k, _, rfl⟩ := rsL_mem.1 hs
  exact hR k
theorem law_PolyRoots (l : List RQt) (hl : l.length ≤ maxL ∧ ∀ x ∈ l, OkQ x) (tw : Int) (htw : -9223372036854775808 ≤ tw ∧ tw ≤ 9223372036854775807) (fr : RQt) (hfr : OkQ fr) (to : RQt) (hto : OkQ to) (by' : RQt) (hby : OkQ by') :
    R FF 142 [.l 3 (l.map eQ), (AV.i .i64 tw), .agg (eQ fr), .agg (eQ to), .agg (eQ by')] = some (.b true) := by
  have f1 := few04_c (n := 5) (by omega) hl.2 hl.1
  have f2 := number04_c (q := fr.1) hfr.1.2 hfr.2.2
  have f3 := number04_c (q := to.1) hto.1.2 hto.2.2
  have f4 := number04_c (q := by'.1) hby.1.2 hby.2.2
  have sl := fewQ_sm hl.2 5
  have ll : ((l.take 5).map t2Q).length ≤ 5 := by rw [List.length_map]; exact List.length_take_le _ _
  have sf : Sm (fr.2.1.take 2) (fr.2.2.take 2) 2 := Sm.take (k := maxL) hfr 2
  have st : Sm (to.2.1.take 2) (to.2.2.take 2) 2 := Sm.take (k := maxL) hto 2
  have sb : Sm (by'.2.1.take 2) (by'.2.2.take 2) 2 := Sm.take (k := maxL) hby 2
  rw [show (((5 : Nat) : Int)) = 5 from rfl] at f1
  generalize (l.take 5).map t2Q = l' at *
  obtain ⟨fr', rfr⟩ : ∃ x : RQt, x = (fr.1, fr.2.1.take 2, fr.2.2.take 2) := ⟨_, rfl⟩
  obtain ⟨to', rto⟩ : ∃ x : RQt, x = (to.1, to.2.1.take 2, to.2.2.take 2) := ⟨_, rfl⟩
  obtain ⟨b', rb⟩ : ∃ x : RQt, x = (by'.1, by'.2.1.take 2, by'.2.2.take 2) := ⟨_, rfl⟩
  have f2' : R FF 161 [(AV.agg [AV.b fr.1, (AV.l 1 (List.map u fr.2.1)), (AV.l 1 (List.map u fr.2.2))])] = some (AV.agg [AV.b (fr'.1), (AV.l 1 (List.map u ((fr'.2.1)))), (AV.l 1 (List.map u ((fr'.2.2))))]) := by rw [rfr]; exact f2
  have f3' : R FF 161 [(AV.agg [AV.b to.1, (AV.l 1 (List.map u to.2.1)), (AV.l 1 (List.map u to.2.2))])] = some (AV.agg [AV.b (to'.1), (AV.l 1 (List.map u ((to'.2.1)))), (AV.l 1 (List.map u ((to'.2.2))))]) := by rw [rto]; exact f3
  have f4' : R FF 161 [(AV.agg [AV.b (by'.1), (AV.l 1 (List.map u ((by'.2.1)))), (AV.l 1 (List.map u ((by'.2.2))))])] = some (AV.agg [AV.b (b'.1), (AV.l 1 (List.map u ((b'.2.1)))), (AV.l 1 (List.map u ((b'.2.2))))]) := by rw [rb]; exact f4
  have sf' : Sm fr'.2.1 fr'.2.2 2 := by rw [rfr]; exact sf
  have st' : Sm to'.2.1 to'.2.2 2 := by rw [rto]; exact st
  have sb' : Sm b'.2.1 b'.2.2 2 := by rw [rb]; exact sb
  clear rfr rto rb f2 f3 f4 sf st sb
  have aw := awake04
  have o1 : R FF 68 [(AV.i .i64 1)] = some (AV.agg [AV.b (ng (Rat.num ((1 : Rat)))), (AV.l 1 (List.map u (D (Int.natAbs (Rat.num ((1 : Rat))))))), (AV.l 1 (List.map u (D (Rat.den ((1 : Rat))))))]) := qof_c (n := 1) (by omega) (by omega)
  have o2 := qzero_c
  have o3 : R FF 68 [(AV.i .i64 3)] = some (AV.agg [AV.b (ng (Rat.num ((3 : Rat)))), (AV.l 1 (List.map u (D (Int.natAbs (Rat.num ((3 : Rat))))))), (AV.l 1 (List.map u (D (Rat.den ((3 : Rat))))))]) := qof_c (n := 3) (by omega) (by omega)
  have g1 : R FF 162 [(AV.agg [AV.b (b'.1), (AV.l 1 (List.map u ((b'.2.1)))), (AV.l 1 (List.map u ((b'.2.2))))])] = some (AV.i .i64 (cmp (vQ b').num 0)) := qsign_c (k := 2) (by omega) sb'
  have g2 := pscale_raw (p := wL.map rQ) (x := b') (k := 2) (by omega) (by omega) (by simp [wL]) (SzE.sm (szE_list (by omega) (by
    intro x hx
    simp only [wL, List.mem_cons, List.not_mem_nil, or_false] at hx
    rcases hx with rfl | rfl | rfl
    · exact Nat.le_trans sq_one (by omega)
    · exact Nat.le_trans sq_zero (by omega)
    · exact Nat.le_trans (sq_int 3 (by decide)) (by omega)))) sb'
  rw [vsQ_r] at g2
  have hR : ∀ i, sq (vR l' i) ≤ 2 := fun i => by
    unfold vR
    by_cases h : i < l'.length
    · exact Sm.sq (sl _ (getD_mem' dQ h)) (by omega)
    · rw [List.getD_eq_getElem?_getD, List.getElem?_eq_none (by omega)]
      exact Nat.le_trans (Sm.sq (q := false) (l := []) (d := []) (k := 1) ⟨⟨fun _ h => (List.not_mem_nil h).elim, Nat.zero_le _⟩, fun _ h => (List.not_mem_nil h).elim, Nat.zero_le _⟩ (by omega)) (by omega)
  obtain ⟨c, hc0, hc2, hc⟩ : ∃ c : Rat, c ≠ 0 ∧ sq c ≤ 2 ∧ (cmp (vQ b').num 0 = 0 ∧ c = 1 ∨ cmp (vQ b').num 0 ≠ 0 ∧ c = vQ b') := by
    by_cases h : cmp (vQ b').num 0 = 0
    · exact ⟨1, by decide, Nat.le_trans sq_one (by omega), .inl ⟨h, rfl⟩⟩
    · exact ⟨vQ b', fun h0 => h (sg_zero.2 h0), Sm.sq sb' (by omega), .inr ⟨h, rfl⟩⟩
  have l0 := roots_l0 (tw := tw) hc2 sl ll sf' st' l'.length 0 (by omega)
  rw [show cN (vR l') (vQ fr') (vQ to') 0 = 0 from rfl, show pA (vR l') tw c 0 = scT wL c from rfl, Int.ofNat_zero] at l0
  obtain ⟨z1, z2, z3⟩ := pA_ok hR hc2 tw l'.length
  have hmc := mcN_le tw l'.length
  have r1 := roots_r (A := pA (vR l') tw c l'.length) (rs := rsL (vR l') l'.length) (ms := msL (vR l') tw l'.length) (x := fr') (y := to') hc0 hc2 (rsL_nodup _ _) msL_sub (rsL_sq hR) z3 (fun x => pA_val _ _ _ x _) (z1.mono (by omega)) (by omega) (Nat.le_trans (rsL_len _ _) ll) (Nat.le_trans (msL_len _ _ _) (by omega)) sf' st'
  have r2 := roots_nil (x := fr') (y := to')
  have q1 : R FF 14 [(AV.agg [AV.b (fr'.1), (AV.l 1 (List.map u ((fr'.2.1)))), (AV.l 1 (List.map u ((fr'.2.2))))]), (AV.agg [AV.b (to'.1), (AV.l 1 (List.map u ((to'.2.1)))), (AV.l 1 (List.map u ((to'.2.2))))])] = some (AV.i .i64 (qcmp (vQ fr') (vQ to'))) := qcmp_s sf' st' (by omega) (by omega)
  have q2 := @qcmp_gt (vQ fr') (vQ to')
  rw [show cnt (rsL (vR l') l'.length) (vQ fr') (vQ to') = cN (vR l') (vQ fr') (vQ to') l'.length from rfl] at r1
  have w1 : scT wL 1 = wL := scT_one wL_ca
  have w2 : List.map eQ (List.map rQ wL) = [[AV.b (ng (1 : Rat).num), AV.l 1 (List.map u (D (1 : Rat).num.natAbs)), AV.l 1 (List.map u (D (1 : Rat).den))], [AV.b (ng (0 : Rat).num), AV.l 1 (List.map u (D (0 : Rat).num.natAbs)), AV.l 1 (List.map u (D (0 : Rat).den))], [AV.b (ng (3 : Rat).num), AV.l 1 (List.map u (D (3 : Rat).num.natAbs)), AV.l 1 (List.map u (D (3 : Rat).den))]] := rfl
  rw [w2] at g2
  generalize cN (vR l') (vQ fr') (vQ to') l'.length = n at *
  generalize pA (vR l') tw c l'.length = A at *
  generalize qcmp (vQ fr') (vQ to') = qc at *
  generalize cmp (vQ b').num 0 = sb at *
  simp only [eQ] at l0 g2 ⊢
  rcases hc with ⟨hs, hc⟩ | ⟨hs, hc⟩
  · rw [hc, w1] at l0
    rw [w2] at l0
    by_cases h : 0 < qc
    · rw [if_pos (q2.1 h)] at r1
      rw [R_go FF F142 c142.eq_1]
      simp only [RB, un, St.none, Nat.reduceEqDiff, Nat.reduceAdd, Nat.reduceMul, Nat.reduceMod, Nat.reduceLeDiff, Nat.reduceLT, Int.reduceLT, Int.reduceLE, Int.reduceEq, Int.reduceToNat, Int.reduceSub, Int.reduceNeg, Int.reduceAdd, ↓reduceIte, reduceCtorEq, ite_self, eq_self, if_true, if_false, pack, pid, parN, List.not_mem_nil, List.mem_cons, lid, chkK, apartV, List.map_nil, List.flatMap_nil, List.append_nil, List.nil_append, List.drop_zero, List.length_set, List.length_replicate, List.length_append, List.take_length, List.take_zero, List.drop_length, Option.isNone_none, Heap.none, f1, f2', f3', f4', o1, o2, o3, g1, hs, l0, r1, r2, q1, h, aw, decide_true]
    · rw [if_neg (fun k => h (q2.2 k))] at r1
      rw [R_go FF F142 c142.eq_1]
      simp only [RB, un, St.none, Nat.reduceEqDiff, Nat.reduceAdd, Nat.reduceMul, Nat.reduceMod, Nat.reduceLeDiff, Nat.reduceLT, Int.reduceLT, Int.reduceLE, Int.reduceEq, Int.reduceToNat, Int.reduceSub, Int.reduceNeg, Int.reduceAdd, ↓reduceIte, reduceCtorEq, ite_self, eq_self, if_true, if_false, pack, pid, parN, List.not_mem_nil, List.mem_cons, lid, chkK, apartV, List.map_nil, List.flatMap_nil, List.append_nil, List.nil_append, List.drop_zero, List.length_set, List.length_replicate, List.length_append, List.take_length, List.take_zero, List.drop_length, Option.isNone_none, Heap.none, f1, f2', f3', f4', o1, o2, o3, g1, hs, l0, r1, r2, q1, h, aw, decide_true]
  · rw [hc] at l0
    by_cases h : 0 < qc
    · rw [if_pos (q2.1 h)] at r1
      rw [R_go FF F142 c142.eq_1]
      simp only [RB, un, St.none, Nat.reduceEqDiff, Nat.reduceAdd, Nat.reduceMul, Nat.reduceMod, Nat.reduceLeDiff, Nat.reduceLT, Int.reduceLT, Int.reduceLE, Int.reduceEq, Int.reduceToNat, Int.reduceSub, Int.reduceNeg, Int.reduceAdd, ↓reduceIte, reduceCtorEq, ite_self, eq_self, if_true, if_false, pack, pid, parN, List.not_mem_nil, List.mem_cons, lid, chkK, apartV, List.map_nil, List.flatMap_nil, List.append_nil, List.nil_append, List.drop_zero, List.length_set, List.length_replicate, List.length_append, List.take_length, List.take_zero, List.drop_length, Option.isNone_none, Heap.none, f1, f2', f3', f4', o1, o2, o3, g1, g2, hs, l0, r1, r2, q1, h, aw, decide_true]
    · rw [if_neg (fun k => h (q2.2 k))] at r1
      rw [R_go FF F142 c142.eq_1]
      simp only [RB, un, St.none, Nat.reduceEqDiff, Nat.reduceAdd, Nat.reduceMul, Nat.reduceMod, Nat.reduceLeDiff, Nat.reduceLT, Int.reduceLT, Int.reduceLE, Int.reduceEq, Int.reduceToNat, Int.reduceSub, Int.reduceNeg, Int.reduceAdd, ↓reduceIte, reduceCtorEq, ite_self, eq_self, if_true, if_false, pack, pid, parN, List.not_mem_nil, List.mem_cons, lid, chkK, apartV, List.map_nil, List.flatMap_nil, List.append_nil, List.nil_append, List.drop_zero, List.length_set, List.length_replicate, List.length_append, List.take_length, List.take_zero, List.drop_length, Option.isNone_none, Heap.none, f1, f2', f3', f4', o1, o2, o3, g1, g2, hs, l0, r1, r2, q1, h, aw, decide_true]
end Go.Pe
set_option linter.unusedVariables false
set_option linter.unusedSimpArgs false
namespace Go.Pe
open Go
structure Pl where
  z : Nat
  n : Nat
  loc : Option (Nat × Nat)
abbrev Rho := Nat → Option Pl
def Rho.none : Rho := fun _ => .none
theorem add_at (b o n : Nat) : (⟨b, o, none⟩ : Addr).add n = ⟨b, o + n, none⟩ := by unfold Addr.add; split <;> simp_all
inductive Rv (w : World) (T : Nat → Prop) : Rho → AV → Value → Prop
  | junk {ρ v} : Rv w T ρ .junk v
  | b {ρ x} : Rv w T ρ (.b x) (.bool x)
  | i {ρ k n} : Rv w T ρ (.i k n) (.int k n)
  | s {ρ x} : Rv w T ρ (.s x) (.string x)
  | np {ρ} : Rv w T ρ .np (.pointer none)
  | ns {ρ z} : Rv w T ρ (.ns z) (.slice none 0 0)
  | lnil {ρ z a cap} (ha : a = none → cap = 0) (hm : cap ≤ maxLen) : Rv w T ρ (.l z []) (.slice a 0 cap)
  | l {ρ z es b base cap} (g : Nat → Nat → Value) (hT : ¬ T b) (hb : b < w.heap.size) (hc : es.length ≤ cap) (hm : cap ≤ maxLen) (hz : ∀ j, j < es.length → (es.getD j []).length = z)
      (hcell : ∀ j c, j < es.length → c < z → w.cell? ⟨b, base + j * z + c, none⟩ = some (g j c) ∧ (g j c).oneCell' = true)
      (hv : ∀ j c, j < es.length → c < z → Rv w T Rho.none ((es.getD j []).getD c .junk) (g j c)) : Rv w T ρ (.l z es) (.slice (some ⟨b, base, none⟩) es.length cap)
  | tp {ρ cs o b base} (g : Nat → Value) (hT : ¬ T b) (hb : b < w.heap.size)
      (hcell : ∀ c, c < cs.length → w.cell? ⟨b, base + c, none⟩ = some (g c) ∧ (g c).oneCell' = true)
      (hv : ∀ c, c < cs.length → Rv w T Rho.none (cs.getD c .junk) (g c)) : Rv w T ρ (.tp cs o) (.pointer (some ⟨b, base + o, none⟩))
  | sl {ρ r z o n m b base cap} (hr : ρ r = some ⟨z, m, some (b, base)⟩) (hn : o + n ≤ m) (hc : n ≤ cap) (hm : cap ≤ maxLen)
      (hs : ∃ cur e fr, w.heap[b]? = some (Obj.cells cur e fr) ∧ base + (o + cap) * z ≤ cur.size) : Rv w T ρ (.sl r z o n) (.slice (some ⟨b, base + o * z, none⟩) n cap)
  | slz {ρ r z o m b base off} (hr : ρ r = some ⟨z, m, some (b, base)⟩) (hn : o ≤ m) : Rv w T ρ (.sl r z o 0) (.slice (some ⟨b, off, none⟩) 0 0)
  | slnil {ρ r z} (hr : ρ r = some ⟨z, 0, none⟩) : Rv w T ρ (.sl r z 0 0) (.slice none 0 0)
  | p {ρ r e o z m b base} (hr : ρ r = some ⟨z, m, some (b, base)⟩) : Rv w T ρ (.p r e o) (.pointer (some ⟨b, base + e * z + o, none⟩))
  | agg {ρ cs} (vs : Array Value) (hl : vs.size = cs.length) (h1 : ∀ c, c < cs.length → (vs.getD c undef).oneCell' = true)
      (hv : ∀ c, c < cs.length → Rv w T ρ (cs.getD c .junk) (vs.getD c undef)) : Rv w T ρ (.agg cs) (.agg vs)
  | tup {ρ cs} (vs : Array Value) (hl : vs.size = cs.length) (hv : ∀ c, c < cs.length → Rv w T ρ (cs.getD c .junk) (vs.getD c undef)) : Rv w T ρ (.tup cs) (.tuple vs)
theorem Rv.lnil0 {w : World} {T : Nat → Prop} {ρ : Rho} {z : Nat} : Rv w T ρ (.l z []) (.slice none 0 0) := .lnil (fun _ => rfl) (Nat.zero_le _)
structure Same (T : Nat → Prop) (w w' : World) : Prop where
  size : w.heap.size ≤ w'.heap.size
  same : ∀ (b : Nat), b < w.heap.size → ¬ T b → w'.heap[b]? = w.heap[b]?
  shape : ∀ (b : Nat) cur e fr, w.heap[b]? = some (Obj.cells cur e fr) → ∃ cur', w'.heap[b]? = some (Obj.cells cur' e fr) ∧ cur'.size = cur.size
theorem Same.refl (T : Nat → Prop) (w : World) : Same T w w := ⟨Nat.le_refl _, fun _ _ _ => rfl, fun _ cur _ _ h => ⟨cur, h, rfl⟩⟩
theorem lt_of_cells {w : World} {b : Nat} {o : Obj} (h : w.heap[b]? = some o) : b < w.heap.size := (Array.getElem?_eq_some_iff.1 h).1
theorem Same.trans {T : Nat → Prop} {w w' w'' : World} (h : Same T w w') (k : Same T w' w'') : Same T w w'' := by
  refine ⟨Nat.le_trans h.size k.size, fun b hb ht => ?_, fun b cur e fr hb => ?_⟩
  · rw [k.same b (Nat.lt_of_lt_of_le hb h.size) ht, h.same b hb ht]
  · obtain ⟨c1, h1, s1⟩ := h.shape b cur e fr hb
    obtain ⟨c2, h2, s2⟩ := k.shape b c1 e fr h1
    exact ⟨c2, h2, s2.trans s1⟩
theorem Same.cell {T : Nat → Prop} {w w' : World} (h : Same T w w') {b o : Nat} (hb : b < w.heap.size) (ht : ¬ T b) : w'.cell? ⟨b, o, none⟩ = w.cell? ⟨b, o, none⟩ := by
  simp only [World.cell?, h.same b hb ht]
theorem Rv.mono {w w' : World} {T T' : Nat → Prop} (hk : Same T w w') (hT : ∀ b, b < w.heap.size → T' b → T b) {ρ : Rho} {av : AV} {v : Value} (h : Rv w T ρ av v) :
    ∀ {ρ' : Rho}, (∀ r p, ρ r = some p → ρ' r = some p) → Rv w' T' ρ' av v := by
  induction h with
  | junk => intro ρ' hρ; exact .junk
  | b => intro ρ' hρ; exact .b
  | i => intro ρ' hρ; exact .i
  | s => intro ρ' hρ; exact .s
  | np => intro ρ' hρ; exact .np
  | ns => intro ρ' hρ; exact .ns
  | lnil ha hm => intro ρ' hρ; exact .lnil ha hm
  | @l ρ z es b base cap g hTb hb hc hm hz hcell hv ih =>
    intro ρ' hρ
    refine .l g (fun h => hTb (hT b hb h)) (Nat.lt_of_lt_of_le hb hk.size) hc hm hz (fun j c hj hc => ?_) (fun j c hj hc => ih j c hj hc fun r p h => h)
    rw [hk.cell hb hTb]
    exact hcell j c hj hc
  | @tp ρ cs o b base g hTb hb hcell hv ih =>
    intro ρ' hρ
    refine .tp g (fun h => hTb (hT b hb h)) (Nat.lt_of_lt_of_le hb hk.size) (fun c hc => ?_) (fun c hc => ih c hc fun r p h => h)
    rw [hk.cell hb hTb]
    exact hcell c hc
  | sl hr hn hc hm hs =>
    intro ρ' hρ
    obtain ⟨cur, e, fr, h1, h2⟩ := hs
    obtain ⟨cur', h3, h4⟩ := hk.shape _ cur e fr h1
    exact .sl (hρ _ _ hr) hn hc hm ⟨cur', e, fr, h3, by rw [h4]; exact h2⟩
  | slz hr hn => intro ρ' hρ; exact .slz (hρ _ _ hr) hn
  | slnil hr => intro ρ' hρ; exact .slnil (hρ _ _ hr)
  | p hr => intro ρ' hρ; exact .p (hρ _ _ hr)
  | agg vs hl h1 hv ih => intro ρ' hρ; exact .agg vs hl h1 fun c hc => ih c hc hρ
  | tup vs hl hv ih => intro ρ' hρ; exact .tup vs hl fun c hc => ih c hc hρ
structure RowAt (w : World) (b base z : Nat) (es : List (List AV)) (R : AV → Value → Prop) : Prop where
  len : ∀ j, j < es.length → (es.getD j []).length = z
  cell : ∀ j c, j < es.length → c < z → ∃ v, w.cell? ⟨b, base + j * z + c, none⟩ = some v ∧ v.oneCell' = true ∧ R ((es.getD j []).getD c .junk) v
def RowOk (w : World) (T : Nat → Prop) (ρ : Rho) (r : Nat) : Row → Prop
  | .sl ap z es => (es = [] ∧ True ∧ ρ r = some ⟨z, 0, none⟩) ∨ ∃ b base cur e, ρ r = some ⟨z, es.length, some (b, base)⟩ ∧ T b ∧ w.heap[b]? = some (Obj.cells cur e (0, 0)) ∧ base + es.length * z ≤ cur.size ∧ (ap = true → base = 0) ∧ RowAt w b base z es (Rv w T Rho.none)
  | .st cs => ∃ b base cur e, ρ r = some ⟨cs.length, 1, some (b, base)⟩ ∧ T b ∧ w.heap[b]? = some (Obj.cells cur e (0, 0)) ∧ base + cs.length ≤ cur.size ∧ RowAt w b base cs.length [cs] (Rv w T ρ)
  | .fsl z es => (es = [] ∧ ρ r = some ⟨z, 0, none⟩) ∨ ∃ b base, ρ r = some ⟨z, es.length, some (b, base)⟩ ∧ ¬ T b ∧ b < w.heap.size ∧ RowAt w b base z es (Rv w T Rho.none)
  | .fst cs => ∃ b base, ρ r = some ⟨cs.length, 1, some (b, base)⟩ ∧ ¬ T b ∧ b < w.heap.size ∧ RowAt w b base cs.length [cs] (Rv w T ρ)
  | .dead => True
theorem RowAt.mono {w w' : World} {b base z : Nat} {es : List (List AV)} {R R' : AV → Value → Prop} (h : RowAt w b base z es R) (hc : ∀ o, w'.cell? ⟨b, o, none⟩ = w.cell? ⟨b, o, none⟩) (hR : ∀ av v, R av v → R' av v) : RowAt w' b base z es R' := by
  refine ⟨h.len, fun j c hj hc' => ?_⟩
  obtain ⟨v, h1, h2, h3⟩ := h.cell j c hj hc'
  exact ⟨v, by rw [hc]; exact h1, h2, hR _ _ h3⟩
end Go.Pe
