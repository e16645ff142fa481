/- Part 3 of the texts of PolyGcds: words, the machine's side of functions (written by a program), plain lemmas. -/
import Derived.Test.YtplbolhnmobmmaaDoorBPolyGcds2
import Derived.Below
import Derived.Deep.MidRow
import Derived.Laws.IdiomCopy
import Derived.Laws.AppendOwn
import Derived.Laws.MakeOwn
import Derived.Laws.Slices
import Derived.Great.BuildSlice
set_option linter.unusedVariables false
set_option linter.unusedSimpArgs false
set_option linter.unusedSimpArgs false
set_option linter.unusedVariables false
open Go
namespace Go.Pe
abbrev Fn := Nat → Rat
def sh (f : Fn) : Fn := fun i => f (i + 1)
def mu : Fn → Fn → Nat → Rat
  | f, g, 0 => f 0 * g 0
  | f, g, j + 1 => f 0 * g (j + 1) + mu (sh f) g j
theorem mu_zero (f g : Fn) : mu f g 0 = f 0 * g 0 := by rw [mu]
theorem mu_succ (f g : Fn) (j : Nat) : mu f g (j + 1) = f 0 * g (j + 1) + mu (sh f) g j := by rw [mu]
theorem mu_addl (f f' g : Fn) : ∀ j, mu (fun i => f i + f' i) g j = mu f g j + mu f' g j := by
  intro j
  induction j generalizing f f' with
  | zero => rw [mu_zero, mu_zero, mu_zero]; grind
  | succ j ih => rw [mu_succ, mu_succ, mu_succ, show sh (fun i => f i + f' i) = fun i => sh f i + sh f' i from rfl, ih]; grind
theorem mu_scl (c : Rat) (f g : Fn) : ∀ j, mu (fun i => c * f i) g j = c * mu f g j := by
  intro j
  induction j generalizing f with
  | zero => rw [mu_zero, mu_zero]; grind
  | succ j ih => rw [mu_succ, mu_succ, show sh (fun i => c * f i) = fun i => c * sh f i from rfl, ih]; grind
theorem mu_scr (c : Rat) (f g : Fn) : ∀ j, mu f (fun i => c * g i) j = c * mu f g j := by
  intro j
  induction j generalizing f with
  | zero => rw [mu_zero, mu_zero]; grind
  | succ j ih => rw [mu_succ, mu_succ, ih]; grind
theorem mu_z (g : Fn) : ∀ j, mu (fun _ => 0) g j = 0 := by
  intro j
  induction j with
  | zero => rw [mu_zero]; grind
  | succ j ih => rw [mu_succ, show sh (fun _ => (0 : Rat)) = fun _ => 0 from rfl, ih]; grind
theorem mu_right (f g : Fn) : ∀ j, mu f g (j + 1) = mu f (sh g) j + f (j + 1) * g 0 := by
  intro j
  induction j generalizing f with
  | zero => rw [mu_succ, mu_zero, mu_zero]; rfl
  | succ j ih => rw [mu_succ, ih, mu_succ f (sh g)]; show _ + (_ + f (j + 1 + 1) * g 0) = f 0 * g (j + 1 + 1) + _ + _; grind
theorem mu_comm (f g : Fn) : ∀ j, mu f g j = mu g f j := by
  intro j
  induction j generalizing f with
  | zero => rw [mu_zero, mu_zero]; grind
  | succ j ih => rw [mu_succ, mu_right g f, ih]; grind
theorem mu_assoc (f g h : Fn) : ∀ j, mu (mu f g) h j = mu f (mu g h) j := by
  intro j
  induction j generalizing f with
  | zero => rw [mu_zero, mu_zero, mu_zero, mu_zero]; grind
  | succ j ih =>
    rw [mu_succ, mu_succ f]
    have e : sh (mu f g) = fun i => f 0 * sh g i + mu (sh f) g i := by funext i; exact mu_succ f g i
    rw [e, mu_addl, mu_scl, ih, mu_zero, mu_succ g h]
    grind
theorem mu_subl (f f' g : Fn) (j : Nat) : mu (fun i => f i - f' i) g j = mu f g j - mu f' g j := by
  have e : (fun i => f i - f' i) = fun i => f i + (-1) * f' i := by funext i; grind
  rw [e, mu_addl, mu_scl]; grind
def cv (f g : Fn) : Nat → Nat → Rat
  | 0, _ => 0
  | n + 1, j => cv f g n j + (if n ≤ j then f n * g (j - n) else 0)
theorem cv_front (f g : Fn) (j : Nat) : ∀ n, cv f g (n + 1) (j + 1) = f 0 * g (j + 1) + cv (sh f) g n j := by
  intro n
  induction n with
  | zero => unfold cv; unfold cv; rw [if_pos (by omega)]; rw [Nat.sub_zero]; grind
  | succ n ih =>
    rw [cv, ih]
    show _ = _ + (cv (sh f) g n j + (if n ≤ j then f (n + 1) * g (j - n) else 0))
    rw [show j + 1 - (n + 1) = j - n by omega]
    by_cases c : n ≤ j
    · rw [if_pos c, if_pos (by omega)]; grind
    · rw [if_neg c, if_neg (by omega)]; grind
theorem cv_mu (f g : Fn) : ∀ j, cv f g (j + 1) j = mu f g j := by
  intro j
  induction j generalizing f with
  | zero => unfold cv; unfold cv; rw [if_pos (by omega), mu_zero]; grind
  | succ j ih => rw [cv_front, ih, mu_succ]
def Dg (f : Fn) (n : Nat) : Prop := ∀ i, n ≤ i → f i = 0
theorem Dg.mono {f : Fn} {n m : Nat} (h : Dg f n) (hm : n ≤ m) : Dg f m := fun i hi => h i (by omega)
theorem cv_ge (f g : Fn) (j : Nat) : ∀ d n, (∀ i, n ≤ i → i ≤ j → f i = 0) → cv f g (n + d) j = cv f g n j := by
  intro d
  induction d with
  | zero => intro n _; rfl
  | succ d ih =>
    intro n h
    show cv f g (n + d) j + (if n + d ≤ j then f (n + d) * g (j - (n + d)) else 0) = _
    rw [ih n h]
    by_cases c : n + d ≤ j
    · rw [if_pos c, h (n + d) (by omega) c]; grind
    · rw [if_neg c]; grind
theorem cv_dg {f : Fn} {n : Nat} (h : Dg f n) (g : Fn) (j : Nat) : cv f g n j = mu f g j := by
  rw [← cv_mu]
  rcases Nat.le_total n (j + 1) with c | c
  · have := cv_ge f g j (j + 1 - n) n (fun i hi _ => h i hi)
    rw [← this, show n + (j + 1 - n) = j + 1 by omega]
  · have := cv_ge f g j (n - (j + 1)) (j + 1) (fun i hi hj => by omega)
    rw [← this, show j + 1 + (n - (j + 1)) = n by omega]
theorem mu_dg {f g : Fn} {n m : Nat} (hf : Dg f n) (hg : Dg g m) : ∀ j, n + m ≤ j + 1 → mu f g j = 0 := by
  induction n generalizing f with
  | zero =>
    intro j _
    have e : f = fun _ => 0 := by funext i; exact hf i (by omega)
    rw [e, mu_z]
  | succ n ih =>
    intro j hj
    cases j with
    | zero => rw [mu_zero, hg 0 (by omega)]; grind
    | succ j =>
      rw [mu_succ, hg (j + 1) (by omega), ih (f := sh f) (fun i hi => hf (i + 1) (by omega)) j (by omega)]; grind
theorem mu_dg' {f g : Fn} {n m : Nat} (hf : Dg f n) (hg : Dg g m) : Dg (mu f g) (n + m - 1) := fun j hj => mu_dg hf hg j (by omega)
theorem mu_top {f g : Fn} {a b : Nat} (hf : Dg f (a + 1)) (hg : Dg g (b + 1)) : mu f g (a + b) = f a * g b := by
  induction a generalizing f with
  | zero =>
    have e : sh f = fun _ => 0 := by funext i; exact hf (i + 1) (by omega)
    rw [Nat.zero_add]
    cases b with
    | zero => rw [mu_zero]
    | succ b => rw [mu_succ, e, mu_z]; grind
  | succ a ih =>
    rw [show a + 1 + b = (a + b) + 1 by omega, mu_succ, ih (f := sh f) (fun i hi => hf (i + 1) (by omega)), hg (a + b + 1) (by omega)]
    show _ + f (a + 1) * g b = _
    grind
theorem mu_low {t g : Fn} {b : Nat} (hg : Dg g (b + 1)) (h0 : g b ≠ 0) (hr : Dg (mu t g) b) : ∀ n, Dg t n → ∀ i, t i = 0 := by
  intro n
  induction n with
  | zero => intro h i; exact h i (by omega)
  | succ n ih =>
    intro h
    refine ih fun i hi => ?_
    by_cases e : i = n
    · have h1 := mu_top h hg
      rw [hr (n + b) (by omega)] at h1
      rw [e]
      rcases Rat.mul_eq_zero.1 h1.symm with k | k
      · exact k
      · exact absurd k h0
    · exact h i (by omega)
def ef : Fn → Nat → Rat → Rat
  | _, 0, _ => 0
  | f, n + 1, x => f 0 + x * ef (sh f) n x
theorem ef_zero (f : Fn) (x : Rat) : ef f 0 x = 0 := by rw [ef]
theorem ef_succ (f : Fn) (n : Nat) (x : Rat) : ef f (n + 1) x = f 0 + x * ef (sh f) n x := by rw [ef]
def Dv (c a : Fn) : Prop := ∃ t n, Dg t n ∧ a = mu t c
theorem Dv.comb {c a b q : Fn} {m : Nat} (h1 : Dv c a) (h2 : Dv c b) (hq : Dg q m) : Dv c (fun i => a i - mu q b i) := by
  obtain ⟨t, n, ht, rfl⟩ := h1
  obtain ⟨s, k, hs, rfl⟩ := h2
  refine ⟨fun i => t i - mu q s i, max n (m + k), fun i hi => ?_, ?_⟩
  · show t i - mu q s i = 0
    rw [ht i (by omega), mu_dg' hq hs i (by omega)]; grind
  · funext i; rw [mu_subl, mu_assoc]
theorem Dv.comb2 {c r b q : Fn} {m : Nat} (h1 : Dv c r) (h2 : Dv c b) (hq : Dg q m) : Dv c (fun i => mu q b i + r i) := by
  obtain ⟨t, n, ht, rfl⟩ := h1
  obtain ⟨s, k, hs, rfl⟩ := h2
  refine ⟨fun i => mu q s i + t i, max n (m + k), fun i hi => ?_, ?_⟩
  · show mu q s i + t i = 0
    rw [ht i (by omega), mu_dg' hq hs i (by omega)]; grind
  · funext i; rw [mu_addl, mu_assoc]
theorem Dv.self (c : Fn) : Dv c c := by
  refine ⟨fun i => if i = 0 then 1 else 0, 1, fun i hi => by simp [show i ≠ 0 by omega], ?_⟩
  funext j
  cases j with
  | zero => rw [mu_zero]; simp
  | succ j => rw [mu_succ, show sh (fun i => if i = 0 then (1 : Rat) else 0) = fun _ => 0 from by funext i; simp [sh], mu_z]; simp; grind
theorem Dv.zero (c : Fn) : Dv c (fun _ => 0) := ⟨fun _ => 0, 0, fun _ _ => rfl, by funext j; rw [mu_z]⟩
theorem Dv.sc {c a : Fn} (h : Dv c a) (k : Rat) : Dv c (fun i => k * a i) := by
  obtain ⟨t, n, ht, rfl⟩ := h
  exact ⟨fun i => k * t i, n, fun i hi => by show k * t i = 0; rw [ht i hi]; grind, by funext j; rw [mu_scl]⟩
theorem Dv.of_sc {c a : Fn} {k : Rat} (hk : k ≠ 0) (h : Dv c a) : Dv (fun i => k * c i) a := by
  obtain ⟨t, n, ht, rfl⟩ := h
  refine ⟨fun i => k⁻¹ * t i, n, fun i hi => by show k⁻¹ * t i = 0; rw [ht i hi]; grind, ?_⟩
  funext j
  rw [mu_scl, mu_scr]
  have := Rat.mul_inv_cancel k hk
  grind
theorem rest_zero {a g q r : Fn} {b n : Nat} (hg : Dg g (b + 1)) (h0 : g b ≠ 0) (hr : Dg r b) (hq : Dg q n) (e : ∀ i, a i = mu q g i + r i) (h : Dv g a) : ∀ i, r i = 0 := by
  obtain ⟨t, m, ht, rfl⟩ := h
  have e1 : ∀ i, r i = mu (fun i => t i - q i) g i := fun i => by rw [mu_subl]; have := e i; grind
  have hd : Dg (fun i => t i - q i) (max m n) := fun i hi => by show t i - q i = 0; rw [ht i (by omega), hq i (by omega)]; grind
  have hl : Dg (mu (fun i => t i - q i) g) b := fun i hi => by rw [← e1 i]; exact hr i hi
  have hz := mu_low hg h0 hl _ hd
  intro i
  have e2 : (fun i => t i - q i) = fun _ => 0 := funext hz
  rw [e1 i, e2, mu_z]
end Go.Pe
set_option linter.unusedSimpArgs false
set_option linter.unusedVariables false
open Go
namespace Go.Pe
def co (l : List Rat) (i : Nat) : Rat := l.getD i 0
def mkL (f : Fn) (n : Nat) : List Rat := (List.range n).map f
theorem mkL_len (f : Fn) (n : Nat) : (mkL f n).length = n := by simp [mkL]
theorem co_mk (f : Fn) (n i : Nat) : co (mkL f n) i = if i < n then f i else 0 := by
  unfold co mkL
  rw [List.getD_eq_getElem?_getD, List.getElem?_map]
  by_cases h : i < n
  · rw [if_pos h, List.getElem?_range h]; rfl
  · rw [if_neg h, List.getElem?_eq_none (by rw [List.length_range]; omega)]; rfl
theorem co_big {l : List Rat} {i : Nat} (h : l.length ≤ i) : co l i = 0 := by
  unfold co
  rw [List.getD_eq_getElem?_getD, List.getElem?_eq_none h]; rfl
theorem co_dg (l : List Rat) : Dg (co l) l.length := fun i hi => co_big hi
theorem co_get {l : List Rat} {i : Nat} (h : i < l.length) : co l i = l[i] := by
  unfold co
  rw [List.getD_eq_getElem?_getD, List.getElem?_eq_getElem h]; rfl
theorem mk_co (l : List Rat) : mkL (co l) l.length = l := by
  apply List.ext_getElem
  · rw [mkL_len]
  · intro i h1 h2
    have := co_mk (co l) l.length i
    rw [if_pos h2, co_get h1, co_get h2] at this
    exact this
def tlR (l : List Rat) : Nat → Nat
  | 0 => 0
  | n + 1 => if co l n = 0 then tlR l n else n + 1
def tr (l : List Rat) : List Rat := l.take (tlR l l.length)
theorem tlR_le (l : List Rat) : ∀ n, tlR l n ≤ n := by
  intro n
  induction n with
  | zero => exact Nat.le_refl _
  | succ n ih => unfold tlR; split <;> omega
theorem tlR_zero {l : List Rat} : ∀ n i, tlR l n ≤ i → i < n → co l i = 0 := by
  intro n
  induction n with
  | zero => intro i _ h; omega
  | succ n ih =>
    intro i h1 h2
    unfold tlR at h1
    by_cases h0 : co l n = 0
    · rw [if_pos h0] at h1
      by_cases e : i = n
      · rw [e]; exact h0
      · exact ih i h1 (by omega)
    · rw [if_neg h0] at h1; omega
theorem tlR_top {l : List Rat} : ∀ n, 0 < tlR l n → co l (tlR l n - 1) ≠ 0 := by
  intro n
  induction n with
  | zero => intro h; exact absurd h (by unfold tlR; omega)
  | succ n ih =>
    intro h
    unfold tlR at h ⊢
    by_cases h0 : co l n = 0
    · rw [if_pos h0] at h ⊢; exact ih h
    · rw [if_neg h0]; exact h0
theorem tr_len (l : List Rat) : (tr l).length = tlR l l.length := by
  unfold tr
  rw [List.length_take]
  have := tlR_le l l.length
  omega
theorem tr_le (l : List Rat) : (tr l).length ≤ l.length := by rw [tr_len]; exact tlR_le _ _
theorem co_take (l : List Rat) (n i : Nat) : co (l.take n) i = if i < n then co l i else 0 := by
  unfold co
  rw [List.getD_eq_getElem?_getD, List.getD_eq_getElem?_getD]
  by_cases h : i < n
  · rw [if_pos h, List.getElem?_take_of_lt h]
  · rw [if_neg h, List.getElem?_eq_none (by rw [List.length_take]; omega)]; rfl
theorem co_tr (l : List Rat) (i : Nat) : co (tr l) i = co l i := by
  unfold tr
  rw [co_take]
  split
  · rfl
  · rename_i h
    by_cases h2 : i < l.length
    · exact (tlR_zero l.length i (by omega) h2).symm
    · rw [co_big (by omega)]
theorem co_tr' (l : List Rat) : co (tr l) = co l := funext (co_tr l)
def Ca (l : List Rat) : Prop := l.length = 0 ∨ co l (l.length - 1) ≠ 0
theorem ca_tr (l : List Rat) : Ca (tr l) := by
  unfold Ca
  rcases Nat.eq_zero_or_pos (tr l).length with h | h
  · exact .inl h
  · refine .inr ?_
    rw [co_tr, tr_len]
    rw [tr_len] at h
    exact tlR_top _ h
theorem ca_len {l : List Rat} {n : Nat} (h : Ca l) (hn : Dg (co l) n) : l.length ≤ n := by
  rcases h with h | h
  · omega
  · rcases Nat.lt_or_ge n l.length with k | k
    · exact absurd (hn _ (by omega)) h
    · exact k
theorem ca_ext {l m : List Rat} (hl : Ca l) (hm : Ca m) (h : ∀ i, co l i = co m i) : l = m := by
  have h1 : l.length ≤ m.length := ca_len hl fun i hi => by rw [h]; exact co_dg m i hi
  have h2 : m.length ≤ l.length := ca_len hm fun i hi => by rw [← h]; exact co_dg l i hi
  apply List.ext_getElem (by omega)
  intro i a b
  rw [← co_get a, ← co_get b, h]
theorem tr_ca {l : List Rat} (h : Ca l) : tr l = l := ca_ext (ca_tr l) h (co_tr l)
theorem ca_nil : Ca [] := .inl rfl
theorem ca_zero {l : List Rat} (h : Ca l) (hz : ∀ i, co l i = 0) : l = [] := by
  have := ca_len (n := 0) h fun i _ => hz i
  exact List.length_eq_zero_iff.1 (by omega)
theorem ca_top {l : List Rat} (h : Ca l) (hn : l ≠ []) : co l (l.length - 1) ≠ 0 := by
  rcases h with h | h
  · exact absurd (List.length_eq_zero_iff.1 h) hn
  · exact h
def tk (f : Fn) (n : Nat) : List Rat := tr (mkL f n)
theorem co_tk {f : Fn} {n : Nat} (h : Dg f n) : co (tk f n) = f := by
  funext i
  unfold tk
  rw [co_tr, co_mk]
  split
  · rfl
  · exact (h i (by omega)).symm
theorem ca_tk (f : Fn) (n : Nat) : Ca (tk f n) := ca_tr _
theorem tk_le (f : Fn) (n : Nat) : (tk f n).length ≤ n := Nat.le_trans (tr_le _) (Nat.le_of_eq (mkL_len f n))
theorem tr_mk (l : List Rat) : tr l = tk (co l) l.length := by unfold tk; rw [mk_co]
theorem dg_sc {f : Fn} {n : Nat} (hf : Dg f n) (c : Rat) : Dg (fun i => f i * c) n := fun i hi => by show f i * c = 0; rw [hf i hi]; grind
def scT (a : List Rat) (c : Rat) : List Rat := tk (fun i => co a i * c) a.length
def muT (a b : List Rat) : List Rat := tk (mu (co a) (co b)) (a.length + b.length - 1)
theorem co_scT (a : List Rat) (c : Rat) : co (scT a c) = fun i => co a i * c := co_tk (dg_sc (co_dg a) c)
theorem co_muT (a b : List Rat) : co (muT a b) = mu (co a) (co b) := co_tk (mu_dg' (co_dg a) (co_dg b))
def dvG (A B : Fn) (m n : Nat) : Nat → Fn
  | 0 => A
  | s + 1 => fun j => dvG A B m n s j - (if n - 1 - s ≤ j then dvG A B m n s (n - 1 - s + m) * (B m)⁻¹ * B (j - (n - 1 - s)) else 0)
def dvC (A B : Fn) (m n i : Nat) : Rat := dvG A B m n (n - 1 - i) (i + m) * (B m)⁻¹
def dvP (A B : Fn) (m n s : Nat) : Fn := fun i => if n - s ≤ i ∧ i < n then dvC A B m n i else 0
theorem mu_one (c : Rat) (g : Fn) : ∀ i j, mu (fun k => if k = i then c else 0) g j = if i ≤ j then c * g (j - i) else 0 := by
  intro i
  induction i with
  | zero =>
    intro j
    have e : sh (fun k => if k = 0 then c else 0) = fun _ => 0 := by funext k; simp [sh]
    cases j with
    | zero => rw [mu_zero]; simp
    | succ j => rw [mu_succ, e, mu_z]; simp; grind
  | succ i ih =>
    intro j
    have e : sh (fun k => if k = i + 1 then c else 0) = fun k => if k = i then c else 0 := by funext k; simp [sh]
    cases j with
    | zero => rw [mu_zero]; simp
    | succ j => rw [mu_succ, e, ih, Nat.add_sub_add_right]; simp [Rat.zero_add]
theorem dvP_succ {A B : Fn} {m n s : Nat} (h : s < n) : dvP A B m n (s + 1) = fun i => dvP A B m n s i + (if i = n - 1 - s then dvC A B m n (n - 1 - s) else 0) := by
  funext i
  unfold dvP
  by_cases c : i = n - 1 - s
  · rw [if_pos (by omega), if_neg (by omega), if_pos c, c]; grind
  · rw [if_neg c]
    by_cases d : n - s ≤ i ∧ i < n
    · rw [if_pos d, if_pos (by omega)]; grind
    · rw [if_neg d, if_neg (by omega)]; grind
theorem dv_eq {A B : Fn} {m n : Nat} : ∀ s, s ≤ n → ∀ j, A j = mu (dvP A B m n s) B j + dvG A B m n s j := by
  intro s
  induction s with
  | zero =>
    intro _ j
    have e : dvP A B m n 0 = fun _ => 0 := by funext i; unfold dvP; rw [if_neg (by omega)]
    rw [e, mu_z]; unfold dvG; grind
  | succ s ih =>
    intro hs j
    rw [dvP_succ (by omega), mu_addl, mu_one]
    have h := ih (by omega) j
    have e : dvC A B m n (n - 1 - s) = dvG A B m n s (n - 1 - s + m) * (B m)⁻¹ := by unfold dvC; rw [show n - 1 - (n - 1 - s) = s by omega]
    rw [e]
    show A j = _ + (dvG A B m n s j - (if n - 1 - s ≤ j then dvG A B m n s (n - 1 - s + m) * (B m)⁻¹ * B (j - (n - 1 - s)) else 0))
    grind
theorem dvG_dg {A B : Fn} {m n : Nat} (hA : Dg A (n + m)) (hB : Dg B (m + 1)) (h0 : B m ≠ 0) : ∀ s, s ≤ n → Dg (dvG A B m n s) (n - s + m) := by
  intro s
  induction s with
  | zero => intro _ i hi; exact hA i (by omega)
  | succ s ih =>
    intro hs j hj
    have h := ih (by omega)
    show dvG A B m n s j - (if n - 1 - s ≤ j then dvG A B m n s (n - 1 - s + m) * (B m)⁻¹ * B (j - (n - 1 - s)) else 0) = 0
    rw [if_pos (by omega)]
    by_cases c : j = n - 1 - s + m
    · rw [c, Nat.add_sub_cancel_left]
      have := Rat.inv_mul_cancel (B m) h0
      grind
    · rw [h j (by omega), hB (j - (n - 1 - s)) (by omega)]; grind
def dvQ (A B : List Rat) : List Rat := if A.length < B.length then [] else tk (dvC (co A) (co B) (B.length - 1) (A.length - B.length + 1)) (A.length - B.length + 1)
def dvR (A B : List Rat) : List Rat := if A.length < B.length then A else tk (dvG (co A) (co B) (B.length - 1) (A.length - B.length + 1) (A.length - B.length + 1)) A.length
theorem dvR_ca {A : List Rat} (B : List Rat) (h : Ca A) : Ca (dvR A B) := by unfold dvR; split; exact h; exact ca_tk _ _
theorem dvR_eq {A B : List Rat} (hB : Ca B) (hb : B ≠ []) : (∀ j, co A j = mu (co (dvQ A B)) (co B) j + co (dvR A B) j) ∧ Dg (co (dvR A B)) (B.length - 1) := by
  have hl : 0 < B.length := by cases B with | nil => exact absurd rfl hb | cons _ _ => simp
  unfold dvQ dvR
  by_cases c : A.length < B.length
  · rw [if_pos c, if_pos c]
    refine ⟨fun j => ?_, fun i hi => co_dg A i (by omega)⟩
    have e : co [] = fun _ => 0 := by funext i; rfl
    rw [e, mu_z]; grind
  · rw [if_neg c, if_neg c]
    have hg : Dg (co B) (B.length - 1 + 1) := fun i hi => co_dg B i (by omega)
    have h2 := dvG_dg (A := co A) (n := A.length - B.length + 1) (fun i hi => co_dg A i (by omega)) hg (ca_top hB hb) (A.length - B.length + 1) (by omega)
    rw [Nat.sub_self, Nat.zero_add] at h2
    have e1 : co (tk (dvG (co A) (co B) (B.length - 1) (A.length - B.length + 1) (A.length - B.length + 1)) A.length) = _ := co_tk (h2.mono (by omega))
    have h3 := dv_eq (A := co A) (B := co B) (m := B.length - 1) (n := A.length - B.length + 1) (A.length - B.length + 1) (Nat.le_refl _)
    have e2 : co (tk (dvC (co A) (co B) (B.length - 1) (A.length - B.length + 1)) (A.length - B.length + 1)) = dvP (co A) (co B) (B.length - 1) (A.length - B.length + 1) (A.length - B.length + 1) := by
      funext i
      unfold tk dvP
      rw [co_tr, co_mk, Nat.sub_self]
      by_cases k : i < A.length - B.length + 1
      · rw [if_pos k, if_pos (by omega)]
      · rw [if_neg k, if_neg (by omega)]
    rw [e1, e2]
    exact ⟨h3, h2⟩
theorem dvR_len {A B : List Rat} (hA : Ca A) (hB : Ca B) (hb : B ≠ []) : (dvR A B).length < B.length := by
  have hl : 0 < B.length := by cases B with | nil => exact absurd rfl hb | cons _ _ => simp
  have := ca_len (dvR_ca B hA) (dvR_eq (A := A) hB hb).2
  omega
theorem dvR_zero {A B : List Rat} (hA : Ca A) (hB : Ca B) (hb : B ≠ []) (h : Dv (co B) (co A)) : dvR A B = [] := by
  have hl : 0 < B.length := by cases B with | nil => exact absurd rfl hb | cons _ _ => simp
  obtain ⟨h1, h2⟩ := dvR_eq (A := A) hB hb
  refine ca_zero (dvR_ca B hA) ?_
  exact rest_zero (b := B.length - 1) (n := (dvQ A B).length) (fun i hi => co_dg B i (by omega)) (ca_top hB hb) h2 (co_dg _) h1 h
def moT (a : List Rat) : List Rat := if a = [] then [] else scT a (co a (a.length - 1))⁻¹
theorem moT_co {a : List Rat} (h : a ≠ []) : co (moT a) = fun i => co a i * (co a (a.length - 1))⁻¹ := by unfold moT; rw [if_neg h, co_scT]
theorem moT_ca (a : List Rat) : Ca (moT a) := by unfold moT; split; exact ca_nil; exact ca_tk _ _
theorem moT_len {a : List Rat} (h : Ca a) : (moT a).length = a.length := by
  by_cases hn : a = []
  · rw [hn]; rfl
  · have hl : 0 < a.length := by cases a with | nil => exact absurd rfl hn | cons _ _ => simp
    have h0 := ca_top h hn
    have e := moT_co hn
    have h1 : (moT a).length ≤ a.length := ca_len (moT_ca a) fun i hi => by rw [e]; show co a i * _ = 0; rw [co_dg a i hi]; grind
    rcases Nat.lt_or_ge (moT a).length a.length with k | k
    · have h2 := co_dg (moT a) (a.length - 1) (by omega)
      rw [e] at h2
      have := Rat.mul_inv_cancel _ h0
      have h3 : co a (a.length - 1) * (co a (a.length - 1))⁻¹ = 0 := h2
      rw [this] at h3
      exact absurd h3 (by decide)
    · omega
def gcF : Nat → List Rat → List Rat → List Rat
  | 0, a, _ => a
  | n + 1, a, b => if b = [] then a else gcF n b (dvR a b)
def gcT (a b : List Rat) : List Rat := moT (gcF (b.length + 1) a b)
theorem gcF_ca : ∀ n {a b : List Rat}, Ca a → Ca b → Ca (gcF n a b) := by
  intro n
  induction n with
  | zero => intro a b ha _; exact ha
  | succ n ih => intro a b ha hb; unfold gcF; split; exact ha; exact ih hb (dvR_ca b ha)
theorem gcF_len {m : Nat} : ∀ n {a b : List Rat}, Ca a → Ca b → a.length ≤ m → b.length ≤ m → (gcF n a b).length ≤ m := by
  intro n
  induction n with
  | zero => intro a b _ _ h _; exact h
  | succ n ih =>
    intro a b ha hb h1 h2
    unfold gcF
    split
    · exact h1
    · rename_i h0
      have := dvR_len ha hb h0
      exact ih hb (dvR_ca b ha) h2 (by omega)
theorem gcF_of {c : Fn} : ∀ n {a b : List Rat}, Ca a → Ca b → Dv c (co a) → Dv c (co b) → Dv c (co (gcF n a b)) := by
  intro n
  induction n with
  | zero => intro a b _ _ h1 _; exact h1
  | succ n ih =>
    intro a b ha hb h1 h2
    unfold gcF
    split
    · exact h1
    · rename_i h0
      refine ih hb (dvR_ca b ha) h2 ?_
      have e : co (dvR a b) = fun i => co a i - mu (co (dvQ a b)) (co b) i := by funext i; have := (dvR_eq (A := a) hb h0).1 i; grind
      rw [e]
      exact h1.comb h2 (co_dg _)
theorem gcF_dv : ∀ n {a b : List Rat}, Ca a → Ca b → b.length < n → Dv (co (gcF n a b)) (co a) ∧ Dv (co (gcF n a b)) (co b) := by
  intro n
  induction n with
  | zero => intro a b _ _ h; omega
  | succ n ih =>
    intro a b ha hb hl
    unfold gcF
    split
    · rename_i h0
      refine ⟨Dv.self _, ?_⟩
      rw [h0, show co [] = fun _ => 0 from by funext i; rfl]
      exact Dv.zero _
    · rename_i h0
      have hr := dvR_len ha hb h0
      obtain ⟨h1, h2⟩ := ih hb (dvR_ca b ha) (by omega)
      refine ⟨?_, h1⟩
      have e : co a = fun i => mu (co (dvQ a b)) (co b) i + co (dvR a b) i := by funext i; exact (dvR_eq (A := a) hb h0).1 i
      rw [e]
      exact h2.comb2 h1 (co_dg _)
end Go.Pe
set_option linter.unusedSimpArgs false
set_option linter.unusedVariables false
open Go
namespace Go.Pe
def vsQ (p : List RQt) : List Rat := p.map vQ
theorem vsQ_len (p : List RQt) : (vsQ p).length = p.length := List.length_map _
theorem vsQ_r (l : List Rat) : vsQ (l.map rQ) = l := by
  unfold vsQ
  rw [List.map_map]
  exact (List.map_congr_left fun x _ => vQ_rQ x).trans (List.map_id _)
theorem atV_vsQ (p : List RQt) : atV p = co (vsQ p) := by
  funext i
  unfold atV
  by_cases h : i < p.length
  · rw [if_pos h, co_get (by rw [vsQ_len]; exact h), List.getD_eq_getElem?_getD, List.getElem?_eq_getElem h]
    simp [vsQ]
  · rw [if_neg h, co_big (by rw [vsQ_len]; omega)]
theorem nf_mk (f : Fn) (n : Nat) : nf f n = (mkL f n).map rQ := by unfold nf mkL; rw [List.map_map]; rfl
theorem tl_nf (f : Fn) (n : Nat) : ∀ k, k ≤ n → tlQ (nf f n) k = tlR (mkL f n) k := by
  intro k
  induction k with
  | zero => intro _; rfl
  | succ k ih =>
    intro h
    unfold tlQ tlR
    rw [nf_get f (show k < n by omega), vQ_rQ, co_mk, if_pos (show k < n by omega), ih (by omega)]
theorem trim_tk (f : Fn) (n : Nat) : trimQ (nf f n) = (tk f n).map rQ := by
  unfold trimQ tk tr
  rw [tl_nf f n _ (Nat.le_of_eq (nf_len f n)), nf_len, nf_mk, mkL_len, List.map_take]
def SzE (f : Fn) (k : Nat) : Prop := ∀ i, sq (f i) ≤ k
theorem SzE.mono {f : Fn} {k m : Nat} (h : SzE f k) (hm : k ≤ m) : SzE f m := fun i => Nat.le_trans (h i) hm
theorem SmL.vsQ {p : List RQt} {k : Nat} (h : SmL p k) (h1k : 1 ≤ k) : SzE (co (vsQ p)) k := fun i => by rw [← atV_vsQ]; exact atV_sq h1k h
theorem SzE.sm {l : List Rat} {k : Nat} (h : SzE (co l) k) : SmL (l.map rQ) k := by
  intro x hx
  obtain ⟨v, hv, rfl⟩ := List.mem_map.1 hx
  obtain ⟨i, hi, rfl⟩ := List.getElem_of_mem hv
  have := h i
  rw [co_get hi] at this
  exact sm_cq this
theorem SzE.add {f g : Fn} {k m : Nat} (hf : SzE f k) (hg : SzE g m) : SzE (fun i => f i + g i) (k + m + 1) := fun i => by have := sq_add (f i) (g i); have := hf i; have := hg i; show sq (f i + g i) ≤ _; omega
theorem SzE.sub {f g : Fn} {k m : Nat} (hf : SzE f k) (hg : SzE g m) : SzE (fun i => f i - g i) (k + m + 1) := fun i => by have := sq_sub (f i) (g i); have := hf i; have := hg i; show sq (f i - g i) ≤ _; omega
theorem SzE.sc {f : Fn} {k m : Nat} (hf : SzE f k) {c : Rat} (hc : sq c ≤ m) : SzE (fun i => f i * c) (k + m) := fun i => by have := sq_mul (f i) c; have := hf i; show sq (f i * c) ≤ _; omega
theorem SzE.cv {f g : Fn} {k m : Nat} (hf : SzE f k) (hg : SzE g m) (j : Nat) : ∀ n, sq (cv f g n j) ≤ n * (k + m + 1) + 1 := by
  intro n
  induction n with
  | zero => have := sq_zero; rw [show Go.Pe.cv f g 0 j = 0 from rfl]; omega
  | succ n ih =>
    rw [show Go.Pe.cv f g (n + 1) j = Go.Pe.cv f g n j + (if n ≤ j then f n * g (j - n) else 0) from rfl]
    rw [Nat.add_mul]
    split
    · have := sq_add (Go.Pe.cv f g n j) (f n * g (j - n)); have := sq_mul (f n) (g (j - n)); have := hf n; have := hg (j - n); omega
    · rw [Rat.add_zero]; omega
theorem SzE.mu {f g : Fn} {k m n : Nat} (hf : SzE f k) (hg : SzE g m) (hd : Dg f n) : SzE (Go.Pe.mu f g) (n * (k + m + 1) + 1) := fun j => by rw [← cv_dg hd]; exact SzE.cv hf hg j n
theorem SzE.one : SzE (co [1]) 1 := fun i => by
  cases i with
  | zero => exact sq_one
  | succ i => rw [co_big (by simp)]; exact sq_zero
theorem SzE.nil : SzE (co []) 1 := fun i => by rw [co_big (by simp)]; exact sq_zero
theorem nf_sm {f : Nat → Rat} {n k : Nat} (h : ∀ i, i < n → sq (f i) ≤ k) : SmL (nf f n) k := by
  intro x hx
  unfold nf at hx
  obtain ⟨i, hi, rfl⟩ := List.mem_map.1 hx
  exact sm_cq (h i (List.mem_range.1 hi))
theorem fewQ_sm {p : List RQt} (hu : ∀ x ∈ p, OkQ x) (n : Nat) : SmL ((p.take n).map t2Q) 2 := by
  intro x hx
  obtain ⟨y, hy, rfl⟩ := List.mem_map.1 hx
  exact Sm.take (k := maxL) (hu y (List.mem_of_mem_take hy)) 2
theorem pclean_r {p : List RQt} {k : Nat} (hk : k ≤ 100000000000) (h1k : 1 ≤ k) (hn : p.length ≤ 100000000000) (hs : SmL p k) : R FF 174 [.l 3 (p.map eQ)] = some (AV.l 3 (List.map eQ (List.map rQ (tr (vsQ p))))) := by
  rw [pclean_c hk h1k hn hs, cleanL_nf, trim_tk, atV_vsQ, tr_mk, vsQ_len]
theorem pscale_r {p : List RQt} {x : Rat} {k : Nat} (hk : k ≤ 10000000000) (h1k : 1 ≤ k) (ha : p.length ≤ 100000000000) (h1 : SmL p k) (h2 : sq x ≤ k) : R FF 163 [.l 3 (p.map eQ), (AV.agg [AV.b (ng (Rat.num x)), (AV.l 1 (List.map u (D (Int.natAbs (Rat.num x))))), (AV.l 1 (List.map u (D (Rat.den x))))])] = some (AV.l 3 (List.map eQ (List.map rQ (scT (vsQ p) x)))) := by
  rw [pscale_c hk h1k ha h1 (sm_cq h2), qv_cq, scL_nf, trim_tk, atV_vsQ]; unfold scT; rw [vsQ_len]
theorem Fm_r {l : List Rat} {k : Nat} (h : SzE (co l) k) (hk : k ≤ 100000000000) : Fm (l.map rQ) := by
  intro x hx
  obtain ⟨v, hv, rfl⟩ := List.mem_map.1 hx
  obtain ⟨i, hi, rfl⟩ := List.getElem_of_mem hv
  have := h i
  rw [co_get hi] at this
  exact ⟨_, rfl, by omega⟩
theorem getD_r {l : List Rat} {i : Nat} (h : i < l.length) : (l.map rQ).getD i dQ = rQ (co l i) := by
  rw [List.getD_eq_getElem?_getD, List.getElem?_map, List.getElem?_eq_getElem h, co_get h]; rfl
theorem top_r {l : List Rat} (h : Ca l) : (l.map rQ).length = 0 ∨ vQ ((l.map rQ).getD ((l.map rQ).length - 1) dQ) ≠ 0 := by
  rw [List.length_map]
  rcases h with h | h
  · exact .inl h
  · rcases Nat.eq_zero_or_pos l.length with e | e
    · exact .inl e
    · refine .inr ?_
      rw [getD_r (by omega), vQ_rQ]; exact h
theorem right_r {l : List Rat} {k : Nat} (hc : Ca l) (hn : l.length ≤ 1000) (h : SzE (co l) k) (hk : k ≤ 100000000000) : R FF 181 [(AV.l 3 (List.map eQ (List.map rQ l)))] = some (.b true) :=
  right04_c (by rw [List.length_map]; omega) (Fm_r h hk) (top_r hc)
theorem is_r {l : List Rat} {m : List RQt} {k : Nat} (hc : Ca l) (hn : l.length ≤ 1000) (hm : m.length ≤ 1000) (h1k : 1 ≤ k) (hk : k ≤ 100000000000) (h : SzE (co l) k) (h2 : SmL m k) (he : ∀ i, co l i = co (vsQ m) i) : R FF 182 [(AV.l 3 (List.map eQ (List.map rQ l))), .l 3 (m.map eQ)] = some (.b true) :=
  is04_c hk h1k (by rw [List.length_map]; omega) (by omega) h.sm h2 (Fm_r h hk) (top_r hc) fun i => by rw [atV_vsQ, atV_vsQ, vsQ_r, he]
end Go.Pe
set_option linter.unusedSimpArgs false
set_option linter.unusedVariables false
open Go
namespace Go.Pe
def SzF (f : Fn) (k : Nat) : Prop := ∃ e : Int, e ≠ 0 ∧ L e.natAbs ≤ k ∧ ∀ i, ∃ n : Int, L n.natAbs ≤ k ∧ f i * (e : Rat) = (n : Rat)
theorem cast_ne {e : Int} (h : e ≠ 0) : (e : Rat) ≠ 0 := fun k => h (by have := congrArg Rat.num k; simpa using this)
theorem sq_div {x : Rat} {e n : Int} {k : Nat} (he : e ≠ 0) (h1 : L e.natAbs ≤ k) (h2 : L n.natAbs ≤ k) (h : x * (e : Rat) = (n : Rat)) : sq x ≤ k := by
  have h0 := cast_ne he
  have hx : x = Rat.divInt n e := by
    rw [Rat.divInt_eq_div, Rat.div_def, ← h, Rat.mul_assoc, Rat.mul_inv_cancel _ h0, Rat.mul_one]
  rw [hx]
  rcases Int.lt_or_le e 0 with c | c
  · have e1 : e = -((e.natAbs : Nat) : Int) := by omega
    rw [e1, Rat.divInt_neg', Rat.divInt_ofNat]
    have := sq_mk (n := -n) (d := e.natAbs) (by omega)
    rw [Int.natAbs_neg] at this
    omega
  · have e1 : e = ((e.natAbs : Nat) : Int) := by omega
    rw [e1, Rat.divInt_ofNat]
    have := sq_mk (n := n) (d := e.natAbs) (by omega)
    omega
theorem SzF.sq {f : Fn} {k : Nat} (h : SzF f k) : SzE f k := by
  obtain ⟨e, he, h1, h2⟩ := h
  intro i
  obtain ⟨n, hn, h3⟩ := h2 i
  exact sq_div he h1 hn h3
theorem SzF.mono {f : Fn} {k m : Nat} (h : SzF f k) (hm : k ≤ m) : SzF f m := by
  obtain ⟨e, he, h1, h2⟩ := h
  exact ⟨e, he, by omega, fun i => by obtain ⟨n, hn, h3⟩ := h2 i; exact ⟨n, by omega, h3⟩⟩
theorem L_imul (a b : Int) : L (a * b).natAbs ≤ L a.natAbs + L b.natAbs := by rw [Int.natAbs_mul]; exact L_mul _ _
theorem L_isub (a b : Int) {k : Nat} (ha : L a.natAbs ≤ k) (hb : L b.natAbs ≤ k) : L (a - b).natAbs ≤ k + 1 := by
  have h1 := L_mono (Int.natAbs_sub_le a b)
  have h2 := L_add a.natAbs b.natAbs
  omega
theorem num_den (x : Rat) : x * ((x.den : Int) : Rat) = (x.num : Rat) := by
  have h0 : ((x.den : Int) : Rat) ≠ 0 := cast_ne (by have := x.den_nz; omega)
  have h := Rat.num_divInt_den x
  rw [Rat.divInt_eq_div, Rat.div_def] at h
  generalize ((x.den : Int) : Rat) = d at *
  generalize ((x.num : Int) : Rat) = n at *
  rw [← h, Rat.mul_assoc, Rat.inv_mul_cancel _ h0, Rat.mul_one]
theorem szF_of {f : Fn} {k : Nat} (h : SzE f k) : ∀ n, ∃ e : Int, e ≠ 0 ∧ L e.natAbs ≤ n * k + 1 ∧ ∀ i, i < n → ∃ m : Int, L m.natAbs ≤ n * k + 1 ∧ f i * (e : Rat) = (m : Rat) := by
  intro n
  induction n with
  | zero => exact ⟨1, by decide, by have : L 1 ≤ 1 := L_le (n := 1) (k := 1) (by decide); show L 1 ≤ _; omega, fun i hi => by omega⟩
  | succ n ih =>
    obtain ⟨e, he, h1, h2⟩ := ih
    have hn := h n
    have a1 := sq_num (f n)
    have a2 := sq_den (f n)
    have b1 := L_imul e ((f n).den : Int)
    rw [Int.natAbs_natCast] at b1
    rw [Nat.add_mul, Nat.one_mul]
    refine ⟨e * ((f n).den : Int), Int.mul_ne_zero he (by have := (f n).den_nz; omega), by omega, fun i hi => ?_⟩
    have hd := num_den (f n)
    by_cases c : i = n
    · refine ⟨(f n).num * e, ?_, ?_⟩
      · have := L_imul (f n).num e; omega
      · rw [c, Rat.intCast_mul, Rat.intCast_mul]; grind
    · obtain ⟨m, hm, h3⟩ := h2 i (by omega)
      refine ⟨m * ((f n).den : Int), ?_, ?_⟩
      · have := L_imul m ((f n).den : Int); rw [Int.natAbs_natCast] at this; omega
      · rw [Rat.intCast_mul, Rat.intCast_mul]; grind
theorem SzE.f {f : Fn} {k n : Nat} (h : SzE f k) (hd : Dg f n) : SzF f (n * k + 1) := by
  obtain ⟨e, he, h1, h2⟩ := szF_of h n
  refine ⟨e, he, h1, fun i => ?_⟩
  by_cases c : i < n
  · exact h2 i c
  · refine ⟨0, Nat.le_trans (L_le (n := 0) (k := 0) (by decide)) (Nat.zero_le _), ?_⟩
    rw [hd i (by omega)]
    show (0 : Rat) * _ = 0
    grind
theorem SzF.step {g b : Fn} {k m s t i : Nat} (hg : SzF g k) (hb : SzF b m) (h0 : b t ≠ 0) : SzF (fun j => g j - (if i ≤ j then g s * (b t)⁻¹ * b (j - i) else 0)) (k + m + 1) := by
  obtain ⟨e, he, h1, h2⟩ := hg
  obtain ⟨d, hd, k1, k2⟩ := hb
  obtain ⟨N, hN, hN2⟩ := h2 s
  obtain ⟨M, hM, hM2⟩ := k2 t
  have hM0 : M ≠ 0 := fun h => by
    rw [h] at hM2
    rcases Rat.mul_eq_zero.1 hM2 with h | h
    · exact h0 h
    · exact cast_ne hd h
  have hi := Rat.inv_mul_cancel _ h0
  refine ⟨e * M, Int.mul_ne_zero he hM0, by have := L_imul e M; omega, fun j => ?_⟩
  obtain ⟨n, hn, hn2⟩ := h2 j
  by_cases c : i ≤ j
  · obtain ⟨m', hm, hm2⟩ := k2 (j - i)
    refine ⟨n * M - N * m', L_isub _ _ (by have := L_imul n M; omega) (by have := L_imul N m'; omega), ?_⟩
    show (g j - (if i ≤ j then g s * (b t)⁻¹ * b (j - i) else 0)) * _ = _
    rw [if_pos c, Rat.intCast_mul, Rat.intCast_sub, Rat.intCast_mul, Rat.intCast_mul, ← hn2, ← hN2, ← hM2, ← hm2]
    generalize (b t)⁻¹ = v at *
    generalize (e : Rat) = e at *
    generalize (d : Rat) = d at *
    generalize b t = bt at *
    generalize g s = gs at *
    generalize g j = gj at *
    generalize b (j - i) = bj at *
    have e1 : (gj - gs * v * bj) * (e * (bt * d)) = gj * e * (bt * d) - gs * e * (bj * d) * (v * bt) := by grind
    rw [e1, hi]; grind
  · refine ⟨n * M, by have := L_imul n M; omega, ?_⟩
    show (g j - (if i ≤ j then g s * (b t)⁻¹ * b (j - i) else 0)) * _ = _
    rw [if_neg c, Rat.intCast_mul, Rat.intCast_mul, ← hn2]
    grind
theorem dvG_sz {A B : Fn} {k m n t : Nat} (hA : SzF A k) (hB : SzF B m) (h0 : B t ≠ 0) : ∀ s, SzF (dvG A B t n s) (k + s * (m + 1)) := by
  intro s
  induction s with
  | zero => exact hA.mono (by omega)
  | succ s ih => exact (SzF.step ih hB h0).mono (by rw [Nat.add_mul]; omega)
theorem sq_inv (x : Rat) : sq x⁻¹ ≤ sq x + 1 := by
  unfold sq
  rw [Rat.num_inv, Rat.den_inv, Int.natAbs_mul, Int.natAbs_natCast]
  have h1 : L (x.num.sign.natAbs * x.den) ≤ L x.den := L_mono (by
    have : x.num.sign.natAbs ≤ 1 := by rcases Int.lt_trichotomy x.num 0 with h | h | h
                                       · rw [Int.sign_eq_neg_one_of_neg h]; decide
                                       · rw [h]; decide
                                       · rw [Int.sign_eq_one_of_pos h]; decide
    calc x.num.sign.natAbs * x.den ≤ 1 * x.den := Nat.mul_le_mul_right _ this
      _ = x.den := Nat.one_mul _)
  split
  · have : L 1 ≤ 1 := L_le (n := 1) (k := 1) (by decide)
    omega
  · omega
theorem dvC_sz {A B : Fn} {k m n t : Nat} (hA : SzF A k) (hB : SzF B m) (h0 : B t ≠ 0) (i : Nat) (hi : i < n) : sq (dvC A B t n i) ≤ k + n * (m + 1) + m + 1 := by
  have h1 := (dvG_sz hA hB h0 (n := n) (n - 1 - i)).sq (i + t)
  have h2 := hB.sq t
  have h3 := sq_inv (B t)
  have h4 := sq_mul (dvG A B t n (n - 1 - i) (i + t)) (B t)⁻¹
  have h5 : (n - 1 - i) * (m + 1) ≤ n * (m + 1) := Nat.mul_le_mul_right _ (by omega)
  unfold dvC
  omega
theorem dvR_sz {A B : List Rat} {k : Nat} (hA : SzF (co A) k) (hB : SzF (co B) k) (hc : Ca B) (hb : B ≠ []) : SzF (co (dvR A B)) (k + (A.length - B.length + 1) * (k + 1)) := by
  unfold dvR
  split
  · exact hA.mono (Nat.le_add_right _ _)
  · rename_i c
    have hl : 0 < B.length := by cases B with | nil => exact absurd rfl hb | cons _ _ => simp
    have h2 := dvG_dg (A := co A) (B := co B) (m := B.length - 1) (n := A.length - B.length + 1) (fun i hi => co_dg A i (by omega)) (fun i hi => co_dg B i (by omega)) (ca_top hc hb) (A.length - B.length + 1) (Nat.le_refl _)
    rw [co_tk (h2.mono (by omega))]
    exact dvG_sz hA hB (ca_top hc hb) _
theorem SzF.mo {a : List Rat} {k : Nat} (h : SzF (co a) k) (hc : Ca a) : SzF (co (moT a)) (k + 1) := by
  by_cases h0 : a = []
  · rw [h0]
    refine ⟨1, by decide, ?_, fun i => ⟨0, Nat.le_trans (L_le (n := 0) (k := 0) (by decide)) (Nat.zero_le _), ?_⟩⟩
    · have : L 1 ≤ 1 := L_le (n := 1) (k := 1) (by decide)
      show L 1 ≤ _; omega
    · rw [co_big (by simp [moT])]
      show (0 : Rat) * _ = 0
      grind
  · rw [moT_co h0]
    obtain ⟨e, he, h1, h2⟩ := h
    have ht := ca_top hc h0
    obtain ⟨M, hM, hM2⟩ := h2 (a.length - 1)
    have hM0 : M ≠ 0 := fun h => by
      rw [h] at hM2
      rcases Rat.mul_eq_zero.1 hM2 with h | h
      · exact ht h
      · exact cast_ne he h
    have hi := Rat.inv_mul_cancel _ ht
    refine ⟨M, hM0, by omega, fun i => ?_⟩
    obtain ⟨n, hn, hn2⟩ := h2 i
    refine ⟨n, by omega, ?_⟩
    show co a i * (co a (a.length - 1))⁻¹ * (M : Rat) = n
    rw [← hM2, ← hn2]
    have e1 : co a i * (co a (a.length - 1))⁻¹ * (co a (a.length - 1) * (e : Rat)) = co a i * (e : Rat) * ((co a (a.length - 1))⁻¹ * co a (a.length - 1)) := by grind
    rw [e1, hi, Rat.mul_one]
theorem euc_sz {a b : List Rat} {k : Nat} (ha : Ca a) (hb : Ca b) (h1 : SzF (co a) k) (h2 : SzF (co b) k) (h0 : b ≠ []) (c : b.length ≤ a.length) :
    ∃ k', k ≤ k' ∧ SzF (co b) k' ∧ SzF (co (dvR a b)) k' ∧ (k' + 1) * 2 ^ (b.length + (dvR a b).length) ≤ (k + 1) * 2 ^ (a.length + b.length) := by
  have hr := dvR_len ha hb h0
  have h3 := dvR_sz h1 h2 hb h0
  refine ⟨_, Nat.le_add_right _ _, h2.mono (Nat.le_add_right k _), h3, ?_⟩
  have e1 : k + (a.length - b.length + 1) * (k + 1) + 1 = (a.length - b.length + 2) * (k + 1) := by rw [Nat.add_mul, Nat.add_mul (a.length - b.length) 2]; omega
  rw [e1]
  have e2 : a.length - b.length + 2 ≤ 2 ^ (a.length - b.length + 1) := by
    have : a.length - b.length + 1 < 2 ^ (a.length - b.length + 1) := Nat.lt_two_pow_self
    omega
  have e3 : 2 ^ (b.length + (dvR a b).length) ≤ 2 ^ (b.length + b.length - 1) := Nat.pow_le_pow_right (by omega) (by omega)
  calc (a.length - b.length + 2) * (k + 1) * 2 ^ (b.length + (dvR a b).length) ≤ 2 ^ (a.length - b.length + 1) * (k + 1) * 2 ^ (b.length + b.length - 1) := Nat.mul_le_mul (Nat.mul_le_mul_right _ e2) e3
    _ = (k + 1) * (2 ^ (a.length - b.length + 1) * 2 ^ (b.length + b.length - 1)) := by rw [Nat.mul_comm (2 ^ _) (k + 1), Nat.mul_assoc]
    _ = (k + 1) * 2 ^ (a.length + b.length) := by
      have hl : 0 < b.length := by cases b with | nil => exact absurd rfl h0 | cons _ _ => simp
      rw [← Nat.pow_add, show a.length - b.length + 1 + (b.length + b.length - 1) = a.length + b.length by omega]
theorem k_pow (k n : Nat) : k ≤ (k + 1) * 2 ^ n := by
  have hp : 1 ≤ 2 ^ n := Nat.one_le_two_pow
  have := Nat.mul_le_mul_left (k + 1) hp
  omega
theorem gcF_sz : ∀ n {a b : List Rat} {k : Nat}, Ca a → Ca b → SzF (co a) k → SzF (co b) k → SzF (co (gcF n a b)) ((k + 1) * 2 ^ (a.length + b.length)) := by
  intro n
  induction n with
  | zero => intro a b k _ _ h _; exact h.mono (k_pow _ _)
  | succ n ih =>
    intro a b k ha hb h1 h2
    unfold gcF
    split
    · exact h1.mono (k_pow _ _)
    · rename_i h0
      by_cases c : a.length < b.length
      · have e : dvR a b = a := by unfold dvR; rw [if_pos c]
        rw [e]
        have := ih hb ha h2 h1
        rw [Nat.add_comm a.length]; exact this
      · obtain ⟨k', _, h3, h4, h5⟩ := euc_sz ha hb h1 h2 h0 (by omega)
        exact (ih hb (dvR_ca b ha) h3 h4).mono h5
theorem SzF.scm {f : Fn} {k : Nat} (h : SzF f k) : SzF (fun i => f i * (-1)) k := by
  obtain ⟨e, he, h1, h2⟩ := h
  refine ⟨e, he, h1, fun i => ?_⟩
  obtain ⟨n, hn, h3⟩ := h2 i
  refine ⟨-n, by rw [Int.natAbs_neg]; exact hn, ?_⟩
  rw [Rat.intCast_neg, ← h3]; grind
end Go.Pe
set_option linter.unusedSimpArgs false
set_option linter.unusedVariables false
open Go
namespace Go.Pe
def evl (l : List Rat) (x : Rat) : Rat := ef (co l) l.length x
theorem ef_shift (f : Fn) (x : Rat) (i n : Nat) : ef (fun k => f (i + k)) (n + 1) x = f i + x * ef (fun k => f (i + 1 + k)) n x := by
  rw [ef_succ]
  have e : sh (fun k => f (i + k)) = fun k => f (i + 1 + k) := by funext k; show f (i + (k + 1)) = f (i + 1 + k); rw [show i + (k + 1) = i + 1 + k by omega]
  rw [e]; rfl
theorem ef_sq {f : Fn} {x : Rat} {k m : Nat} (hf : SzE f k) (hx : sq x ≤ m) : ∀ n, sq (ef f n x) ≤ n * (k + m + 1) + 1 := by
  intro n
  induction n generalizing f with
  | zero => rw [ef_zero]; have := sq_zero; omega
  | succ n ih =>
    rw [ef_succ, Nat.add_mul]
    have := ih (f := sh f) fun i => hf (i + 1)
    have := sq_add (f 0) (x * ef (sh f) n x)
    have := sq_mul x (ef (sh f) n x)
    have := hf 0
    omega
def dT (l : List Rat) : List Rat := tk (fun i => co l (i + 1) * ((i + 1 : Nat) : Int)) (l.length - 1)
theorem dT_dg (l : List Rat) : Dg (fun i => co l (i + 1) * (((i + 1 : Nat) : Int) : Rat)) (l.length - 1) := fun i hi => by
  show co l (i + 1) * _ = 0
  rw [co_big (by omega)]; grind
theorem co_dT (l : List Rat) : co (dT l) = fun i => co l (i + 1) * (((i + 1 : Nat) : Int) : Rat) := co_tk (dT_dg l)
theorem sq_int (n : Int) (h : n.natAbs < 4294967296) : sq (n : Rat) ≤ 1 := by
  unfold sq
  rw [Rat.num_intCast, Rat.den_intCast]
  have h1 : L n.natAbs ≤ 1 := L_le (n := n.natAbs) (k := 1) (by omega)
  have h2 : L 1 ≤ 1 := L_le (n := 1) (k := 1) (by decide)
  omega
end Go.Pe
set_option linter.unusedSimpArgs false
set_option linter.unusedVariables false
open Go
namespace Go.Pe
theorem qmake_c {n d : Int} (hn : L n.natAbs ≤ 100000000000) (hd : L d.natAbs ≤ 100000000000) (h0 : d ≠ 0) : R FF 122 [(AV.agg [AV.b (ng n), (AV.l 1 (List.map u (D (Int.natAbs n))))]), (AV.agg [AV.b (ng d), (AV.l 1 (List.map u (D (Int.natAbs d))))])] = some (.tup [(AV.agg [AV.b (ng (Rat.num ((Rat.divInt n d)))), (AV.l 1 (List.map u (D (Int.natAbs (Rat.num ((Rat.divInt n d))))))), (AV.l 1 (List.map u (D (Rat.den ((Rat.divInt n d))))))]), (AV.i .i64 0)]) := by
  have k1 := wclean_c (q := ng n) (D_U n.natAbs) (show L _ ≤ _ by omega)
  have k2 := wclean_c (q := ng d) (D_U d.natAbs) (show L _ ≤ _ by omega)
  have s1 := wsign_c (q := ng d) (D_U d.natAbs) (show L _ ≤ _ by omega)
  have m1 := wneg_c (q := ng n) (D_U n.natAbs) (show L _ ≤ _ by omega)
  rw [wv_ci] at k1 k2 s1 m1
  have c0 : ¬ cmp d 0 = 0 := fun h => h0 (cmp_eq_iff.1 h)
  rcases Int.lt_or_le d 0 with c | c
  · have e1 : d = -((d.natAbs : Nat) : Int) := by omega
    have e2 : Rat.divInt n d = mkRat (-n) d.natAbs := by
      conv => lhs; rw [e1]
      rw [Rat.divInt_neg', Rat.divInt_ofNat]
    have f1 := form_c (n := -n) (d := d.natAbs) (by omega) (by rw [Int.natAbs_neg]; omega) hd
    have b1 : ng d = true := by unfold ng; exact decide_eq_true c
    rw [e2]
    rw [b1] at k2 s1 ⊢
    generalize mkRat (-n) d.natAbs = z at *
    rw [R_go FF F122 c122.eq_1]
    simp only [RB, un, St.none, Nat.reduceEqDiff, Nat.reduceAdd, Nat.reduceMul, Nat.reduceLeDiff, Nat.reduceLT, Int.reduceLT, Int.reduceLE, Int.reduceEq, Int.reduceToNat, Int.reduceSub, Int.reduceNeg, Int.reduceAdd, ↓reduceIte, reduceCtorEq, ite_self, eq_self, if_true, if_false, pack, pid, parN, List.not_mem_nil, List.mem_cons, lid, chkK, apartV, List.map_nil, List.flatMap_nil, List.append_nil, List.nil_append, List.drop_zero, List.length_set, List.length_replicate, List.length_append, List.take_length, List.take_zero, List.drop_length, Option.isNone_none, Heap.none, k1, k2, s1, m1, c0, f1]
  · have e1 : d = ((d.natAbs : Nat) : Int) := by omega
    have e2 : Rat.divInt n d = mkRat n d.natAbs := by
      conv => lhs; rw [e1]
      rw [Rat.divInt_ofNat]
    have f1 := form_c (n := n) (d := d.natAbs) (by omega) hn hd
    have b1 : ng d = false := ng_false.2 c
    rw [e2]
    rw [b1] at k2 s1 ⊢
    generalize mkRat n d.natAbs = z at *
    rw [R_go FF F122 c122.eq_1]
    simp only [RB, un, St.none, Nat.reduceEqDiff, Nat.reduceAdd, Nat.reduceMul, Nat.reduceLeDiff, Nat.reduceLT, Int.reduceLT, Int.reduceLE, Int.reduceEq, Int.reduceToNat, Int.reduceSub, Int.reduceNeg, Int.reduceAdd, ↓reduceIte, reduceCtorEq, ite_self, eq_self, if_true, if_false, pack, pid, parN, List.not_mem_nil, List.mem_cons, lid, chkK, apartV, List.map_nil, List.flatMap_nil, List.append_nil, List.nil_append, List.drop_zero, List.length_set, List.length_replicate, List.length_append, List.take_length, List.take_zero, List.drop_length, Option.isNone_none, Heap.none, k1, k2, s1, m1, c0, f1]
theorem qinv_c {q : Bool} {l d : List Int} {k : Nat} (hk : k ≤ 10000000000) (h1k : 1 ≤ k) (h : Sm l d k) (h0 : qv q l d ≠ 0) : R FF 220 [(AV.agg [AV.b q, (AV.l 1 (List.map u l)), (AV.l 1 (List.map u d))])] = some (.tup [(AV.agg [AV.b (ng (Rat.num ((qv q l d)⁻¹))), (AV.l 1 (List.map u (D (Int.natAbs (Rat.num ((qv q l d)⁻¹)))))), (AV.l 1 (List.map u (D (Rat.den ((qv q l d)⁻¹)))))]), (AV.i .i64 0)]) := by
  have k1 := qclean_s (q := q) h (by omega)
  have s1 := Sm.sq (q := q) h h1k
  generalize qv q l d = x at *
  have e1 := qden_c (q := ng x.num) (l := D x.num.natAbs) (d := D x.den)
  have n1 := sq_num x
  have n2 := sq_den x
  have m1 := qmake_c (n := (x.den : Int)) (d := x.num) (by rw [Int.natAbs_natCast]; omega) (by omega) (fun h => h0 (Rat.num_eq_zero.1 h))
  rw [← Rat.inv_def, ng_false.2 (by omega), Int.natAbs_natCast] at m1
  generalize x⁻¹ = y at *
  rw [R_go FF F220 c220.eq_1]
  simp only [RB, un, St.none, Nat.reduceEqDiff, Nat.reduceAdd, Nat.reduceMul, Nat.reduceLeDiff, Nat.reduceLT, Int.reduceLT, Int.reduceLE, Int.reduceEq, Int.reduceToNat, Int.reduceSub, Int.reduceNeg, Int.reduceAdd, ↓reduceIte, reduceCtorEq, ite_self, eq_self, if_true, if_false, pack, pid, parN, List.not_mem_nil, List.mem_cons, lid, chkK, apartV, List.map_nil, List.flatMap_nil, List.append_nil, List.nil_append, List.drop_zero, List.length_set, List.length_replicate, List.length_append, List.take_length, List.take_zero, List.drop_length, Option.isNone_none, Heap.none, k1, e1, m1]
end Go.Pe
set_option linter.unusedSimpArgs false
set_option linter.unusedVariables false
open Go
namespace Go.Pe
theorem SzE.two {c d : Rat} {k : Nat} (h1k : 1 ≤ k) (h1 : sq c ≤ k) (h2 : sq d ≤ k) : SzE (co [c, d]) k := fun i => by
  match i with
  | 0 => exact h1
  | 1 => exact h2
  | i + 2 => rw [co_big (by simp)]; exact Nat.le_trans sq_zero h1k
theorem SzE.muT {a b : List Rat} {k m n : Nat} (ha : SzE (co a) k) (hb : SzE (co b) m) (hl : a.length ≤ n) : SzE (co (muT a b)) (n * (k + m + 1) + 1) := by
  rw [co_muT]
  exact SzE.mu ha hb ((co_dg a).mono hl)
theorem SzE.scT {a : List Rat} {k m : Nat} (ha : SzE (co a) k) {c : Rat} (hc : sq c ≤ m) : SzE (co (scT a c)) (k + m) := by rw [co_scT]; exact SzE.sc ha hc
theorem SzE.single {c : Rat} {k : Nat} (h1k : 1 ≤ k) (h : sq c ≤ k) : SzE (co [c]) k := fun i => by
  match i with
  | 0 => exact h
  | i + 1 => rw [co_big (by simp)]; exact Nat.le_trans sq_zero h1k
theorem evl_sq {l : List Rat} {x : Rat} {k m n : Nat} (hl : SzE (co l) k) (hx : sq x ≤ m) (hn : l.length ≤ n) : sq (evl l x) ≤ n * (k + m + 1) + 1 := by
  have h := ef_sq hl hx l.length
  have := Nat.mul_le_mul_right (k + m + 1) hn
  unfold evl
  omega
def chF : Nat → List Rat → List Rat → List (List Rat)
  | 0, _, _ => []
  | n + 1, p, q => if q = [] then [] else q :: chF n q (scT (dvR p q) (-1))
def chT (p : List Rat) : List (List Rat) := if p = [] then [] else p :: chF p.length p (dT p)
theorem scT_len {a : List Rat} {c : Rat} (h : Ca a) (hc : c ≠ 0) : (scT a c).length = a.length := by
  have h1 : (scT a c).length ≤ a.length := tk_le _ _
  rcases h with h | h
  · omega
  · rcases Nat.lt_or_ge (scT a c).length a.length with k | k
    · have h2 := co_dg (scT a c) (a.length - 1) (by omega)
      rw [co_scT] at h2
      rcases Rat.mul_eq_zero.1 h2 with h3 | h3
      · exact absurd h3 h
      · exact absurd h3 hc
    · omega
theorem dT_len (l : List Rat) : (dT l).length ≤ l.length - 1 := tk_le _ _
end Go.Pe
set_option linter.unusedSimpArgs false
set_option linter.unusedVariables false
open Go
namespace Go.Pe
def upF (g : Fn) (e : Nat) (v : Rat) : Fn := fun j => if j = e then v else g j
theorem nf_el (f : Fn) (n i : Nat) (h : i < (nf f n).length) : (nf f n)[i] = rQ (f i) := by simp [nf]
theorem nf_set (g : Fn) (n e : Nat) (v : Rat) : (nf g n).set e (rQ v) = nf (upF g e v) n := by
  apply List.ext_getElem
  · rw [List.length_set, nf_len, nf_len]
  · intro i h1 h2
    rw [List.getElem_set, nf_el, nf_el]
    unfold upF
    by_cases c : e = i
    · rw [if_pos c, if_pos c.symm]
    · rw [if_neg c, if_neg (fun h => c h.symm)]
theorem nf_put (g : Fn) (n e : Nat) (v : Rat) : putC 3 ((nf g n).map eQ) e 0 [.b (ng v.num), (AV.l 1 (List.map u (D v.num.natAbs))), (AV.l 1 (List.map u (D v.den)))] = (nf (upF g e v) n).map eQ := by
  rw [← nf_set]
  exact putC_map eQ 3 (nf g n) e (rQ v) rfl
theorem nf_vQ (g : Fn) {n i : Nat} (h : i < n) : vQ ((nf g n).getD i dQ) = g i := by rw [nf_get g h, vQ_rQ]
theorem vQ_r {l : List Rat} {i : Nat} (h : i < l.length) : vQ ((l.map rQ).getD i dQ) = co l i := by rw [getD_r h, vQ_rQ]
theorem smi_r {l : List Rat} {i k : Nat} (h : i < l.length) (hl : SzE (co l) k) : Sm ((l.map rQ).getD i dQ).2.1 ((l.map rQ).getD i dQ).2.2 k := by rw [getD_r h]; exact sm_cq (hl i)
def zlO (n i : Nat) : List (Option RQt) := List.replicate i (some (rQ 0)) ++ List.replicate (n - i) none
theorem zlO_len {n i : Nat} (h : i ≤ n) : (zlO n i).length = n := by
  unfold zlO
  rw [List.length_append, List.length_replicate, List.length_replicate]; omega
theorem zlO_set {n i : Nat} (h : i < n) : (zlO n i).set i (some (rQ 0)) = zlO n (i + 1) := by
  unfold zlO
  rw [List.set_append_right _ _ (by rw [List.length_replicate]; omega), List.length_replicate, Nat.sub_self, show n - i = (n - (i + 1)) + 1 by omega, List.replicate_succ (n := n - (i + 1)), List.set_cons_zero, List.replicate_succ' (n := i), List.append_assoc]
  rfl
theorem zlO_end (n : Nat) : (zlO n n).map eO = (nf (fun _ => 0) n).map eQ := by
  unfold zlO nf
  rw [Nat.sub_self, List.replicate_zero, List.append_nil, List.map_replicate, List.map_map]
  apply List.ext_getElem
  · simp
  · intro i h1 h2; simp [eO]
theorem pmul_z {A B : List Rat} {n : Nat} (hn : n ≤ 100000000000) : ∀ (d i : Nat), i + d = n →
    LP FF [(5, 1), (0, 0), (1, 0), (31, 0), (32, 0)] [(5, 1), (0, 0), (1, 0)] b164_2 [.own true 3 ((zlO n i).map eO), (AV.l 3 (List.map eQ (List.map rQ A))), (AV.l 3 (List.map eQ (List.map rQ B))), (AV.i .i64 ((n : Int))), (AV.i .i64 ((i : Int)))] = some (.exit 0, [.own true 3 ((nf (fun _ => 0) n).map eQ), (AV.l 3 (List.map eQ (List.map rQ A))), (AV.l 3 (List.map eQ (List.map rQ B)))]) := by
  intro d
  induction d with
  | zero =>
    intro i hi
    obtain rfl : i = n := by omega
    have c1 : ¬ (i : Int) < (i : Int) := by omega
    have t1 : List.take i (nf (fun _ => 0) i) = nf (fun _ => 0) i := List.take_of_length_le (by rw [nf_len]; exact Nat.le_refl _)
    rw [zlO_end]
    rw [LP_go FF b164_2.eq_1]
    simp only [RB, un, St.none, Nat.reduceEqDiff, Nat.reduceAdd, Nat.reduceMul, Nat.reduceLeDiff, Nat.reduceLT, Int.reduceLT, Int.reduceLE, Int.reduceEq, Int.reduceToNat, Int.reduceSub, Int.reduceNeg, Int.reduceAdd, ↓reduceIte, reduceCtorEq, ite_self, eq_self, if_true, if_false, pack, pid, parN, List.not_mem_nil, List.mem_cons, lid, chkK, apartV, List.map_nil, List.flatMap_nil, List.append_nil, List.nil_append, List.drop_zero, List.length_set, List.length_replicate, List.length_append, List.take_length, List.take_zero, List.drop_length, Option.isNone_none, Heap.none, c1, eQ_rules, t1, nf_len]
  | succ d ih =>
    intro i hi
    have h9 := ih (i + 1) (by omega)
    have c1 : (i : Int) < (n : Int) := by omega
    have e1 : IntKind.i64.wrap ((i : Int) + 1) = ((i + 1 : Nat) : Int) := w64succ (by omega)
    have z1 := qzero_c
    have hlen := zlO_len (show i ≤ n by omega)
    have p1 := eO_put (zlO n i) i (rQ 0)
    rw [zlO_set (by omega)] at p1
    change putC 3 (List.map eO (zlO n i)) i 0 [.b (ng (0 : Rat).num), (AV.l 1 (List.map u (D (0 : Rat).num.natAbs))), (AV.l 1 (List.map u (D (0 : Rat).den)))] = _ at p1
    have c3 : (i : Int) < ((List.map eO (zlO n i)).length : Int) := by rw [List.length_map, hlen]; omega
    have c4 : i < n := by omega
    have t1 : List.take n (zlO n (i + 1)) = zlO n (i + 1) := List.take_of_length_le (by rw [zlO_len (by omega)]; exact Nat.le_refl _)
    generalize zlO n i = L' at *
    generalize zlO n (i + 1) = L2 at *
    rw [LP_go FF b164_2.eq_1]
    simp only [RB, un, St.none, Nat.reduceEqDiff, Nat.reduceAdd, Nat.reduceMul, Nat.reduceLeDiff, Nat.reduceLT, Int.reduceLT, Int.reduceLE, Int.reduceEq, Int.reduceToNat, Int.reduceSub, Int.reduceNeg, Int.reduceAdd, ↓reduceIte, reduceCtorEq, ite_self, eq_self, if_true, if_false, pack, pid, parN, List.not_mem_nil, List.mem_cons, lid, chkK, apartV, List.map_nil, List.flatMap_nil, List.append_nil, List.nil_append, List.drop_zero, List.length_set, List.length_replicate, List.length_append, List.take_length, List.take_zero, List.drop_length, Option.isNone_none, Heap.none, c1, c4, e1, eQ_rules, eQ_row, Int.natCast_nonneg, z1, hlen, p1, List.length_map, t1]
    exact h9
def adF (g : Fn) (i : Nat) (x : Rat) (B : Fn) (k : Nat) : Fn := fun j => if i ≤ j ∧ j < i + k then g j + x * B (j - i) else g j
theorem adF_zero (g : Fn) (i : Nat) (x : Rat) (B : Fn) : adF g i x B 0 = g := by funext j; unfold adF; rw [if_neg (by omega)]
theorem adF_succ (g : Fn) (i : Nat) (x : Rat) (B : Fn) (k : Nat) : upF (adF g i x B k) (i + k) (g (i + k) + x * B k) = adF g i x B (k + 1) := by
  funext j
  unfold upF adF
  by_cases c : j = i + k
  · rw [if_pos c, if_pos (by omega), c, Nat.add_sub_cancel_left]
  · rw [if_neg c]
    by_cases d : i ≤ j ∧ j < i + k
    · rw [if_pos d, if_pos (by omega)]
    · rw [if_neg d, if_neg (by omega)]
theorem adF_at (g : Fn) (i : Nat) (x : Rat) (B : Fn) (k : Nat) : adF g i x B k (i + k) = g (i + k) := by unfold adF; rw [if_neg (by omega)]
theorem pmul_l1 {A B : List Rat} {g : Fn} {n i k m : Nat} (hk : k ≤ 10000000000) (hm : m ≤ 10000000000) (hn : n ≤ 100000000000) (hi : i < A.length) (hl : i + B.length ≤ n) (hA : SzE (co A) m) (hB : SzE (co B) m) (hg : SzE g k) : ∀ (d j : Nat), j + d = B.length →
    LP FF [(5, 1), (1, 0), (7, 0), (8, 0), (40, 0), (41, 0), (42, 0), (47, 0), (48, 0), (49, 0)] [(5, 1), (1, 0), (40, 0), (41, 0), (42, 0)] b164_1 [.own true 3 ((nf (adF g i (co A i) (co B) j) n).map eQ), (AV.l 3 (List.map eQ (List.map rQ B))), (AV.i .i64 ((i : Int))), .tp (eQ ((A.map rQ).getD i dQ)) 0, (AV.l 3 (List.map eQ (List.map rQ A))), (AV.i .i64 ((A.length : Int))), (AV.i .i64 ((i : Int))), (AV.l 3 (List.map eQ (List.map rQ B))), (AV.i .i64 ((B.length : Int))), (AV.i .i64 ((j : Int)))] =
      some (.exit 4, [.own true 3 ((nf (adF g i (co A i) (co B) B.length) n).map eQ), (AV.l 3 (List.map eQ (List.map rQ B))), (AV.l 3 (List.map eQ (List.map rQ A))), (AV.i .i64 ((A.length : Int))), (AV.i .i64 ((i : Int)))]) := by
  intro d
  induction d with
  | zero =>
    intro j hj
    obtain rfl : j = B.length := by omega
    have c1 : ¬ (B.length : Int) < (B.length : Int) := by omega
    have t1 : ∀ f : Fn, List.take n (nf f n) = nf f n := fun f => List.take_of_length_le (by rw [nf_len]; exact Nat.le_refl _)
    rw [LP_go FF b164_1.eq_1]
    simp only [RB, un, St.none, Nat.reduceEqDiff, Nat.reduceAdd, Nat.reduceMul, Nat.reduceLeDiff, Nat.reduceLT, Int.reduceLT, Int.reduceLE, Int.reduceEq, Int.reduceToNat, Int.reduceSub, Int.reduceNeg, Int.reduceAdd, ↓reduceIte, reduceCtorEq, ite_self, eq_self, if_true, if_false, pack, pid, parN, List.not_mem_nil, List.mem_cons, lid, chkK, apartV, List.map_nil, List.flatMap_nil, List.append_nil, List.nil_append, List.drop_zero, List.length_set, List.length_replicate, List.length_append, List.take_length, List.take_zero, List.drop_length, Option.isNone_none, Heap.none, c1, eQ_rules, t1, nf_len]
  | succ d ih =>
    intro j hj
    have h9 := ih (j + 1) (by omega)
    rw [← adF_succ] at h9
    have c1 : (j : Int) < (B.length : Int) := by omega
    have e1 : IntKind.i64.wrap ((j : Int) + 1) = ((j + 1 : Nat) : Int) := w64succ (by omega)
    have e2 : IntKind.i64.wrap ((i : Int) + (j : Int)) = ((i + j : Nat) : Int) := by rw [w64 (by omega) (by omega)]; omega
    have c2 : i + j < n := by omega
    have c3 : ((i + j : Nat) : Int) < (n : Int) := by omega
    have x1 := vQ_r hi
    have x2 := smi_r hi hA
    have y1 := vQ_r (show j < B.length by omega)
    have y2 := smi_r (show j < B.length by omega) hB
    have z1 := nf_vQ (adF g i (co A i) (co B) j) c2
    rw [adF_at] at z1
    have z2 : Sm ((nf (adF g i (co A i) (co B) j) n).getD (i + j) dQ).2.1 ((nf (adF g i (co A i) (co B) j) n).getD (i + j) dQ).2.2 k := by rw [nf_get _ c2, adF_at]; exact sm_cq (hg _)
    have b1 : sq (co A i * co B j) ≤ 20000000000 := by have := sq_mul (co A i) (co B j); have := hA i; have := hB j; omega
    have pu := fun v => nf_put (adF g i (co A i) (co B) j) n (i + j) v
    have ln := nf_len (adF g i (co A i) (co B) j) n
    have ln2 := fun v => nf_len (upF (adF g i (co A i) (co B) j) (i + j) v) n
    have t1 : ∀ v, List.take n (nf (upF (adF g i (co A i) (co B) j) (i + j) v) n) = nf (upF (adF g i (co A i) (co B) j) (i + j) v) n := fun v => List.take_of_length_le (by rw [nf_len]; exact Nat.le_refl _)
    generalize (A.map rQ).getD i dQ = X at *
    generalize hY : (B.map rQ).getD j dQ = Y at *
    generalize hZ : (nf (adF g i (co A i) (co B) j) n).getD (i + j) dQ = Z at *
    have g1 : R FF 94 [(AV.agg [AV.b X.1, (AV.l 1 (List.map u X.2.1)), (AV.l 1 (List.map u X.2.2))]), (AV.agg [AV.b Y.1, (AV.l 1 (List.map u Y.2.1)), (AV.l 1 (List.map u Y.2.2))])] = some (AV.agg [AV.b (ng (Rat.num ((vQ X * vQ Y)))), (AV.l 1 (List.map u (D (Int.natAbs (Rat.num ((vQ X * vQ Y))))))), (AV.l 1 (List.map u (D (Rat.den ((vQ X * vQ Y))))))]) := qmul_s x2 y2 (by omega) (by omega)
    rw [x1, y1] at g1
    have g2 : R FF 31 [(AV.agg [AV.b Z.1, (AV.l 1 (List.map u Z.2.1)), (AV.l 1 (List.map u Z.2.2))]), (AV.agg [AV.b (ng (Rat.num ((co A i * co B j)))), (AV.l 1 (List.map u (D (Int.natAbs (Rat.num ((co A i * co B j))))))), (AV.l 1 (List.map u (D (Rat.den ((co A i * co B j))))))])] = some (AV.agg [AV.b (ng (Rat.num ((vQ Z + qv (ng (co A i * co B j).num) (D (co A i * co B j).num.natAbs) (D (co A i * co B j).den))))), (AV.l 1 (List.map u (D (Int.natAbs (Rat.num ((vQ Z + qv (ng (co A i * co B j).num) (D (co A i * co B j).num.natAbs) (D (co A i * co B j).den)))))))), (AV.l 1 (List.map u (D (Rat.den ((vQ Z + qv (ng (co A i * co B j).num) (D (co A i * co B j).num.natAbs) (D (co A i * co B j).den)))))))]) := qadd_s z2 (sm_cq b1) (by omega) (by omega)
    rw [qv_cq, z1] at g2
    generalize nf (adF g i (co A i) (co B) j) n = N' at *
    generalize co A i * co B j = w at *
    generalize g (i + j) + w = w2 at *
    rw [LP_go FF b164_1.eq_1]
    simp only [RB, un, St.none, Nat.reduceEqDiff, Nat.reduceAdd, Nat.reduceMul, Nat.reduceLeDiff, Nat.reduceLT, Int.reduceLT, Int.reduceLE, Int.reduceEq, Int.reduceToNat, Int.reduceSub, Int.reduceNeg, Int.reduceAdd, ↓reduceIte, reduceCtorEq, ite_self, eq_self, if_true, if_false, pack, pid, parN, List.not_mem_nil, List.mem_cons, lid, chkK, apartV, List.map_nil, List.flatMap_nil, List.append_nil, List.nil_append, List.drop_zero, List.length_set, List.length_replicate, List.length_append, List.take_length, List.take_zero, List.drop_length, Option.isNone_none, Heap.none, c1, c2, c3, e1, e2, eQ_rules, eQ_row, Int.natCast_nonneg, List.length_map, ln, hY, hZ, g1, g2, pu, ln2, t1]
    exact h9
def muG (A B : Fn) (n : Nat) : Nat → Fn
  | 0 => fun _ => 0
  | i + 1 => adF (muG A B n i) i (A i) B n
theorem muG_cv {A B : Fn} {n : Nat} (hB : Dg B n) : ∀ i j, muG A B n i j = cv A B i j := by
  intro i
  induction i with
  | zero => intro j; rfl
  | succ i ih =>
    intro j
    show adF (muG A B n i) i (A i) B n j = cv A B i j + (if i ≤ j then A i * B (j - i) else 0)
    unfold adF
    rw [ih]
    by_cases c : i ≤ j
    · rw [if_pos c]
      by_cases d : j < i + n
      · rw [if_pos ⟨c, d⟩]
      · rw [if_neg (by omega), hB (j - i) (by omega)]; grind
    · rw [if_neg (by omega), if_neg c]; grind
theorem pmul_l0 {A B : List Rat} {n k m : Nat} (hk : k ≤ 10000000000) (hm : m ≤ 10000000000) (hn : n ≤ 100000000000) (hl : A.length + B.length ≤ n + 1) (hA : SzE (co A) m) (hB : SzE (co B) m) (hg : ∀ i, i ≤ A.length → SzE (muG (co A) (co B) B.length i) k) : ∀ (d i : Nat), i + d = A.length →
    LP FF [(5, 1), (1, 0), (40, 0), (41, 0), (42, 0)] [(5, 0)] b164_0 [.own true 3 ((nf (muG (co A) (co B) B.length i) n).map eQ), (AV.l 3 (List.map eQ (List.map rQ B))), (AV.l 3 (List.map eQ (List.map rQ A))), (AV.i .i64 ((A.length : Int))), (AV.i .i64 ((i : Int)))] = some (.exit 2, [.l 3 ((nf (muG (co A) (co B) B.length A.length) n).map eQ)]) := by
  intro d
  induction d with
  | zero =>
    intro i hi
    obtain rfl : i = A.length := by omega
    have c1 : ¬ (A.length : Int) < (A.length : Int) := by omega
    have t1 : ∀ f : Fn, List.take n (nf f n) = nf f n := fun f => List.take_of_length_le (by rw [nf_len]; exact Nat.le_refl _)
    rw [LP_go FF b164_0.eq_1]
    simp only [RB, un, St.none, Nat.reduceEqDiff, Nat.reduceAdd, Nat.reduceMul, Nat.reduceLeDiff, Nat.reduceLT, Int.reduceLT, Int.reduceLE, Int.reduceEq, Int.reduceToNat, Int.reduceSub, Int.reduceNeg, Int.reduceAdd, ↓reduceIte, reduceCtorEq, ite_self, eq_self, if_true, if_false, pack, pid, parN, List.not_mem_nil, List.mem_cons, lid, chkK, apartV, List.map_nil, List.flatMap_nil, List.append_nil, List.nil_append, List.drop_zero, List.length_set, List.length_replicate, List.length_append, List.take_length, List.take_zero, List.drop_length, Option.isNone_none, Heap.none, c1, eQ_rules, t1, nf_len]
  | succ d ih =>
    intro i hi
    have h9 := ih (i + 1) (by omega)
    have h1 := pmul_l1 (g := muG (co A) (co B) B.length i) hk hm hn (show i < A.length by omega) (by omega) hA hB (hg i (by omega)) B.length 0 (by omega)
    rw [adF_zero, Int.ofNat_zero] at h1
    have e0 : adF (muG (co A) (co B) B.length i) i (co A i) (co B) B.length = muG (co A) (co B) B.length (i + 1) := rfl
    rw [e0] at h1
    have c1 : (i : Int) < (A.length : Int) := by omega
    have e1 : IntKind.i64.wrap ((i : Int) + 1) = ((i + 1 : Nat) : Int) := w64succ (by omega)
    have t1 : ∀ f : Fn, List.take n (nf f n) = nf f n := fun f => List.take_of_length_le (by rw [nf_len]; exact Nat.le_refl _)
    rw [LP_go FF b164_0.eq_1]
    simp only [RB, un, St.none, Nat.reduceEqDiff, Nat.reduceAdd, Nat.reduceMul, Nat.reduceLeDiff, Nat.reduceLT, Int.reduceLT, Int.reduceLE, Int.reduceEq, Int.reduceToNat, Int.reduceSub, Int.reduceNeg, Int.reduceAdd, ↓reduceIte, reduceCtorEq, ite_self, eq_self, if_true, if_false, pack, pid, parN, List.not_mem_nil, List.mem_cons, lid, chkK, apartV, List.map_nil, List.flatMap_nil, List.append_nil, List.nil_append, List.drop_zero, List.length_set, List.length_replicate, List.length_append, List.take_length, List.take_zero, List.drop_length, Option.isNone_none, Heap.none, c1, e1, eQ_rules, eQ_row, Int.natCast_nonneg, List.length_map, nf_len, t1]
    rw [show eQ ((List.map rQ A).getD i dQ) = [.b ((List.map rQ A).getD i dQ).1, (AV.l 1 (List.map u (((List.map rQ A).getD i dQ).2.1))), (AV.l 1 (List.map u (((List.map rQ A).getD i dQ).2.2)))] from rfl] at h1
    simp only [RB, un, St.none, Nat.reduceEqDiff, Nat.reduceAdd, Nat.reduceMul, Nat.reduceLeDiff, Nat.reduceLT, Int.reduceLT, Int.reduceLE, Int.reduceEq, Int.reduceToNat, Int.reduceSub, Int.reduceNeg, Int.reduceAdd, ↓reduceIte, reduceCtorEq, ite_self, eq_self, if_true, if_false, pack, pid, parN, List.not_mem_nil, List.mem_cons, lid, chkK, apartV, List.map_nil, List.flatMap_nil, List.append_nil, List.nil_append, List.drop_zero, List.length_set, List.length_replicate, List.length_append, List.take_length, List.take_zero, List.drop_length, Option.isNone_none, Heap.none, h1, e1, eQ_rules, eQ_row, nf_len, t1]
    exact h9
theorem pmul_r {a b : List RQt} {k n : Nat} (hk : n * (2 * k + 1) + 1 ≤ 10000000000) (h1k : 1 ≤ k) (la : a.length ≤ n) (hn : n ≤ 1000000) (lb : b.length ≤ 1000000) (h1 : SmL a k) (h2 : SmL b k) (hk2 : k ≤ 1000000000) : R FF 164 [.l 3 (a.map eQ), .l 3 (b.map eQ)] = some (AV.l 3 (List.map eQ (List.map rQ (muT (vsQ a) (vsQ b))))) := by
  have k1 := pclean_r (p := a) (by omega) h1k (by omega) h1
  have k2 := pclean_r (p := b) (by omega) h1k (by omega) h2
  have ea := (SmL.vsQ h1 h1k)
  have eb := (SmL.vsQ h2 h1k)
  have lA : (tr (vsQ a)).length ≤ n := Nat.le_trans (tr_le _) (by rw [vsQ_len]; exact la)
  have lB : (tr (vsQ b)).length ≤ 1000000 := Nat.le_trans (tr_le _) (by rw [vsQ_len]; exact lb)
  have e0 : muT (vsQ a) (vsQ b) = muT (tr (vsQ a)) (tr (vsQ b)) := ca_ext (ca_tk _ _) (ca_tk _ _) fun i => by rw [co_muT, co_muT, co_tr', co_tr']
  rw [e0]
  rw [← co_tr'] at ea eb
  have cA := ca_tr (vsQ a)
  have cB := ca_tr (vsQ b)
  generalize tr (vsQ a) = A at *
  generalize tr (vsQ b) = B at *
  by_cases hA0 : A = []
  · have e1 : muT A B = [] := ca_zero (ca_tk _ _) fun i => by rw [co_muT, hA0, show co [] = fun _ => 0 from by funext i; rfl, mu_z]
    rw [e1]
    subst hA0
    rw [R_go FF F164 c164.eq_1]
    simp only [RB, un, St.none, Nat.reduceEqDiff, Nat.reduceAdd, Nat.reduceMul, Nat.reduceLeDiff, Nat.reduceLT, Int.reduceLT, Int.reduceLE, Int.reduceEq, Int.reduceToNat, Int.reduceSub, Int.reduceNeg, Int.reduceAdd, ↓reduceIte, reduceCtorEq, ite_self, eq_self, if_true, if_false, pack, pid, parN, List.not_mem_nil, List.mem_cons, lid, chkK, apartV, List.map_nil, List.flatMap_nil, List.append_nil, List.nil_append, List.drop_zero, List.length_set, List.length_replicate, List.length_append, List.take_length, List.take_zero, List.drop_length, Option.isNone_none, Heap.none, k1, k2, List.length_nil]
  · by_cases hB0 : B = []
    · have e1 : muT A B = [] := ca_zero (ca_tk _ _) fun i => by rw [co_muT, hB0, mu_comm, show co [] = fun _ => 0 from by funext i; rfl, mu_z]
      rw [e1]
      subst hB0
      have c1 : ¬ (A.length : Int) = 0 := by have := List.length_pos_iff.2 hA0; omega
      rw [R_go FF F164 c164.eq_1]
      simp only [RB, un, St.none, Nat.reduceEqDiff, Nat.reduceAdd, Nat.reduceMul, Nat.reduceLeDiff, Nat.reduceLT, Int.reduceLT, Int.reduceLE, Int.reduceEq, Int.reduceToNat, Int.reduceSub, Int.reduceNeg, Int.reduceAdd, ↓reduceIte, reduceCtorEq, ite_self, eq_self, if_true, if_false, pack, pid, parN, List.not_mem_nil, List.mem_cons, lid, chkK, apartV, List.map_nil, List.flatMap_nil, List.append_nil, List.nil_append, List.drop_zero, List.length_set, List.length_replicate, List.length_append, List.take_length, List.take_zero, List.drop_length, Option.isNone_none, Heap.none, k1, k2, List.length_nil, List.length_map, c1]
    · have p1 := List.length_pos_iff.2 hA0
      have p2 := List.length_pos_iff.2 hB0
      have c1 : ¬ (A.length : Int) = 0 := by omega
      have c2 : ¬ (B.length : Int) = 0 := by omega
      have e1 : IntKind.i64.wrap ((A.length : Int) + (B.length : Int)) = (A.length : Int) + (B.length : Int) := w64 (by omega) (by omega)
      have e2 : IntKind.i64.wrap ((A.length : Int) + (B.length : Int) - 1) = ((A.length + B.length - 1 : Nat) : Int) := by rw [w64 (by omega) (by omega)]; omega
      have hd := co_dg B
      have hz : ∀ i, i ≤ A.length → SzE (muG (co A) (co B) B.length i) 10000000000 := fun i hi j => by
        rw [muG_cv hd]
        have h3 := SzE.cv ea eb j i
        have h4 : i * (k + k + 1) ≤ n * (k + k + 1) := Nat.mul_le_mul_right _ (by omega)
        rw [show k + k = 2 * k by omega] at h3 h4
        omega
      have z0 := pmul_z (A := A) (B := B) (n := A.length + B.length - 1) (by omega) (A.length + B.length - 1) 0 (by omega)
      have l0 := pmul_l0 (n := A.length + B.length - 1) (k := 10000000000) (m := k) (by omega) (by omega) (by omega) (by omega) ea eb hz A.length 0 (by omega)
      have e3 : List.map eO (zlO (A.length + B.length - 1) 0) = List.replicate (A.length + B.length - 1) [AV.b false, AV.ns 1, AV.ns 1] := by
        unfold zlO
        rw [List.replicate_zero, List.nil_append, Nat.sub_zero, List.map_replicate]
        rfl
      rw [e3, Int.ofNat_zero] at z0
      rw [Int.ofNat_zero, show muG (co A) (co B) B.length 0 = fun _ => 0 from rfl] at l0
      have e4 : muG (co A) (co B) B.length A.length = mu (co A) (co B) := by funext j; rw [muG_cv hd, cv_dg (co_dg A)]
      have t1 := ptrim_c (p := nf (muG (co A) (co B) B.length A.length) (A.length + B.length - 1)) (k := 10000000000) (by omega) (by rw [nf_len]; have : maxL = 9223372036854775807 := rfl; omega) (nf_sm fun i _ => hz A.length (Nat.le_refl _) i)
      rw [trim_tk, e4, show tk (mu (co A) (co B)) (A.length + B.length - 1) = muT A B from rfl] at t1
      rw [e4] at l0
      have b1 : (A.length + B.length - 1) * 56 ≤ 281474976710656 := by omega
      have r1 : List.take (A.length + B.length - 1) (List.replicate (A.length + B.length - 1) [AV.b false, AV.ns 1, AV.ns 1]) = List.replicate (A.length + B.length - 1) [AV.b false, AV.ns 1, AV.ns 1] := List.take_of_length_le (by rw [List.length_replicate]; exact Nat.le_refl _)
      have t2 : ∀ f : Fn, List.take (A.length + B.length - 1) (nf f (A.length + B.length - 1)) = nf f (A.length + B.length - 1) := fun f => List.take_of_length_le (by rw [nf_len]; exact Nat.le_refl _)
      generalize A.length + B.length - 1 = N at *
      rw [R_go FF F164 c164.eq_1]
      simp only [RB, un, St.none, Nat.reduceEqDiff, Nat.reduceAdd, Nat.reduceMul, Nat.reduceLeDiff, Nat.reduceLT, Int.reduceLT, Int.reduceLE, Int.reduceEq, Int.reduceToNat, Int.reduceSub, Int.reduceNeg, Int.reduceAdd, ↓reduceIte, reduceCtorEq, ite_self, eq_self, if_true, if_false, pack, pid, parN, List.not_mem_nil, List.mem_cons, lid, chkK, apartV, List.map_nil, List.flatMap_nil, List.append_nil, List.nil_append, List.drop_zero, List.length_set, List.length_replicate, List.length_append, List.take_length, List.take_zero, List.drop_length, Option.isNone_none, Heap.none, k1, k2, List.length_map, c1, c2, e1, e2, b1, r1, Int.natCast_nonneg, z0, l0, t1, t2, nf_len]
end Go.Pe
set_option linter.unusedSimpArgs false
set_option linter.unusedVariables false
open Go
namespace Go.Pe
theorem ptrimw_l0 {p : List RQt} {k : Nat} (hk : k ≤ 100000000000) (hl : p.length ≤ maxL) (hs : SmL p k) : ∀ n, n ≤ p.length → LP FF [(200000, 2), (0, 1), (3, 0)] [(200000, 2), (0, 1), (3, 0)] b314_0 [.own false 3 (p.map eQ), .sl 200000 3 0 p.length, (AV.i .i64 ((n : Int)))] = some (.exit 0, [.own false 3 (p.map eQ), .sl 200000 3 0 p.length, (AV.i .i64 ((tlQ p n : Int)))]) := by
  intro n
  induction n with
  | zero =>
    intro _
    unfold tlQ
    rw [LP_go FF b314_0.eq_1]
    simp only [RB, un, St.none, Nat.reduceEqDiff, Nat.reduceAdd, Nat.reduceMul, Nat.reduceLeDiff, Nat.reduceLT, Int.reduceLT, Int.reduceLE, Int.reduceEq, Int.reduceToNat, Int.reduceSub, Int.reduceNeg, Int.reduceAdd, ↓reduceIte, reduceCtorEq, ite_self, eq_self, if_true, if_false, pack, pid, parN, List.not_mem_nil, List.mem_cons, lid, chkK, apartV, List.map_nil, List.flatMap_nil, List.append_nil, List.nil_append, List.drop_zero, List.length_set, List.length_replicate, List.length_append, List.take_length, List.take_zero, List.drop_length, Option.isNone_none, Heap.none]
  | succ n ih =>
    intro hn
    have h9 := ih (by omega)
    have c1 : (0 : Int) < ((n + 1 : Nat) : Int) := by omega
    have e1 : IntKind.i64.wrap (((n + 1 : Nat) : Int) - 1) = (n : Int) := by rw [w64 (by omega) (by have : maxL = 9223372036854775807 := rfl; omega)]; omega
    have c2 : (n : Int) < (p.length : Int) := by omega
    have c3 : n < p.length := by omega
    have g1 : R FF 162 [(AV.agg [AV.b ((p.getD n dQ).1), (AV.l 1 (List.map u (((p.getD n dQ).2.1)))), (AV.l 1 (List.map u (((p.getD n dQ).2.2))))])] = some (AV.i .i64 (cmp (vQ (p.getD n dQ)).num 0)) := qsign_c hk (hs _ (getD_mem' dQ (by omega)))
    have g2 := num_zero (x := vQ (p.getD n dQ))
    unfold tlQ
    by_cases h0 : vQ (p.getD n dQ) = 0
    · rw [if_pos h0]
      have g3 := g2.2 h0
      rw [LP_go FF b314_0.eq_1]
      simp only [RB, un, St.none, Nat.reduceEqDiff, Nat.reduceAdd, Nat.reduceMul, Nat.reduceLeDiff, Nat.reduceLT, Int.reduceLT, Int.reduceLE, Int.reduceEq, Int.reduceToNat, Int.reduceSub, Int.reduceNeg, Int.reduceAdd, ↓reduceIte, reduceCtorEq, ite_self, eq_self, if_true, if_false, pack, pid, parN, List.not_mem_nil, List.mem_cons, lid, chkK, apartV, List.map_nil, List.flatMap_nil, List.append_nil, List.nil_append, List.drop_zero, List.length_set, List.length_replicate, List.length_append, List.take_length, List.take_zero, List.drop_length, Option.isNone_none, Heap.none, c1, c2, c3, e1, eQ_rules, eQ_row, Int.natCast_nonneg, g1, g3]
      exact h9
    · rw [if_neg h0]
      have g3 : ¬ cmp (vQ (p.getD n dQ)).num 0 = 0 := fun h => h0 (g2.1 h)
      rw [LP_go FF b314_0.eq_1]
      simp only [RB, un, St.none, Nat.reduceEqDiff, Nat.reduceAdd, Nat.reduceMul, Nat.reduceLeDiff, Nat.reduceLT, Int.reduceLT, Int.reduceLE, Int.reduceEq, Int.reduceToNat, Int.reduceSub, Int.reduceNeg, Int.reduceAdd, ↓reduceIte, reduceCtorEq, ite_self, eq_self, if_true, if_false, pack, pid, parN, List.not_mem_nil, List.mem_cons, lid, chkK, apartV, List.map_nil, List.flatMap_nil, List.append_nil, List.nil_append, List.drop_zero, List.length_set, List.length_replicate, List.length_append, List.take_length, List.take_zero, List.drop_length, Option.isNone_none, Heap.none, c1, c2, c3, e1, eQ_rules, eQ_row, Int.natCast_nonneg, g1, g3]
theorem ptrimw_c {p : List RQt} {k : Nat} (hk : k ≤ 100000000000) (hl : p.length ≤ maxL) (hs : SmL p k) : R FF 314 [.own false 3 (p.map eQ)] = some (.back (.sl 200000 3 0 (tlQ p p.length)) [.own false 3 (p.map eQ)]) := by
  have l0 := ptrimw_l0 hk hl hs p.length (Nat.le_refl _)
  have h1 := tlQ_le p p.length
  have c1 : (tlQ p p.length : Int) ≤ (p.length : Int) := by omega
  rw [R_go FF F314 c314.eq_1]
  simp only [RB, un, St.none, Nat.reduceEqDiff, Nat.reduceAdd, Nat.reduceMul, Nat.reduceLeDiff, Nat.reduceLT, Int.reduceLT, Int.reduceLE, Int.reduceEq, Int.reduceToNat, Int.reduceSub, Int.reduceNeg, Int.reduceAdd, ↓reduceIte, reduceCtorEq, ite_self, eq_self, if_true, if_false, pack, pid, parN, List.not_mem_nil, List.mem_cons, lid, chkK, apartV, List.map_nil, List.flatMap_nil, List.append_nil, List.nil_append, List.drop_zero, List.length_set, List.length_replicate, List.length_append, List.take_length, List.take_zero, List.drop_length, Option.isNone_none, Heap.none, l0, c1, Int.natCast_nonneg, h1]
theorem pcleanw_l0 {p : List RQt} {n k : Nat} (hk : k ≤ 100000000000) (hp : p.length = n) (hn : n ≤ 100000000000) (hs : SmL p k) : ∀ (d i : Nat), i + d = n →
    LP FF [(3, 1), (9, 0), (10, 0), (11, 0)] [(3, 1)] b313_0 [.own true 3 ((clL p n i).map eO), .l 3 (p.map eQ), (AV.i .i64 ((n : Int))), (AV.i .i64 ((i : Int)))] = some (.exit 0, [.own true 3 ((cleanL p).map eQ)]) := by
  intro d
  induction d with
  | zero =>
    intro i hi
    obtain rfl : i = n := by omega
    have c1 : ¬ (i : Int) < (i : Int) := by omega
    have t1 : List.take (cleanL p).length (cleanL p) = cleanL p := List.take_length
    rw [clL_end p hp]
    rw [LP_go FF b313_0.eq_1]
    simp only [RB, un, St.none, Nat.reduceEqDiff, Nat.reduceAdd, Nat.reduceMul, Nat.reduceLeDiff, Nat.reduceLT, Int.reduceLT, Int.reduceLE, Int.reduceEq, Int.reduceToNat, Int.reduceSub, Int.reduceNeg, Int.reduceAdd, ↓reduceIte, reduceCtorEq, ite_self, eq_self, if_true, if_false, pack, pid, parN, List.not_mem_nil, List.mem_cons, lid, chkK, apartV, List.map_nil, List.flatMap_nil, List.append_nil, List.nil_append, List.drop_zero, List.length_set, List.length_replicate, List.length_append, List.take_length, List.take_zero, List.drop_length, Option.isNone_none, Heap.none, c1, eQ_rules, t1]
  | succ d ih =>
    intro i hi
    have h9 := ih (i + 1) (by omega)
    have c1 : (i : Int) < (n : Int) := by omega
    have c2 : (i : Int) < (p.length : Int) := by omega
    have e1 : IntKind.i64.wrap ((i : Int) + 1) = ((i + 1 : Nat) : Int) := w64succ (by omega)
    have g1 : R FF 63 [(AV.agg [AV.b ((p.getD i dQ).1), (AV.l 1 (List.map u (((p.getD i dQ).2.1)))), (AV.l 1 (List.map u (((p.getD i dQ).2.2))))])] = some (AV.agg [AV.b (ng (Rat.num (vQ (p.getD i dQ)))), (AV.l 1 (List.map u (D (Int.natAbs (Rat.num (vQ (p.getD i dQ))))))), (AV.l 1 (List.map u (D (Rat.den (vQ (p.getD i dQ))))))]) := qclean_s (hs _ (getD_mem' dQ (by omega))) hk
    have hlen := clL_len p (show i ≤ n by omega) hp
    have p1 := eO_put (clL p n i) i (rQ (vQ (p.getD i dQ)))
    rw [clL_set p (by omega) hp] at p1
    change putC 3 (List.map eO (clL p n i)) i 0 [.b (ng (vQ (p.getD i dQ)).num), (AV.l 1 (List.map u (D (vQ (p.getD i dQ)).num.natAbs))), (AV.l 1 (List.map u (D (vQ (p.getD i dQ)).den)))] = _ at p1
    have c4 : i < n := by omega
    have t1 : List.take n (clL p n (i + 1)) = clL p n (i + 1) := List.take_of_length_le (by rw [clL_len p (by omega) hp]; exact Nat.le_refl _)
    generalize clL p n i = L' at *
    generalize clL p n (i + 1) = L2 at *
    rw [LP_go FF b313_0.eq_1]
    simp only [RB, un, St.none, Nat.reduceEqDiff, Nat.reduceAdd, Nat.reduceMul, Nat.reduceLeDiff, Nat.reduceLT, Int.reduceLT, Int.reduceLE, Int.reduceEq, Int.reduceToNat, Int.reduceSub, Int.reduceNeg, Int.reduceAdd, ↓reduceIte, reduceCtorEq, ite_self, eq_self, if_true, if_false, pack, pid, parN, List.not_mem_nil, List.mem_cons, lid, chkK, apartV, List.map_nil, List.flatMap_nil, List.append_nil, List.nil_append, List.drop_zero, List.length_set, List.length_replicate, List.length_append, List.take_length, List.take_zero, List.drop_length, Option.isNone_none, Heap.none, c1, c2, c4, e1, eQ_rules, eQ_row, Int.natCast_nonneg, g1, hlen, p1, List.length_map, t1]
    exact h9
theorem cleanL_tr (p : List RQt) : trimQ (cleanL p) = (tr (vsQ p)).map rQ := by rw [cleanL_nf, trim_tk, atV_vsQ, tr_mk, vsQ_len]
theorem pcleanw_r {p : List RQt} {k : Nat} (hk : k ≤ 100000000000) (h1k : 1 ≤ k) (hn : p.length ≤ 100000000000) (hs : SmL p k) : R FF 313 [.l 3 (p.map eQ)] = some (if tr (vsQ p) = [] then .l 3 [] else .own true 3 (((tr (vsQ p)).map rQ).map eQ)) := by
  have hM : maxL = 9223372036854775807 := rfl
  have l0 := pcleanw_l0 hk rfl hn hs p.length 0 (by omega)
  have e0 : List.map eO (clL p p.length 0) = List.replicate p.length [AV.b false, AV.ns 1, AV.ns 1] := by
    unfold clL
    rw [List.take_zero, List.map_nil, List.nil_append, Nat.sub_zero, List.map_replicate]
    rfl
  rw [e0, Int.ofNat_zero] at l0
  have hcl : (cleanL p).length = p.length := List.length_map _
  have t1 := ptrimw_c hk (by rw [hcl]; omega) (cleanL_sm h1k hs)
  have b1 : p.length * 56 ≤ 281474976710656 := by omega
  have r1 : List.take p.length (List.replicate p.length [AV.b false, AV.ns 1, AV.ns 1]) = List.replicate p.length [AV.b false, AV.ns 1, AV.ns 1] := List.take_of_length_le (by rw [List.length_replicate]; exact Nat.le_refl _)
  have e1 := cleanL_tr p
  have e2 := trim_len (cleanL p)
  have h1 := tlQ_le (cleanL p) (cleanL p).length
  have r2 : List.take p.length (cleanL p) = cleanL p := List.take_of_length_le (by omega)
  have r4 : List.drop p.length (cleanL p) = [] := List.drop_of_length_le (by omega)
  by_cases h0 : tr (vsQ p) = []
  · rw [if_pos h0]
    rw [e1, h0, List.map_nil, List.length_nil] at e2
    rw [← e2] at t1
    rw [R_go FF F313 c313.eq_1]
    simp only [RB, un, St.none, Nat.reduceEqDiff, Nat.reduceAdd, Nat.reduceMul, Nat.reduceLeDiff, Nat.reduceLT, Int.reduceLT, Int.reduceLE, Int.reduceEq, Int.reduceToNat, Int.reduceSub, Int.reduceNeg, Int.reduceAdd, ↓reduceIte, reduceCtorEq, ite_self, eq_self, if_true, if_false, pack, pid, parN, List.not_mem_nil, List.mem_cons, lid, chkK, apartV, List.map_nil, List.flatMap_nil, List.append_nil, List.nil_append, List.drop_zero, List.length_set, List.length_replicate, List.length_append, List.take_length, List.take_zero, List.drop_length, Option.isNone_none, Heap.none, l0, b1, r1, Int.natCast_nonneg, hcl, r2, r4, t1, eQ_rules]
  · rw [if_neg h0, ← e1]
    have c1 : 0 < tlQ (cleanL p) (cleanL p).length := by
      rw [← e2, e1, List.length_map]
      exact List.length_pos_iff.2 h0
    have t3 : List.take (tlQ (cleanL p) (cleanL p).length) (cleanL p) = trimQ (cleanL p) := rfl
    generalize tlQ (cleanL p) (cleanL p).length = t at *
    generalize cleanL p = C at *
    rw [R_go FF F313 c313.eq_1]
    simp only [RB, un, St.none, Nat.reduceEqDiff, Nat.reduceAdd, Nat.reduceMul, Nat.reduceLeDiff, Nat.reduceLT, Int.reduceLT, Int.reduceLE, Int.reduceEq, Int.reduceToNat, Int.reduceSub, Int.reduceNeg, Int.reduceAdd, ↓reduceIte, reduceCtorEq, ite_self, eq_self, if_true, if_false, pack, pid, parN, List.not_mem_nil, List.mem_cons, lid, chkK, apartV, List.map_nil, List.flatMap_nil, List.append_nil, List.nil_append, List.drop_zero, List.length_set, List.length_replicate, List.length_append, List.take_length, List.take_zero, List.drop_length, Option.isNone_none, Heap.none, l0, b1, r1, Int.natCast_nonneg, hcl, r2, r4, t1, eQ_rules, c1, t3]
end Go.Pe
set_option linter.unusedSimpArgs false
set_option linter.unusedVariables false
open Go
namespace Go.Pe
def qlO (c : Fn) (n i : Nat) : List (Option RQt) := (List.range n).map fun j => if i ≤ j then some (rQ (c j)) else none
theorem qlO_len (c : Fn) (n i : Nat) : (qlO c n i).length = n := by simp [qlO]
theorem qlO_el (c : Fn) (n i j : Nat) (h : j < (qlO c n i).length) : (qlO c n i)[j] = if i ≤ j then some (rQ (c j)) else none := by simp [qlO]
theorem qlO_set (c : Fn) (n i : Nat) : (qlO c n (i + 1)).set i (some (rQ (c i))) = qlO c n i := by
  apply List.ext_getElem
  · rw [List.length_set, qlO_len, qlO_len]
  · intro j h1 h2
    rw [List.getElem_set, qlO_el, qlO_el]
    by_cases e : i = j
    · rw [if_pos e, if_pos (by omega), e]
    · rw [if_neg e]
      by_cases d : i + 1 ≤ j
      · rw [if_pos d, if_pos (by omega)]
      · rw [if_neg d, if_neg (by omega)]
theorem qlO_get (c : Fn) {n i : Nat} (h : i < n) : (qlO c n i).getD i none = some (rQ (c i)) := by
  rw [List.getD_eq_getElem?_getD, List.getElem?_eq_getElem (by rw [qlO_len]; exact h), qlO_el, if_pos (Nat.le_refl _)]; rfl
theorem qlO_end (c : Fn) (n : Nat) : (qlO c n 0).map eO = (nf c n).map eQ := by
  unfold qlO nf
  rw [List.map_map, List.map_map]
  apply List.map_congr_left
  intro j _
  show eO (if 0 ≤ j then some (rQ (c j)) else none) = _
  rw [if_pos (Nat.zero_le _)]; rfl
theorem qlO_top (c : Fn) (n : Nat) : (qlO c n n).map eO = List.replicate n [AV.b false, AV.ns 1, AV.ns 1] := by
  apply List.ext_getElem
  · simp [qlO]
  · intro j h1 h2
    rw [List.getElem_map, qlO_el, if_neg (by rw [List.length_replicate] at h2; omega), List.getElem_replicate]; rfl
theorem eO_at : (∀ (ap : Bool) e (l : List (Option RQt)), Row.at e (.sl ap 3 (l.map eO)) = if e < l.length then some (eO (l.getD e none)) else none) ∧ (∀ x, eO (some x) = eQ x) := ⟨fun ap e l => at_map eO none ap 3 e l, fun _ => rfl⟩
def sbF (g : Fn) (i : Nat) (c : Rat) (B : Fn) (k : Nat) : Fn := fun j => if i ≤ j ∧ j < i + k then g j - c * B (j - i) else g j
theorem sbF_zero (g : Fn) (i : Nat) (c : Rat) (B : Fn) : sbF g i c B 0 = g := by funext j; unfold sbF; rw [if_neg (by omega)]
theorem sbF_succ (g : Fn) (i : Nat) (c : Rat) (B : Fn) (k : Nat) : upF (sbF g i c B k) (i + k) (g (i + k) - c * B k) = sbF g i c B (k + 1) := by
  funext j
  unfold upF sbF
  by_cases h : j = i + k
  · rw [if_pos h, if_pos (by omega), h, Nat.add_sub_cancel_left]
  · rw [if_neg h]
    by_cases d : i ≤ j ∧ j < i + k
    · rw [if_pos d, if_pos (by omega)]
    · rw [if_neg d, if_neg (by omega)]
theorem sbF_at (g : Fn) (i : Nat) (c : Rat) (B : Fn) (k : Nat) : sbF g i c B k (i + k) = g (i + k) := by unfold sbF; rw [if_neg (by omega)]
theorem dvm_l1 {B : List Rat} {g c : Fn} {n la i k m : Nat} {hd : List AV} (hk : k ≤ 10000000000) (hm : m ≤ 10000000000) (hla : la ≤ 100000000000) (hi : i < n) (hl : i + B.length ≤ la) (hn : n ≤ 100000000000) (hB : SzE (co B) m) (hc : sq (c i) ≤ k) (hg : SzE g k) : ∀ (d j : Nat), j + d = B.length →
    LP FF [(0, 1), (9, 1), (1, 0), (7, 0), (10, 0), (63, 0), (64, 0), (65, 0)] [(0, 1), (9, 1), (1, 0), (7, 0), (10, 0)] b176_1 [.own true 3 ((nf (sbF g i (c i) (co B) j) la).map eQ), .own true 3 ((qlO c n i).map eO), (AV.l 3 (List.map eQ (List.map rQ B))), .tp hd 0, (AV.i .i64 ((i : Int))), (AV.l 3 (List.map eQ (List.map rQ B))), (AV.i .i64 ((B.length : Int))), (AV.i .i64 ((j : Int)))] =
      some (.exit 2, [.own true 3 ((nf (sbF g i (c i) (co B) B.length) la).map eQ), .own true 3 ((qlO c n i).map eO), (AV.l 3 (List.map eQ (List.map rQ B))), .tp hd 0, (AV.i .i64 ((i : Int)))]) := by
  intro d
  induction d with
  | zero =>
    intro j hj
    obtain rfl : j = B.length := by omega
    have c1 : ¬ (B.length : Int) < (B.length : Int) := by omega
    have t1 : ∀ f : Fn, List.take la (nf f la) = nf f la := fun f => List.take_of_length_le (by rw [nf_len]; exact Nat.le_refl _)
    have t2 : List.take n (qlO c n i) = qlO c n i := List.take_of_length_le (by rw [qlO_len]; exact Nat.le_refl _)
    rw [LP_go FF b176_1.eq_1]
    simp only [RB, un, St.none, Nat.reduceEqDiff, Nat.reduceAdd, Nat.reduceMul, Nat.reduceLeDiff, Nat.reduceLT, Int.reduceLT, Int.reduceLE, Int.reduceEq, Int.reduceToNat, Int.reduceSub, Int.reduceNeg, Int.reduceAdd, ↓reduceIte, reduceCtorEq, ite_self, eq_self, if_true, if_false, pack, pid, parN, List.not_mem_nil, List.mem_cons, lid, chkK, apartV, List.map_nil, List.flatMap_nil, List.append_nil, List.nil_append, List.drop_zero, List.length_set, List.length_replicate, List.length_append, List.take_length, List.take_zero, List.drop_length, Option.isNone_none, Heap.none, c1, eQ_rules, t1, t2, nf_len, qlO_len, List.length_map, ← List.map_take]
  | succ d ih =>
    intro j hj
    have h9 := ih (j + 1) (by omega)
    rw [← sbF_succ] at h9
    have c1 : (j : Int) < (B.length : Int) := by omega
    have e1 : IntKind.i64.wrap ((j : Int) + 1) = ((j + 1 : Nat) : Int) := w64succ (by omega)
    have e2 : IntKind.i64.wrap ((i : Int) + (j : Int)) = ((i + j : Nat) : Int) := by rw [w64 (by omega) (by omega)]; omega
    have c2 : i + j < la := by omega
    have c3 : ((i + j : Nat) : Int) < (la : Int) := by omega
    have c4 : (i : Int) < (n : Int) := by omega
    have y1 := vQ_r (show j < B.length by omega)
    have y2 := smi_r (show j < B.length by omega) hB
    have z1 := nf_vQ (sbF g i (c i) (co B) j) c2
    rw [sbF_at] at z1
    have z2 : Sm ((nf (sbF g i (c i) (co B) j) la).getD (i + j) dQ).2.1 ((nf (sbF g i (c i) (co B) j) la).getD (i + j) dQ).2.2 k := by rw [nf_get _ c2, sbF_at]; exact sm_cq (hg _)
    have b1 : sq (c i * co B j) ≤ 20000000000 := by have := sq_mul (c i) (co B j); have := hB j; omega
    have pu := fun v => nf_put (sbF g i (c i) (co B) j) la (i + j) v
    have ln := nf_len (sbF g i (c i) (co B) j) la
    have ln2 := fun v => nf_len (upF (sbF g i (c i) (co B) j) (i + j) v) la
    have t1 : ∀ v, List.take la (nf (upF (sbF g i (c i) (co B) j) (i + j) v) la) = nf (upF (sbF g i (c i) (co B) j) (i + j) v) la := fun v => List.take_of_length_le (by rw [nf_len]; exact Nat.le_refl _)
    have q1 := qlO_get c hi
    have q2 := qlO_len c n i
    have t2 : List.take n (qlO c n i) = qlO c n i := List.take_of_length_le (by rw [qlO_len]; exact Nat.le_refl _)
    generalize qlO c n i = Q' at *
    generalize hY : (B.map rQ).getD j dQ = Y at *
    generalize hZ : (nf (sbF g i (c i) (co B) j) la).getD (i + j) dQ = Z at *
    have g1 : R FF 94 [(AV.agg [AV.b ((rQ (c i)).1), (AV.l 1 (List.map u (((rQ (c i)).2.1)))), (AV.l 1 (List.map u (((rQ (c i)).2.2))))]), (AV.agg [AV.b Y.1, (AV.l 1 (List.map u Y.2.1)), (AV.l 1 (List.map u Y.2.2))])] = some (AV.agg [AV.b (ng (Rat.num ((vQ (rQ (c i)) * vQ Y)))), (AV.l 1 (List.map u (D (Int.natAbs (Rat.num ((vQ (rQ (c i)) * vQ Y))))))), (AV.l 1 (List.map u (D (Rat.den ((vQ (rQ (c i)) * vQ Y))))))]) := qmul_s (sm_cq hc) y2 (by omega) (by omega)
    rw [vQ_rQ, y1] at g1
    have g2 : R FF 55 [(AV.agg [AV.b Z.1, (AV.l 1 (List.map u Z.2.1)), (AV.l 1 (List.map u Z.2.2))]), (AV.agg [AV.b (ng (Rat.num ((c i * co B j)))), (AV.l 1 (List.map u (D (Int.natAbs (Rat.num ((c i * co B j))))))), (AV.l 1 (List.map u (D (Rat.den ((c i * co B j))))))])] = some (AV.agg [AV.b (ng (Rat.num ((vQ Z - qv (ng (c i * co B j).num) (D (c i * co B j).num.natAbs) (D (c i * co B j).den))))), (AV.l 1 (List.map u (D (Int.natAbs (Rat.num ((vQ Z - qv (ng (c i * co B j).num) (D (c i * co B j).num.natAbs) (D (c i * co B j).den)))))))), (AV.l 1 (List.map u (D (Rat.den ((vQ Z - qv (ng (c i * co B j).num) (D (c i * co B j).num.natAbs) (D (c i * co B j).den)))))))]) := qsub_s z2 (sm_cq b1) (by omega) (by omega)
    rw [qv_cq, z1] at g2
    generalize nf (sbF g i (c i) (co B) j) la = N' at *
    generalize hX : rQ (c i) = X at *
    generalize c i * co B j = w at *
    generalize g (i + j) - w = w2 at *
    rw [LP_go FF b176_1.eq_1]
    simp only [RB, un, St.none, Nat.reduceEqDiff, Nat.reduceAdd, Nat.reduceMul, Nat.reduceLeDiff, Nat.reduceLT, Int.reduceLT, Int.reduceLE, Int.reduceEq, Int.reduceToNat, Int.reduceSub, Int.reduceNeg, Int.reduceAdd, ↓reduceIte, reduceCtorEq, ite_self, eq_self, if_true, if_false, pack, pid, parN, List.not_mem_nil, List.mem_cons, lid, chkK, apartV, List.map_nil, List.flatMap_nil, List.append_nil, List.nil_append, List.drop_zero, List.length_set, List.length_replicate, List.length_append, List.take_length, List.take_zero, List.drop_length, Option.isNone_none, Heap.none, c1, c2, c3, c4, hi, e1, e2, eQ_rules, eQ_row, eO_at, Int.natCast_nonneg, List.length_map, ln, hY, hZ, q1, q2, g1, g2, pu, ln2, t1, t2, ← List.map_take]
    exact h9
theorem dvG_sb {A B : Fn} {m n i : Nat} (hi : i < n) (hB : Dg B (m + 1)) : sbF (dvG A B m n (n - (i + 1))) i (dvC A B m n i) B (m + 1) = dvG A B m n (n - i) := by
  obtain ⟨s, hs, e1⟩ : ∃ s, n - (i + 1) = s ∧ n - i = s + 1 := ⟨n - (i + 1), rfl, by omega⟩
  have e2 : n - 1 - i = s := by omega
  have e3 : n - 1 - s = i := by omega
  rw [hs, e1]
  funext j
  show sbF (dvG A B m n s) i (dvC A B m n i) B (m + 1) j = dvG A B m n s j - (if n - 1 - s ≤ j then dvG A B m n s (n - 1 - s + m) * (B m)⁻¹ * B (j - (n - 1 - s)) else 0)
  unfold sbF dvC
  rw [e2, e3]
  by_cases c : i ≤ j
  · rw [if_pos c]
    by_cases d : j < i + (m + 1)
    · rw [if_pos ⟨c, d⟩]
    · rw [if_neg (by omega), hB (j - i) (by omega)]; grind
  · rw [if_neg c, if_neg (by omega)]; grind
theorem dvm_l0 {A : Fn} {B : List Rat} {n la k m t : Nat} (hk : k ≤ 10000000000) (hm : m ≤ 10000000000) (hla : la ≤ 100000000000) (hlb : B.length = t + 1) (hl : n + t = la) (hB : SzE (co B) m) (hc : ∀ i, i < n → sq (dvC A (co B) t n i) ≤ k) (hg : ∀ s, s ≤ n → SzE (dvG A (co B) t n s) k) (hh : sq (co B t)⁻¹ ≤ k) : ∀ i, i ≤ n →
    LP FF [(0, 1), (9, 1), (1, 0), (7, 0), (10, 0)] [(0, 0), (9, 0)] b176_0 [.own true 3 ((nf (dvG A (co B) t n (n - i)) la).map eQ), .own true 3 ((qlO (dvC A (co B) t n) n i).map eO), (AV.l 3 (List.map eQ (List.map rQ B))), .tp [.b (ng (co B t)⁻¹.num), (AV.l 1 (List.map u (D (co B t)⁻¹.num.natAbs))), (AV.l 1 (List.map u (D (co B t)⁻¹.den)))] 0, (AV.i .i64 ((i : Int) - 1))] =
      some (.exit 0, [.l 3 ((nf (dvG A (co B) t n n) la).map eQ), .l 3 ((nf (dvC A (co B) t n) n).map eQ)]) := by
  intro i
  induction i with
  | zero =>
    intro _
    have t1 : ∀ f : Fn, List.take la (nf f la) = nf f la := fun f => List.take_of_length_le (by rw [nf_len]; exact Nat.le_refl _)
    have t2 : ∀ f : Fn, List.take n (nf f n) = nf f n := fun f => List.take_of_length_le (by rw [nf_len]; exact Nat.le_refl _)
    rw [qlO_end, Nat.sub_zero, Int.ofNat_zero]
    rw [LP_go FF b176_0.eq_1]
    simp only [RB, un, St.none, Nat.reduceEqDiff, Nat.reduceAdd, Nat.reduceMul, Nat.reduceLeDiff, Nat.reduceLT, Int.reduceLT, Int.reduceLE, Int.reduceEq, Int.reduceToNat, Int.reduceSub, Int.reduceNeg, Int.reduceAdd, ↓reduceIte, reduceCtorEq, ite_self, eq_self, if_true, if_false, pack, pid, parN, List.not_mem_nil, List.mem_cons, lid, chkK, apartV, List.map_nil, List.flatMap_nil, List.append_nil, List.nil_append, List.drop_zero, List.length_set, List.length_replicate, List.length_append, List.take_length, List.take_zero, List.drop_length, Option.isNone_none, Heap.none, eQ_rules, t1, t2, nf_len]
  | succ i ih =>
    intro hi
    have h9 := ih (by omega)
    have hBd : Dg (co B) (t + 1) := fun j hj => co_dg B j (by omega)
    have e0 : ((i + 1 : Nat) : Int) - 1 = (i : Int) := by omega
    have c0 : (0 : Int) ≤ (i : Int) := by omega
    have e2 : IntKind.i64.wrap ((i : Int) + (B.length : Int)) = (i : Int) + (B.length : Int) := w64 (by omega) (by omega)
    have e3 : IntKind.i64.wrap ((i : Int) + (B.length : Int) - 1) = ((i + t : Nat) : Int) := by rw [w64 (by omega) (by omega)]; omega
    have e4 : IntKind.i64.wrap ((i : Int) - 1) = (i : Int) - 1 := w64 (by omega) (by omega)
    have c2 : i + t < la := by omega
    have c4 : i < n := by omega
    have c3 : ((i + t : Nat) : Int) < (la : Int) := by omega
    have c5 : (i : Int) < (n : Int) := by omega
    have x1 := nf_vQ (dvG A (co B) t n (n - (i + 1))) c2
    have x2 : Sm ((nf (dvG A (co B) t n (n - (i + 1))) la).getD (i + t) dQ).2.1 ((nf (dvG A (co B) t n (n - (i + 1))) la).getD (i + t) dQ).2.2 k := by rw [nf_get _ c2]; exact sm_cq (hg _ (by omega) _)
    have ed : dvG A (co B) t n (n - (i + 1)) (i + t) * (co B t)⁻¹ = dvC A (co B) t n i := by unfold dvC; rw [show n - 1 - i = n - (i + 1) by omega]
    have l1 := dvm_l1 (hd := [.b (ng (co B t)⁻¹.num), (AV.l 1 (List.map u (D (co B t)⁻¹.num.natAbs))), (AV.l 1 (List.map u (D (co B t)⁻¹.den)))]) (c := dvC A (co B) t n) (g := dvG A (co B) t n (n - (i + 1))) hk hm hla c4 (by omega) (by omega) hB (hc i c4) (hg _ (by omega)) B.length 0 (by omega)
    rw [sbF_zero, Int.ofNat_zero] at l1
    have l1' := l1
    rw [hlb, dvG_sb c4 hBd, ← hlb] at l1'
    have pu := eO_put (qlO (dvC A (co B) t n) n (i + 1)) i (rQ (dvC A (co B) t n i))
    rw [qlO_set] at pu
    change putC 3 (List.map eO (qlO (dvC A (co B) t n) n (i + 1))) i 0 [.b (ng (dvC A (co B) t n i).num), (AV.l 1 (List.map u (D (dvC A (co B) t n i).num.natAbs))), (AV.l 1 (List.map u (D (dvC A (co B) t n i).den)))] = _ at pu
    have q2 := qlO_len (dvC A (co B) t n) n (i + 1)
    have q3 := qlO_len (dvC A (co B) t n) n i
    have t2 : List.take n (qlO (dvC A (co B) t n) n i) = qlO (dvC A (co B) t n) n i := List.take_of_length_le (by rw [q3]; exact Nat.le_refl _)
    have ln := nf_len (dvG A (co B) t n (n - (i + 1))) la
    have ln2 := nf_len (dvG A (co B) t n (n - i)) la
    have t1 : List.take la (nf (dvG A (co B) t n (n - (i + 1))) la) = nf (dvG A (co B) t n (n - (i + 1))) la := List.take_of_length_le (by rw [nf_len]; exact Nat.le_refl _)
    have t3 : List.take la (nf (dvG A (co B) t n (n - i)) la) = nf (dvG A (co B) t n (n - i)) la := List.take_of_length_le (by rw [nf_len]; exact Nat.le_refl _)
    clear l1 ih
    rw [e0]
    generalize hX : (nf (dvG A (co B) t n (n - (i + 1))) la).getD (i + t) dQ = X at *
    have g1 : R FF 94 [(AV.agg [AV.b X.1, (AV.l 1 (List.map u X.2.1)), (AV.l 1 (List.map u X.2.2))]), (AV.agg [AV.b (ng (Rat.num ((co B t)⁻¹))), (AV.l 1 (List.map u (D (Int.natAbs (Rat.num ((co B t)⁻¹)))))), (AV.l 1 (List.map u (D (Rat.den ((co B t)⁻¹)))))])] = some (AV.agg [AV.b (ng (Rat.num ((vQ X * qv (ng (co B t)⁻¹.num) (D (co B t)⁻¹.num.natAbs) (D (co B t)⁻¹.den))))), (AV.l 1 (List.map u (D (Int.natAbs (Rat.num ((vQ X * qv (ng (co B t)⁻¹.num) (D (co B t)⁻¹.num.natAbs) (D (co B t)⁻¹.den)))))))), (AV.l 1 (List.map u (D (Rat.den ((vQ X * qv (ng (co B t)⁻¹.num) (D (co B t)⁻¹.num.natAbs) (D (co B t)⁻¹.den)))))))]) := qmul_s x2 (sm_cq hh) (by omega) (by omega)
    rw [qv_cq, x1, ed] at g1
    generalize dvC A (co B) t n i = ci at *
    generalize nf (dvG A (co B) t n (n - (i + 1))) la = N1 at *
    generalize nf (dvG A (co B) t n (n - i)) la = N2 at *
    generalize qlO (dvC A (co B) t n) n (i + 1) = Q1 at *
    generalize qlO (dvC A (co B) t n) n i = Q2 at *
    generalize (co B t)⁻¹ = hv at *
    rw [LP_go FF b176_0.eq_1]
    simp only [RB, un, St.none, Nat.reduceEqDiff, Nat.reduceAdd, Nat.reduceMul, Nat.reduceLeDiff, Nat.reduceLT, Int.reduceLT, Int.reduceLE, Int.reduceEq, Int.reduceToNat, Int.reduceSub, Int.reduceNeg, Int.reduceAdd, ↓reduceIte, reduceCtorEq, ite_self, eq_self, if_true, if_false, pack, pid, parN, List.not_mem_nil, List.mem_cons, lid, chkK, apartV, List.map_nil, List.flatMap_nil, List.append_nil, List.nil_append, List.drop_zero, List.length_set, List.length_replicate, List.length_append, List.take_length, List.take_zero, List.drop_length, Option.isNone_none, Heap.none, c0, e2, e3, e4, c2, c3, c4, c5, eQ_rules, eQ_row, eO_at, Int.natCast_nonneg, List.length_map, ln, hX, g1, pu, q2, q3, t1, t2, ← List.map_take, l1', ln2, t3]
    exact h9
theorem pdm_r {a b : List RQt} {k : Nat} (hk : k ≤ 10000000) (h1k : 1 ≤ k) (la : a.length ≤ 100) (lb : b.length ≤ 100) (h1 : SmL a k) (h2 : SmL b k) (f1 : SzF (co (tr (vsQ a))) k) (f2 : SzF (co (tr (vsQ b))) k) (h0 : tr (vsQ b) ≠ []) :
    R FF 176 [.l 3 (a.map eQ), .l 3 (b.map eQ)] = some (.tup [(AV.l 3 (List.map eQ (List.map rQ (dvQ (tr (vsQ a)) (tr (vsQ b)))))), (AV.l 3 (List.map eQ (List.map rQ (dvR (tr (vsQ a)) (tr (vsQ b)))))), (AV.i .i64 0)]) := by
  have k1 := pcleanw_r (p := a) (by omega) h1k (by omega) h1
  have k2 := pcleanw_r (p := b) (by omega) h1k (by omega) h2
  have cB := ca_tr (vsQ b)
  have lA : (tr (vsQ a)).length ≤ 100 := Nat.le_trans (tr_le _) (by rw [vsQ_len]; exact la)
  have lB : (tr (vsQ b)).length ≤ 100 := Nat.le_trans (tr_le _) (by rw [vsQ_len]; exact lb)
  rw [if_neg h0] at k2
  generalize tr (vsQ a) = A at *
  generalize tr (vsQ b) = B at *
  have p2 := List.length_pos_iff.2 h0
  have c2 : ¬ (B.length : Int) = 0 := by omega
  by_cases hlt : A.length < B.length
  · have c3 : (A.length : Int) < (B.length : Int) := by omega
    unfold dvQ dvR
    rw [if_pos hlt, if_pos hlt, List.map_nil, List.map_nil]
    by_cases hA : A = []
    · subst hA
      rw [List.length_nil, Int.ofNat_zero] at c3
      rw [if_pos rfl] at k1
      rw [R_go FF F176 c176.eq_1]
      simp only [RB, un, St.none, Nat.reduceEqDiff, Nat.reduceAdd, Nat.reduceMul, Nat.reduceLeDiff, Nat.reduceLT, Int.reduceLT, Int.reduceLE, Int.reduceEq, Int.reduceToNat, Int.reduceSub, Int.reduceNeg, Int.reduceAdd, ↓reduceIte, reduceCtorEq, ite_self, eq_self, if_true, if_false, pack, pid, parN, List.not_mem_nil, List.mem_cons, lid, chkK, apartV, List.map_nil, List.flatMap_nil, List.append_nil, List.nil_append, List.drop_zero, List.length_set, List.length_replicate, List.length_append, List.take_length, List.take_zero, List.drop_length, Option.isNone_none, Heap.none, k1, k2, List.length_nil, List.length_map, c2, c3]
    · rw [if_neg hA] at k1
      have t1 : List.take A.length (A.map rQ) = A.map rQ := List.take_of_length_le (by rw [List.length_map]; exact Nat.le_refl _)
      rw [R_go FF F176 c176.eq_1]
      simp only [RB, un, St.none, Nat.reduceEqDiff, Nat.reduceAdd, Nat.reduceMul, Nat.reduceLeDiff, Nat.reduceLT, Int.reduceLT, Int.reduceLE, Int.reduceEq, Int.reduceToNat, Int.reduceSub, Int.reduceNeg, Int.reduceAdd, ↓reduceIte, reduceCtorEq, ite_self, eq_self, if_true, if_false, pack, pid, parN, List.not_mem_nil, List.mem_cons, lid, chkK, apartV, List.map_nil, List.flatMap_nil, List.append_nil, List.nil_append, List.drop_zero, List.length_set, List.length_replicate, List.length_append, List.take_length, List.take_zero, List.drop_length, Option.isNone_none, Heap.none, k1, k2, List.length_nil, List.length_map, c2, c3, t1]
  · have c3 : ¬ (A.length : Int) < (B.length : Int) := by omega
    have hA : A ≠ [] := fun h => hlt (by rw [h]; exact p2)
    rw [if_neg hA] at k1
    unfold dvQ dvR
    rw [if_neg hlt, if_neg hlt]
    have ht := ca_top cB h0
    obtain ⟨t, ht1⟩ : ∃ t, B.length = t + 1 := ⟨B.length - 1, by omega⟩
    have et : B.length - 1 = t := by omega
    obtain ⟨n, hn⟩ : ∃ n, A.length - B.length + 1 = n := ⟨_, rfl⟩
    rw [et, hn]
    rw [et] at ht
    have x1 := vQ_r (show t < B.length by omega)
    have x2 := smi_r (show t < B.length by omega) f2.sq
    have gz : ∀ s, s ≤ n → SzE (dvG (co A) (co B) t n s) 10000000000 := fun s hs => ((dvG_sz f1 f2 ht s).mono (by
      have : s * (k + 1) ≤ 100 * (k + 1) := Nat.mul_le_mul_right _ (by omega)
      omega)).sq
    have cz : ∀ i, i < n → sq (dvC (co A) (co B) t n i) ≤ 10000000000 := fun i hi => Nat.le_trans (dvC_sz f1 f2 ht i hi) (by
      have : n * (k + 1) ≤ 100 * (k + 1) := Nat.mul_le_mul_right _ (by omega)
      omega)
    have hz : sq (co B t)⁻¹ ≤ 10000000000 := by have := sq_inv (co B t); have := f2.sq t; omega
    have l0 := dvm_l0 (A := co A) (la := A.length) (k := 10000000000) (m := k) (by omega) (by omega) (by omega) ht1 (by omega) f2.sq cz gz hz n (Nat.le_refl _)
    rw [qlO_top, Nat.sub_self, show dvG (co A) (co B) t n 0 = co A from rfl, nf_mk (co A), mk_co] at l0
    have t1 := ptrim_c (p := nf (dvC (co A) (co B) t n) n) (k := 10000000000) (by omega) (by rw [nf_len]; have : maxL = 9223372036854775807 := rfl; omega) (nf_sm cz)
    have t2 := ptrim_c (p := nf (dvG (co A) (co B) t n n) A.length) (k := 10000000000) (by omega) (by rw [nf_len]; have : maxL = 9223372036854775807 := rfl; omega) (nf_sm fun i _ => gz n (Nat.le_refl _) i)
    rw [trim_tk] at t1 t2
    have e1 : IntKind.i64.wrap ((B.length : Int) - 1) = (t : Int) := by rw [w64 (by omega) (by omega)]; omega
    have e2 : IntKind.i64.wrap ((A.length : Int) - (B.length : Int)) = (A.length : Int) - (B.length : Int) := w64 (by omega) (by omega)
    have e3 : IntKind.i64.wrap ((A.length : Int) - (B.length : Int) + 1) = (n : Int) := by rw [w64 (by omega) (by omega)]; omega
    have e4 : IntKind.i64.wrap ((n : Int) - 1) = (n : Int) - 1 := w64 (by omega) (by omega)
    have c4 : (t : Int) < (B.length : Int) := by omega
    have c5 : t < B.length := by omega
    have b1 : n * 56 ≤ 281474976710656 := by omega
    have r1 : List.take n (List.replicate n [AV.b false, AV.ns 1, AV.ns 1]) = List.replicate n [AV.b false, AV.ns 1, AV.ns 1] := List.take_of_length_le (by rw [List.length_replicate]; exact Nat.le_refl _)
    have r2 : List.take A.length (A.map rQ) = A.map rQ := List.take_of_length_le (by rw [List.length_map]; exact Nat.le_refl _)
    have r3 : List.take B.length (B.map rQ) = B.map rQ := List.take_of_length_le (by rw [List.length_map]; exact Nat.le_refl _)
    generalize hX : (B.map rQ).getD t dQ = X at *
    have i1 : R FF 220 [(AV.agg [AV.b X.1, (AV.l 1 (List.map u X.2.1)), (AV.l 1 (List.map u X.2.2))])] = some (.tup [(AV.agg [AV.b (ng (Rat.num ((vQ X)⁻¹))), (AV.l 1 (List.map u (D (Int.natAbs (Rat.num ((vQ X)⁻¹)))))), (AV.l 1 (List.map u (D (Rat.den ((vQ X)⁻¹)))))]), (AV.i .i64 0)]) := qinv_c (by omega) h1k x2 (by show vQ X ≠ 0; rw [x1]; exact ht)
    rw [x1] at i1
    generalize nf (dvC (co A) (co B) t n) n = N1 at *
    generalize nf (dvG (co A) (co B) t n n) A.length = N2 at *
    generalize (co B t)⁻¹ = hv at *
    rw [R_go FF F176 c176.eq_1]
    simp only [RB, un, St.none, Nat.reduceEqDiff, Nat.reduceAdd, Nat.reduceMul, Nat.reduceLeDiff, Nat.reduceLT, Int.reduceLT, Int.reduceLE, Int.reduceEq, Int.reduceToNat, Int.reduceSub, Int.reduceNeg, Int.reduceAdd, ↓reduceIte, reduceCtorEq, ite_self, eq_self, if_true, if_false, pack, pid, parN, List.not_mem_nil, List.mem_cons, lid, chkK, apartV, List.map_nil, List.flatMap_nil, List.append_nil, List.nil_append, List.drop_zero, List.length_set, List.length_replicate, List.length_append, List.take_length, List.take_zero, List.drop_length, Option.isNone_none, Heap.none, k1, k2, List.length_map, c2, c3, e1, e2, e3, e4, c4, c5, b1, r1, r2, r3, hX, i1, eQ_rules, eQ_row, Int.natCast_nonneg, l0, t1, t2]
end Go.Pe
set_option linter.unusedSimpArgs false
set_option linter.unusedVariables false
open Go
namespace Go.Pe
theorem pmonic_r {p : List RQt} {k : Nat} (hk : k ≤ 1000000000) (h1k : 1 ≤ k) (hn : p.length ≤ 1000000) (hs : SmL p k) : R FF 180 [.l 3 (p.map eQ)] = some (AV.l 3 (List.map eQ (List.map rQ (moT (tr (vsQ p)))))) := by
  have k1 := pclean_r (p := p) (by omega) h1k (by omega) hs
  have ez := SmL.vsQ hs h1k
  rw [← co_tr'] at ez
  have ll : (tr (vsQ p)).length ≤ 1000000 := Nat.le_trans (tr_le _) (by rw [vsQ_len]; exact hn)
  have cA := ca_tr (vsQ p)
  generalize tr (vsQ p) = A at *
  unfold moT
  by_cases h0 : A = []
  · subst h0
    rw [if_pos rfl, List.map_nil, List.map_nil]
    rw [R_go FF F180 c180.eq_1]
    simp only [RB, un, St.none, Nat.reduceEqDiff, Nat.reduceAdd, Nat.reduceMul, Nat.reduceLeDiff, Nat.reduceLT, Int.reduceLT, Int.reduceLE, Int.reduceEq, Int.reduceToNat, Int.reduceSub, Int.reduceNeg, Int.reduceAdd, ↓reduceIte, reduceCtorEq, ite_self, eq_self, if_true, if_false, pack, pid, parN, List.not_mem_nil, List.mem_cons, lid, chkK, apartV, List.map_nil, List.flatMap_nil, List.append_nil, List.nil_append, List.drop_zero, List.length_set, List.length_replicate, List.length_append, List.take_length, List.take_zero, List.drop_length, Option.isNone_none, Heap.none, k1, List.length_nil]
  · rw [if_neg h0]
    have p1 := List.length_pos_iff.2 h0
    have ht := ca_top cA h0
    have c1 : ¬ (A.length : Int) = 0 := by omega
    have e1 : IntKind.i64.wrap ((A.length : Int) - 1) = ((A.length - 1 : Nat) : Int) := by rw [w64 (by omega) (by omega)]; omega
    have c2 : ((A.length - 1 : Nat) : Int) < (A.length : Int) := by omega
    have x1 := vQ_r (show A.length - 1 < A.length by omega)
    have x2 := smi_r (show A.length - 1 < A.length by omega) ez
    have hv := sq_inv (co A (A.length - 1))
    have hz := ez (A.length - 1)
    have s1 := pscale_r (p := A.map rQ) (x := (co A (A.length - 1))⁻¹) (k := k + 1) (by omega) (by omega) (by rw [List.length_map]; omega) (SzE.sm (ez.mono (by omega))) (by omega)
    rw [vsQ_r] at s1
    generalize hX : (A.map rQ).getD (A.length - 1) dQ = X at *
    have i1 : R FF 220 [(AV.agg [AV.b X.1, (AV.l 1 (List.map u X.2.1)), (AV.l 1 (List.map u X.2.2))])] = some (.tup [(AV.agg [AV.b (ng (Rat.num ((vQ X)⁻¹))), (AV.l 1 (List.map u (D (Int.natAbs (Rat.num ((vQ X)⁻¹)))))), (AV.l 1 (List.map u (D (Rat.den ((vQ X)⁻¹)))))]), (AV.i .i64 0)]) := qinv_c (by omega) h1k x2 (by show vQ X ≠ 0; rw [x1]; exact ht)
    rw [x1] at i1
    generalize (co A (A.length - 1))⁻¹ = v at *
    rw [R_go FF F180 c180.eq_1]
    simp only [RB, un, St.none, Nat.reduceEqDiff, Nat.reduceAdd, Nat.reduceMul, Nat.reduceLeDiff, Nat.reduceLT, Int.reduceLT, Int.reduceLE, Int.reduceEq, Int.reduceToNat, Int.reduceSub, Int.reduceNeg, Int.reduceAdd, ↓reduceIte, reduceCtorEq, ite_self, eq_self, if_true, if_false, pack, pid, parN, List.not_mem_nil, List.mem_cons, lid, chkK, apartV, List.map_nil, List.flatMap_nil, List.append_nil, List.nil_append, List.drop_zero, List.length_set, List.length_replicate, List.length_append, List.take_length, List.take_zero, List.drop_length, Option.isNone_none, Heap.none, k1, List.length_map, c1, e1, c2, hX, i1, eQ_rules, eQ_row, Int.natCast_nonneg, s1]
theorem pgcd_l0 {K : Nat} (hK : K ≤ 10000000) : ∀ (n : Nat) {A B : List Rat} {k : Nat}, Ca A → Ca B → B.length < n → A.length ≤ 100 → B.length ≤ 100 → SzF (co A) k → SzF (co B) k → (k + 1) * 2 ^ (A.length + B.length) ≤ K →
    LP FF [(0, 0), (1, 0)] [(0, 0)] b175_0 [(AV.l 3 (List.map eQ (List.map rQ A))), (AV.l 3 (List.map eQ (List.map rQ B)))] = some (.exit 0, [(AV.l 3 (List.map eQ (List.map rQ (gcF n A B))))]) := by
  intro n
  induction n with
  | zero => intro A B k _ _ h; omega
  | succ n ih =>
    intro A B k cA cB hl lA lB f1 f2 hK2
    have hk1 : k + 1 ≤ (k + 1) * 2 ^ (A.length + B.length) := Nat.le_mul_of_pos_right _ (Nat.two_pow_pos _)
    unfold gcF
    by_cases h0 : B = []
    · rw [if_pos h0]
      subst h0
      rw [LP_go FF b175_0.eq_1]
      simp only [RB, un, St.none, Nat.reduceEqDiff, Nat.reduceAdd, Nat.reduceMul, Nat.reduceLeDiff, Nat.reduceLT, Int.reduceLT, Int.reduceLE, Int.reduceEq, Int.reduceToNat, Int.reduceSub, Int.reduceNeg, Int.reduceAdd, ↓reduceIte, reduceCtorEq, ite_self, eq_self, if_true, if_false, pack, pid, parN, List.not_mem_nil, List.mem_cons, lid, chkK, apartV, List.map_nil, List.flatMap_nil, List.append_nil, List.nil_append, List.drop_zero, List.length_set, List.length_replicate, List.length_append, List.take_length, List.take_zero, List.drop_length, Option.isNone_none, Heap.none, List.length_nil]
    · rw [if_neg h0]
      have c1 : (0 : Int) < (B.length : Int) := by have := List.length_pos_iff.2 h0; omega
      have hr := dvR_len cA cB h0
      have cR := dvR_ca B cA
      have z1 := pdm_r (a := A.map rQ) (b := B.map rQ) (k := k + 1) (by omega) (by omega) (by rw [List.length_map]; exact lA) (by rw [List.length_map]; exact lB) (SzE.sm (f1.sq.mono (by omega))) (SzE.sm (f2.sq.mono (by omega))) (by rw [vsQ_r, tr_ca cA]; exact f1.mono (by omega)) (by rw [vsQ_r, tr_ca cB]; exact f2.mono (by omega)) (by rw [vsQ_r, tr_ca cB]; exact h0)
      rw [vsQ_r, vsQ_r, tr_ca cA, tr_ca cB] at z1
      have h9 : LP FF [(0, 0), (1, 0)] [(0, 0)] b175_0 [(AV.l 3 (List.map eQ (List.map rQ B))), (AV.l 3 (List.map eQ (List.map rQ (dvR A B))))] = some (.exit 0, [(AV.l 3 (List.map eQ (List.map rQ (gcF n B (dvR A B)))))]) := by
        by_cases c : A.length < B.length
        · have e : dvR A B = A := by unfold dvR; rw [if_pos c]
          rw [e] at hr ⊢
          exact ih cB cA (by omega) lB lA f2 f1 (by rw [Nat.add_comm B.length]; exact hK2)
        · obtain ⟨k', _, h3, h4, h5⟩ := euc_sz cA cB f1 f2 h0 (by omega)
          exact ih cB cR (by omega) lB (by omega) h3 h4 (Nat.le_trans h5 hK2)
      rw [LP_go FF b175_0.eq_1]
      simp only [RB, un, St.none, Nat.reduceEqDiff, Nat.reduceAdd, Nat.reduceMul, Nat.reduceLeDiff, Nat.reduceLT, Int.reduceLT, Int.reduceLE, Int.reduceEq, Int.reduceToNat, Int.reduceSub, Int.reduceNeg, Int.reduceAdd, ↓reduceIte, reduceCtorEq, ite_self, eq_self, if_true, if_false, pack, pid, parN, List.not_mem_nil, List.mem_cons, lid, chkK, apartV, List.map_nil, List.flatMap_nil, List.append_nil, List.nil_append, List.drop_zero, List.length_set, List.length_replicate, List.length_append, List.take_length, List.take_zero, List.drop_length, Option.isNone_none, Heap.none, c1, z1, List.length_map]
      exact h9
theorem pgcd_r {a b : List RQt} {k : Nat} (hk : k ≤ 1000000000) (h1k : 1 ≤ k) (la : a.length ≤ 100) (lb : b.length ≤ 100) (h1 : SmL a k) (h2 : SmL b k) (f1 : SzF (co (tr (vsQ a))) k) (f2 : SzF (co (tr (vsQ b))) k) (hK : (k + 1) * 2 ^ ((tr (vsQ a)).length + (tr (vsQ b)).length) ≤ 10000000) :
    R FF 175 [.l 3 (a.map eQ), .l 3 (b.map eQ)] = some (AV.l 3 (List.map eQ (List.map rQ (gcT (tr (vsQ a)) (tr (vsQ b)))))) := by
  have k1 := pclean_r (p := a) (by omega) h1k (by omega) h1
  have k2 := pclean_r (p := b) (by omega) h1k (by omega) h2
  have lA : (tr (vsQ a)).length ≤ 100 := Nat.le_trans (tr_le _) (by rw [vsQ_len]; exact la)
  have lB : (tr (vsQ b)).length ≤ 100 := Nat.le_trans (tr_le _) (by rw [vsQ_len]; exact lb)
  have cA := ca_tr (vsQ a)
  have cB := ca_tr (vsQ b)
  generalize tr (vsQ a) = A at *
  generalize tr (vsQ b) = B at *
  have l0 := pgcd_l0 (Nat.le_refl 10000000) (B.length + 1) cA cB (by omega) lA lB f1 f2 hK
  have cG := gcF_ca (B.length + 1) cA cB
  have lG := gcF_len (m := 100) (B.length + 1) cA cB lA lB
  have zG := (gcF_sz (B.length + 1) cA cB f1 f2).mono hK
  have m1 := pmonic_r (p := (gcF (B.length + 1) A B).map rQ) (k := 10000000) (by omega) (by omega) (by rw [List.length_map]; omega) zG.sq.sm
  rw [vsQ_r, tr_ca cG] at m1
  unfold gcT
  rw [R_go FF F175 c175.eq_1]
  simp only [RB, un, St.none, Nat.reduceEqDiff, Nat.reduceAdd, Nat.reduceMul, Nat.reduceLeDiff, Nat.reduceLT, Int.reduceLT, Int.reduceLE, Int.reduceEq, Int.reduceToNat, Int.reduceSub, Int.reduceNeg, Int.reduceAdd, ↓reduceIte, reduceCtorEq, ite_self, eq_self, if_true, if_false, pack, pid, parN, List.not_mem_nil, List.mem_cons, lid, chkK, apartV, List.map_nil, List.flatMap_nil, List.append_nil, List.nil_append, List.drop_zero, List.length_set, List.length_replicate, List.length_append, List.take_length, List.take_zero, List.drop_length, Option.isNone_none, Heap.none, k1, k2, l0, m1]
theorem peval_l0 {p : List RQt} {x y : RQt} {n k : Nat} (hk : n * (k + k + 1) + 1 ≤ 10000000000) (h1k : 1 ≤ k) (hp : p.length = n) (hn : n ≤ 1000000) (hs : SmL p k) (hx : Sm x.2.1 x.2.2 k) : ∀ i, i ≤ n →
    LP FF [(4, 1), (5, 1), (0, 0), (3, 0), (6, 0)] [(4, 1), (5, 0)] b193_0 [.ownp [.b false, .l 1 [], .l 1 []], .ownp [.b (ng (ef (fun j => co (vsQ p) (i + j)) (n - i) (vQ x)).num), (AV.l 1 (List.map u (D (ef (fun j => co (vsQ p) (i + j)) (n - i) (vQ x)).num.natAbs))), (AV.l 1 (List.map u (D (ef (fun j => co (vsQ p) (i + j)) (n - i) (vQ x)).den)))], .l 3 (p.map eQ), .tp (eQ x) 0, (AV.i .i64 ((i : Int) - 1))] =
      some (.exit 0, [.ownp [.b false, .l 1 [], .l 1 []], .tp [.b (ng (ef (co (vsQ p)) n (vQ x)).num), (AV.l 1 (List.map u (D (ef (co (vsQ p)) n (vQ x)).num.natAbs))), (AV.l 1 (List.map u (D (ef (co (vsQ p)) n (vQ x)).den)))] 0]) := by
  intro i
  induction i with
  | zero =>
    intro _
    have e : (fun j => co (vsQ p) (0 + j)) = co (vsQ p) := by funext j; rw [Nat.zero_add]
    rw [e, Nat.sub_zero, Int.ofNat_zero]
    rw [LP_go FF b193_0.eq_1]
    simp only [RB, un, St.none, Nat.reduceEqDiff, Nat.reduceAdd, Nat.reduceMul, Nat.reduceLeDiff, Nat.reduceLT, Int.reduceLT, Int.reduceLE, Int.reduceEq, Int.reduceToNat, Int.reduceSub, Int.reduceNeg, Int.reduceAdd, ↓reduceIte, reduceCtorEq, ite_self, eq_self, if_true, if_false, pack, pid, parN, List.not_mem_nil, List.mem_cons, lid, chkK, apartV, List.map_nil, List.flatMap_nil, List.append_nil, List.nil_append, List.drop_zero, List.length_set, List.length_replicate, List.length_append, List.take_length, List.take_zero, List.drop_length, Option.isNone_none, Heap.none, eQ_rules]
  | succ i ih =>
    intro hi
    have h9 := ih (by omega)
    have e0 : ((i + 1 : Nat) : Int) - 1 = (i : Int) := by omega
    have c0 : (0 : Int) ≤ (i : Int) := by omega
    have e4 : IntKind.i64.wrap ((i : Int) - 1) = (i : Int) - 1 := w64 (by omega) (by omega)
    have c2 : i < p.length := by omega
    have c3 : (i : Int) < (p.length : Int) := by omega
    have es := ef_shift (co (vsQ p)) (vQ x) i (n - (i + 1))
    rw [show n - (i + 1) + 1 = n - i by omega] at es
    have ez := SmL.vsQ hs h1k
    have sx : sq (vQ x) ≤ k := Sm.sq hx h1k
    have s1 : sq (ef (fun j => co (vsQ p) (i + 1 + j)) (n - (i + 1)) (vQ x)) ≤ 10000000000 := by
      have h1 := ef_sq (f := fun j => co (vsQ p) (i + 1 + j)) (x := vQ x) (fun j => ez (i + 1 + j)) sx (n - (i + 1))
      have h2 : (n - (i + 1)) * (k + k + 1) ≤ n * (k + k + 1) := Nat.mul_le_mul_right _ (by omega)
      omega
    have hk2 : k ≤ 10000000000 := by
      have : 1 * (k + k + 1) ≤ n * (k + k + 1) := Nat.mul_le_mul_right _ (by omega)
      omega
    have x1 : vQ (p.getD i dQ) = co (vsQ p) i := by rw [← atV_vsQ]; unfold atV; rw [if_pos c2]
    have x2 := hs _ (getD_mem' dQ c2)
    rw [es] at h9
    rw [e0]
    generalize ef (fun j => co (vsQ p) (i + 1 + j)) (n - (i + 1)) (vQ x) = v at *
    have s2 := sq_mul v (vQ x)
    have g1 : R FF 94 [(AV.agg [AV.b (ng (Rat.num v)), (AV.l 1 (List.map u (D (Int.natAbs (Rat.num v))))), (AV.l 1 (List.map u (D (Rat.den v))))]), (AV.agg [AV.b x.1, (AV.l 1 (List.map u x.2.1)), (AV.l 1 (List.map u x.2.2))])] = some (AV.agg [AV.b (ng (Rat.num ((qv (ng v.num) (D v.num.natAbs) (D v.den) * vQ x)))), (AV.l 1 (List.map u (D (Int.natAbs (Rat.num ((qv (ng v.num) (D v.num.natAbs) (D v.den) * vQ x))))))), (AV.l 1 (List.map u (D (Rat.den ((qv (ng v.num) (D v.num.natAbs) (D v.den) * vQ x))))))]) := qmul_s (sm_cq s1) hx (by omega) (by omega)
    rw [qv_cq] at g1
    have g2 : R FF 31 [(AV.agg [AV.b (ng (Rat.num ((v * vQ x)))), (AV.l 1 (List.map u (D (Int.natAbs (Rat.num ((v * vQ x))))))), (AV.l 1 (List.map u (D (Rat.den ((v * vQ x))))))]), (AV.agg [AV.b ((p.getD i dQ).1), (AV.l 1 (List.map u (((p.getD i dQ).2.1)))), (AV.l 1 (List.map u (((p.getD i dQ).2.2))))])] = some (AV.agg [AV.b (ng (Rat.num ((qv (ng (v * vQ x).num) (D (v * vQ x).num.natAbs) (D (v * vQ x).den) + vQ (p.getD i dQ))))), (AV.l 1 (List.map u (D (Int.natAbs (Rat.num ((qv (ng (v * vQ x).num) (D (v * vQ x).num.natAbs) (D (v * vQ x).den) + vQ (p.getD i dQ)))))))), (AV.l 1 (List.map u (D (Rat.den ((qv (ng (v * vQ x).num) (D (v * vQ x).num.natAbs) (D (v * vQ x).den) + vQ (p.getD i dQ)))))))]) := qadd_s (sm_cq (x := v * vQ x) (k := 20000000000) (by omega)) x2 (by omega) (by omega)
    rw [qv_cq, x1, show v * vQ x + co (vsQ p) i = co (vsQ p) i + vQ x * v by grind] at g2
    generalize co (vsQ p) i + vQ x * v = v2 at *
    generalize v * vQ x = v3 at *
    rw [LP_go FF b193_0.eq_1]
    simp only [RB, un, St.none, Nat.reduceEqDiff, Nat.reduceAdd, Nat.reduceMul, Nat.reduceLeDiff, Nat.reduceLT, Int.reduceLT, Int.reduceLE, Int.reduceEq, Int.reduceToNat, Int.reduceSub, Int.reduceNeg, Int.reduceAdd, ↓reduceIte, reduceCtorEq, ite_self, eq_self, if_true, if_false, pack, pid, parN, List.not_mem_nil, List.mem_cons, lid, chkK, apartV, List.map_nil, List.flatMap_nil, List.append_nil, List.nil_append, List.drop_zero, List.length_set, List.length_replicate, List.length_append, List.take_length, List.take_zero, List.drop_length, Option.isNone_none, Heap.none, c0, c2, c3, e4, eQ_rules, eQ_row, Int.natCast_nonneg, g1, g2]
    exact h9
theorem peval_r {p : List RQt} {x : RQt} {k : Nat} (hk : p.length * (k + k + 1) + 1 ≤ 10000000000) (h1k : 1 ≤ k) (hn : p.length ≤ 1000000) (hs : SmL p k) (hx : Sm x.2.1 x.2.2 k) : R FF 193 [.l 3 (p.map eQ), .agg (eQ x)] = some (AV.agg [AV.b (ng (Rat.num ((evl (vsQ p) (vQ x))))), (AV.l 1 (List.map u (D (Int.natAbs (Rat.num ((evl (vsQ p) (vQ x)))))))), (AV.l 1 (List.map u (D (Rat.den ((evl (vsQ p) (vQ x)))))))]) := by
  have l0 := peval_l0 (y := x) hk h1k rfl hn hs hx p.length (Nat.le_refl _)
  rw [Nat.sub_self, ef_zero] at l0
  have z1 := qzero_c
  have e1 : IntKind.i64.wrap ((p.length : Int) - 1) = (p.length : Int) - 1 := w64 (by omega) (by omega)
  unfold evl
  rw [vsQ_len]
  simp only [eQ] at l0 ⊢
  generalize ef (co (vsQ p)) p.length (vQ x) = v at *
  rw [R_go FF F193 c193.eq_1]
  simp only [RB, un, St.none, Nat.reduceEqDiff, Nat.reduceAdd, Nat.reduceMul, Nat.reduceLeDiff, Nat.reduceLT, Int.reduceLT, Int.reduceLE, Int.reduceEq, Int.reduceToNat, Int.reduceSub, Int.reduceNeg, Int.reduceAdd, ↓reduceIte, reduceCtorEq, ite_self, eq_self, if_true, if_false, pack, pid, parN, List.not_mem_nil, List.mem_cons, lid, chkK, apartV, List.map_nil, List.flatMap_nil, List.append_nil, List.nil_append, List.drop_zero, List.length_set, List.length_replicate, List.length_append, List.take_length, List.take_zero, List.drop_length, Option.isNone_none, Heap.none, z1, e1, l0]
end Go.Pe
set_option linter.unusedSimpArgs false
set_option linter.unusedVariables false
open Go
namespace Go.Pe
def dF (f : Fn) : Fn := fun i => f (i + 1) * (((i + 1 : Nat) : Int) : Rat)
theorem pderive_l0 {p : List RQt} {n k : Nat} (hk : k ≤ 10000000000) (hp : p.length = n) (hn : n ≤ 1000000) (hs : SmL p k) : ∀ (d i : Nat), i + d = n - 1 →
    LP FF [(3, 1), (0, 0), (4, 0)] [(3, 0)] b185_0 [.own true 3 ((nf (dF (co (vsQ p))) i).map eQ), .l 3 (p.map eQ), (AV.i .i64 (((i + 1 : Nat) : Int)))] = some (.exit 0, [.l 3 ((nf (dF (co (vsQ p))) (n - 1)).map eQ)]) := by
  intro d
  induction d with
  | zero =>
    intro i hi
    obtain rfl : i = n - 1 := by omega
    have c1 : ¬ ((n - 1 + 1 : Nat) : Int) < (p.length : Int) := by omega
    have t1 : ∀ f : Fn, List.take (n - 1) (nf f (n - 1)) = nf f (n - 1) := fun f => List.take_of_length_le (by rw [nf_len]; exact Nat.le_refl _)
    rw [LP_go FF b185_0.eq_1]
    simp only [RB, un, St.none, Nat.reduceEqDiff, Nat.reduceAdd, Nat.reduceMul, Nat.reduceLeDiff, Nat.reduceLT, Int.reduceLT, Int.reduceLE, Int.reduceEq, Int.reduceToNat, Int.reduceSub, Int.reduceNeg, Int.reduceAdd, ↓reduceIte, reduceCtorEq, ite_self, eq_self, if_true, if_false, pack, pid, parN, List.not_mem_nil, List.mem_cons, lid, chkK, apartV, List.map_nil, List.flatMap_nil, List.append_nil, List.nil_append, List.drop_zero, List.length_set, List.length_replicate, List.length_append, List.take_length, List.take_zero, List.drop_length, Option.isNone_none, Heap.none, c1, eQ_rules, t1, nf_len]
  | succ d ih =>
    intro i hi
    have h9 := ih (i + 1) (by omega)
    have c2 : i + 1 < p.length := by omega
    have c1 : ((i + 1 : Nat) : Int) < (p.length : Int) := by omega
    have e1 : IntKind.i64.wrap (((i + 1 : Nat) : Int) + 1) = ((i + 1 + 1 : Nat) : Int) := w64succ (by omega)
    have o1 := qof_c (n := ((i + 1 : Nat) : Int)) (by omega) (by omega)
    have so := sq_int ((i + 1 : Nat) : Int) (by omega)
    have x1 : vQ (p.getD (i + 1) dQ) = co (vsQ p) (i + 1) := by rw [← atV_vsQ]; unfold atV; rw [if_pos c2]
    have x2 := hs _ (getD_mem' dQ c2)
    have b2 : (i + 1) * 56 ≤ 140737488355328 := by omega
    have m2 : ∀ (f : Nat → Rat) (y : RQt), List.take (i + 1) (nf f i ++ [y]) = nf f i ++ [y] := fun f y => List.take_of_length_le (by rw [List.length_append, nf_len]; simp)
    have m3 : ∀ f : Nat → Rat, List.take i (nf f i) = nf f i := fun f => List.take_of_length_le (by rw [nf_len]; exact Nat.le_refl _)
    have m1 : ∀ (f : Nat → Rat) (v : Rat), List.map eQ (nf f i) ++ [[.b (ng v.num), (AV.l 1 (List.map u (D v.num.natAbs))), (AV.l 1 (List.map u (D v.den)))]] = List.map eQ (nf f i ++ [rQ v]) := fun f v => by rw [List.map_append]; rfl
    rw [nf_succ] at h9
    have ed : dF (co (vsQ p)) i = co (vsQ p) (i + 1) * (((i + 1 : Nat) : Int) : Rat) := rfl
    rw [ed] at h9
    have ln := nf_len (dF (co (vsQ p))) i
    generalize ((((i + 1 : Nat) : Int)) : Rat) = y at *
    generalize hX : p.getD (i + 1) dQ = X at *
    have g1 : R FF 94 [(AV.agg [AV.b X.1, (AV.l 1 (List.map u X.2.1)), (AV.l 1 (List.map u X.2.2))]), (AV.agg [AV.b (ng (Rat.num y)), (AV.l 1 (List.map u (D (Int.natAbs (Rat.num y))))), (AV.l 1 (List.map u (D (Rat.den y))))])] = some (AV.agg [AV.b (ng (Rat.num ((vQ X * qv (ng y.num) (D y.num.natAbs) (D y.den))))), (AV.l 1 (List.map u (D (Int.natAbs (Rat.num ((vQ X * qv (ng y.num) (D y.num.natAbs) (D y.den)))))))), (AV.l 1 (List.map u (D (Rat.den ((vQ X * qv (ng y.num) (D y.num.natAbs) (D y.den)))))))]) := qmul_s x2 (sm_cq so) (by omega) (by omega)
    rw [qv_cq, x1] at g1
    rw [LP_go FF b185_0.eq_1]
    simp only [RB, un, St.none, Nat.reduceEqDiff, Nat.reduceAdd, Nat.reduceMul, Nat.reduceLeDiff, Nat.reduceLT, Int.reduceLT, Int.reduceLE, Int.reduceEq, Int.reduceToNat, Int.reduceSub, Int.reduceNeg, Int.reduceAdd, ↓reduceIte, reduceCtorEq, ite_self, eq_self, if_true, if_false, pack, pid, parN, List.not_mem_nil, List.mem_cons, lid, chkK, apartV, List.map_nil, List.flatMap_nil, List.append_nil, List.nil_append, List.drop_zero, List.length_set, List.length_replicate, List.length_append, List.take_length, List.take_zero, List.drop_length, Option.isNone_none, Heap.none, c1, c2, e1, eQ_rules, eQ_row, Int.natCast_nonneg, o1, hX, g1, ln, b2, m1, m2, m3]
    exact h9
theorem pderive_r {p : List RQt} {k : Nat} (hk : k ≤ 10000000000) (h1k : 1 ≤ k) (hn : p.length ≤ 1000000) (hs : SmL p k) : R FF 185 [.l 3 (p.map eQ)] = some (AV.l 3 (List.map eQ (List.map rQ (dT (vsQ p))))) := by
  have l0 := pderive_l0 hk rfl hn hs (p.length - 1) 0 (by omega)
  rw [show nf (dF (co (vsQ p))) 0 = [] from rfl, List.map_nil] at l0
  have ez := SmL.vsQ hs h1k
  have t1 := ptrim_c (p := nf (dF (co (vsQ p))) (p.length - 1)) (k := 20000000000) (by omega) (by rw [nf_len]; have : maxL = 9223372036854775807 := rfl; omega) (nf_sm fun i hi => by
    have h1 := sq_mul (co (vsQ p) (i + 1)) (((i + 1 : Nat) : Int) : Rat)
    have h2 := sq_int ((i + 1 : Nat) : Int) (by omega)
    have h3 := ez (i + 1)
    show sq (co (vsQ p) (i + 1) * (((i + 1 : Nat) : Int) : Rat)) ≤ _
    omega)
  rw [trim_tk] at t1
  have e0 : dT (vsQ p) = tk (dF (co (vsQ p))) (p.length - 1) := by unfold dT; rw [vsQ_len]; rfl
  rw [e0]
  rw [show (((0 + 1 : Nat)) : Int) = 1 from rfl] at l0
  generalize nf (dF (co (vsQ p))) (p.length - 1) = N at *
  rw [R_go FF F185 c185.eq_1]
  simp only [RB, un, St.none, Nat.reduceEqDiff, Nat.reduceAdd, Nat.reduceMul, Nat.reduceLeDiff, Nat.reduceLT, Int.reduceLT, Int.reduceLE, Int.reduceEq, Int.reduceToNat, Int.reduceSub, Int.reduceNeg, Int.reduceAdd, ↓reduceIte, reduceCtorEq, ite_self, eq_self, if_true, if_false, pack, pid, parN, List.not_mem_nil, List.mem_cons, lid, chkK, apartV, List.map_nil, List.flatMap_nil, List.append_nil, List.nil_append, List.drop_zero, List.length_set, List.length_replicate, List.length_append, List.take_length, List.take_zero, List.drop_length, Option.isNone_none, Heap.none, l0, t1]
def eL (l : List Rat) : List AV := [(AV.l 3 (List.map eQ (List.map rQ l)))]
theorem eL_rules : (∀ x, (eL x).length = 1) ∧ (∀ h x, (eL x).map (tellC h) = eL x) ∧ (∀ h x, (eL x).map (tell0 h) = eL x) ∧ (∀ h x, (eL x).flatMap (refC h) = []) ∧ (∀ x, (eL x).flatMap ref0 = []) ∧
    (∀ x, ldC false 1 0 (eL x) = some (AV.l 3 (List.map eQ (List.map rQ x)))) := by
  refine ⟨?_, ?_, ?_, ?_, ?_, ?_⟩ <;> intros <;> rfl
theorem eL_row : type_of% (row_rules eL [] 1 (fun _ => rfl) (fun _ _ => rfl)) := row_rules eL [] 1 (fun _ => rfl) (fun _ _ => rfl)
def tnS (c : List (List Rat)) (x : Rat) : Nat → Int × Int
  | 0 => (0, 0)
  | i + 1 => if cmp (evl (c.getD i []) x).num 0 = 0 then tnS c x i else ((tnS c x i).1 + (if (tnS c x i).2 ≠ 0 ∧ cmp (evl (c.getD i []) x).num 0 ≠ (tnS c x i).2 then 1 else 0), cmp (evl (c.getD i []) x).num 0)
theorem tnS_le (c : List (List Rat)) (x : Rat) : ∀ i, 0 ≤ (tnS c x i).1 ∧ (tnS c x i).1 ≤ i := by
  intro i
  induction i with
  | zero => exact ⟨Int.le_refl _, Int.le_refl _⟩
  | succ i ih =>
    unfold tnS
    split
    · omega
    · simp only
      split <;> omega
def SzL (c : List (List Rat)) (k n : Nat) : Prop := ∀ l ∈ c, SzE (co l) k ∧ l.length ≤ n
theorem pturns_l0 {c : List (List Rat)} {x : RQt} {k n m : Nat} (hk : n * (k + k + 1) + 1 ≤ 10000000000) (h1k : 1 ≤ k) (hn : n ≤ 1000000) (hc : SzL c k n) (hx : Sm x.2.1 x.2.2 k) (hm : c.length = m) (hm2 : m ≤ 1000000) : ∀ (d i : Nat), i + d = m →
    LP FF [(3, 0), (5, 0), (6, 0), (10, 0), (11, 0), (12, 0)] [(5, 0)] b213_0 [.tp (eQ x) 0, (AV.i .i64 ((tnS c (vQ x) i).1)), (AV.i .i64 ((tnS c (vQ x) i).2)), .l 1 (c.map eL), (AV.i .i64 ((m : Int))), (AV.i .i64 ((i : Int)))] = some (.exit 0, [(AV.i .i64 ((tnS c (vQ x) m).1))]) := by
  intro d
  induction d with
  | zero =>
    intro i hi
    obtain rfl : i = m := by omega
    have c1 : ¬ (i : Int) < (i : Int) := by omega
    rw [LP_go FF b213_0.eq_1]
    simp only [RB, un, St.none, Nat.reduceEqDiff, Nat.reduceAdd, Nat.reduceMul, Nat.reduceLeDiff, Nat.reduceLT, Int.reduceLT, Int.reduceLE, Int.reduceEq, Int.reduceToNat, Int.reduceSub, Int.reduceNeg, Int.reduceAdd, ↓reduceIte, reduceCtorEq, ite_self, eq_self, if_true, if_false, pack, pid, parN, List.not_mem_nil, List.mem_cons, lid, chkK, apartV, List.map_nil, List.flatMap_nil, List.append_nil, List.nil_append, List.drop_zero, List.length_set, List.length_replicate, List.length_append, List.take_length, List.take_zero, List.drop_length, Option.isNone_none, Heap.none, c1]
  | succ d ih =>
    intro i hi
    have h9 := ih (i + 1) (by omega)
    have c1 : (i : Int) < (m : Int) := by omega
    have c3 : (i : Int) < (c.length : Int) := by omega
    have e1 : IntKind.i64.wrap ((i : Int) + 1) = ((i + 1 : Nat) : Int) := w64succ (by omega)
    obtain ⟨z1, z2⟩ := hc (c.getD i []) (getD_mem' [] (by omega))
    have tl := tnS_le c (vQ x) i
    have e2 : IntKind.i64.wrap ((tnS c (vQ x) i).1 + 1) = (tnS c (vQ x) i).1 + 1 := w64 (by omega) (by omega)
    have hm1 : (c.getD i []).length * (k + k + 1) ≤ n * (k + k + 1) := Nat.mul_le_mul_right _ z2
    have v1 := peval_r (p := (c.getD i []).map rQ) (x := x) (k := k) (by rw [List.length_map]; omega) h1k (by rw [List.length_map]; omega) z1.sm hx
    rw [vsQ_r] at v1
    have s1 := evl_sq z1 (Sm.sq (q := x.1) hx h1k) z2
    change sq (evl (c.getD i []) (vQ x)) ≤ _ at s1
    have g1 : R FF 162 [(AV.agg [AV.b (ng (Rat.num ((evl (c.getD i []) (vQ x))))), (AV.l 1 (List.map u (D (Int.natAbs (Rat.num ((evl (c.getD i []) (vQ x)))))))), (AV.l 1 (List.map u (D (Rat.den ((evl (c.getD i []) (vQ x)))))))])] = _ := qsign_c (q := ng (evl (c.getD i []) (vQ x)).num) (k := 100000000000) (by omega) (sm_cq (by omega))
    rw [qv_cq] at g1
    have ts : tnS c (vQ x) (i + 1) = if cmp (evl (c.getD i []) (vQ x)).num 0 = 0 then tnS c (vQ x) i else ((tnS c (vQ x) i).1 + (if (tnS c (vQ x) i).2 ≠ 0 ∧ cmp (evl (c.getD i []) (vQ x)).num 0 ≠ (tnS c (vQ x) i).2 then 1 else 0), cmp (evl (c.getD i []) (vQ x)).num 0) := rfl
    rw [ts] at h9
    generalize hP : (c.getD i []) = P at *
    generalize cmp (evl P (vQ x)).num 0 = s at *
    generalize tnS c (vQ x) i = T at *
    obtain ⟨a, b⟩ := T
    simp only at h9 e2 ⊢
    simp only [eQ] at v1 h9 ⊢
    by_cases hs : s = 0
    · rw [if_pos hs] at h9
      subst hs
      rw [LP_go FF b213_0.eq_1]
      simp only [RB, un, St.none, Nat.reduceEqDiff, Nat.reduceAdd, Nat.reduceMul, Nat.reduceLeDiff, Nat.reduceLT, Int.reduceLT, Int.reduceLE, Int.reduceEq, Int.reduceToNat, Int.reduceSub, Int.reduceNeg, Int.reduceAdd, ↓reduceIte, reduceCtorEq, ite_self, eq_self, if_true, if_false, pack, pid, parN, List.not_mem_nil, List.mem_cons, lid, chkK, apartV, List.map_nil, List.flatMap_nil, List.append_nil, List.nil_append, List.drop_zero, List.length_set, List.length_replicate, List.length_append, List.take_length, List.take_zero, List.drop_length, Option.isNone_none, Heap.none, c1, c3, e1, eL_rules, eL_row, Int.natCast_nonneg, hP, v1, g1]
      exact h9
    · rw [if_neg hs] at h9
      simp only at h9
      by_cases hb : b = 0
      · subst hb
        rw [if_neg (by intro h; exact h.1 rfl), Int.add_zero] at h9
        rw [LP_go FF b213_0.eq_1]
        simp only [RB, un, St.none, Nat.reduceEqDiff, Nat.reduceAdd, Nat.reduceMul, Nat.reduceLeDiff, Nat.reduceLT, Int.reduceLT, Int.reduceLE, Int.reduceEq, Int.reduceToNat, Int.reduceSub, Int.reduceNeg, Int.reduceAdd, ↓reduceIte, reduceCtorEq, ite_self, eq_self, if_true, if_false, pack, pid, parN, List.not_mem_nil, List.mem_cons, lid, chkK, apartV, List.map_nil, List.flatMap_nil, List.append_nil, List.nil_append, List.drop_zero, List.length_set, List.length_replicate, List.length_append, List.take_length, List.take_zero, List.drop_length, Option.isNone_none, Heap.none, c1, c3, e1, eL_rules, eL_row, Int.natCast_nonneg, hP, v1, g1, hs]
        exact h9
      · by_cases hsb : s = b
        · subst hsb
          rw [if_neg (by intro h; exact h.2 rfl), Int.add_zero] at h9
          rw [LP_go FF b213_0.eq_1]
          simp only [RB, un, St.none, Nat.reduceEqDiff, Nat.reduceAdd, Nat.reduceMul, Nat.reduceLeDiff, Nat.reduceLT, Int.reduceLT, Int.reduceLE, Int.reduceEq, Int.reduceToNat, Int.reduceSub, Int.reduceNeg, Int.reduceAdd, ↓reduceIte, reduceCtorEq, ite_self, eq_self, if_true, if_false, pack, pid, parN, List.not_mem_nil, List.mem_cons, lid, chkK, apartV, List.map_nil, List.flatMap_nil, List.append_nil, List.nil_append, List.drop_zero, List.length_set, List.length_replicate, List.length_append, List.take_length, List.take_zero, List.drop_length, Option.isNone_none, Heap.none, c1, c3, e1, eL_rules, eL_row, Int.natCast_nonneg, hP, v1, g1, hs]
          exact h9
        · rw [if_pos ⟨hb, hsb⟩] at h9
          rw [LP_go FF b213_0.eq_1]
          simp only [RB, un, St.none, Nat.reduceEqDiff, Nat.reduceAdd, Nat.reduceMul, Nat.reduceLeDiff, Nat.reduceLT, Int.reduceLT, Int.reduceLE, Int.reduceEq, Int.reduceToNat, Int.reduceSub, Int.reduceNeg, Int.reduceAdd, ↓reduceIte, reduceCtorEq, ite_self, eq_self, if_true, if_false, pack, pid, parN, List.not_mem_nil, List.mem_cons, lid, chkK, apartV, List.map_nil, List.flatMap_nil, List.append_nil, List.nil_append, List.drop_zero, List.length_set, List.length_replicate, List.length_append, List.take_length, List.take_zero, List.drop_length, Option.isNone_none, Heap.none, c1, c3, e1, e2, eL_rules, eL_row, Int.natCast_nonneg, hP, v1, g1, hs, hb, hsb]
          exact h9
theorem pturns_r {c : List (List Rat)} {x : RQt} {k n : Nat} (hk : n * (k + k + 1) + 1 ≤ 10000000000) (h1k : 1 ≤ k) (hn : n ≤ 1000000) (hc : SzL c k n) (hx : Sm x.2.1 x.2.2 k) (hm2 : c.length ≤ 1000000) : R FF 213 [.l 1 (c.map eL), .agg (eQ x)] = some (AV.i .i64 ((tnS c (vQ x) c.length).1)) := by
  have l0 := pturns_l0 hk h1k hn hc hx rfl hm2 c.length 0 (by omega)
  rw [Int.ofNat_zero, show tnS c (vQ x) 0 = (0, 0) from rfl] at l0
  simp only [eQ] at l0 ⊢
  rw [R_go FF F213 c213.eq_1]
  simp only [RB, un, St.none, Nat.reduceEqDiff, Nat.reduceAdd, Nat.reduceMul, Nat.reduceLeDiff, Nat.reduceLT, Int.reduceLT, Int.reduceLE, Int.reduceEq, Int.reduceToNat, Int.reduceSub, Int.reduceNeg, Int.reduceAdd, ↓reduceIte, reduceCtorEq, ite_self, eq_self, if_true, if_false, pack, pid, parN, List.not_mem_nil, List.mem_cons, lid, chkK, apartV, List.map_nil, List.flatMap_nil, List.append_nil, List.nil_append, List.drop_zero, List.length_set, List.length_replicate, List.length_append, List.take_length, List.take_zero, List.drop_length, Option.isNone_none, Heap.none, l0, List.length_map]
end Go.Pe
set_option linter.unusedSimpArgs false
set_option linter.unusedVariables false
open Go
namespace Go.Pe
structure ChZ (p q : List Rat) (n K : Nat) : Prop where
  cp : Ca p
  cq : Ca q
  lt : q.length < p.length
  ln : q.length ≤ n
  lp : p.length ≤ n + 1
  z : ∃ k, SzF (co p) k ∧ SzF (co q) k ∧ (k + 1) * 2 ^ (p.length + q.length) ≤ K
theorem ChZ.bnd {p q : List Rat} {n K : Nat} (h : ChZ p q n K) : SzF (co p) K ∧ SzF (co q) K := by
  obtain ⟨k, h1, h2, h3⟩ := h.z
  have := k_pow k (p.length + q.length)
  exact ⟨h1.mono (by omega), h2.mono (by omega)⟩
theorem ChZ.next {p q : List Rat} {n K : Nat} (h : ChZ p q (n + 1) K) (h0 : q ≠ []) : ChZ q (scT (dvR p q) (-1)) n K ∧ SzF (co (dvR p q)) K := by
  have hr := dvR_len h.cp h.cq h0
  have hlt := h.lt
  have hln := h.ln
  obtain ⟨k, k1, k2, k3⟩ := h.z
  obtain ⟨k', _, h3, h4, h5⟩ := euc_sz h.cp h.cq k1 k2 h0 (by omega)
  have hs : (scT (dvR p q) (-1)).length = (dvR p q).length := scT_len (dvR_ca q h.cp) (by decide)
  refine ⟨⟨h.cq, ca_tk _ _, by omega, by omega, by omega, k', h3, ?_, ?_⟩, ?_⟩
  · rw [co_scT]; exact SzF.scm h4
  · rw [hs]; exact Nat.le_trans h5 k3
  · have := k_pow k' (q.length + (dvR p q).length)
    exact h4.mono (by omega)
theorem dT_ca (l : List Rat) : Ca (dT l) := ca_tk _ _
theorem qof_m1 : R FF 68 [(AV.i .i64 (-1))] = some (AV.agg [AV.b (ng (Rat.num ((-1 : Rat)))), (AV.l 1 (List.map u (D (Int.natAbs (Rat.num ((-1 : Rat))))))), (AV.l 1 (List.map u (D (Rat.den ((-1 : Rat))))))]) := qof_c (n := -1) (by omega) (by omega)
theorem sq_m1 : sq (-1 : Rat) ≤ 1 := by rw [sq_neg]; exact sq_one
theorem snoc_get (pre : List (List Rat)) (p q : List Rat) : (pre ++ [p] ++ [q]).getD pre.length [] = p := by simp [List.getD_eq_getElem?_getD]
theorem pchain_l0 {K : Nat} (hK : K ≤ 10000000) : ∀ (n : Nat) {pre : List (List Rat)} {p q : List Rat}, ChZ p q n K → n ≤ 90 → pre.length + n ≤ 100000 →
    LP FF [(3, 1), (4, 0)] [(3, 0)] b191_0 [.own true 1 ((pre ++ [p]).map eL), (AV.l 3 (List.map eQ (List.map rQ q)))] = some (.exit 0, [.l 1 ((pre ++ p :: chF n p q).map eL)]) := by
  intro n
  induction n with
  | zero =>
    intro pre p q hz _ _
    have h0 : q = [] := List.length_eq_zero_iff.1 (by have := hz.ln; omega)
    subst h0
    rw [show chF 0 p [] = [] from rfl]
    have t1 : List.take (pre ++ [p]).length (pre ++ [p]) = pre ++ [p] := List.take_length
    generalize pre ++ [p] = N at *
    rw [LP_go FF b191_0.eq_1]
    simp only [RB, un, St.none, Nat.reduceEqDiff, Nat.reduceAdd, Nat.reduceMul, Nat.reduceLeDiff, Nat.reduceLT, Int.reduceLT, Int.reduceLE, Int.reduceEq, Int.reduceToNat, Int.reduceSub, Int.reduceNeg, Int.reduceAdd, ↓reduceIte, reduceCtorEq, ite_self, eq_self, if_true, if_false, pack, pid, parN, List.not_mem_nil, List.mem_cons, lid, chkK, apartV, List.map_nil, List.flatMap_nil, List.append_nil, List.nil_append, List.drop_zero, List.length_set, List.length_replicate, List.length_append, List.take_length, List.take_zero, List.drop_length, Option.isNone_none, Heap.none, List.length_nil, eL_rules, t1, List.length_map]
  | succ n ih =>
    intro pre p q hz hn90 hpn
    unfold chF
    by_cases h0 : q = []
    · rw [if_pos h0]
      subst h0
      have t1 : List.take (pre ++ [p]).length (pre ++ [p]) = pre ++ [p] := List.take_length
      generalize pre ++ [p] = N at *
      rw [LP_go FF b191_0.eq_1]
      simp only [RB, un, St.none, Nat.reduceEqDiff, Nat.reduceAdd, Nat.reduceMul, Nat.reduceLeDiff, Nat.reduceLT, Int.reduceLT, Int.reduceLE, Int.reduceEq, Int.reduceToNat, Int.reduceSub, Int.reduceNeg, Int.reduceAdd, ↓reduceIte, reduceCtorEq, ite_self, eq_self, if_true, if_false, pack, pid, parN, List.not_mem_nil, List.mem_cons, lid, chkK, apartV, List.map_nil, List.flatMap_nil, List.append_nil, List.nil_append, List.drop_zero, List.length_set, List.length_replicate, List.length_append, List.take_length, List.take_zero, List.drop_length, Option.isNone_none, Heap.none, List.length_nil, eL_rules, t1, List.length_map]
    · rw [if_neg h0]
      obtain ⟨hz2, zr⟩ := hz.next h0
      obtain ⟨fp, fq⟩ := hz.bnd
      have cp := hz.cp
      have cq := hz.cq
      have llp := hz.lp
      have llq := hz.ln
      have lt := hz.lt
      have h9 := ih (pre := pre ++ [p]) hz2 (by omega) (by rw [List.length_append, List.length_singleton]; omega)
      have c1 : (0 : Int) < (q.length : Int) := by have := List.length_pos_iff.2 h0; omega
      have hl := dvR_len cp cq h0
      have z1 := pdm_r (a := p.map rQ) (b := q.map rQ) (k := K + 0) (by omega) (by
        obtain ⟨k, _, _, h⟩ := hz.z
        have : 1 ≤ (k + 1) * 2 ^ (p.length + q.length) := Nat.mul_pos (by omega) (Nat.two_pow_pos _)
        omega) (by rw [List.length_map]; omega) (by rw [List.length_map]; omega) fp.sq.sm fq.sq.sm (by rw [vsQ_r, tr_ca cp]; exact fp) (by rw [vsQ_r, tr_ca cq]; exact fq) (by rw [vsQ_r, tr_ca cq]; exact h0)
      rw [vsQ_r, vsQ_r, tr_ca cp, tr_ca cq] at z1
      have s1 := pscale_r (p := (dvR p q).map rQ) (x := -1) (k := K + 1) (by omega) (by omega) (by rw [List.length_map]; omega) (SzE.sm (zr.sq.mono (by omega))) (Nat.le_trans sq_m1 (by omega))
      rw [vsQ_r] at s1
      have o1 := qof_m1
      have b1 : (pre.length + 1 + 1) * 24 ≤ 140737488355328 := by omega
      have m0 : (pre ++ [p]).length = pre.length + 1 := by simp
      have m1 : List.map eL (pre ++ [p]) ++ [[(AV.l 3 (List.map eQ (List.map rQ q)))]] = List.map eL (pre ++ [p] ++ [q]) := by rw [List.map_append (l₁ := pre ++ [p])]; rfl
      have m2 : (pre ++ [p] ++ [q]).length = pre.length + 1 + 1 := by simp
      have m3 := snoc_get pre p q
      have t1 : List.take (pre.length + 1) (pre ++ [p]) = pre ++ [p] := List.take_of_length_le (by omega)
      have t2 : List.take (pre.length + 1 + 1) (pre ++ [p] ++ [q]) = pre ++ [p] ++ [q] := List.take_of_length_le (by omega)
      have e1 : IntKind.i64.wrap (((pre.length + 1 + 1 : Nat) : Int) - 2) = (pre.length : Int) := by rw [w64 (by omega) (by omega)]; omega
      have c2 : (pre.length : Int) < ((pre.length + 1 + 1 : Nat) : Int) := by omega
      have c3 : pre.length < pre.length + 1 + 1 := by omega
      have e9 : pre ++ [p] ++ q :: chF n q (scT (dvR p q) (-1)) = pre ++ p :: q :: chF n q (scT (dvR p q) (-1)) := by simp
      rw [e9] at h9
      generalize pre ++ [p] ++ [q] = N2 at *
      generalize pre ++ [p] = N1 at *
      generalize pre ++ p :: q :: chF n q (scT (dvR p q) (-1)) = N3 at *
      rw [LP_go FF b191_0.eq_1]
      simp only [RB, un, St.none, Nat.reduceEqDiff, Nat.reduceAdd, Nat.reduceMul, Nat.reduceLeDiff, Nat.reduceLT, Int.reduceLT, Int.reduceLE, Int.reduceEq, Int.reduceToNat, Int.reduceSub, Int.reduceNeg, Int.reduceAdd, ↓reduceIte, reduceCtorEq, ite_self, eq_self, if_true, if_false, pack, pid, parN, List.not_mem_nil, List.mem_cons, lid, chkK, apartV, List.map_nil, List.flatMap_nil, List.append_nil, List.nil_append, List.drop_zero, List.length_set, List.length_replicate, List.length_append, List.take_length, List.take_zero, List.drop_length, Option.isNone_none, Heap.none, c1, eL_rules, eL_row, m0, m1, m2, m3, t1, t2, b1, e1, c2, c3, Int.natCast_nonneg, z1, o1, s1, List.length_map]
      exact h9
theorem dT_sz {l : List Rat} {k : Nat} (h : SzE (co l) k) (hn : l.length < 4294967296) : SzE (co (dT l)) (k + 1) := fun i => by
  rw [co_dT]
  by_cases c : i + 1 < l.length
  · have h1 := sq_mul (co l (i + 1)) (((i + 1 : Nat) : Int) : Rat)
    have h2 := sq_int ((i + 1 : Nat) : Int) (by omega)
    have := h (i + 1)
    show sq (co l (i + 1) * (((i + 1 : Nat) : Int) : Rat)) ≤ _
    omega
  · show sq (co l (i + 1) * (((i + 1 : Nat) : Int) : Rat)) ≤ _
    rw [co_big (by omega), Rat.zero_mul]
    have := sq_zero; omega
theorem ChZ.init {P : List Rat} {n m : Nat} (hc : Ca P) (h0 : P ≠ []) (hn : P.length ≤ n) (hn2 : n < 4294967296) (hz : SzE (co P) m) : ChZ P (dT P) P.length ((n * (m + 1) + 2) * 2 ^ (n + n)) := by
  have hl := dT_len P
  have hp := List.length_pos_iff.2 h0
  have hd := dT_sz hz (by omega)
  refine ⟨hc, dT_ca P, by omega, by omega, by omega, n * (m + 1) + 1, ?_, ?_, ?_⟩
  · exact (SzE.f hz (co_dg P)).mono (by
      have h1 : P.length * m ≤ n * m := Nat.mul_le_mul_right _ hn
      have h2 : n * m ≤ n * (m + 1) := Nat.mul_le_mul_left _ (by omega)
      omega)
  · exact (SzE.f hd (co_dg (dT P))).mono (by
      have h1 : (dT P).length * (m + 1) ≤ n * (m + 1) := Nat.mul_le_mul_right _ (by omega)
      omega)
  · exact Nat.mul_le_mul_left _ (Nat.pow_le_pow_right (by omega) (by omega))
theorem pchain_r {p : List RQt} {k K : Nat} (hk : k ≤ 10000000000) (h1k : 1 ≤ k) (hn : p.length ≤ 90) (hs : SmL p k) (h0 : tr (vsQ p) ≠ []) (hz : ChZ (tr (vsQ p)) (dT (tr (vsQ p))) (tr (vsQ p)).length K) (hK : K ≤ 10000000) : R FF 191 [.l 3 (p.map eQ)] = some (.l 1 ((chT (tr (vsQ p))).map eL)) := by
  have k1 := pclean_r (p := p) (by omega) h1k (by omega) hs
  have ez := SmL.vsQ hs h1k
  rw [← co_tr'] at ez
  have ll : (tr (vsQ p)).length ≤ 90 := Nat.le_trans (tr_le _) (by rw [vsQ_len]; exact hn)
  generalize tr (vsQ p) = P at *
  have c1 : ¬ (P.length : Int) = 0 := by have := List.length_pos_iff.2 h0; omega
  have d1 := pderive_r (p := P.map rQ) (k := k) (by omega) h1k (by rw [List.length_map]; omega) ez.sm
  rw [vsQ_r] at d1
  have l0 := pchain_l0 hK P.length (pre := []) hz ll (by rw [List.length_nil]; omega)
  have e0 : chT P = [] ++ P :: chF P.length P (dT P) := by unfold chT; rw [if_neg h0]; rfl
  rw [e0]
  generalize [] ++ P :: chF P.length P (dT P) = C at *
  simp only [List.nil_append, List.map_cons, List.map_nil, eL] at l0
  rw [R_go FF F191 c191.eq_1]
  simp only [RB, un, St.none, Nat.reduceEqDiff, Nat.reduceAdd, Nat.reduceMul, Nat.reduceLeDiff, Nat.reduceLT, Int.reduceLT, Int.reduceLE, Int.reduceEq, Int.reduceToNat, Int.reduceSub, Int.reduceNeg, Int.reduceAdd, ↓reduceIte, reduceCtorEq, ite_self, eq_self, if_true, if_false, pack, pid, parN, List.not_mem_nil, List.mem_cons, lid, chkK, apartV, List.map_nil, List.flatMap_nil, List.append_nil, List.nil_append, List.drop_zero, List.length_set, List.length_replicate, List.length_append, List.take_length, List.take_zero, List.drop_length, Option.isNone_none, Heap.none, k1, List.length_map, c1, d1, l0]
theorem ex_mul : muT [1, 1] [1, -1] = [1, 0, -1] := by decide +kernel
def exP : List Rat := [-2, 0, 1]
theorem ex_d : dT exP = [0, 2] := by decide +kernel
theorem ex_g : gcT exP [0, 2] = [1] := by decide +kernel
theorem ex_q : dvQ exP [1] = exP := by decide +kernel
theorem ex_c : chT exP = [exP, [0, 2], [2]] := by decide +kernel
theorem ex_t0 : (tnS [exP, [0, 2], [2]] 0 3).1 = 1 := by decide +kernel
theorem ex_t2 : (tnS [exP, [0, 2], [2]] 2 3).1 = 0 := by decide +kernel
theorem szE_list {l : List Rat} {k : Nat} (h1k : 1 ≤ k) (h : ∀ x ∈ l, sq x ≤ k) : SzE (co l) k := fun i => by
  by_cases c : i < l.length
  · rw [co_get c]; exact h _ (List.getElem_mem c)
  · rw [co_big (by omega)]; have := sq_zero; omega
theorem sq_two : sq (2 : Rat) ≤ 1 := sq_int 2 (by decide)
theorem sq_m2 : sq (-2 : Rat) ≤ 1 := by rw [sq_neg]; exact sq_two
theorem ex_z : SzE (co exP) 1 := szE_list (by omega) (by
  intro x hx
  simp only [exP, List.mem_cons, List.not_mem_nil, or_false] at hx
  rcases hx with rfl | rfl | rfl
  · exact sq_m2
  · exact sq_zero
  · exact sq_one)
theorem ex_z2 : SzE (co [0, 2]) 1 := SzE.two (by omega) sq_zero sq_two
theorem ex_ca : Ca exP := .inr (by decide +kernel)
theorem ex_roots : R FF 165 [(AV.l 3 (List.map eQ (List.map rQ exP))), (AV.agg [AV.b (ng (Rat.num ((0 : Rat)))), (AV.l 1 (List.map u (D (Int.natAbs (Rat.num ((0 : Rat))))))), (AV.l 1 (List.map u (D (Rat.den ((0 : Rat))))))]), (AV.agg [AV.b (ng (Rat.num ((2 : Rat)))), (AV.l 1 (List.map u (D (Int.natAbs (Rat.num ((2 : Rat))))))), (AV.l 1 (List.map u (D (Rat.den ((2 : Rat))))))])] = some (.tup [(AV.i .i64 1), (AV.i .i64 0)]) := by
  have f0 : exP.length = 3 := rfl
  have fP : SzF (co exP) 4 := (SzE.f ex_z (co_dg exP)).mono (by omega)
  have fD : SzF (co [0, 2]) 4 := (SzE.f ex_z2 (co_dg [0, 2])).mono (by simp)
  have fG : SzF (co [1]) 4 := (SzE.f SzE.one (co_dg [1])).mono (by simp)
  have cD : Ca [0, 2] := .inr (by decide +kernel)
  have cG : Ca [1] := .inr (by decide +kernel)
  have nG : ([1] : List Rat) ≠ [] := by decide
  have l1 : (exP.map rQ).length ≤ 90 := by rw [List.length_map, f0]; omega
  have k1 := pclean_r (p := exP.map rQ) (k := 4) (by omega) (by omega) (by omega) fP.sq.sm
  have k2 : R FF 14 [(AV.agg [AV.b (ng (Rat.num ((0 : Rat)))), (AV.l 1 (List.map u (D (Int.natAbs (Rat.num ((0 : Rat))))))), (AV.l 1 (List.map u (D (Rat.den ((0 : Rat))))))]), (AV.agg [AV.b (ng (Rat.num ((2 : Rat)))), (AV.l 1 (List.map u (D (Int.natAbs (Rat.num ((2 : Rat))))))), (AV.l 1 (List.map u (D (Rat.den ((2 : Rat))))))])] = _ := qcmp_s (sm_cq (x := 0) sq_zero) (sm_cq (x := 2) sq_two) (by omega) (by omega)
  have k3 := pderive_r (p := exP.map rQ) (k := 4) (by omega) (by omega) (by omega) fP.sq.sm
  have k4 := pgcd_r (a := exP.map rQ) (b := ([0, 2] : List Rat).map rQ) (k := 4) (by omega) (by omega) (by omega) (by simp) fP.sq.sm fD.sq.sm (by rw [vsQ_r, tr_ca ex_ca]; exact fP) (by rw [vsQ_r, tr_ca cD]; exact fD) (by rw [vsQ_r, tr_ca ex_ca, vsQ_r, tr_ca cD]; decide)
  have k5 := pdm_r (a := exP.map rQ) (b := ([1] : List Rat).map rQ) (k := 4) (by omega) (by omega) (by omega) (by simp) fP.sq.sm fG.sq.sm (by rw [vsQ_r, tr_ca ex_ca]; exact fP) (by rw [vsQ_r, tr_ca cG]; exact fG) (by rw [vsQ_r, tr_ca cG]; exact nG)
  have k6 := pchain_r (p := exP.map rQ) (k := 4) (K := 10000) (by omega) (by omega) l1 fP.sq.sm (by rw [vsQ_r, tr_ca ex_ca]; decide) (by
    rw [vsQ_r, tr_ca ex_ca]
    have h := ChZ.init (n := 3) (m := 1) ex_ca (by decide) (by omega) (by omega) ex_z
    obtain ⟨a1, a2, a3, a4, a5, k, a6, a7, a8⟩ := h
    exact ⟨a1, a2, a3, a4, a5, k, a6, a7, by omega⟩) (by omega)
  rw [vsQ_r, tr_ca ex_ca] at k1 k6
  rw [vsQ_r, ex_d] at k3
  rw [vsQ_r, vsQ_r, tr_ca ex_ca, tr_ca cD, ex_g] at k4
  rw [vsQ_r, vsQ_r, tr_ca ex_ca, tr_ca cG, ex_q] at k5
  rw [ex_c] at k6
  have zC : SzL [exP, [0, 2], [2]] 1 3 := by
    intro l hl
    simp only [List.mem_cons, List.not_mem_nil, or_false] at hl
    rcases hl with rfl | rfl | rfl
    · exact ⟨ex_z, by omega⟩
    · exact ⟨ex_z2, by simp⟩
    · exact ⟨SzE.single (by omega) sq_two, by simp⟩
  have k7 := pturns_r (x := rQ 0) (k := 1) (n := 3) (by omega) (by omega) (by omega) zC (sm_cq sq_zero) (by simp)
  have k8 := pturns_r (x := rQ 2) (k := 1) (n := 3) (by omega) (by omega) (by omega) zC (sm_cq sq_two) (by simp)
  rw [vQ_rQ, show [exP, [0, 2], [2]].length = 3 from rfl] at k7 k8
  rw [ex_t0] at k7
  rw [ex_t2] at k8
  rw [qv_cq, qv_cq, show qcmp 0 2 = -1 by decide +kernel] at k2
  simp only [eQ, rQ] at k7 k8
  generalize List.map eL [exP, [0, 2], [2]] = C at *
  have c1 : ¬ (exP.length : Int) = 0 := by rw [f0]; omega
  have e1 : IntKind.i64.wrap (1 : Int) = 1 := by decide
  generalize exP = P at *
  generalize ([0, 2] : List Rat) = P2 at *
  generalize ([1] : List Rat) = P1 at *
  rw [R_go FF F165 c165.eq_1]
  simp only [RB, un, St.none, Nat.reduceEqDiff, Nat.reduceAdd, Nat.reduceMul, Nat.reduceLeDiff, Nat.reduceLT, Int.reduceLT, Int.reduceLE, Int.reduceEq, Int.reduceToNat, Int.reduceSub, Int.reduceNeg, Int.reduceAdd, ↓reduceIte, reduceCtorEq, ite_self, eq_self, if_true, if_false, pack, pid, parN, List.not_mem_nil, List.mem_cons, lid, chkK, apartV, List.map_nil, List.flatMap_nil, List.append_nil, List.nil_append, List.drop_zero, List.length_set, List.length_replicate, List.length_append, List.take_length, List.take_zero, List.drop_length, Option.isNone_none, Heap.none, k1, List.length_map, c1, k2, k3, k4, k5, k6, k7, k8, e1]
theorem awake04 : R FF 166 [] = some (.b true) := by
  have o1 := qone_c
  have o2 := qof_m1
  have o3 : R FF 68 [(AV.i .i64 (-2))] = some (AV.agg [AV.b (ng (Rat.num ((-2 : Rat)))), (AV.l 1 (List.map u (D (Int.natAbs (Rat.num ((-2 : Rat))))))), (AV.l 1 (List.map u (D (Rat.den ((-2 : Rat))))))]) := qof_c (n := -2) (by omega) (by omega)
  have o4 := qzero_c
  have o5 : R FF 68 [(AV.i .i64 2)] = some (AV.agg [AV.b (ng (Rat.num ((2 : Rat)))), (AV.l 1 (List.map u (D (Int.natAbs (Rat.num ((2 : Rat))))))), (AV.l 1 (List.map u (D (Rat.den ((2 : Rat))))))]) := qof_c (n := 2) (by omega) (by omega)
  have z1 : SzE (co [1, 1]) 1 := SzE.two (by omega) sq_one sq_one
  have z2 : SzE (co [1, -1]) 1 := SzE.two (by omega) sq_one sq_m1
  have m1 := pmul_r (a := ([1, 1] : List Rat).map rQ) (b := ([1, -1] : List Rat).map rQ) (k := 1) (n := 2) (by omega) (by omega) (by simp) (by omega) (by simp) z1.sm z2.sm (by omega)
  rw [vsQ_r, vsQ_r, ex_mul] at m1
  have r1 := ex_roots
  simp only [exP, List.map_cons, List.map_nil, eQ, rQ] at m1 r1
  have s1 : R FF 57 [(AV.agg [AV.b (ng (Rat.num ((-1 : Rat)))), (AV.l 1 (List.map u (D (Int.natAbs (Rat.num ((-1 : Rat))))))), (AV.l 1 (List.map u (D (Rat.den ((-1 : Rat))))))]), (AV.agg [AV.b (ng (Rat.num ((-1 : Rat)))), (AV.l 1 (List.map u (D (Int.natAbs (Rat.num ((-1 : Rat))))))), (AV.l 1 (List.map u (D (Rat.den ((-1 : Rat))))))])] = _ := qsame_s (sm_cq sq_m1) (sm_cq sq_m1) (by omega) (by omega)
  rw [decide_eq_true rfl] at s1
  rw [R_go FF F166 c166.eq_1]
  simp only [RB, un, St.none, Nat.reduceEqDiff, Nat.reduceAdd, Nat.reduceMul, Nat.reduceLeDiff, Nat.reduceLT, Int.reduceLT, Int.reduceLE, Int.reduceEq, Int.reduceToNat, Int.reduceSub, Int.reduceNeg, Int.reduceAdd, ↓reduceIte, reduceCtorEq, ite_self, eq_self, if_true, if_false, pack, pid, parN, List.not_mem_nil, List.mem_cons, lid, chkK, apartV, List.map_nil, List.flatMap_nil, List.append_nil, List.nil_append, List.drop_zero, List.length_set, List.length_replicate, List.length_append, List.take_length, List.take_zero, List.drop_length, Option.isNone_none, Heap.none, o1, o2, o3, o4, o5, m1, r1, s1, List.length_cons, List.length_nil, List.cons_append]
end Go.Pe
set_option linter.unusedSimpArgs false
set_option linter.unusedVariables false
open Go
namespace Go.Pe
theorem SmL.mono {p : List RQt} {k m : Nat} (h : SmL p k) (hm : k ≤ m) : SmL p m := fun x hx => Sm.mono (h x hx) hm
theorem SzE.tr {l : List Rat} {k : Nat} (h : SzE (co l) k) : SzE (co (Go.Pe.tr l)) k := by rw [co_tr']; exact h
end Go.Pe
set_option linter.unusedSimpArgs false
set_option linter.unusedVariables false
open Go
namespace Go.Pe
theorem law_PolyGcds (a : List RQt) (ha : a.length ≤ maxL ∧ ∀ x ∈ a, OkQ x) (b : List RQt) (hb : b.length ≤ maxL ∧ ∀ x ∈ b, OkQ x) (c : List RQt) (hc : c.length ≤ maxL ∧ ∀ x ∈ c, OkQ x) : R FF 146 [.l 3 (a.map eQ), .l 3 (b.map eQ), .l 3 (c.map eQ)] = some (.b true) := by
  have f1 := few04_c (n := 4) (by omega) ha.2 ha.1
  have f2 := few04_c (n := 4) (by omega) hb.2 hb.1
  have f3 := few04_c (n := 4) (by omega) hc.2 hc.1
  have sa := fewQ_sm ha.2 4
  have sb := fewQ_sm hb.2 4
  have sc := fewQ_sm hc.2 4
  have la : ((a.take 4).map t2Q).length ≤ 4 := by rw [List.length_map]; exact List.length_take_le _ _
  have lb : ((b.take 4).map t2Q).length ≤ 4 := by rw [List.length_map]; exact List.length_take_le _ _
  have lc : ((c.take 4).map t2Q).length ≤ 4 := by rw [List.length_map]; exact List.length_take_le _ _
  rw [show (((4 : Nat) : Int)) = 4 from rfl] at f1 f2 f3
  generalize (a.take 4).map t2Q = a' at *
  generalize (b.take 4).map t2Q = b' at *
  generalize (c.take 4).map t2Q = c' at *
  have aw := awake04
  have ea := SmL.vsQ sa (by omega)
  have eb := SmL.vsQ sb (by omega)
  have ec := SmL.vsQ sc (by omega)
  have m1 := pmul_r (k := 2) (n := 10) (by omega) (by omega) (by omega) (by omega) (by omega) sa sc (by omega)
  have m2 := pmul_r (k := 2) (n := 10) (by omega) (by omega) (by omega) (by omega) (by omega) sb sc (by omega)
  have zA : SzE (co (muT (vsQ a') (vsQ c'))) 21 := (SzE.muT ea ec (n := 4) (by rw [vsQ_len]; exact la)).mono (by omega)
  have zB : SzE (co (muT (vsQ b') (vsQ c'))) 21 := (SzE.muT eb ec (n := 4) (by rw [vsQ_len]; exact lb)).mono (by omega)
  have cA : Ca (muT (vsQ a') (vsQ c')) := ca_tk _ _
  have cB : Ca (muT (vsQ b') (vsQ c')) := ca_tk _ _
  have lA : (muT (vsQ a') (vsQ c')).length ≤ 7 := Nat.le_trans (tk_le _ _) (by rw [vsQ_len, vsQ_len]; omega)
  have lB : (muT (vsQ b') (vsQ c')).length ≤ 7 := Nat.le_trans (tk_le _ _) (by rw [vsQ_len, vsQ_len]; omega)
  have kA := co_muT (vsQ a') (vsQ c')
  have kB := co_muT (vsQ b') (vsQ c')
  have dA : Dv (co (tr (vsQ c'))) (co (muT (vsQ a') (vsQ c'))) := ⟨co (vsQ a'), _, co_dg _, by rw [co_tr', kA]⟩
  have dB : Dv (co (tr (vsQ c'))) (co (muT (vsQ b') (vsQ c'))) := ⟨co (vsQ b'), _, co_dg _, by rw [co_tr', kB]⟩
  have hAC : tr (vsQ c') = [] → muT (vsQ a') (vsQ c') = [] := fun h => ca_zero cA fun i => by
    rw [kA, ← co_tr' (vsQ c'), h, mu_comm, show co [] = fun _ => 0 from by funext i; rfl, mu_z]
  have hBC : tr (vsQ c') = [] → muT (vsQ b') (vsQ c') = [] := fun h => ca_zero cB fun i => by
    rw [kB, ← co_tr' (vsQ c'), h, mu_comm, show co [] = fun _ => 0 from by funext i; rfl, mu_z]
  generalize muT (vsQ a') (vsQ c') = A at *
  generalize muT (vsQ b') (vsQ c') = B at *
  have fA : SzF (co A) 150 := (SzE.f zA (co_dg A)).mono (by have := Nat.mul_le_mul_right 21 lA; omega)
  have fB : SzF (co B) 150 := (SzE.f zB (co_dg B)).mono (by have := Nat.mul_le_mul_right 21 lB; omega)
  have fC : SzF (co (tr (vsQ c'))) 150 := (SzE.f (SzE.tr ec) (co_dg (tr (vsQ c')))).mono (by
    have h1 : (tr (vsQ c')).length ≤ 4 := Nat.le_trans (tr_le _) (by rw [vsQ_len]; exact lc)
    have := Nat.mul_le_mul_right 2 h1; omega)
  have g1 := pgcd_r (a := A.map rQ) (b := B.map rQ) (k := 150) (by omega) (by omega) (by rw [List.length_map]; omega) (by rw [List.length_map]; omega) fA.sq.sm fB.sq.sm (by rw [vsQ_r, tr_ca cA]; exact fA) (by rw [vsQ_r, tr_ca cB]; exact fB) (by
    rw [vsQ_r, vsQ_r, tr_ca cA, tr_ca cB]
    have h1 : 2 ^ (A.length + B.length) ≤ 2 ^ 14 := Nat.pow_le_pow_right (by omega) (by omega)
    have := Nat.mul_le_mul_left (150 + 1) h1; omega)
  rw [vsQ_r, vsQ_r, tr_ca cA, tr_ca cB] at g1
  have hg := gcF_dv (B.length + 1) cA cB (by omega)
  have hG := gcF_of (c := co (tr (vsQ c'))) (B.length + 1) cA cB dA dB
  have cG0 := gcF_ca (B.length + 1) cA cB
  have zG0 : SzF (co (gcF (B.length + 1) A B)) 2500000 := (gcF_sz (B.length + 1) cA cB fA fB).mono (by
    have h1 : 2 ^ (A.length + B.length) ≤ 2 ^ 14 := Nat.pow_le_pow_right (by omega) (by omega)
    have := Nat.mul_le_mul_left (150 + 1) h1; omega)
  have lG0 : (gcF (B.length + 1) A B).length ≤ 7 := gcF_len (B.length + 1) cA cB lA lB
  unfold gcT at g1
  have e0 : gcF (B.length + 1) A B = [] ↔ A = [] ∧ B = [] := by
    constructor
    · intro h
      rw [h] at hg
      refine ⟨ca_zero cA fun i => ?_, ca_zero cB fun i => ?_⟩
      · obtain ⟨t, n, _, e⟩ := hg.1
        rw [e, mu_comm, show co [] = fun _ => 0 from by funext i; rfl, mu_z]
      · obtain ⟨t, n, _, e⟩ := hg.2
        rw [e, mu_comm, show co [] = fun _ => 0 from by funext i; rfl, mu_z]
    · rintro ⟨rfl, rfl⟩; rfl
  generalize gcF (B.length + 1) A B = G at *
  by_cases h0 : A = [] ∧ B = []
  · obtain ⟨rfl, rfl⟩ := h0
    have e1 : G = [] := e0.2 ⟨rfl, rfl⟩
    subst e1
    simp only [List.map_nil, moT, if_true] at m1 m2 g1
    rw [R_go FF F146 c146.eq_1]
    have w0 : IntKind.i64.wrap 0 = 0 := by decide
    simp only [RB, un, St.none, Nat.reduceEqDiff, Nat.reduceAdd, Nat.reduceMul, Nat.reduceLeDiff, Nat.reduceLT, Int.reduceLT, Int.reduceLE, Int.reduceEq, Int.reduceToNat, Int.reduceSub, Int.reduceNeg, Int.reduceAdd, ↓reduceIte, reduceCtorEq, ite_self, eq_self, if_true, if_false, pack, pid, parN, List.not_mem_nil, List.mem_cons, lid, chkK, apartV, List.map_nil, List.flatMap_nil, List.append_nil, List.nil_append, List.drop_zero, List.length_set, List.length_replicate, List.length_append, List.take_length, List.take_zero, List.drop_length, Option.isNone_none, Heap.none, f1, f2, f3, m1, m2, g1, aw, List.length_nil, w0]
  · have hG0 : G ≠ [] := fun h => h0 (e0.1 h)
    have hC0 : tr (vsQ c') ≠ [] := fun h => h0 ⟨hAC h, hBC h⟩
    have ht := ca_top cG0 hG0
    have co1 := moT_co hG0
    have ln := moT_len cG0
    have cM := moT_ca G
    have fM : SzF (co (moT G)) 2500001 := SzF.mo zG0 cG0
    have hinv : (co G (G.length - 1))⁻¹ ≠ 0 := fun h => by have := Rat.mul_inv_cancel _ ht; rw [h] at this; simp at this
    have e1 : co (moT G) = fun i => (co G (G.length - 1))⁻¹ * co G i := by rw [co1]; funext i; exact Rat.mul_comm _ _
    have d1 : Dv (co (moT G)) (co A) := by rw [e1]; exact hg.1.of_sc hinv
    have d2 : Dv (co (moT G)) (co B) := by rw [e1]; exact hg.2.of_sc hinv
    have d3 : Dv (co (tr (vsQ c'))) (co (moT G)) := by rw [e1]; exact hG.sc _
    have top : co (moT G) (G.length - 1) = 1 := by rw [co1]; exact Rat.mul_inv_cancel _ ht
    have hGl : 0 < G.length := List.length_pos_iff.2 hG0
    have hM0 : moT G ≠ [] := fun h => by rw [h] at ln; rw [List.length_nil] at ln; omega
    have mm : moT (moT G) = moT G := ca_ext (moT_ca _) cM fun i => by rw [moT_co hM0, ln, top]; show _ * (1 : Rat)⁻¹ = _; rw [show (1 : Rat)⁻¹ = 1 from by decide +kernel, Rat.mul_one]
    generalize moT G = M at *
    have k1 := right_r cM (by omega) fM.sq (by omega)
    have k2 := pmonic_r (p := M.map rQ) (k := 2500001) (by omega) (by omega) (by rw [List.length_map]; omega) fM.sq.sm
    rw [vsQ_r, tr_ca cM, mm] at k2
    have k3 := is_r (m := M.map rQ) cM (by omega) (by rw [List.length_map]; omega) (by omega) (by omega) fM.sq fM.sq.sm (fun i => by rw [vsQ_r])
    have z1 := dvR_zero cA cM hM0 d1
    have z2 := dvR_zero cB cM hM0 d2
    have z3 := dvR_zero cM (ca_tr (vsQ c')) hC0 d3
    have n1 := pdm_r (a := A.map rQ) (b := M.map rQ) (k := 2500001) (by omega) (by omega) (by rw [List.length_map]; omega) (by rw [List.length_map]; omega) (SzE.mono fA.sq (by omega)).sm fM.sq.sm (by rw [vsQ_r, tr_ca cA]; exact fA.mono (by omega)) (by rw [vsQ_r, tr_ca cM]; exact fM) (by rw [vsQ_r, tr_ca cM]; exact hM0)
    have n2 := pdm_r (a := B.map rQ) (b := M.map rQ) (k := 2500001) (by omega) (by omega) (by rw [List.length_map]; omega) (by rw [List.length_map]; omega) (SzE.mono fB.sq (by omega)).sm fM.sq.sm (by rw [vsQ_r, tr_ca cB]; exact fB.mono (by omega)) (by rw [vsQ_r, tr_ca cM]; exact fM) (by rw [vsQ_r, tr_ca cM]; exact hM0)
    have n3 := pdm_r (a := M.map rQ) (b := c') (k := 2500001) (by omega) (by omega) (by rw [List.length_map]; omega) (by omega) fM.sq.sm (SmL.mono sc (by omega)) (by rw [vsQ_r, tr_ca cM]; exact fM) (fC.mono (by omega)) hC0
    rw [vsQ_r, vsQ_r, tr_ca cA, tr_ca cM, z1, List.map_nil, List.map_nil] at n1
    rw [vsQ_r, vsQ_r, tr_ca cB, tr_ca cM, z2, List.map_nil, List.map_nil] at n2
    rw [vsQ_r, tr_ca cM, z3, List.map_nil, List.map_nil] at n3
    have o1 := qone_c
    have x1 := vQ_r (show G.length - 1 < M.length by omega)
    have x2 := smi_r (show G.length - 1 < M.length by omega) fM.sq
    generalize hX : (M.map rQ).getD (G.length - 1) dQ = X at *
    have o2 : R FF 57 [(AV.agg [AV.b X.1, (AV.l 1 (List.map u X.2.1)), (AV.l 1 (List.map u X.2.2))]), (AV.agg [AV.b (ng (Rat.num ((1 : Rat)))), (AV.l 1 (List.map u (D (Int.natAbs (Rat.num ((1 : Rat))))))), (AV.l 1 (List.map u (D (Rat.den ((1 : Rat))))))])] = some (.b (decide (vQ X = qv (ng (1 : Rat).num) (D (1 : Rat).num.natAbs) (D (1 : Rat).den)))) := qsame_s x2 (sm_cq (x := 1) (k := 1) sq_one) (by omega) (by omega)
    rw [qv_cq, x1, top, decide_eq_true rfl] at o2
    have w1 : IntKind.i64.wrap ((M.length : Int) - 1) = ((G.length - 1 : Nat) : Int) := by rw [w64 (by omega) (by omega)]; omega
    have w2 : IntKind.i64.wrap ((A.length : Int) + (B.length : Int)) = (A.length : Int) + (B.length : Int) := w64 (by omega) (by omega)
    have c1 : ¬ (A.length : Int) + (B.length : Int) = 0 := fun h => h0 ⟨List.length_eq_zero_iff.1 (by omega), List.length_eq_zero_iff.1 (by omega)⟩
    have c2 : ¬ (M.length : Int) = 0 := by omega
    have c3 : ((G.length - 1 : Nat) : Int) < (M.length : Int) := by omega
    have w00 : IntKind.i64.wrap 0 = 0 := by decide
    have w01 : (0 : Int) + 0 = 0 := rfl
    rw [R_go FF F146 c146.eq_1]
    simp only [RB, un, St.none, Nat.reduceEqDiff, Nat.reduceAdd, Nat.reduceMul, Nat.reduceLeDiff, Nat.reduceLT, Int.reduceLT, Int.reduceLE, Int.reduceEq, Int.reduceToNat, Int.reduceSub, Int.reduceNeg, Int.reduceAdd, ↓reduceIte, reduceCtorEq, ite_self, eq_self, if_true, if_false, pack, pid, parN, List.not_mem_nil, List.mem_cons, lid, chkK, apartV, List.map_nil, List.flatMap_nil, List.append_nil, List.nil_append, List.drop_zero, List.length_set, List.length_replicate, List.length_append, List.take_length, List.take_zero, List.drop_length, Option.isNone_none, Heap.none, f1, f2, f3, m1, m2, g1, w2, c1, c2, k1, w1, c3, List.length_map, eQ_rules, eQ_row, Int.natCast_nonneg, hX, o1, o2, k2, k3, n1, n2, n3, aw, List.length_nil, w00, w01, decide_true]
end Go.Pe
set_option linter.unusedVariables false
set_option linter.unusedSimpArgs false
namespace Go.Pe
open Go
structure Pl where
  z : Nat
  n : Nat
  loc : Option (Nat × Nat)
abbrev Rho := Nat → Option Pl
def Rho.none : Rho := fun _ => .none
theorem add_at (b o n : Nat) : (⟨b, o, none⟩ : Addr).add n = ⟨b, o + n, none⟩ := by unfold Addr.add; split <;> simp_all
inductive Rv (w : World) (T : Nat → Prop) : Rho → AV → Value → Prop
  | junk {ρ v} : Rv w T ρ .junk v
  | b {ρ x} : Rv w T ρ (.b x) (.bool x)
  | i {ρ k n} : Rv w T ρ (.i k n) (.int k n)
  | s {ρ x} : Rv w T ρ (.s x) (.string x)
  | np {ρ} : Rv w T ρ .np (.pointer none)
  | ns {ρ z} : Rv w T ρ (.ns z) (.slice none 0 0)
  | lnil {ρ z a cap} (ha : a = none → cap = 0) (hm : cap ≤ maxLen) : Rv w T ρ (.l z []) (.slice a 0 cap)
  | l {ρ z es b base cap} (g : Nat → Nat → Value) (hT : ¬ T b) (hb : b < w.heap.size) (hc : es.length ≤ cap) (hm : cap ≤ maxLen) (hz : ∀ j, j < es.length → (es.getD j []).length = z)
      (hcell : ∀ j c, j < es.length → c < z → w.cell? ⟨b, base + j * z + c, none⟩ = some (g j c) ∧ (g j c).oneCell' = true)
      (hv : ∀ j c, j < es.length → c < z → Rv w T Rho.none ((es.getD j []).getD c .junk) (g j c)) : Rv w T ρ (.l z es) (.slice (some ⟨b, base, none⟩) es.length cap)
  | tp {ρ cs o b base} (g : Nat → Value) (hT : ¬ T b) (hb : b < w.heap.size)
      (hcell : ∀ c, c < cs.length → w.cell? ⟨b, base + c, none⟩ = some (g c) ∧ (g c).oneCell' = true)
      (hv : ∀ c, c < cs.length → Rv w T Rho.none (cs.getD c .junk) (g c)) : Rv w T ρ (.tp cs o) (.pointer (some ⟨b, base + o, none⟩))
  | sl {ρ r z o n m b base cap} (hr : ρ r = some ⟨z, m, some (b, base)⟩) (hn : o + n ≤ m) (hc : n ≤ cap) (hm : cap ≤ maxLen)
      (hs : ∃ cur e fr, w.heap[b]? = some (Obj.cells cur e fr) ∧ base + (o + cap) * z ≤ cur.size) : Rv w T ρ (.sl r z o n) (.slice (some ⟨b, base + o * z, none⟩) n cap)
  | slz {ρ r z o m b base off} (hr : ρ r = some ⟨z, m, some (b, base)⟩) (hn : o ≤ m) : Rv w T ρ (.sl r z o 0) (.slice (some ⟨b, off, none⟩) 0 0)
  | slnil {ρ r z} (hr : ρ r = some ⟨z, 0, none⟩) : Rv w T ρ (.sl r z 0 0) (.slice none 0 0)
  | p {ρ r e o z m b base} (hr : ρ r = some ⟨z, m, some (b, base)⟩) : Rv w T ρ (.p r e o) (.pointer (some ⟨b, base + e * z + o, none⟩))
  | agg {ρ cs} (vs : Array Value) (hl : vs.size = cs.length) (h1 : ∀ c, c < cs.length → (vs.getD c undef).oneCell' = true)
      (hv : ∀ c, c < cs.length → Rv w T ρ (cs.getD c .junk) (vs.getD c undef)) : Rv w T ρ (.agg cs) (.agg vs)
  | tup {ρ cs} (vs : Array Value) (hl : vs.size = cs.length) (hv : ∀ c, c < cs.length → Rv w T ρ (cs.getD c .junk) (vs.getD c undef)) : Rv w T ρ (.tup cs) (.tuple vs)
theorem Rv.lnil0 {w : World} {T : Nat → Prop} {ρ : Rho} {z : Nat} : Rv w T ρ (.l z []) (.slice none 0 0) := .lnil (fun _ => rfl) (Nat.zero_le _)
structure Same (T : Nat → Prop) (w w' : World) : Prop where
  size : w.heap.size ≤ w'.heap.size
  same : ∀ (b : Nat), b < w.heap.size → ¬ T b → w'.heap[b]? = w.heap[b]?
  shape : ∀ (b : Nat) cur e fr, w.heap[b]? = some (Obj.cells cur e fr) → ∃ cur', w'.heap[b]? = some (Obj.cells cur' e fr) ∧ cur'.size = cur.size
theorem Same.refl (T : Nat → Prop) (w : World) : Same T w w := ⟨Nat.le_refl _, fun _ _ _ => rfl, fun _ cur _ _ h => ⟨cur, h, rfl⟩⟩
theorem lt_of_cells {w : World} {b : Nat} {o : Obj} (h : w.heap[b]? = some o) : b < w.heap.size := (Array.getElem?_eq_some_iff.1 h).1
theorem Same.trans {T : Nat → Prop} {w w' w'' : World} (h : Same T w w') (k : Same T w' w'') : Same T w w'' := by
  refine ⟨Nat.le_trans h.size k.size, fun b hb ht => ?_, fun b cur e fr hb => ?_⟩
  · rw [k.same b (Nat.lt_of_lt_of_le hb h.size) ht, h.same b hb ht]
  · obtain ⟨c1, h1, s1⟩ := h.shape b cur e fr hb
    obtain ⟨c2, h2, s2⟩ := k.shape b c1 e fr h1
    exact ⟨c2, h2, s2.trans s1⟩
theorem Same.cell {T : Nat → Prop} {w w' : World} (h : Same T w w') {b o : Nat} (hb : b < w.heap.size) (ht : ¬ T b) : w'.cell? ⟨b, o, none⟩ = w.cell? ⟨b, o, none⟩ := by
  simp only [World.cell?, h.same b hb ht]
theorem Rv.mono {w w' : World} {T T' : Nat → Prop} (hk : Same T w w') (hT : ∀ b, b < w.heap.size → T' b → T b) {ρ : Rho} {av : AV} {v : Value} (h : Rv w T ρ av v) :
    ∀ {ρ' : Rho}, (∀ r p, ρ r = some p → ρ' r = some p) → Rv w' T' ρ' av v := by
  induction h with
  | junk => intro ρ' hρ; exact .junk
  | b => intro ρ' hρ; exact .b
  | i => intro ρ' hρ; exact .i
  | s => intro ρ' hρ; exact .s
  | np => intro ρ' hρ; exact .np
  | ns => intro ρ' hρ; exact .ns
  | lnil ha hm => intro ρ' hρ; exact .lnil ha hm
  | @l ρ z es b base cap g hTb hb hc hm hz hcell hv ih =>
    intro ρ' hρ
    refine .l g (fun h => hTb (hT b hb h)) (Nat.lt_of_lt_of_le hb hk.size) hc hm hz (fun j c hj hc => ?_) (fun j c hj hc => ih j c hj hc fun r p h => h)
    rw [hk.cell hb hTb]
    exact hcell j c hj hc
  | @tp ρ cs o b base g hTb hb hcell hv ih =>
    intro ρ' hρ
    refine .tp g (fun h => hTb (hT b hb h)) (Nat.lt_of_lt_of_le hb hk.size) (fun c hc => ?_) (fun c hc => ih c hc fun r p h => h)
    rw [hk.cell hb hTb]
    exact hcell c hc
  | sl hr hn hc hm hs =>
    intro ρ' hρ
    obtain ⟨cur, e, fr, h1, h2⟩ := hs
    obtain ⟨cur', h3, h4⟩ := hk.shape _ cur e fr h1
    exact .sl (hρ _ _ hr) hn hc hm ⟨cur', e, fr, h3, by rw [h4]; exact h2⟩
  | slz hr hn => intro ρ' hρ; exact .slz (hρ _ _ hr) hn
  | slnil hr => intro ρ' hρ; exact .slnil (hρ _ _ hr)
  | p hr => intro ρ' hρ; exact .p (hρ _ _ hr)
  | agg vs hl h1 hv ih => intro ρ' hρ; exact .agg vs hl h1 fun c hc => ih c hc hρ
  | tup vs hl hv ih => intro ρ' hρ; exact .tup vs hl fun c hc => ih c hc hρ
structure RowAt (w : World) (b base z : Nat) (es : List (List AV)) (R : AV → Value → Prop) : Prop where
  len : ∀ j, j < es.length → (es.getD j []).length = z
  cell : ∀ j c, j < es.length → c < z → ∃ v, w.cell? ⟨b, base + j * z + c, none⟩ = some v ∧ v.oneCell' = true ∧ R ((es.getD j []).getD c .junk) v
def RowOk (w : World) (T : Nat → Prop) (ρ : Rho) (r : Nat) : Row → Prop
  | .sl ap z es => (es = [] ∧ True ∧ ρ r = some ⟨z, 0, none⟩) ∨ ∃ b base cur e, ρ r = some ⟨z, es.length, some (b, base)⟩ ∧ T b ∧ w.heap[b]? = some (Obj.cells cur e (0, 0)) ∧ base + es.length * z ≤ cur.size ∧ (ap = true → base = 0) ∧ RowAt w b base z es (Rv w T Rho.none)
  | .st cs => ∃ b base cur e, ρ r = some ⟨cs.length, 1, some (b, base)⟩ ∧ T b ∧ w.heap[b]? = some (Obj.cells cur e (0, 0)) ∧ base + cs.length ≤ cur.size ∧ RowAt w b base cs.length [cs] (Rv w T ρ)
  | .fsl z es => (es = [] ∧ ρ r = some ⟨z, 0, none⟩) ∨ ∃ b base, ρ r = some ⟨z, es.length, some (b, base)⟩ ∧ ¬ T b ∧ b < w.heap.size ∧ RowAt w b base z es (Rv w T Rho.none)
  | .fst cs => ∃ b base, ρ r = some ⟨cs.length, 1, some (b, base)⟩ ∧ ¬ T b ∧ b < w.heap.size ∧ RowAt w b base cs.length [cs] (Rv w T ρ)
  | .dead => True
theorem RowAt.mono {w w' : World} {b base z : Nat} {es : List (List AV)} {R R' : AV → Value → Prop} (h : RowAt w b base z es R) (hc : ∀ o, w'.cell? ⟨b, o, none⟩ = w.cell? ⟨b, o, none⟩) (hR : ∀ av v, R av v → R' av v) : RowAt w' b base z es R' := by
  refine ⟨h.len, fun j c hj hc' => ?_⟩
  obtain ⟨v, h1, h2, h3⟩ := h.cell j c hj hc'
  exact ⟨v, by rw [hc]; exact h1, h2, hR _ _ h3⟩
end Go.Pe
set_option linter.unusedVariables false
set_option linter.unusedSimpArgs false
namespace Go.Pe
open Go
def Row.live : Row → Bool
  | .sl _ _ _ | .st _ => true
  | _ => false
def Row.isAp : Row → Bool
  | .sl ap _ _ => ap
  | _ => false
structure Keeps (W : Nat → Nat → Prop) (w w' : World) : Prop where
  os : w'.os = w.os
  tape : w'.tape = w.tape
  output : w'.output = w.output
  size : w.heap.size ≤ w'.heap.size
  block : ∀ (b : Nat), b < w.heap.size → w'.heap[b]? = w.heap[b]? ∨ ∃ c c' e fr, w.heap[b]? = some (Obj.cells c e fr) ∧ w'.heap[b]? = some (Obj.cells c' e fr) ∧ c'.size = c.size ∧ ∀ o : Nat, ¬ W b o → c'[o]? = c[o]?
theorem Keeps.refl (W : Nat → Nat → Prop) (w : World) : Keeps W w w := ⟨rfl, rfl, rfl, Nat.le_refl _, fun _ _ => .inl rfl⟩
theorem Keeps.trans {W W' : Nat → Nat → Prop} {w w' w'' : World} (h : Keeps W w w') (k : Keeps W' w' w'') (hW : ∀ b o, b < w.heap.size → W' b o → W b o) : Keeps W w w'' := by
  refine ⟨k.os.trans h.os, k.tape.trans h.tape, k.output.trans h.output, Nat.le_trans h.size k.size, fun b hb => ?_⟩
  rcases h.block b hb with h1 | ⟨c, c', e, fr, h1, h2, h3, h4⟩
  · rcases k.block b (Nat.lt_of_lt_of_le hb h.size) with k1 | ⟨d, d', e', fr', k1, k2, k3, k4⟩
    · exact .inl (k1.trans h1)
    · exact .inr ⟨d, d', e', fr', h1.symm.trans k1, k2, k3, fun o ho => k4 o fun hw => ho (hW b o hb hw)⟩
  · rcases k.block b (Nat.lt_of_lt_of_le hb h.size) with k1 | ⟨d, d', e', fr', k1, k2, k3, k4⟩
    · exact .inr ⟨c, c', e, fr, h1, k1.trans h2, h3, h4⟩
    · rw [h2] at k1
      cases k1
      exact .inr ⟨c, d', _, _, h1, k2, k3.trans h3, fun o ho => (k4 o fun hw => ho (hW b o hb hw)).trans (h4 o ho)⟩
theorem Keeps.same {W : Nat → Nat → Prop} {T : Nat → Prop} {w w' : World} (h : Keeps W w w') (hW : ∀ b o, b < w.heap.size → W b o → T b) : Same T w w' := by
  refine ⟨h.size, fun b hb ht => ?_, fun b cur e fr hb => ?_⟩
  · rcases h.block b hb with h1 | ⟨c, c', e, fr, h1, h2, h3, h4⟩
    · exact h1
    · rw [h1, h2]
      have : c' = c := by
        apply Array.ext_getElem?
        intro o
        exact h4 o fun hw => ht (hW b o hb hw)
      rw [this]
  · rcases h.block b (lt_of_cells hb) with h1 | ⟨c, c', e', fr', h1, h2, h3, h4⟩
    · exact ⟨cur, h1.trans hb, rfl⟩
    · rw [hb] at h1
      cases h1
      exact ⟨c', h2, h3⟩
structure Old (w w' : World) : Prop where
  os : w'.os = w.os
  tape : w'.tape = w.tape
  output : w'.output = w.output
  size : w.heap.size ≤ w'.heap.size
  block : ∀ (b : Nat), b < w.heap.size → w'.heap[b]? = w.heap[b]?
theorem Old.refl (w : World) : Old w w := ⟨rfl, rfl, rfl, Nat.le_refl _, fun _ _ => rfl⟩
theorem Old.keeps {w w' : World} (h : Old w w') (W : Nat → Nat → Prop) : Keeps W w w' := ⟨h.os, h.tape, h.output, h.size, fun b hb => .inl (h.block b hb)⟩
theorem Old.same {w w' : World} (h : Old w w') (T : Nat → Prop) : Same T w w' := (h.keeps fun _ _ => False).same fun _ _ _ h => h.elim
theorem Old.cell {w w' : World} (h : Old w w') {b o : Nat} (hb : b < w.heap.size) : w'.cell? ⟨b, o, none⟩ = w.cell? ⟨b, o, none⟩ := by simp only [World.cell?, h.block b hb]
theorem Old.trans {w w' w'' : World} (h : Old w w') (k : Old w' w'') : Old w w'' := ⟨k.os.trans h.os, k.tape.trans h.tape, k.output.trans h.output, Nat.le_trans h.size k.size, fun b hb => (k.block b (Nat.lt_of_lt_of_le hb h.size)).trans (h.block b hb)⟩
theorem Old.alloc (w : World) (o : Obj) : Old w (w.alloc o) := ⟨rfl, rfl, rfl, by simp, fun b hb => Go.RowKit.Below.heap_alloc w o b hb⟩
theorem Old.drew (w : World) : Old w w.drew := ⟨rfl, rfl, rfl, Nat.le_refl _, fun _ _ => rfl⟩
theorem RowOk.lt {w : World} {T : Nat → Prop} {ρ : Rho} {r : Nat} {x : Row} (h : RowOk w T ρ r x) (hx : x ≠ .dead) : ∀ p b base, ρ r = some p → p.loc = some (b, base) → b < w.heap.size := by
  intro p b base hp hl
  cases x with
  | sl ap z es =>
    rcases h with ⟨_, _, h⟩ | ⟨b', base', cur, e, h, _, hc, _⟩
    · rw [h] at hp; cases hp; cases hl
    · rw [h] at hp; cases hp; cases hl; exact lt_of_cells hc
  | st cs =>
    obtain ⟨b', base', cur, e, h, _, hc, _⟩ := h
    rw [h] at hp; cases hp; cases hl; exact lt_of_cells hc
  | fsl z es =>
    rcases h with ⟨_, h⟩ | ⟨b', base', h, _, hc, _⟩
    · rw [h] at hp; cases hp; cases hl
    · rw [h] at hp; cases hp; cases hl; exact hc
  | fst cs =>
    obtain ⟨b', base', h, _, hc, _⟩ := h
    rw [h] at hp; cases hp; cases hl; exact hc
  | dead => exact absurd rfl hx
theorem RowOk.inT {w : World} {T : Nat → Prop} {ρ : Rho} {r : Nat} {x : Row} (h : RowOk w T ρ r x) (hx : x.live = true) : ∀ p b base, ρ r = some p → p.loc = some (b, base) → T b := by
  intro p b base hp hl
  cases x with
  | sl ap z es =>
    rcases h with ⟨_, _, h⟩ | ⟨b', base', cur, e, h, ht, _⟩
    · rw [h] at hp; cases hp; cases hl
    · rw [h] at hp; cases hp; cases hl; exact ht
  | st cs =>
    obtain ⟨b', base', cur, e, h, ht, _⟩ := h
    rw [h] at hp; cases hp; cases hl; exact ht
  | fsl => cases hx
  | fst => cases hx
  | dead => cases hx
theorem RowOk.mono {w w' : World} {T T' : Nat → Prop} {ρ ρ' : Rho} {r : Nat} {x : Row} (h : RowOk w T ρ r x) (hs : Same T w w') (hT : ∀ b, b < w.heap.size → T' b → T b) (hρ : ∀ q p, ρ q = some p → ρ' q = some p)
    (hb : ∀ p b base, ρ r = some p → p.loc = some (b, base) → x.live = true → w'.heap[b]? = w.heap[b]? ∧ T' b) : RowOk w' T' ρ' r x := by
  have hR : ∀ av v, Rv w T Rho.none av v → Rv w' T' Rho.none av v := fun av v h => h.mono hs hT fun _ _ h => h
  have hR' : ∀ av v, Rv w T ρ av v → Rv w' T' ρ' av v := fun av v h => h.mono hs hT hρ
  cases x with
  | sl ap z es =>
    rcases h with ⟨h1, h2, h3⟩ | ⟨b, base, cur, e, h1, h2, h3, h4, h5, h6⟩
    · exact .inl ⟨h1, h2, hρ _ _ h3⟩
    · obtain ⟨k1, k2⟩ := hb _ _ _ h1 rfl rfl
      exact .inr ⟨b, base, cur, e, hρ _ _ h1, k2, k1.trans h3, h4, h5, h6.mono (fun o => by simp only [World.cell?, k1]) hR⟩
  | st cs =>
    obtain ⟨b, base, cur, e, h1, h2, h3, h4, h5⟩ := h
    obtain ⟨k1, k2⟩ := hb _ _ _ h1 rfl rfl
    exact ⟨b, base, cur, e, hρ _ _ h1, k2, k1.trans h3, h4, h5.mono (fun o => by simp only [World.cell?, k1]) hR'⟩
  | fsl z es =>
    rcases h with ⟨h1, h2⟩ | ⟨b, base, h1, h2, h3, h4⟩
    · exact .inl ⟨h1, hρ _ _ h2⟩
    · exact .inr ⟨b, base, hρ _ _ h1, fun h => h2 (hT b h3 h), Nat.lt_of_lt_of_le h3 hs.size, h4.mono (fun o => hs.cell h3 h2) hR⟩
  | fst cs =>
    obtain ⟨b, base, h1, h2, h3, h4⟩ := h
    exact ⟨b, base, hρ _ _ h1, fun h => h2 (hT b h3 h), Nat.lt_of_lt_of_le h3 hs.size, h4.mono (fun o => hs.cell h3 h2) hR'⟩
  | dead => trivial
structure Fr where
  w0 : World
  W0 : Nat → Nat → Prop
  T0 : Nat → Prop
  lids : List Nat
  pl0 : Nat → Pl
  tabs : List (Nat × List AV)
structure WInv (f : Fr) (w : World) (T : Nat → Prop) (ρ : Rho) (h : Heap) : Prop where
  keeps : Keeps f.W0 f.w0 w
  tlt : ∀ b, T b → b < w.heap.size
  rows : ∀ r x, h r = some x → RowOk w T ρ r x
  dom : ∀ r, h r = none → ρ r = none
  sep : ∀ r r' x x', r ≠ r' → h r = some x → h r' = some x' → x.live = true → x'.live = true → ∀ p p' b base b' base', ρ r = some p → ρ r' = some p' → p.loc = some (b, base) → p'.loc = some (b', base') → b ≠ b'
  wr : ∀ r x p b base, h r = some x → x.live = true → ρ r = some p → p.loc = some (b, base) → f.w0.heap.size ≤ b ∨ ((∀ o, base ≤ o → o < base + p.n * p.z → f.W0 b o) ∧ (x.isAp = true → ∀ o, f.W0 b o))
  t0 : ∀ b, f.T0 b → T b ∨ ∃ r ∈ f.lids, ∀ x, h r = some x → x.live = false
  lp : ∀ r ∈ f.lids, ρ r = some (f.pl0 r)
  own : ∀ r x p b base, r ∉ f.lids → h r = some x → x.live = true → ρ r = some p → p.loc = some (b, base) → f.w0.heap.size ≤ b
  t0lt : ∀ b, f.T0 b → b < f.w0.heap.size
  la : ∀ r ∈ f.lids, ∀ x, h r = some x → x.isAp = false
  tab : ∀ p ∈ f.tabs, Rv w T Rho.none (.tp p.2 0) (.pointer (some ⟨p.1, 0, none⟩))
structure Goes (w w' : World) (T T' : Nat → Prop) (ρ ρ' : Rho) : Prop where
  same : Same T w w'
  less : ∀ b, b < w.heap.size → T' b → T b
  more : ∀ r p, ρ r = some p → ρ' r = some p
theorem Goes.refl (w : World) (T : Nat → Prop) (ρ : Rho) : Goes w w T T ρ ρ := ⟨Same.refl _ _, fun _ _ h => h, fun _ _ h => h⟩
theorem Goes.rv {w w' : World} {T T' : Nat → Prop} {ρ ρ' : Rho} (g : Goes w w' T T' ρ ρ') {av : AV} {v : Value} (h : Rv w T ρ av v) : Rv w' T' ρ' av v := h.mono g.same g.less g.more
theorem Goes.rv0 {w w' : World} {T T' : Nat → Prop} {ρ ρ' : Rho} (g : Goes w w' T T' ρ ρ') {av : AV} {v : Value} (h : Rv w T Rho.none av v) : Rv w' T' Rho.none av v := h.mono g.same g.less fun _ _ h => h
theorem Goes.trans {w w' w'' : World} {T T' T'' : Nat → Prop} {ρ ρ' ρ'' : Rho} (h : Goes w w' T T' ρ ρ') (k : Goes w' w'' T' T'' ρ' ρ'') : Goes w w'' T T'' ρ ρ'' := by
  refine ⟨⟨Nat.le_trans h.same.size k.same.size, fun b hb ht => ?_, fun b cur e fr hb => ?_⟩, fun b hb ht => h.less b hb (k.less b (Nat.lt_of_lt_of_le hb h.same.size) ht), fun r p hp => k.more r p (h.more r p hp)⟩
  · rw [k.same.same b (Nat.lt_of_lt_of_le hb h.same.size) (fun h' => ht (h.less b hb h')), h.same.same b hb ht]
  · obtain ⟨c1, h1, s1⟩ := h.same.shape b cur e fr hb
    obtain ⟨c2, h2, s2⟩ := k.same.shape b c1 e fr h1
    exact ⟨c2, h2, s2.trans s1⟩
section
variable {f : Fr} {w : World} {T : Nat → Prop} {ρ : Rho} {h : Heap}
theorem WInv.old (k : WInv f w T ρ h) {w' : World} (ho : Old w w') : WInv f w' T ρ h := by
  refine ⟨k.keeps.trans (ho.keeps fun _ _ => False) (fun _ _ _ h => h.elim), fun b hb => Nat.lt_of_lt_of_le (k.tlt b hb) ho.size, fun r x hx => ?_, k.dom, k.sep, k.wr, k.t0, k.lp, k.own, k.t0lt, k.la, fun p hp => (k.tab p hp).mono (ho.same T) (fun _ _ h => h) fun _ _ h => h⟩
  exact (k.rows r x hx).mono (ho.same T) (fun _ _ h => h) (fun _ _ h => h) fun p b base hp hl hlv => ⟨ho.block b (k.tlt b ((k.rows r x hx).inT hlv p b base hp hl)), (k.rows r x hx).inT hlv p b base hp hl⟩
theorem Goes.old {w' : World} (ho : Old w w') : Goes w w' T T ρ ρ := ⟨ho.same T, fun _ _ h => h, fun _ _ h => h⟩
theorem WInv.new' (k : WInv f w T ρ h) {w' : World} (ho : Old w w') {id : Nat} (hid : h id = none) {x : Row} {z n base : Nat} (hsz : w.heap.size < w'.heap.size)
    {b : Nat} (hb : w.heap.size ≤ b) (hb' : b < w'.heap.size)
    (hx : RowOk w' (fun a => T a ∨ a = b) (fun r => if r = id then some ⟨z, n, some (b, base)⟩ else ρ r) id x) :
    WInv f w' (fun a => T a ∨ a = b) (fun r => if r = id then some ⟨z, n, some (b, base)⟩ else ρ r) (h.put id x) ∧ Goes w w' T (fun a => T a ∨ a = b) ρ (fun r => if r = id then some ⟨z, n, some (b, base)⟩ else ρ r) := by
  have more : ∀ r p, ρ r = some p → (if r = id then some ⟨z, n, some (b, base)⟩ else ρ r) = some p := by
    intro r p hp
    split
    · rename_i hr
      subst hr
      rw [k.dom _ hid] at hp
      cases hp
    · exact hp
  have less : ∀ a, a < w.heap.size → (T a ∨ a = b) → T a := fun a ha ht => ht.elim (fun h => h) fun e => by omega
  refine ⟨⟨k.keeps.trans (ho.keeps fun _ _ => False) (fun _ _ _ h => h.elim), ?_, ?_, ?_, ?_, ?_, ?_, ?_, ?_, k.t0lt, fun r hr y hy => by
    simp only [Heap.put] at hy
    split at hy
    · rename_i e
      subst e
      have := k.lp r hr
      rw [k.dom r hid] at this
      cases this
    · exact k.la r hr y hy, fun p hp => (k.tab p hp).mono (ho.same T) less fun _ _ h => h⟩, ho.same T, less, more⟩
  · rintro a (ha | rfl)
    · exact Nat.lt_of_lt_of_le (k.tlt a ha) ho.size
    · exact hb'
  · intro r y hy
    simp only [Heap.put] at hy
    split at hy
    · rename_i hr
      subst hr
      cases hy
      exact hx
    · rename_i hr
      exact (k.rows r y hy).mono (ho.same T) less more fun p b base hp hl hlv => ⟨ho.block b (k.tlt b ((k.rows r y hy).inT hlv p b base hp hl)), .inl ((k.rows r y hy).inT hlv p b base hp hl)⟩
  · intro r hr
    simp only [Heap.put] at hr
    split at hr
    · cases hr
    · rename_i hne
      simp only [hne, if_false]
      exact k.dom r hr
  · intro r r' y y' hne hy hy' hl hl' p p' c base c' base' hp hp' hc hc'
    simp only [Heap.put] at hy hy'
    by_cases h1 : r = id
    · by_cases h2 : r' = id
      · exact absurd (h1.trans h2.symm) hne
      · rw [if_pos h1] at hp
        cases hp
        cases hc
        rw [if_neg h2] at hp' hy'
        have := k.tlt c' ((k.rows r' y' hy').inT hl' p' c' base' hp' hc')
        omega
    · by_cases h2 : r' = id
      · rw [if_pos h2] at hp'
        cases hp'
        cases hc'
        rw [if_neg h1] at hp hy
        have := k.tlt c ((k.rows r y hy).inT hl p c base hp hc)
        omega
      · rw [if_neg h1] at hp hy
        rw [if_neg h2] at hp' hy'
        exact k.sep r r' y y' hne hy hy' hl hl' p p' c base c' base' hp hp' hc hc'
  · intro r y p c base hy hl hp hc
    simp only [Heap.put] at hy
    by_cases h1 : r = id
    · rw [if_pos h1] at hp
      cases hp
      cases hc
      have := k.keeps.size
      exact .inl (by omega)
    · rw [if_neg h1] at hp hy
      exact k.wr r y p c base hy hl hp hc
  · intro a ha
    rcases k.t0 a ha with h1 | ⟨r, hr, hx⟩
    · exact .inl (.inl h1)
    · refine .inr ⟨r, hr, fun x hx' => ?_⟩
      simp only [Heap.put] at hx'
      split at hx'
      · rename_i e
        subst e
        have := k.lp r hr
        rw [k.dom r hid] at this
        cases this
      · exact hx x hx'
  · intro r hr
    exact more _ _ (k.lp r hr)
  · intro r y p c base hr hy hl hp hc
    simp only [Heap.put] at hy
    by_cases h1 : r = id
    · rw [if_pos h1] at hp
      cases hp
      cases hc
      have h2 := k.keeps.size
      omega
    · rw [if_neg h1] at hp hy
      exact k.own r y p c base hr hy hl hp hc
theorem WInv.new (k : WInv f w T ρ h) {w' : World} (ho : Old w w') {id : Nat} (hid : h id = none) {x : Row} {z n base : Nat} (hsz : w.heap.size < w'.heap.size)
    {b : Nat} (hb : w.heap.size ≤ b) (hb' : b < w'.heap.size)
    (hx : ∀ T' ρ', T' b → (∀ a, a < w.heap.size → T' a → T a) → (∀ r p, ρ r = some p → ρ' r = some p) → ρ' id = some ⟨z, n, some (b, base)⟩ → RowOk w' T' ρ' id x) :
    WInv f w' (fun a => T a ∨ a = b) (fun r => if r = id then some ⟨z, n, some (b, base)⟩ else ρ r) (h.put id x) ∧ Goes w w' T (fun a => T a ∨ a = b) ρ (fun r => if r = id then some ⟨z, n, some (b, base)⟩ else ρ r) := by
  refine k.new' ho hid hsz hb hb' (hx _ _ (.inr rfl) (fun a ha ht => ht.elim (fun h => h) fun e => by omega) (fun r p hp => ?_) (if_pos rfl))
  show (if r = id then some (⟨z, n, some (b, base)⟩ : Pl) else ρ r) = some p
  split
  · rename_i hr
    subst hr
    rw [k.dom _ hid] at hp
    cases hp
  · exact hp
end
end Go.Pe
set_option linter.unusedVariables false
set_option linter.unusedSimpArgs false
namespace Go.Pe
open Go
def rowBlk (h : Heap) (ρ : Rho) (r b : Nat) : Prop := ∃ x p base, h r = some x ∧ x.live = true ∧ ρ r = some p ∧ p.loc = some (b, base)
theorem freeze_live {x : Row} : x.freeze.live = false := by cases x <;> rfl
section
variable {f : Fr} {w : World} {T : Nat → Prop} {ρ : Rho} {h : Heap}
theorem WInv.freeze1 (k : WInv f w T ρ h) (r : Nat) :
    WInv f w (fun b => T b ∧ ¬ rowBlk h ρ r b) ρ (fun q => if q = r then (h q).map Row.freeze else h q) ∧ Goes w w T (fun b => T b ∧ ¬ rowBlk h ρ r b) ρ ρ := by
  have less : ∀ b, b < w.heap.size → (T b ∧ ¬ rowBlk h ρ r b) → T b := fun b _ hb => hb.1
  have hmap : ∀ q x, (if q = r then (h q).map Row.freeze else h q) = some x → (q ≠ r ∧ h q = some x) ∨ (q = r ∧ ∃ y, h r = some y ∧ x = y.freeze) := by
    intro q x hx
    split at hx
    · rename_i hq
      subst hq
      cases hy : h q with
      | none => rw [hy] at hx; cases hx
      | some y => rw [hy] at hx; exact .inr ⟨rfl, y, rfl, (Option.some.inj hx).symm⟩
    · rename_i hq
      exact .inl ⟨hq, hx⟩
  have hlive : ∀ q x, (if q = r then (h q).map Row.freeze else h q) = some x → x.live = true → q ≠ r ∧ h q = some x := by
    intro q x hx hl
    rcases hmap q x hx with h1 | ⟨_, y, _, rfl⟩
    · exact h1
    · rw [freeze_live] at hl
      cases hl
  refine ⟨⟨k.keeps, fun b hb => k.tlt b hb.1, ?_, ?_, ?_, ?_, ?_, k.lp, ?_, k.t0lt, fun q hq x hx => by
    rcases hmap q x hx with ⟨_, h1⟩ | ⟨_, y, _, rfl⟩
    · exact k.la q hq x h1
    · cases y <;> rfl, fun p hp => (k.tab p hp).mono (Same.refl _ _) less fun _ _ h => h⟩, Same.refl _ _, less, fun _ _ h => h⟩
  · intro q x hx
    rcases hmap q x hx with ⟨hq, hy⟩ | ⟨rfl, y, hy, rfl⟩
    · refine (k.rows q x hy).mono (Same.refl _ _) less (fun _ _ h => h) fun p b base hp hl hlv => ⟨rfl, (k.rows q x hy).inT hlv p b base hp hl, ?_⟩
      rintro ⟨z, p', base', hz, hzl, hp', hl'⟩
      exact k.sep q r x z hq hy hz hlv hzl p p' b base b base' hp hp' hl hl' rfl
    · have hR : ∀ av v, Rv w T Rho.none av v → Rv w (fun b => T b ∧ ¬ rowBlk h ρ q b) Rho.none av v := fun av v hh => hh.mono (Same.refl _ _) less fun _ _ h => h
      have hR' : ∀ av v, Rv w T ρ av v → Rv w (fun b => T b ∧ ¬ rowBlk h ρ q b) ρ av v := fun av v hh => hh.mono (Same.refl _ _) less fun _ _ h => h
      have ok := k.rows q y hy
      cases y with
      | sl ap z es =>
        rcases ok with ⟨h1, h2, h3⟩ | ⟨b, base, cur, e, h1, h2, h3, h4, h5, h6⟩
        · exact .inl ⟨h1, h3⟩
        · exact .inr ⟨b, base, h1, fun hh => hh.2 ⟨_, _, _, hy, rfl, h1, rfl⟩, lt_of_cells h3, h6.mono (fun _ => rfl) hR⟩
      | st cs =>
        obtain ⟨b, base, cur, e, h1, h2, h3, h4, h5⟩ := ok
        exact ⟨b, base, h1, fun hh => hh.2 ⟨_, _, _, hy, rfl, h1, rfl⟩, lt_of_cells h3, h5.mono (fun _ => rfl) hR'⟩
      | fsl z es => exact ok.mono (Same.refl _ _) less (fun _ _ h => h) fun _ _ _ _ _ h => by cases h
      | fst cs => exact ok.mono (Same.refl _ _) less (fun _ _ h => h) fun _ _ _ _ _ h => by cases h
      | dead => trivial
  · intro q hq
    split at hq
    · rename_i e
      subst e
      cases hy : h q with
      | none => exact k.dom q hy
      | some y => rw [hy] at hq; cases hq
    · exact k.dom q hq
  · intro q q' x x' hne hx hx' hl hl'
    obtain ⟨_, h1⟩ := hlive q x hx hl
    obtain ⟨_, h2⟩ := hlive q' x' hx' hl'
    exact k.sep q q' x x' hne h1 h2 hl hl'
  · intro q x p b base hx hl
    obtain ⟨_, h1⟩ := hlive q x hx hl
    exact k.wr q x p b base h1 hl
  · intro b hb
    rcases k.t0 b hb with h1 | ⟨q, hq, hx⟩
    · by_cases hr : rowBlk h ρ r b
      · obtain ⟨x, p, base, hx, hl, hp, hloc⟩ := hr
        by_cases hm : r ∈ f.lids
        · refine .inr ⟨r, hm, fun y hy => ?_⟩
          rcases hmap r y hy with ⟨h2, _⟩ | ⟨_, y', _, rfl⟩
          · exact absurd rfl h2
          · exact freeze_live
        · exact absurd (k.t0lt b hb) (Nat.not_lt.2 (k.own r x p b base hm hx hl hp hloc))
      · exact .inl ⟨h1, hr⟩
    · refine .inr ⟨q, hq, fun y hy => ?_⟩
      rcases hmap q y hy with ⟨_, h2⟩ | ⟨_, y', _, rfl⟩
      · exact hx y h2
      · exact freeze_live
  · intro q x p b base hq hx hl
    obtain ⟨_, h1⟩ := hlive q x hx hl
    exact k.own q x p b base hq h1 hl
theorem freeze_none {rs : List Nat} {q : Nat} : (h.freeze rs) q = none ↔ h q = none := by
  induction rs with
  | nil => exact Iff.rfl
  | cons r rs ih =>
    simp only [Heap.freeze]
    split
    · simp only [Option.map_eq_none_iff, ih]
    · exact ih
theorem freeze_live' {rs : List Nat} {q : Nat} {x : Row} (hx : (h.freeze rs) q = some x) (hl : x.live = true) : h q = some x ∧ q ∉ rs := by
  induction rs generalizing x with
  | nil => exact ⟨hx, by simp⟩
  | cons r rs ih =>
    simp only [Heap.freeze] at hx
    split at hx
    · cases hy : h.freeze rs q with
      | none => rw [hy] at hx; cases hx
      | some y =>
        rw [hy] at hx
        cases hx
        rw [freeze_live] at hl
        cases hl
    · rename_i hne
      obtain ⟨h1, h2⟩ := ih hx hl
      exact ⟨h1, by simp [hne, h2]⟩
theorem WInv.freeze (k : WInv f w T ρ h) (rs : List Nat) : ∃ T', WInv f w T' ρ (h.freeze rs) ∧ Goes w w T T' ρ ρ ∧ (∀ r ∈ rs, ∀ b, rowBlk h ρ r b → ¬ T' b) ∧ ∀ b, T b → T' b ∨ ∃ r ∈ rs, rowBlk h ρ r b := by
  induction rs with
  | nil => exact ⟨T, k, Goes.refl _ _ _, fun r hr => (by cases hr), fun b hb => .inl hb⟩
  | cons r rs ih =>
    obtain ⟨T1, k1, g1, h1, h1'⟩ := ih
    obtain ⟨k2, g2⟩ := k1.freeze1 r
    refine ⟨_, k2, g1.trans g2, fun q hq b hb => ?_, fun b hb => ?_⟩
    rotate_left
    · rcases h1' b hb with h2 | ⟨q, hq, hqb⟩
      · by_cases hr : rowBlk (h.freeze rs) ρ r b
        · obtain ⟨x, p, base, hx, hl, hp, hloc⟩ := hr
          exact .inr ⟨r, List.mem_cons_self, x, p, base, (freeze_live' hx hl).1, hl, hp, hloc⟩
        · exact .inl ⟨h2, hr⟩
      · exact .inr ⟨q, List.mem_cons_of_mem _ hq, hqb⟩
    rcases List.mem_cons.1 hq with rfl | hq
    · rintro ⟨t1, t2⟩
      obtain ⟨x, p, base, hx, hl, hp, hloc⟩ := hb
      cases hy : h.freeze rs q with
      | none => rw [freeze_none] at hy; rw [hx] at hy; cases hy
      | some y =>
        by_cases hyl : y.live = true
        · exact t2 ⟨y, p, base, hy, hyl, hp, hloc⟩
        · -- it was frozen before
          have hmem : q ∈ rs := by
            by_cases hm : q ∈ rs
            · exact hm
            · have : ∀ rs : List Nat, q ∉ rs → h.freeze rs q = h q := by
                intro rs
                induction rs with
                | nil => intro _; rfl
                | cons a rs ih =>
                  intro hm
                  simp only [Heap.freeze]
                  rw [if_neg (fun e => hm (by rw [e]; exact List.mem_cons_self))]
                  exact ih fun hh => hm (List.mem_cons_of_mem _ hh)
              rw [this rs hm, hx] at hy
              cases hy
              exact absurd hl hyl
          exact h1 q hmem b ⟨x, p, base, hx, hl, hp, hloc⟩ t1
    · exact fun ht => h1 q hq b hb ht.1
end
theorem getD_drop_take {α : Type} (es : List α) (o n j : Nat) (d : α) (hj : j < n) : ((es.drop o).take n).getD j d = es.getD (o + j) d := by
  simp only [List.getD_eq_getElem?_getD]
  rw [List.getElem?_take_of_lt hj, List.getElem?_drop]
theorem getD_map_lt {α β : Type} (f : α → β) (l : List α) (j : Nat) (d : β) (d' : α) (hj : j < l.length) : (l.map f).getD j d = f (l.getD j d') := by
  simp only [List.getD_eq_getElem?_getD, List.getElem?_map, List.getElem?_eq_getElem hj]
  rfl
section
variable {w : World} {T T' : Nat → Prop} {ρ : Rho} {h : Heap}
theorem Rv.less {av : AV} {v : Value} (k : Rv w T ρ av v) (hT : ∀ b, b < w.heap.size → T' b → T b) : Rv w T' ρ av v := k.mono (Same.refl _ _) hT fun _ _ h => h
theorem Rv.any {av : AV} {v : Value} (k : Rv w T Rho.none av v) : Rv w T ρ av v := k.mono (Same.refl _ _) (fun _ _ h => h) fun _ _ h => by cases h
theorem tell_win {b base z : Nat} {es : List (List AV)} {o n cap : Nat} (hT : ¬ T' b) (hb : b < w.heap.size) (hless : ∀ b, b < w.heap.size → T' b → T b) (hr : RowAt w b base z es (Rv w T Rho.none)) (hn : o + n ≤ es.length) (hc : n ≤ cap) (hm : cap ≤ maxLen) :
    Rv w T' Rho.none (.l z ((es.drop o).take n)) (.slice (some ⟨b, base + o * z, none⟩) n cap) := by
  have hl : ((es.drop o).take n).length = n := by rw [List.length_take, List.length_drop]; omega
  have key : ∀ j c, base + o * z + j * z + c = base + (o + j) * z + c := by intro j c; rw [Nat.add_mul]; omega
  have := Rv.l (w := w) (T := T') (ρ := Rho.none) (z := z) (es := (es.drop o).take n) (b := b) (base := base + o * z) (cap := cap) (fun j c => (w.cell? ⟨b, base + o * z + j * z + c, none⟩).getD undef) hT hb (by rw [hl]; exact hc) hm
    (fun j hj => by
      rw [hl] at hj
      rw [getD_drop_take _ _ _ _ _ hj]
      exact hr.len _ (by omega))
    (fun j c hj hc => by
      rw [hl] at hj
      obtain ⟨v, h1, h2, h3⟩ := hr.cell (o + j) c (by omega) hc
      rw [key, h1]
      exact ⟨rfl, h2⟩)
    (fun j c hj hc => by
      rw [hl] at hj
      obtain ⟨v, h1, h2, h3⟩ := hr.cell (o + j) c (by omega) hc
      rw [getD_drop_take _ _ _ _ _ hj, key, h1]
      exact h3.less hless)
  rw [hl] at this
  exact this
theorem tell0_none {av : AV} {v : Value} (k : Rv w T Rho.none av v) : Rv w T Rho.none (tell0 h av) v := by
  cases k with
  | ns => exact .lnil0
  | sl hr => cases hr
  | slz hr => cases hr
  | slnil hr => cases hr
  | p hr => cases hr
  | junk => exact .junk
  | b => exact .b
  | i => exact .i
  | s => exact .s
  | np => exact .np
  | lnil ha hm => exact .lnil ha hm
  | l g hT hb hc hm hz hcell hv => exact .l g hT hb hc hm hz hcell hv
  | tp g hT hb hcell hv => exact .tp g hT hb hcell hv
  | agg vs hl h1 hv => exact .agg vs hl h1 hv
  | tup vs hl hv => exact .tup vs hl hv
theorem tell0_rv (hrows : ∀ r x, h r = some x → RowOk w T ρ r x) (hless : ∀ b, b < w.heap.size → T' b → T b) {av : AV} {v : Value} (k : Rv w T ρ av v) (hr : ∀ r ∈ ref0 av, ∀ b, rowBlk h ρ r b → ¬ T' b) :
    (∀ r e o, av ≠ .p r e o) → (∀ cs, av ≠ .agg cs) → (∀ cs, av ≠ .tup cs) → Rv w T' Rho.none (tell0 h av) v := by
  intro n1 n2 n3
  cases k with
  | ns => exact .lnil0
  | p => exact absurd rfl (n1 _ _ _)
  | agg => exact absurd rfl (n2 _)
  | tup => exact absurd rfl (n3 _)
  | junk => exact .junk
  | b => exact .b
  | i => exact .i
  | s => exact .s
  | np => exact .np
  | lnil ha hm => exact .lnil ha hm
  | l g hT hb hc hm hz hcell hv => exact (Rv.l g hT hb hc hm hz hcell hv : Rv w T Rho.none _ _).less hless
  | tp g hT hb hcell hv => exact (Rv.tp g hT hb hcell hv : Rv w T Rho.none _ _).less hless
  | @sl _ r z o n m b base cap h1 hn hc hm hs =>
    simp only [tell0]
    cases hx : h r with
    | none => exact .junk
    | some x =>
      have ok := hrows r x hx
      cases x with
      | sl ap z' es =>
        rcases ok with ⟨_, _, h3⟩ | ⟨b', base', cur, e, h3, h4, h5, h6, h7, h8⟩
        · rw [h1] at h3; cases h3
        · rw [h1] at h3
          cases h3
          exact tell_win (hr r List.mem_cons_self b ⟨_, _, _, hx, rfl, h1, rfl⟩) (lt_of_cells h5) hless h8 hn hc hm
      | fsl z' es =>
        rcases ok with ⟨_, h3⟩ | ⟨b', base', h3, h4, h5, h6⟩
        · rw [h1] at h3; cases h3
        · rw [h1] at h3
          cases h3
          exact tell_win (fun ht => h4 (hless b h5 ht)) h5 hless h6 hn hc hm
      | st cs => exact .junk
      | fst cs => exact .junk
      | dead => exact .junk
  | @slz _ r z o m b base off h1 hn =>
    simp only [tell0]
    cases hx : h r with
    | none => exact .junk
    | some x =>
      have ok := hrows r x hx
      have mk : ∀ es : List (List AV), ¬ T' b → b < w.heap.size → Rv w T' Rho.none (.l z ((es.drop o).take 0)) (.slice (some ⟨b, off, none⟩) 0 0) := by
        intro es ht hb
        rw [List.take_zero]
        exact Rv.l (es := []) (fun _ _ => undef) ht hb (Nat.zero_le _) (Nat.zero_le _) (fun j hj => by cases hj) (fun j c hj => by cases hj) (fun j c hj => by cases hj)
      cases x with
      | sl ap z' es =>
        rcases ok with ⟨_, _, h3⟩ | ⟨b', base', cur, e, h3, h4, h5, h6, h7, h8⟩
        · rw [h1] at h3; cases h3
        · rw [h1] at h3
          cases h3
          exact mk es (hr r List.mem_cons_self b ⟨_, _, _, hx, rfl, h1, rfl⟩) (lt_of_cells h5)
      | fsl z' es =>
        rcases ok with ⟨_, h3⟩ | ⟨b', base', h3, h4, h5, h6⟩
        · rw [h1] at h3; cases h3
        · rw [h1] at h3
          cases h3
          exact mk es (fun ht => h4 (hless b h5 ht)) h5
      | st cs => exact .junk
      | fst cs => exact .junk
      | dead => exact .junk
  | @slnil _ r z h1 =>
    simp only [tell0]
    cases hx : h r with
    | none => exact .junk
    | some x =>
      cases x with
      | sl ap z' es => simp only [Option.bind_some, Row.win, List.drop_zero, List.take_zero]; exact .lnil0
      | fsl z' es => simp only [Option.bind_some, Row.win, List.drop_zero, List.take_zero]; exact .lnil0
      | st cs => exact .junk
      | fst cs => exact .junk
      | dead => exact .junk
end
end Go.Pe
set_option linter.unusedVariables false
set_option linter.unusedSimpArgs false
namespace Go.Pe
open Go
section
variable {w : World} {T T' : Nat → Prop} {ρ : Rho} {h : Heap}
theorem tell_cells {b base : Nat} {cs : List AV} {o : Nat} (hT : ¬ T' b) (hb : b < w.heap.size)
    (hc : ∀ c, c < cs.length → ∃ v, w.cell? ⟨b, base + c, none⟩ = some v ∧ v.oneCell' = true ∧ Rv w T' Rho.none (tell0 h (cs.getD c .junk)) v) :
    Rv w T' Rho.none (.tp (cs.map (tell0 h)) o) (.pointer (some ⟨b, base + o, none⟩)) := by
  refine Rv.tp (fun c => (w.cell? ⟨b, base + c, none⟩).getD undef) hT hb (fun c h1 => ?_) (fun c h1 => ?_)
  · rw [List.length_map] at h1
    obtain ⟨v, h2, h3, h4⟩ := hc c h1
    rw [h2]
    exact ⟨rfl, h3⟩
  · rw [List.length_map] at h1
    obtain ⟨v, h2, h3, h4⟩ := hc c h1
    rw [getD_map_lt (tell0 h) cs c .junk .junk h1, h2]
    exact h4
theorem tell0_cell (hrows : ∀ r x, h r = some x → RowOk w T ρ r x) (hless : ∀ b, b < w.heap.size → T' b → T b) {av : AV} {v : Value} (h1 : v.oneCell' = true) (k : Rv w T ρ av v) (hr : ∀ r ∈ ref0 av, ∀ b, rowBlk h ρ r b → ¬ T' b) : Rv w T' Rho.none (tell0 h av) v := by
  cases k with
  | p => exact .junk
  | agg vs hl => cases h1
  | tup vs hl => cases h1
  | junk => exact .junk
  | b => exact .b
  | i => exact .i
  | s => exact .s
  | np => exact .np
  | ns => exact .lnil0
  | lnil ha hm => exact .lnil ha hm
  | l g hT hb hc hm hz hcell hv => exact (Rv.l g hT hb hc hm hz hcell hv : Rv w T Rho.none _ _).less hless
  | tp g hT hb hcell hv => exact (Rv.tp g hT hb hcell hv : Rv w T Rho.none _ _).less hless
  | sl hr' hn hc hm hs => exact tell0_rv hrows hless (.sl hr' hn hc hm hs) hr (by intros; simp) (by intros; simp) (by intros; simp)
  | slz hr' hn => exact tell0_rv hrows hless (.slz hr' hn) hr (by intros; simp) (by intros; simp) (by intros; simp)
  | slnil hr' => exact tell0_rv hrows hless (.slnil hr') hr (by intros; simp) (by intros; simp) (by intros; simp)
theorem tellC_rv (hrows : ∀ r x, h r = some x → RowOk w T ρ r x) (hless : ∀ b, b < w.heap.size → T' b → T b) {av : AV} {v : Value} (k : Rv w T ρ av v) (hr : ∀ r ∈ refC h av, ∀ b, rowBlk h ρ r b → ¬ T' b) (n2 : ∀ cs, av ≠ .agg cs) (n3 : ∀ cs, av ≠ .tup cs) :
    Rv w T' Rho.none (tellC h av) v := by
  cases k with
  | @p _ r e o z m b base h1 =>
    simp only [tellC]
    cases hx : h r with
    | none => exact .junk
    | some x =>
      have ok := hrows r x hx
      have hblk : x.live = true → ¬ T' b := fun hl => hr r List.mem_cons_self b ⟨x, _, _, hx, hl, h1, rfl⟩
      have hsl : ∀ z' (es : List (List AV)) cs, es[e]? = some cs → z' = z → RowAt w b base z' es (Rv w T Rho.none) → ¬ T' b → b < w.heap.size → Rv w T' Rho.none (.tp (cs.map (tell0 h)) o) (.pointer (some ⟨b, base + e * z + o, none⟩)) := by
        intro z' es cs he hz hra ht hb
        subst hz
        have hlt : e < es.length := by
          rcases Nat.lt_or_ge e es.length with h2 | h2
          · exact h2
          · rw [List.getElem?_eq_none h2] at he; cases he
        have hcs : es.getD e [] = cs := by rw [List.getD_eq_getElem?_getD, he]; rfl
        refine tell_cells ht hb fun c hc => ?_
        have hlen := hra.len e hlt
        rw [hcs] at hlen
        obtain ⟨v, h2, h3, h4⟩ := hra.cell e c hlt (by omega)
        rw [hcs] at h4
        exact ⟨v, h2, h3, tell0_none (h4.less hless)⟩
      have hst : ∀ cs, e = 0 → RowAt w b base cs.length [cs] (Rv w T ρ) → (∀ r' ∈ cs.flatMap ref0, ∀ b, rowBlk h ρ r' b → ¬ T' b) → ¬ T' b → b < w.heap.size → Rv w T' Rho.none (.tp (cs.map (tell0 h)) o) (.pointer (some ⟨b, base + e * z + o, none⟩)) := by
        intro cs he hra hrr ht hb
        subst he
        rw [Nat.zero_mul, Nat.add_zero]
        refine tell_cells ht hb fun c hc => ?_
        obtain ⟨v, h2, h3, h4⟩ := hra.cell 0 c (by simp) hc
        rw [Nat.zero_mul, Nat.add_zero] at h2
        refine ⟨v, h2, h3, tell0_cell hrows hless h3 h4 fun r' hr' => hrr r' ?_⟩
        rw [List.mem_flatMap]
        refine ⟨_, ?_, hr'⟩
        show cs.getD c .junk ∈ cs
        rw [List.getD_eq_getElem?_getD, List.getElem?_eq_getElem hc]
        exact List.getElem_mem hc
      cases x with
      | sl ap z' es =>
        simp only [Option.bind_some, Row.at]
        cases he : es[e]? with
        | none => exact .junk
        | some cs =>
          rcases ok with ⟨h2, _, _⟩ | ⟨b', base', cur, e', h3, h4, h5, h6, h7, h8⟩
          · subst h2; cases he
          · rw [h1] at h3
            cases h3
            exact hsl z es cs he rfl h8 (hblk rfl) (lt_of_cells h5)
      | fsl z' es =>
        simp only [Option.bind_some, Row.at]
        cases he : es[e]? with
        | none => exact .junk
        | some cs =>
          rcases ok with ⟨h2, _⟩ | ⟨b', base', h3, h4, h5, h6⟩
          · subst h2; cases he
          · rw [h1] at h3
            cases h3
            exact hsl z es cs he rfl h6 (fun ht => h4 (hless b h5 ht)) h5
      | st cs =>
        simp only [Option.bind_some, Row.at]
        by_cases he : e = 0
        · rw [if_pos he]
          obtain ⟨b', base', cur, e', h3, h4, h5, h6, h7⟩ := ok
          rw [h1] at h3
          cases h3
          refine hst cs he h7 (fun r' hr' => hr r' ?_) (hblk rfl) (lt_of_cells h5)
          simp only [refC, hx, Option.bind_some, Row.at, if_pos he]
          exact List.mem_cons_of_mem _ hr'
        · rw [if_neg he]; exact .junk
      | fst cs =>
        simp only [Option.bind_some, Row.at]
        by_cases he : e = 0
        · rw [if_pos he]
          obtain ⟨b', base', h3, h4, h5, h6⟩ := ok
          rw [h1] at h3
          cases h3
          refine hst cs he h6 (fun r' hr' => hr r' ?_) (fun ht => h4 (hless b h5 ht)) h5
          simp only [refC, hx, Option.bind_some, Row.at, if_pos he]
          exact List.mem_cons_of_mem _ hr'
        · rw [if_neg he]; exact .junk
      | dead => exact .junk
  | agg => exact absurd rfl (n2 _)
  | tup => exact absurd rfl (n3 _)
  | junk => exact .junk
  | b => exact .b
  | i => exact .i
  | s => exact .s
  | np => exact .np
  | ns => exact .lnil0
  | lnil ha hm => exact .lnil ha hm
  | l g hT hb hc hm hz hcell hv => exact (Rv.l g hT hb hc hm hz hcell hv : Rv w T Rho.none _ _).less hless
  | tp g hT hb hcell hv => exact (Rv.tp g hT hb hcell hv : Rv w T Rho.none _ _).less hless
  | sl hr' hn hc hm hs => exact tell0_rv hrows hless (.sl hr' hn hc hm hs) hr (by intros; simp) (by intros; simp) (by intros; simp)
  | slz hr' hn => exact tell0_rv hrows hless (.slz hr' hn) hr (by intros; simp) (by intros; simp) (by intros; simp)
  | slnil hr' => exact tell0_rv hrows hless (.slnil hr') hr (by intros; simp) (by intros; simp) (by intros; simp)
theorem getD_mem {α : Type} {l : List α} {c : Nat} (d : α) (hc : c < l.length) : l.getD c d ∈ l := by
  rw [List.getD_eq_getElem?_getD, List.getElem?_eq_getElem hc]
  exact List.getElem_mem hc
theorem one_of_cell {av : AV} {v : Value} (k : Rv w T ρ av v) (h1 : v.oneCell' = true) : (∀ cs, av ≠ .agg cs) ∧ (∀ cs, av ≠ .tup cs) := by
  refine ⟨?_, ?_⟩ <;> (intro cs e; subst e; cases k; cases h1)
theorem tell1_rv (hrows : ∀ r x, h r = some x → RowOk w T ρ r x) (hless : ∀ b, b < w.heap.size → T' b → T b) {av : AV} {v : Value} (k : Rv w T ρ av v) (hr : ∀ r ∈ ref1 h av, ∀ b, rowBlk h ρ r b → ¬ T' b) :
    Rv w T' Rho.none (tell1 h av) v := by
  cases k with
  | @agg _ cs vs hl h1 hv =>
    simp only [tell1]
    refine .agg vs (by rw [List.length_map]; exact hl) (fun c hc => h1 c (by rwa [List.length_map] at hc)) fun c hc => ?_
    rw [List.length_map] at hc
    rw [getD_map_lt (tellC h) cs c .junk .junk hc]
    refine tellC_rv hrows hless (hv c hc) (fun r hr' => hr r ?_) (one_of_cell (hv c hc) (h1 c hc)).1 (one_of_cell (hv c hc) (h1 c hc)).2
    exact List.mem_flatMap.2 ⟨_, getD_mem _ hc, hr'⟩
  | tup => exact .junk
  | junk => exact .junk
  | b => exact .b
  | i => exact .i
  | s => exact .s
  | np => exact .np
  | ns => exact .lnil0
  | lnil ha hm => exact .lnil ha hm
  | l g hT hb hc hm hz hcell hv => exact (Rv.l g hT hb hc hm hz hcell hv : Rv w T Rho.none _ _).less hless
  | tp g hT hb hcell hv => exact (Rv.tp g hT hb hcell hv : Rv w T Rho.none _ _).less hless
  | sl hr' hn hc hm hs => exact tellC_rv hrows hless (.sl hr' hn hc hm hs) hr (by intros; simp) (by intros; simp)
  | slz hr' hn => exact tellC_rv hrows hless (.slz hr' hn) hr (by intros; simp) (by intros; simp)
  | slnil hr' => exact tellC_rv hrows hless (.slnil hr') hr (by intros; simp) (by intros; simp)
  | p hr' => exact tellC_rv hrows hless (.p hr') hr (by intros; simp) (by intros; simp)
theorem tell_rv (hrows : ∀ r x, h r = some x → RowOk w T ρ r x) (hless : ∀ b, b < w.heap.size → T' b → T b) {av : AV} {v : Value} (k : Rv w T ρ av v) (hr : ∀ r ∈ ref h av, ∀ b, rowBlk h ρ r b → ¬ T' b) :
    Rv w T' Rho.none (tell h av) v := by
  cases k with
  | @tup _ cs vs hl hv =>
    simp only [tell]
    refine .tup vs (by rw [List.length_map]; exact hl) fun c hc => ?_
    rw [List.length_map] at hc
    rw [getD_map_lt (tell1 h) cs c .junk .junk hc]
    exact tell1_rv hrows hless (hv c hc) fun r hr' => hr r (List.mem_flatMap.2 ⟨_, getD_mem _ hc, hr'⟩)
  | agg vs hl h1 hv => exact tell1_rv hrows hless (.agg vs hl h1 hv) hr
  | junk => exact .junk
  | b => exact .b
  | i => exact .i
  | s => exact .s
  | np => exact .np
  | ns => exact .lnil0
  | lnil ha hm => exact .lnil ha hm
  | l g hT hb hc hm hz hcell hv => exact (Rv.l g hT hb hc hm hz hcell hv : Rv w T Rho.none _ _).less hless
  | tp g hT hb hcell hv => exact (Rv.tp g hT hb hcell hv : Rv w T Rho.none _ _).less hless
  | sl hr' hn hc hm hs => exact tell1_rv hrows hless (.sl hr' hn hc hm hs) hr
  | slz hr' hn => exact tell1_rv hrows hless (.slz hr' hn) hr
  | slnil hr' => exact tell1_rv hrows hless (.slnil hr') hr
  | p hr' => exact tell1_rv hrows hless (.p hr') hr
end
end Go.Pe
set_option linter.unusedVariables false
set_option linter.unusedSimpArgs false
namespace Go.Pe
open Go
def mv1 : Value → AV → Bool
  | .bool a, .b b => a == b
  | .int k n, .i k' n' => k == k' && n == n'
  | .string s, .s s' => decide (s = s')
  | .slice none 0 0, .ns _ => true
  | .pointer none, .np => true
  | _, _ => false
def mvs : List Value → List AV → Bool
  | [], [] => true
  | v :: vs, c :: cs => mv1 v c && mvs vs cs
  | _, _ => false
def mv : Value → AV → Bool
  | .agg vs, .agg cs => mvs vs.toList cs
  | v, c => mv1 v c
section
variable {w : World} {T : Nat → Prop} {ρ : Rho}
theorem mv1_rv {v : Value} {c : AV} (h : mv1 v c = true) : Rv w T ρ c v ∧ v.oneCell' = true := by
  unfold mv1 at h
  split at h
  · rw [beq_iff_eq] at h; subst h; exact ⟨.b, rfl⟩
  · simp only [Bool.and_eq_true, beq_iff_eq] at h; obtain ⟨rfl, rfl⟩ := h; exact ⟨.i, rfl⟩
  · simp only [decide_eq_true_eq] at h; subst h; exact ⟨.s, rfl⟩
  · exact ⟨.ns, rfl⟩
  · exact ⟨.np, rfl⟩
  · cases h
theorem mvs_rv : ∀ {vs : List Value} {cs : List AV}, mvs vs cs = true → vs.length = cs.length ∧ ∀ c, c < cs.length → Rv w T ρ (cs.getD c .junk) (vs.getD c undef) ∧ (vs.getD c undef).oneCell' = true
  | [], [], _ => ⟨rfl, fun c hc => by cases hc⟩
  | v :: vs, c :: cs, h => by
    simp only [mvs, Bool.and_eq_true] at h
    obtain ⟨h1, h2⟩ := mvs_rv h.2
    refine ⟨by simp [h1], fun i hi => ?_⟩
    cases i with
    | zero => exact mv1_rv h.1
    | succ i => exact h2 i (by simpa using hi)
  | [], _ :: _, h => by simp [mvs] at h
  | _ :: _, [], h => by simp [mvs] at h
theorem toList_getD (vs : Array Value) (c : Nat) : vs.getD c undef = vs.toList.getD c undef := by simp [List.getD_eq_getElem?_getD]
theorem mv_rv {v : Value} {c : AV} (h : mv v c = true) : Rv w T ρ c v := by
  unfold mv at h
  split at h
  · rename_i vs cs
    obtain ⟨h1, h2⟩ := mvs_rv (w := w) (T := T) (ρ := ρ) h
    refine .agg vs (by rw [← h1]; simp) (fun c hc => ?_) fun c hc => ?_
    · rw [toList_getD]; exact (h2 c hc).2
    · rw [toList_getD]; exact (h2 c hc).1
  · exact (mv1_rv h).1
end
def ma (tabs : List (Nat × List AV)) : Operand → At → Bool
  | .tmp t, .t s => t == s
  | .const v, .c a => mv v a
  | .global g, .c (.tp cs 0) => tabs.any fun p => p.1 == g && p.2.length == cs.length && mtab p.2 cs
  | _, _ => false
where
  mtab : List AV → List AV → Bool
  | [], [] => true
  | .i k n :: xs, .i k' n' :: ys => k == k' && n == n' && mtab xs ys
  | _, _ => false
theorem mtab_eq : ∀ {xs ys : List AV}, ma.mtab xs ys = true → xs = ys
  | [], [], _ => rfl
  | x :: xs, y :: ys, h => by
    unfold ma.mtab at h
    split at h
    · rename_i h1 h2; cases h1
    · rename_i k n xs' k' n' ys' h1 h2
      cases h1; cases h2
      simp only [Bool.and_eq_true, beq_iff_eq] at h
      obtain ⟨⟨rfl, rfl⟩, h3⟩ := h
      rw [mtab_eq h3]
    · cases h
  | [], _ :: _, h => by simp [ma.mtab] at h
  | _ :: _, [], h => by simp [ma.mtab] at h
def Env (w : World) (T : Nat → Prop) (ρ : Rho) (e : Nat → AV) (a : Act) : Prop := ∀ t, Rv w T ρ (e t) (a.tmps.getD t undef)
theorem Env.goes {w w' : World} {T T' : Nat → Prop} {ρ ρ' : Rho} {e : Nat → AV} {a : Act} (h : Env w T ρ e a) (g : Goes w w' T T' ρ ρ') : Env w' T' ρ' e a := fun t => g.rv (h t)
theorem ma_rv {f : Fr} {w : World} {T : Nat → Prop} {ρ : Rho} {h : Heap} (k : WInv f w T ρ h) {e : Nat → AV} {a : Act} (he : Env w T ρ e a) {x : Operand} {y : At} (hm : ma f.tabs x y = true) : Rv w T ρ (y.ev e) (a.eval x) := by
  unfold ma at hm
  split at hm
  · rw [beq_iff_eq] at hm; subst hm; exact he _
  · exact mv_rv hm
  · rename_i g cs
    rw [List.any_eq_true] at hm
    obtain ⟨p, hp, hq⟩ := hm
    simp only [Bool.and_eq_true, beq_iff_eq] at hq
    obtain ⟨⟨rfl, _⟩, h2⟩ := hq
    rw [← mtab_eq h2]
    exact (k.tab p hp).any
  · cases hm
def szT (P : Program) (t : TypeId) : Option Nat := (P.info? t).map (·.size)
section
variable {P : Program} {w : World}
theorem run_typeInfo {t : TypeId} {i : TypeInfo} (h : P.info? t = some i) : (typeInfo t).run P w = .ok i w := by simp [typeInfo, h]
theorem run_sizeOf' {t : TypeId} {n : Nat} (h : szT P t = some n) : (sizeOf t).run P w = .ok n w := by
  unfold szT at h
  cases hi : P.info? t with
  | none => rw [hi] at h; cases h
  | some i => rw [hi] at h; cases h; simp [sizeOf, run_typeInfo hi]
theorem run_zeroValue {t : TypeId} {i : TypeInfo} {z : Value} (h : P.info? t = some i) (hz : i.zero = some z) : (zeroValue t).run P w = .ok z w := by simp [zeroValue, run_typeInfo h, hz]
end
def Gives (P : Program) (o : Oper) (a : Act) (w : World) (v : Value) : Prop := (execOp a.eval o).run P w = .ok (.value v) w
section
variable {P : Program} {f : Fr} {w : World} {T : Nat → Prop} {ρ : Rho} {h : Heap} {e : Nat → AV} {a : Act} {o : Oper}
theorem op_move (k : WInv f w T ρ h) (he : Env w T ρ e a) {x : Operand} {y : At} (ho : o.op = .move x ∨ o.op = .assign x) (hm : ma f.tabs x y = true) : ∃ v, Gives P o a w v ∧ Rv w T ρ (y.ev e) v := by
  refine ⟨a.eval x, ?_, ma_rv k he hm⟩
  rcases ho with ho | ho <;> simp [Gives, execOp, ho]
theorem inv_b {q : Bool} {v : Value} (k : Rv w T ρ (.b q) v) : v = .bool q := by cases k; rfl
theorem inv_i {q : IntKind} {n : Int} {v : Value} (k : Rv w T ρ (.i q n) v) : v = .int q n := by cases k; rfl
theorem inv_s {s : ByteArray} {v : Value} (k : Rv w T ρ (.s s) v) : v = .string s := by cases k; rfl
theorem op_pick (k : WInv f w T ρ h) (he : Env w T ρ e a) {x y z : Operand} {x' y' z' : At} {av : AV} {h' : Heap} (call : Call) (ho : o.op = .pick x y z) (h1 : ma f.tabs x x' = true) (h2 : ma f.tabs y y' = true) (h3 : ma f.tabs z z' = true)
    (hv : PO.ev call (.pick x' y' z') e h = some (av, h')) : h' = h ∧ ∃ v, Gives P o a w v ∧ Rv w T ρ av v := by
  have r1 := ma_rv k he h1
  have r2 := ma_rv k he h2
  have r3 := ma_rv k he h3
  simp only [PO.ev] at hv
  split at hv
  · rename_i q hq
    rw [hq] at r1
    cases hv
    refine ⟨rfl, (if q then a.eval y else a.eval z), ?_, ?_⟩
    · simp only [Gives, execOp, ho, inv_b r1, asBool]
      cases q <;> simp
    · cases q
      · exact r3
      · exact r2
  · cases hv
theorem op_not (k : WInv f w T ρ h) (he : Env w T ρ e a) {x : Operand} {x' : At} {t : TypeId} {av : AV} {h' : Heap} (call : Call) (ho : o.op = .unOp .not t x) (h1 : ma f.tabs x x' = true)
    (hv : PO.ev call (.not x') e h = some (av, h')) : h' = h ∧ ∃ v, Gives P o a w v ∧ Rv w T ρ av v := by
  have r1 := ma_rv k he h1
  simp only [PO.ev] at hv
  split at hv
  · rename_i q hq
    rw [hq] at r1
    cases hv
    exact ⟨rfl, .bool (!q), by simp [Gives, execOp, ho, inv_b r1, Op.unary], .b⟩
  · cases hv
theorem op_neg (k : WInv f w T ρ h) (he : Env w T ρ e a) {x : Operand} {x' : At} {t : TypeId} {av : AV} {h' : Heap} (call : Call) (ho : o.op = .unOp .neg t x) (h1 : ma f.tabs x x' = true)
    (hv : PO.ev call (.neg x') e h = some (av, h')) : h' = h ∧ ∃ v, Gives P o a w v ∧ Rv w T ρ av v := by
  have r1 := ma_rv k he h1
  simp only [PO.ev] at hv
  split at hv
  · rename_i q n hq
    rw [hq] at r1
    cases hv
    exact ⟨rfl, .int q (q.wrap (0 - n)), by simp [Gives, execOp, ho, inv_i r1, Op.unary, Op.intArith], .i⟩
  · cases hv
theorem op_conv (k : WInv f w T ρ h) (he : Env w T ρ e a) {x : Operand} {x' : At} {s d : TypeId} {q q' : IntKind} {av : AV} {h' : Heap} (call : Call) (ho : o.op = .convert s d x) (hs : P.underlying s = some (.int q')) (hd : P.underlying d = some (.int q)) (h1 : ma f.tabs x x' = true)
    (hv : PO.ev call (.conv q x') e h = some (av, h')) : h' = h ∧ ∃ v, Gives P o a w v ∧ Rv w T ρ av v := by
  have r1 := ma_rv k he h1
  simp only [PO.ev] at hv
  split at hv
  · rename_i q'' n hq
    rw [hq] at r1
    cases hv
    exact ⟨rfl, .int q (q.wrap n), by simp [Gives, execOp, ho, inv_i r1, convert, run_underlying hs, run_underlying hd, Conv.intToInt], .i⟩
  · cases hv
theorem eqG (op : BinOp) (t : TypeId) (x y : Operand) (q : IntKind) (n : Int) (v : Value) : eqGuard op t x y (.int q n) v = pure () := by cases op <;> rfl
theorem bits_def (op : BinOp) (k : IntKind) (x y : Int) (h : op = .and ∨ op = .or ∨ op = .xor) : (Op.intBits op k x y).run P w = .ok (.int k (Go.bits op k x y)) w := by
  rcases h with rfl | rfl | rfl <;> simp [Op.intBits, Go.bits]
theorem run_binI {op : BinOp} {q : IntKind} {x y : Int} {t : TypeId} {av : AV} (hv : binI op q x y = some av) (hop : op ≠ .shl ∧ op ≠ .shr) : ∃ v, (binOp op t (.int q x) (.int q y)).run P w = .ok v w ∧ Rv w T ρ av v := by
  cases op <;> simp only [binI] at hv <;> try (cases hv)
  case add => exact ⟨_, by simp [binOp, Op.intArith], .i⟩
  case sub => exact ⟨_, by simp [binOp, Op.intArith], .i⟩
  case mul => exact ⟨_, by simp [binOp, Op.intArith], .i⟩
  case quo =>
    split at hv
    · cases hv
    · rename_i hy
      cases hv
      exact ⟨_, by simp [binOp, Op.intDiv, hy], .i⟩
  case rem =>
    split at hv
    · cases hv
    · rename_i hy
      cases hv
      exact ⟨_, by simp [binOp, Op.intDiv, hy], .i⟩
  case and => exact ⟨_, by simp only [binOp, if_false, ne_eq, not_true_eq_false]; exact bits_def _ _ _ _ (by simp), .i⟩
  case or => exact ⟨_, by simp only [binOp, if_false, ne_eq, not_true_eq_false]; exact bits_def _ _ _ _ (by simp), .i⟩
  case xor => exact ⟨_, by simp only [binOp, if_false, ne_eq, not_true_eq_false]; exact bits_def _ _ _ _ (by simp), .i⟩
  case eql => exact ⟨.bool (decide (x = y)), by simp [binOp, Op.intCmp]; rfl, .b⟩
  case neq => exact ⟨.bool (!decide (x = y)), by simp [binOp, Op.intCmp, bne]; rfl, .b⟩
  case lss => exact ⟨_, by simp [binOp, Op.intCmp], .b⟩
  case leq => exact ⟨_, by simp [binOp, Op.intCmp], .b⟩
  case gtr => exact ⟨_, by simp [binOp, Op.intCmp], .b⟩
  case geq => exact ⟨_, by simp [binOp, Op.intCmp], .b⟩
theorem run_shI {op : BinOp} {q q' : IntKind} {x y : Int} {t : TypeId} {av : AV} (hv : shI op q x y = some av) (hop : op = .shl ∨ op = .shr) : ∃ v, (binOp op t (.int q x) (.int q' y)).run P w = .ok v w ∧ Rv w T ρ av v := by
  unfold shI at hv
  split at hv
  · cases hv
  · rename_i hy
    rcases hop with rfl | rfl
    · cases hv
      exact ⟨_, by simp [binOp, Op.shift, hy], .i⟩
    · cases hv
      exact ⟨_, by simp [binOp, Op.shift, hy], .i⟩
theorem beqL (x y : List UInt8) : (x == y) = decide (x = y) := by by_cases h : x = y <;> simp [h]
theorem op_bin (k : WInv f w T ρ h) (he : Env w T ρ e a) {op : BinOp} {x y : Operand} {x' y' : At} {t t' : TypeId} {av : AV} {h' : Heap} (call : Call) (ho : o.op = .binOp op t x y t') (h1 : ma f.tabs x x' = true) (h2 : ma f.tabs y y' = true)
    (hv : PO.ev call (.bin op x' y') e h = some (av, h')) : h' = h ∧ ∃ v, Gives P o a w v ∧ Rv w T ρ av v := by
  have r1 := ma_rv k he h1
  have r2 := ma_rv k he h2
  simp only [PO.ev, Option.map_eq_some_iff] at hv
  obtain ⟨c, hc, hcv⟩ := hv
  cases hcv
  refine ⟨rfl, ?_⟩
  have fin : ∀ v u1 u2, a.eval x = u1 → a.eval y = u2 → (eqGuard op t x y u1 u2 = pure ()) → (binOp op t u1 u2).run P w = .ok v w → Gives P o a w v := by
    intro v u1 u2 e1 e2 hg hr
    simp only [Gives, execOp, ho, e1, e2, hg, Sem.run_bind, Sem.run_pure, Result.andThen_ok, hr]
  unfold binV at hc
  split at hc
  · rename_i q n q' m hx hy
    rw [hx] at r1
    rw [hy] at r2
    have e1 := inv_i r1
    have e2 := inv_i r2
    split at hc
    · obtain ⟨v, h3, h4⟩ := run_shI (P := P) (w := w) (T := T) (ρ := ρ) (q' := q') (t := t) hc (by simp)
      exact ⟨v, fin _ _ _ e1 e2 rfl h3, h4⟩
    · obtain ⟨v, h3, h4⟩ := run_shI (P := P) (w := w) (T := T) (ρ := ρ) (q' := q') (t := t) hc (by simp)
      exact ⟨v, fin _ _ _ e1 e2 rfl h3, h4⟩
    · rename_i n1 n2
      split at hc
      · rename_i hqq
        subst hqq
        obtain ⟨v, h3, h4⟩ := run_binI (P := P) (w := w) (T := T) (ρ := ρ) (t := t) hc ⟨fun e => n1 e, fun e => n2 e⟩
        exact ⟨v, fin _ _ _ e1 e2 (eqG ..) h3, h4⟩
      · cases hc
  · rename_i p q hx hy
    rw [hx] at r1
    rw [hy] at r2
    have e1 := inv_s r1
    have e2 := inv_s r2
    split at hc
    · cases hc
      exact ⟨_, fin _ _ _ e1 e2 rfl (by simp [binOp, Op.stringOp, beqL]), .b⟩
    · cases hc
      exact ⟨_, fin _ _ _ e1 e2 rfl (by simp [binOp, Op.stringOp, beqL]), .b⟩
    · split at hc
      · rename_i hsz
        cases hc
        exact ⟨_, fin _ _ _ e1 e2 rfl (by simp only [binOp, Op.stringOp]; rw [if_neg (by rw [IntKind.max_i64]; omega)]; rfl), .s⟩
      · cases hc
    · cases hc
  · cases hc
theorem op_eqb (k : WInv f w T ρ h) (he : Env w T ρ e a) {neg : Bool} {x y : Operand} {x' y' : At} {t t' : TypeId} {av : AV} {h' : Heap} (call : Call) (ho : o.op = .binOp (if neg then .neq else .eql) t x y t') (ht : P.underlying t = some .bool) (h1 : ma f.tabs x x' = true) (h2 : ma f.tabs y y' = true)
    (hv : PO.ev call (.eqb neg x' y') e h = some (av, h')) : h' = h ∧ ∃ v, Gives P o a w v ∧ Rv w T ρ av v := by
  have r1 := ma_rv k he h1
  have r2 := ma_rv k he h2
  simp only [PO.ev, Option.map_eq_some_iff] at hv
  obtain ⟨c, hc, hcv⟩ := hv
  cases hcv
  refine ⟨rfl, ?_⟩
  unfold eqbV at hc
  split at hc
  · rename_i p q hx hy
    rw [hx] at r1
    rw [hy] at r2
    cases hc
    cases neg
    · exact ⟨.bool (p == q), by simp only [Gives, execOp, ho, inv_b r1, inv_b r2, Bool.false_eq_true, if_false]; simp [eqGuard, run_eql_bool w t p q ht], .b⟩
    · exact ⟨.bool (!(p == q)), by simp only [Gives, execOp, ho, inv_b r1, inv_b r2, if_true]; simp [eqGuard, binOp, run_equal_bool w t p q ht], .b⟩
  · cases hc
end
end Go.Pe
set_option linter.unusedVariables false
set_option linter.unusedSimpArgs false
namespace Go.Pe
open Go
def aggT (P : Program) (t : TypeId) : Option Bool := (P.underlying t).map fun d => match d with
  | .struct _ | .array _ _ => true
  | _ => false
section
variable {P : Program} {f : Fr} {w : World} {T : Nat → Prop} {ρ : Rho} {h : Heap} {e : Nat → AV} {a : Act} {o : Oper}
theorem ptr_cells (k : WInv f w T ρ h) {x : AV} {v : Value} (r : Rv w T ρ x v) {cs : List AV} {c : Nat} (hp : ptrAt h x = some (cs, c)) :
    ∃ b base, v = .pointer (some ⟨b, base + c, none⟩) ∧ ∀ i, i < cs.length → ∃ u, w.cell? ⟨b, base + i, none⟩ = some u ∧ u.oneCell' = true ∧ Rv w T ρ (cs.getD i .junk) u := by
  cases r with
  | @tp _ cs' o' b base g hT hb hcell hv =>
    simp only [ptrAt, Option.some.injEq, Prod.mk.injEq] at hp
    obtain ⟨rfl, rfl⟩ := hp
    exact ⟨b, base, rfl, fun i hi => ⟨g i, (hcell i hi).1, (hcell i hi).2, (hv i hi).any⟩⟩
  | @p _ r e' o' z m b base h1 =>
    simp only [ptrAt, Option.map_eq_some_iff, Option.bind_eq_some_iff] at hp
    obtain ⟨cs', ⟨row, hrow, hat⟩, hq⟩ := hp
    cases hq
    have ok := k.rows r row hrow
    have hsl : ∀ (es : List (List AV)), es[e']? = some cs → RowAt w b base z es (Rv w T Rho.none) → ∀ i, i < cs.length → ∃ u, w.cell? ⟨b, base + e' * z + i, none⟩ = some u ∧ u.oneCell' = true ∧ Rv w T ρ (cs.getD i .junk) u := by
      intro es he hra i hi
      have hlt : e' < es.length := by
        rcases Nat.lt_or_ge e' es.length with h2 | h2
        · exact h2
        · rw [List.getElem?_eq_none h2] at he; cases he
      have hcs : es.getD e' [] = cs := by rw [List.getD_eq_getElem?_getD, he]; rfl
      have hlen := hra.len e' hlt
      rw [hcs] at hlen
      obtain ⟨u, h2, h3, h4⟩ := hra.cell e' i hlt (by omega)
      rw [hcs] at h4
      exact ⟨u, h2, h3, h4.any⟩
    have hst : ∀ cs, e' = 0 → RowAt w b base cs.length [cs] (Rv w T ρ) → ∀ i, i < cs.length → ∃ u, w.cell? ⟨b, base + e' * z + i, none⟩ = some u ∧ u.oneCell' = true ∧ Rv w T ρ (cs.getD i .junk) u := by
      intro cs he hra i hi
      subst he
      obtain ⟨u, h2, h3, h4⟩ := hra.cell 0 i (by simp) hi
      refine ⟨u, ?_, h3, h4⟩
      rw [Nat.zero_mul, Nat.add_zero] at h2 ⊢
      exact h2
    refine ⟨b, base + e' * z, rfl, ?_⟩
    cases row with
    | sl ap z' es =>
      rcases ok with ⟨h2, _, _⟩ | ⟨b', base', cur, e'', h3, h4, h5, h6, h7, h8⟩
      · subst h2; cases hat
      · rw [h1] at h3
        cases h3
        exact hsl es hat h8
    | fsl z' es =>
      rcases ok with ⟨h2, _⟩ | ⟨b', base', h3, h4, h5, h6⟩
      · subst h2; cases hat
      · rw [h1] at h3
        cases h3
        exact hsl es hat h6
    | st cs' =>
      obtain ⟨b', base', cur, e'', h3, h4, h5, h6, h7⟩ := ok
      rw [h1] at h3
      cases h3
      simp only [Row.at] at hat
      split at hat
      · rename_i he
        cases hat
        exact hst cs he h7
      · cases hat
    | fst cs' =>
      obtain ⟨b', base', h3, h4, h5, h6⟩ := ok
      rw [h1] at h3
      cases h3
      simp only [Row.at] at hat
      split at hat
      · rename_i he
        cases hat
        exact hst cs he h6
      · cases hat
    | dead => cases hat
  | _ => simp [ptrAt] at hp
theorem ldC_agg {sz c : Nat} {cs : List AV} {av : AV} (h : ldC true sz c cs = some av) : av = .agg ((cs.drop c).take sz) ∧ c + sz ≤ cs.length := by
  unfold ldC at h
  simp only [if_true] at h
  split at h
  · rename_i h1
    cases h
    obtain ⟨rfl, rfl⟩ := h1
    simp
  · split at h
    · rename_i h1
      cases h
      exact ⟨rfl, h1⟩
    · cases h
theorem load_var {t : TypeId} {sz b base c : Nat} {ag : Bool} {cs : List AV} {av : AV} (hag : aggT P t = some ag) (hsz : szT P t = some sz)
    (hc : ∀ i, i < cs.length → ∃ u, w.cell? ⟨b, base + i, none⟩ = some u ∧ u.oneCell' = true ∧ Rv w T ρ (cs.getD i .junk) u) (hv : ldC ag sz c cs = some av) :
    ∃ v, (loadVar t ⟨b, base + c, none⟩).run P w = .ok v w ∧ Rv w T ρ av v ∧ (ag = false → v.oneCell' = true) := by
  unfold aggT at hag
  cases hu : P.underlying t with
  | none => rw [hu] at hag; cases hag
  | some d =>
    rw [hu] at hag
    cases ag with
    | true =>
      obtain ⟨rfl, hle⟩ := ldC_agg hv
      have hd : d.isRow = true := by cases d <;> simp_all [TypeDesc.isRow]
      have hr : w.rangeAt b (base + c) ((List.range sz).map fun i => (w.cell? ⟨b, base + c + i, none⟩).getD undef) := by
        intro j v hj
        rw [List.getElem?_map] at hj
        rcases Nat.lt_or_ge j sz with h1 | h1
        · obtain ⟨u, h2, h3, h4⟩ := hc (c + j) (by omega)
          rw [List.getElem?_range h1] at hj
          simp only [Option.map_some, Option.some.injEq] at hj
          rw [← Nat.add_assoc] at h2
          rw [h2] at hj
          rw [h2, ← hj]
          rfl
        · rw [List.getElem?_eq_none (by simpa using h1)] at hj
          cases hj
      refine ⟨_, run_loadVar_mid w b (base + c) t _ d hr hu hd (by rw [List.length_map, List.length_range]; exact hsz), ?_, fun h => by cases h⟩
      have hl : ((cs.drop c).take sz).length = sz := by rw [List.length_take, List.length_drop]; omega
      refine .agg _ (by rw [hl]; simp) (fun i hi => ?_) fun i hi => ?_
      all_goals
        rw [hl] at hi
        obtain ⟨u, h2, h3, h4⟩ := hc (c + i) (by omega)
        rw [← Nat.add_assoc] at h2
        have e1 : (((List.range sz).map fun i => (w.cell? ⟨b, base + c + i, none⟩).getD undef).toArray).getD i undef = u := by
          simp [List.getElem?_range hi, h2]
        rw [e1]
      · exact h3
      · rw [show ((cs.drop c).take sz).getD i .junk = cs.getD (c + i) .junk by
          simp only [List.getD_eq_getElem?_getD]
          rw [List.getElem?_take_of_lt hi, List.getElem?_drop]]
        exact h4
    | false =>
      have hd : (isAgg t).run P w = .ok false w := by
        unfold isAgg
        rw [Sem.run_bind, run_underlying hu w]
        cases d <;> simp_all
      simp only [ldC, Bool.false_eq_true, if_false] at hv
      have hlt : c < cs.length := by
        rcases Nat.lt_or_ge c cs.length with h2 | h2
        · exact h2
        · rw [List.getElem?_eq_none h2] at hv; cases hv
      obtain ⟨u, h2, h3, h4⟩ := hc c hlt
      have : cs.getD c .junk = av := by rw [List.getD_eq_getElem?_getD, hv]; rfl
      rw [this] at h4
      exact ⟨u, by simp [loadVar, hd, h2], h4, fun _ => h3⟩
theorem op_ld (k : WInv f w T ρ h) (he : Env w T ρ e a) {x : Operand} {x' : At} {t : TypeId} {ag : Bool} {sz : Nat} {av : AV} {h' : Heap} (call : Call) (ho : o.op = .load t x) (hag : aggT P t = some ag) (hsz : szT P t = some sz) (h1 : ma f.tabs x x' = true)
    (hv : PO.ev call (.ld ag sz x') e h = some (av, h')) : h' = h ∧ ∃ v, Gives P o a w v ∧ Rv w T ρ av v := by
  have r1 := ma_rv k he h1
  simp only [PO.ev, ldV, Option.map_eq_some_iff, Option.bind_eq_some_iff] at hv
  obtain ⟨c, ⟨⟨cs, i⟩, hp, hc⟩, hcv⟩ := hv
  cases hcv
  obtain ⟨b, base, hx, hcell⟩ := ptr_cells k r1 hp
  obtain ⟨v, h2, h3, _⟩ := load_var hag hsz hcell hc
  exact ⟨rfl, v, by simp [Gives, execOp, ho, hx, Instr.loadAt, Instr.sureAddr, h2], h3⟩
theorem inv_p {r q c : Nat} {v : Value} (k : Rv w T ρ (.p r q c) v) : ∃ p, v = .pointer (some p) := by cases k; exact ⟨_, rfl⟩
theorem inv_tp {cs : List AV} {c : Nat} {v : Value} (k : Rv w T ρ (.tp cs c) v) : ∃ p, v = .pointer (some p) := by cases k; exact ⟨_, rfl⟩
theorem op_nck (k : WInv f w T ρ h) (he : Env w T ρ e a) {x : Operand} {x' : At} {av : AV} {h' : Heap} (call : Call) (ho : o.op = .nilCheck x) (h1 : ma f.tabs x x' = true)
    (hv : PO.ev call (.nck x') e h = some (av, h')) : h' = h ∧ ∃ v, Gives P o a w v ∧ Rv w T ρ av v := by
  have r1 := ma_rv k he h1
  simp only [PO.ev] at hv
  split at hv
  · rename_i r q c hq
    cases hv
    rw [hq] at r1
    obtain ⟨p, hp⟩ := inv_p r1
    exact ⟨rfl, a.eval x, by simp [Gives, execOp, ho, hp], r1⟩
  · rename_i cs c hq
    cases hv
    rw [hq] at r1
    obtain ⟨p, hp⟩ := inv_tp r1
    exact ⟨rfl, a.eval x, by simp [Gives, execOp, ho, hp], r1⟩
  · cases hv
theorem fld_p {r q c d : Nat} {v : Value} (k : Rv w T ρ (.p r q c) v) : ∃ b i, v = .pointer (some ⟨b, i, none⟩) ∧ Rv w T ρ (.p r q (c + d)) (.pointer (some ⟨b, i + d, none⟩)) := by
  cases k with
  | p h1 => exact ⟨_, _, rfl, by rw [Nat.add_assoc]; exact .p h1⟩
theorem fld_tp {cs : List AV} {c d : Nat} {v : Value} (k : Rv w T ρ (.tp cs c) v) : ∃ b i, v = .pointer (some ⟨b, i, none⟩) ∧ Rv w T ρ (.tp cs (c + d)) (.pointer (some ⟨b, i + d, none⟩)) := by
  cases k with
  | tp g hT hb hcell hv => exact ⟨_, _, rfl, by rw [Nat.add_assoc]; exact .tp g hT hb hcell hv⟩
theorem op_fld (k : WInv f w T ρ h) (he : Env w T ρ e a) {x : Operand} {x' : At} {t : TypeId} {i d n : Nat} {fs : Array Field} {fl : Field} {av : AV} {h' : Heap} (call : Call) (ho : o.op = .fieldAddr t x i) (hu : P.underlying t = some (.struct fs)) (hf : fs[i]? = some fl) (hd : fl.offset = d) (hn : szT P fl.type = some (n + 1)) (h1 : ma f.tabs x x' = true)
    (hv : PO.ev call (.fld d x') e h = some (av, h')) : h' = h ∧ ∃ v, Gives P o a w v ∧ Rv w T ρ av v := by
  have r1 := ma_rv k he h1
  have fin : ∀ b j, a.eval x = .pointer (some ⟨b, j, none⟩) → Gives P o a w (.pointer (some ⟨b, j + d, none⟩)) := by
    intro b j hx
    simp only [Gives, execOp, ho, hx, Instr.fieldAt, Sem.run_bind, run_underlying hu w, Result.andThen_ok, hf, Instr.sureAddr, Sem.run_pure, fieldPlace, run_sizeOf' hn, Nat.add_one_ne_zero, if_false, add_at, hd]
  simp only [PO.ev] at hv
  split at hv
  · rename_i r q c hq
    cases hv
    rw [hq] at r1
    obtain ⟨b, j, hx, h2⟩ := fld_p (d := d) r1
    exact ⟨rfl, _, fin b j hx, h2⟩
  · rename_i cs c hq
    cases hv
    rw [hq] at r1
    obtain ⟨b, j, hx, h2⟩ := fld_tp (d := d) r1
    exact ⟨rfl, _, fin b j hx, h2⟩
  · cases hv
theorem part_rv {t : TypeId} {sz c : Nat} {ag : Bool} {cs : List AV} {vs : Array Value} {av : AV} (hag : aggT P t = some ag) (hsz : szT P t = some sz) (hl : vs.size = cs.length) (h1 : ∀ i, i < cs.length → (vs.getD i undef).oneCell' = true)
    (hr : ∀ i, i < cs.length → Rv w T ρ (cs.getD i .junk) (vs.getD i undef)) (hv : ldC ag sz c cs = some av) : ∃ v, (part t vs c).run P w = .ok v w ∧ Rv w T ρ av v := by
  unfold aggT at hag
  cases hu : P.underlying t with
  | none => rw [hu] at hag; cases hag
  | some d =>
    rw [hu] at hag
    have hd : (isAgg t).run P w = .ok ag w := by
      unfold isAgg
      rw [Sem.run_bind, run_underlying hu w]
      cases d <;> simp_all
    cases ag with
    | true =>
      obtain ⟨rfl, hle⟩ := ldC_agg hv
      refine ⟨.agg (vs.extract c (c + sz)), ?_, ?_⟩
      · simp only [part, Sem.run_bind, hd, Result.andThen_ok, if_true, run_sizeOf' hsz, Sem.run_pure]
      · have hll : ((cs.drop c).take sz).length = sz := by rw [List.length_take, List.length_drop]; omega
        have hg : ∀ i, i < sz → (vs.extract c (c + sz)).getD i undef = vs.getD (c + i) undef := fun i hi => by
          have hlt : c + i < vs.size := by omega
          simp [Array.getD_eq_getD_getElem?, Array.getElem?_extract, show i < min (c + sz) vs.size - c by omega, Array.getElem?_eq_getElem hlt]
        refine .agg _ (by rw [hll, Array.size_extract]; omega) (fun i hi => ?_) fun i hi => ?_
        · rw [hll] at hi
          rw [hg i hi]
          exact h1 _ (by omega)
        · rw [hll] at hi
          rw [hg i hi, show ((cs.drop c).take sz).getD i .junk = cs.getD (c + i) .junk by
            simp only [List.getD_eq_getElem?_getD]
            rw [List.getElem?_take_of_lt hi, List.getElem?_drop]]
          exact hr _ (by omega)
    | false =>
      simp only [ldC, Bool.false_eq_true, if_false] at hv
      have hlt : c < cs.length := by
        rcases Nat.lt_or_ge c cs.length with h2 | h2
        · exact h2
        · rw [List.getElem?_eq_none h2] at hv; cases hv
      have h3 := hr c hlt
      have : cs.getD c .junk = av := by rw [List.getD_eq_getElem?_getD, hv]; rfl
      rw [this] at h3
      have h4 : vs[c]? = some (vs.getD c undef) := by
        have : c < vs.size := by omega
        simp [this]
      refine ⟨_, ?_, h3⟩
      simp only [part, Sem.run_bind, hd, Result.andThen_ok, Bool.false_eq_true, if_false, h4, Sem.run_pure]
theorem op_fpt (k : WInv f w T ρ h) (he : Env w T ρ e a) {x : Operand} {x' : At} {t : TypeId} {i d sz : Nat} {ag : Bool} {fs : Array Field} {fl : Field} {av : AV} {h' : Heap} (call : Call) (ho : o.op = .field t x i) (hu : P.underlying t = some (.struct fs)) (hf : fs[i]? = some fl) (hd : fl.offset = d) (hsz : szT P fl.type = some sz) (hag : aggT P fl.type = some ag) (h1 : ma f.tabs x x' = true)
    (hv : PO.ev call (.fpt ag sz d x') e h = some (av, h')) : h' = h ∧ ∃ v, Gives P o a w v ∧ Rv w T ρ av v := by
  have r1 := ma_rv k he h1
  simp only [PO.ev] at hv
  split at hv
  · rename_i cs hq
    simp only [Option.map_eq_some_iff] at hv
    obtain ⟨c, hc, hcv⟩ := hv
    cases hcv
    rw [hq] at r1
    generalize hx : a.eval x = v at r1
    cases r1 with
    | agg us hl hone hu2 =>
      obtain ⟨v, h2, h3⟩ := part_rv hag hsz hl hone hu2 hc
      refine ⟨rfl, v, ?_, h3⟩
      simp only [Gives, execOp, ho, hx, Instr.field, Sem.run_bind, run_underlying hu w, Result.andThen_ok, hf, asAgg, Sem.run_pure, hd, h2]
  · cases hv
theorem intV_i {x : AV} {n : Int} {v : Value} (hi : intV x = some n) (k : Rv w T ρ x v) : ∃ q, v = .int q n := by
  unfold intV at hi
  split at hi
  · cases hi
    exact ⟨_, inv_i k⟩
  · cases hi
theorem op_idx (k : WInv f w T ρ h) (he : Env w T ρ e a) {x y : Operand} {x' y' : At} {t el : TypeId} {z : Nat} {av : AV} {h' : Heap} (call : Call) (ho : o.op = .indexAddr t x y) (hu : P.underlying t = some (.slice el)) (hz : szT P el = some z) (h1 : ma f.tabs x x' = true) (h2 : ma f.tabs y y' = true)
    (hv : PO.ev call (.idx z x' y') e h = some (av, h')) : h' = h ∧ ∃ v, Gives P o a w v ∧ Rv w T ρ av v := by
  have r1 := ma_rv k he h1
  have r2 := ma_rv k he h2
  simp only [PO.ev, Option.bind_eq_some_iff, Option.map_eq_some_iff] at hv
  obtain ⟨j, hj, c, hc, hcv⟩ := hv
  cases hcv
  obtain ⟨q, hy⟩ := intV_i hj r2
  have fin : ∀ b i n cap, a.eval x = .slice (some ⟨b, i, none⟩) n cap → 0 ≤ j → j < (n : Int) → Gives P o a w (.pointer (some ⟨b, i + j.toNat * z, none⟩)) := by
    intro b i n cap hx h3 h4
    simp only [Gives, execOp, ho, hx, hy, Instr.indexAt, asIntOf, Sem.run_bind, run_underlying hu w, Result.andThen_ok, Sem.run_pure, run_sizeOf' hz, add_at]
    rw [if_pos ⟨h3, h4⟩]
    simp only [Sem.run_bind, run_sizeOf' hz, Result.andThen_ok, Sem.run_pure, add_at]
  refine ⟨rfl, ?_⟩
  unfold idxV at hc
  split at hc
  · rename_i r z' ofs n hq
    split at hc
    · rename_i hcond
      obtain ⟨rfl, h3, h4⟩ := hcond
      cases hc
      rw [hq] at r1
      generalize hx : a.eval x = v at r1
      cases r1 with
      | @sl _ _ _ _ _ m b base cap hr hn hcap hm hs =>
        refine ⟨_, fin b _ n cap hx h3 h4, ?_⟩
        have := Rv.p (w := w) (T := T) (ρ := ρ) (e := ofs + j.toNat) (o := 0) hr
        rw [Nat.add_zero, Nat.add_mul, ← Nat.add_assoc] at this
        exact this
      | slz => omega
      | slnil => omega
    · cases hc
  · rename_i z' es hq
    split at hc
    · rename_i hcond
      obtain ⟨rfl, h3, h4⟩ := hcond
      cases hc
      rw [hq] at r1
      generalize hx : a.eval x = v at r1
      cases r1 with
      | lnil => simp at h4; omega
      | @l _ _ _ b base cap g hT hb hcap hm hz' hcell hv =>
        have hlt : j.toNat < es.length := by omega
        refine ⟨_, fin b base es.length cap hx h3 h4, ?_⟩
        have hlen := hz' _ hlt
        have := Rv.tp (w := w) (T := T) (ρ := ρ) (cs := es.getD j.toNat []) (o := 0) (b := b) (base := base + j.toNat * z') (fun c => g j.toNat c) hT hb (fun c hc => by rw [hlen] at hc; exact hcell _ c hlt hc) (fun c hc => by rw [hlen] at hc; exact hv _ c hlt hc)
        rw [Nat.add_zero] at this
        exact this
    · cases hc
  · cases hc
theorem op_idxa (k : WInv f w T ρ h) (he : Env w T ρ e a) {x y : Operand} {x' y' : At} {t el : TypeId} {n z : Nat} {av : AV} {h' : Heap} (call : Call) (ho : o.op = .indexAddr t x y) (hu : P.underlying t = some (.array n el)) (hz : szT P el = some z) (h1 : ma f.tabs x x' = true) (h2 : ma f.tabs y y' = true)
    (hv : PO.ev call (.idxa n z x' y') e h = some (av, h')) : h' = h ∧ ∃ v, Gives P o a w v ∧ Rv w T ρ av v := by
  have r1 := ma_rv k he h1
  have r2 := ma_rv k he h2
  simp only [PO.ev] at hv
  have fin : ∀ b i j, intV (y'.ev e) = some j → a.eval x = .pointer (some ⟨b, i, none⟩) → 0 ≤ j → j < (n : Int) → Gives P o a w (.pointer (some ⟨b, i + j.toNat * z, none⟩)) := by
    intro b i j hj hx h3 h4
    obtain ⟨q, hy⟩ := intV_i hj r2
    simp only [Gives, execOp, ho, hx, hy, Instr.indexAt, Instr.sureAddr, asIntOf, Sem.run_bind, run_underlying hu w, Result.andThen_ok, Sem.run_pure, run_sizeOf' hz, add_at]
    rw [if_pos ⟨h3, h4⟩]
    simp only [Sem.run_bind, run_sizeOf' hz, Result.andThen_ok, Sem.run_pure, add_at]
  split at hv
  · rename_i j r q c hj hq
    split at hv
    · rename_i hcond
      cases hv
      rw [hq] at r1
      obtain ⟨b, i, hx, h3⟩ := fld_p (d := j.toNat * z) r1
      exact ⟨rfl, _, fin b i j hj hx hcond.1 hcond.2, h3⟩
    · cases hv
  · rename_i j cs c hj hq
    split at hv
    · rename_i hcond
      cases hv
      rw [hq] at r1
      obtain ⟨b, i, hx, h3⟩ := fld_tp (d := j.toNat * z) r1
      exact ⟨rfl, _, fin b i j hj hx hcond.1 hcond.2, h3⟩
    · cases hv
  · cases hv
theorem op_ext (k : WInv f w T ρ h) (he : Env w T ρ e a) {x : Operand} {x' : At} {n : Nat} {av : AV} {h' : Heap} (call : Call) (ho : o.op = .extract x n) (h1 : ma f.tabs x x' = true)
    (hv : PO.ev call (.ext n x') e h = some (av, h')) : h' = h ∧ ∃ v, Gives P o a w v ∧ Rv w T ρ av v := by
  have r1 := ma_rv k he h1
  simp only [PO.ev] at hv
  split at hv
  · rename_i vs hq
    simp only [Option.map_eq_some_iff] at hv
    obtain ⟨c, hc, hcv⟩ := hv
    cases hcv
    rw [hq] at r1
    generalize hx : a.eval x = v at r1
    cases r1 with
    | tup us hl hu =>
      have hlt : n < vs.length := by
        rcases Nat.lt_or_ge n vs.length with h2 | h2
        · exact h2
        · rw [List.getElem?_eq_none h2] at hc; cases hc
      have h2 := hu n hlt
      rw [show vs.getD n .junk = av by rw [List.getD_eq_getElem?_getD, hc]; rfl] at h2
      refine ⟨rfl, us.getD n undef, ?_, h2⟩
      have h3 : us[n]? = some (us.getD n undef) := by
        have : n < us.size := by omega
        simp [this]
      simp only [Gives, execOp, ho, hx, Instr.extract, h3, Sem.run_bind, Sem.run_pure, Result.andThen_ok]
  · cases hv
theorem op_len (k : WInv f w T ρ h) (he : Env w T ρ e a) {x : Operand} {x' : At} {c : Go.Call} {t el : TypeId} {av : AV} {h' : Heap} (call : Call) (ho : o.op = .call c) (hc : c.callee = .builtin .len) (hx : c.args = #[x]) (ht : c.argTypes = #[t]) (hu : P.underlying t = some (.slice el)) (h1 : ma f.tabs x x' = true)
    (hv : PO.ev call (.len x') e h = some (av, h')) : h' = h ∧ ∃ v, Gives P o a w v ∧ Rv w T ρ av v := by
  have r1 := ma_rv k he h1
  simp only [PO.ev, Option.map_eq_some_iff] at hv
  obtain ⟨n, hn, hcv⟩ := hv
  cases hcv
  have fin : ∀ b cap, a.eval x = .slice b n cap → Gives P o a w (.int .i64 (n : Int)) := by
    intro b cap hxv
    simp [Gives, execOp, ho, resolve, hc, hx, ht, invoke, builtin, Builtin.len_, run_underlying hu, hxv, goInt]
  refine ⟨rfl, _, ?_, .i⟩
  unfold lenV at hn
  generalize hxv : a.eval x = v at r1
  split at hn
  · rename_i hq
    rw [hq] at r1
    cases hn
    cases r1 with
    | sl => exact fin _ _ hxv
    | slz => exact fin _ _ hxv
    | slnil => exact fin _ _ hxv
  · rename_i hq
    rw [hq] at r1
    cases hn
    cases r1 with
    | lnil => exact fin _ _ hxv
    | l => exact fin _ _ hxv
  · rename_i hq
    rw [hq] at r1
    cases hn
    cases r1
    exact fin _ _ hxv
  · cases hn
theorem op_slen (k : WInv f w T ρ h) (he : Env w T ρ e a) {x : Operand} {x' : At} {c : Go.Call} {t : TypeId} {av : AV} {h' : Heap} (call : Call) (ho : o.op = .call c) (hc : c.callee = .builtin .len) (hx : c.args = #[x]) (ht : c.argTypes = #[t]) (hu : P.underlying t = some .string) (h1 : ma f.tabs x x' = true)
    (hv : PO.ev call (.slen x') e h = some (av, h')) : h' = h ∧ ∃ v, Gives P o a w v ∧ Rv w T ρ av v := by
  have r1 := ma_rv k he h1
  simp only [PO.ev] at hv
  split at hv
  · rename_i s hq
    cases hv
    rw [hq] at r1
    refine ⟨rfl, .int .i64 (s.size : Int), ?_, .i⟩
    simp [Gives, execOp, ho, resolve, hc, hx, ht, invoke, builtin, Builtin.len_, run_underlying hu, inv_s r1, goInt]
  · cases hv
theorem op_min (k : WInv f w T ρ h) (he : Env w T ρ e a) {x y : Operand} {x' y' : At} {c : Go.Call} {av : AV} {h' : Heap} (call : Call) (ho : o.op = .call c) (hc : c.callee = .builtin .min) (hx : c.args = #[x, y]) (h1 : ma f.tabs x x' = true) (h2 : ma f.tabs y y' = true)
    (hv : PO.ev call (.min x' y') e h = some (av, h')) : h' = h ∧ ∃ v, Gives P o a w v ∧ Rv w T ρ av v := by
  have r1 := ma_rv k he h1
  have r2 := ma_rv k he h2
  simp only [PO.ev] at hv
  split at hv
  · rename_i q n q' m hq hq'
    cases hv
    rw [hq] at r1
    rw [hq'] at r2
    exact ⟨rfl, .int q (if m < n then m else n), by simp [Gives, execOp, ho, resolve, hc, hx, invoke, builtin, Builtin.min_, Builtin.min2, inv_i r1, inv_i r2], .i⟩
  · cases hv
theorem op_max (k : WInv f w T ρ h) (he : Env w T ρ e a) {x y : Operand} {x' y' : At} {c : Go.Call} {av : AV} {h' : Heap} (call : Call) (ho : o.op = .call c) (hc : c.callee = .builtin .max) (hx : c.args = #[x, y]) (h1 : ma f.tabs x x' = true) (h2 : ma f.tabs y y' = true)
    (hv : PO.ev call (.max x' y') e h = some (av, h')) : h' = h ∧ ∃ v, Gives P o a w v ∧ Rv w T ρ av v := by
  have r1 := ma_rv k he h1
  have r2 := ma_rv k he h2
  simp only [PO.ev] at hv
  split at hv
  · rename_i q n q' m hq hq'
    cases hv
    rw [hq] at r1
    rw [hq'] at r2
    exact ⟨rfl, .int q (if m > n then m else n), by simp [Gives, execOp, ho, resolve, hc, hx, invoke, builtin, Builtin.max_, Builtin.max2, inv_i r1, inv_i r2], .i⟩
  · cases hv
theorem op_sidx (k : WInv f w T ρ h) (he : Env w T ρ e a) {x y : Operand} {x' y' : At} {t : TypeId} {av : AV} {h' : Heap} (call : Call) (ho : o.op = .index t x y) (hu : P.underlying t = some .string) (h1 : ma f.tabs x x' = true) (h2 : ma f.tabs y y' = true)
    (hv : PO.ev call (.sidx x' y') e h = some (av, h')) : h' = h ∧ ∃ v, Gives P o a w v ∧ Rv w T ρ av v := by
  have r1 := ma_rv k he h1
  have r2 := ma_rv k he h2
  simp only [PO.ev] at hv
  split at hv
  · rename_i s j hq hj
    split at hv
    · rename_i hcond
      cases hv
      rw [hq] at r1
      obtain ⟨q, hy⟩ := intV_i hj r2
      refine ⟨rfl, .int .u8 _, ?_, .i⟩
      have hg : s[j.toNat]? = some (s[j.toNat]'hcond.2) := getElem?_pos s j.toNat hcond.2
      simp only [Gives, execOp, ho, Instr.index, hy, asIntOf, inv_s r1, Sem.run_bind, Sem.run_pure, Result.andThen_ok, run_underlying hu w, if_pos hcond.1, hg]
    · cases hv
  · cases hv
def mo2 (tabs : List (Nat × List AV)) : Option Operand → Option At → Bool
  | none, none => true
  | some x, some y => ma tabs x y
  | _, _ => false
theorem run_bounds {isS : Bool} {len cap : Nat} {lo hi mx : Option Value} {l u m : Int} (hl : (lo = none ∧ l = 0) ∨ ∃ q, lo = some (.int q l)) (hu : (hi = none ∧ mx = none ∧ u = len) ∨ ∃ q, hi = some (.int q u)) (hm : (mx = none ∧ m = cap) ∨ ∃ q, mx = some (.int q m))
    (h0 : 0 ≤ l) (h1 : l ≤ u) (h2 : u ≤ m) (h3 : m ≤ (cap : Int)) : (Instr.sliceBounds isS len cap lo hi mx).run P w = .ok (l.toNat, u.toNat, m.toNat) w := by
  have e1 : (m.toNat : Int) = m := Int.toNat_of_nonneg (by omega)
  have e2 : (u.toNat : Int) = u := Int.toNat_of_nonneg (by omega)
  have p1 : 0 ≤ m := by omega
  have p2 : 0 ≤ u := by omega
  rcases hl with ⟨rfl, rfl⟩ | ⟨q, rfl⟩ <;> rcases hm with ⟨rfl, rfl⟩ | ⟨q', rfl⟩ <;> rcases hu with ⟨rfl, h9, rfl⟩ | ⟨q'', rfl⟩ <;> first
    | (cases h9; done)
    | simp [Instr.sliceBounds, Instr.sliceBound, asIntOf, *]
theorem opt_l (k : WInv f w T ρ h) (he : Env w T ρ e a) {lo : Option Operand} {lo' : Option At} {d l : Int} (hm : mo2 f.tabs lo lo' = true) (hl : optI e (some d) lo' = some l) : (lo.map a.eval = none ∧ lo = none ∧ l = d) ∨ ∃ q, lo.map a.eval = some (.int q l) := by
  cases lo with
  | none =>
    cases lo' with
    | none => simp only [optI, Option.some.injEq] at hl; exact .inl ⟨rfl, rfl, hl.symm⟩
    | some y => cases hm
  | some x =>
    cases lo' with
    | none => cases hm
    | some y =>
      obtain ⟨q, hq⟩ := intV_i hl (ma_rv k he hm)
      exact .inr ⟨q, by simp [hq]⟩
theorem op_cut (k : WInv f w T ρ h) (he : Env w T ρ e a) {x : Operand} {x' : At} {lo hi mx : Option Operand} {lo' hi' mx' : Option At} {t el : TypeId} {z : Nat} {av : AV} {h' : Heap} (call : Call) (ho : o.op = .slice t x lo hi mx) (hu : P.underlying t = some (.slice el)) (hz : szT P el = some z)
    (h1 : ma f.tabs x x' = true) (hlo : mo2 f.tabs lo lo' = true) (hhi : mo2 f.tabs hi hi' = true) (hmx : mo2 f.tabs mx mx' = true) (hmh : mx = none ∨ ∃ y, hi = some y)
    (hv : PO.ev call (.cut z x' lo' hi' mx') e h = some (av, h')) : h' = h ∧ ∃ v, Gives P o a w v ∧ Rv w T ρ av v := by
  have r1 := ma_rv k he h1
  simp only [PO.ev, Option.bind_eq_some_iff] at hv
  obtain ⟨l, hl, u, hu', m, hm, hv⟩ := hv
  split at hv
  rotate_left
  · cases hv
  rename_i hmu
  subst hmu
  simp only [Option.map_eq_some_iff] at hv
  obtain ⟨c, hc, hcv⟩ := hv
  cases hcv
  refine ⟨rfl, ?_⟩
  have hL : (lo.map a.eval = none ∧ l = 0) ∨ ∃ q, lo.map a.eval = some (.int q l) := by
    rcases opt_l k he hlo hl with ⟨h2, _, h3⟩ | h2
    · exact .inl ⟨h2, h3⟩
    · exact .inr h2
  have fin : ∀ (ad : Option Addr) (n cap : Nat), a.eval x = .slice ad n cap → lenV (x'.ev e) = some n → n ≤ cap → 0 ≤ l → l ≤ m → m ≤ (n : Int) →
      ∃ mm : Nat, m.toNat ≤ mm ∧ mm ≤ cap ∧ Gives P o a w (.slice (if mm = l.toNat then ad else ad.map (·.add (l.toNat * z))) (m.toNat - l.toNat) (mm - l.toNat)) := by
    intro ad n cap hx hlen hnc g0 g1 g2
    have hU : (hi.map a.eval = none ∧ mx.map a.eval = none ∧ m = n) ∨ ∃ q, hi.map a.eval = some (.int q m) := by
      rw [hlen] at hu'
      rcases opt_l k he hhi hu' with ⟨h2, h3, h4⟩ | h2
      · rcases hmh with rfl | ⟨y, hy⟩
        · exact .inl ⟨h2, rfl, h4⟩
        · rw [h3] at hy; cases hy
      · exact .inr h2
    have hM : ∃ mm : Int, ((mx.map a.eval = none ∧ mm = cap) ∨ ∃ q, mx.map a.eval = some (.int q mm)) ∧ m ≤ mm ∧ mm ≤ (cap : Int) := by
      rcases opt_l k he hmx hm with ⟨h2, _, _⟩ | h2
      · exact ⟨cap, .inl ⟨h2, rfl⟩, by omega, by omega⟩
      · exact ⟨m, .inr h2, by omega, by omega⟩
    obtain ⟨mm, hM, g3, g4⟩ := hM
    have hb := run_bounds (P := P) (w := w) (isS := true) hL hU hM g0 g1 g3 g4
    refine ⟨mm.toNat, by omega, by omega, ?_⟩
    simp only [Gives, execOp, ho, hx, Instr.sliceAt, Instr.slice, Sem.run_bind, run_underlying hu w, Result.andThen_ok, hb, run_sizeOf' hz, Sem.run_pure]
  unfold cutV at hc
  split at hc
  · rename_i r z' ofs n hq
    split at hc
    · rename_i hcond
      obtain ⟨rfl, g0, g1, g2⟩ := hcond
      cases hc
      have hlen : lenV (x'.ev e) = some n := by rw [hq]; rfl
      rw [hq] at r1
      generalize hx : a.eval x = v at r1
      cases r1 with
      | @sl _ _ _ _ _ mx b base cap hr hn hcap hm hs =>
        obtain ⟨mm, g3, g4, hg⟩ := fin _ n cap hx hlen hcap g0 g1 g2
        refine ⟨_, hg, ?_⟩
        split
        · rename_i hml
          have e1 : m.toNat - l.toNat = 0 := by omega
          have e2 : mm - l.toNat = 0 := by omega
          rw [e1, e2]
          exact .slz hr (by omega)
        · obtain ⟨cur, e', fr, hb, hsz⟩ := hs
          simp only [Option.map_some, add_at]
          have := Rv.sl (w := w) (T := T) (ρ := ρ) (o := ofs + l.toNat) (n := m.toNat - l.toNat) (cap := mm - l.toNat) hr (by omega) (by omega) (by omega) ⟨cur, e', fr, hb, Nat.le_trans (Nat.add_le_add_left (Nat.mul_le_mul_right _ (by omega)) _) hsz⟩
          rw [Nat.add_mul, ← Nat.add_assoc] at this
          exact this
      | @slz _ _ _ _ mx b base off hr hn =>
        obtain ⟨mm, g3, g4, hg⟩ := fin _ 0 0 hx hlen (Nat.le_refl _) g0 g1 g2
        refine ⟨_, hg, ?_⟩
        have e0 : l.toNat = 0 := by omega
        have e1 : m.toNat - l.toNat = 0 := by omega
        have e2 : mm = 0 := by omega
        rw [e1, e2, e0]
        exact .slz hr (by omega)
      | slnil hr =>
        obtain ⟨mm, g3, g4, hg⟩ := fin _ 0 0 hx hlen (Nat.le_refl _) g0 g1 g2
        refine ⟨_, hg, ?_⟩
        have e0 : l.toNat = 0 := by omega
        have e1 : m.toNat - l.toNat = 0 := by omega
        have e2 : mm = 0 := by omega
        rw [e1, e2, e0]
        exact .slnil hr
    · cases hc
  · rename_i z' es hq
    split at hc
    · rename_i hcond
      obtain ⟨rfl, g0, g1, g2⟩ := hcond
      cases hc
      have hlen : lenV (x'.ev e) = some es.length := by rw [hq]; rfl
      rw [hq] at r1
      generalize hx : a.eval x = v at r1
      cases r1 with
      | @lnil _ _ ad cap ha hm =>
        obtain ⟨mm, g3, g4, hg⟩ := fin _ 0 _ hx hlen (Nat.zero_le _) g0 g1 g2
        refine ⟨_, hg, ?_⟩
        have e0 : l.toNat = 0 := by simp at g2; omega
        have e1 : m.toNat - l.toNat = 0 := by simp at g2; omega
        rw [e1, e0]
        refine .lnil (fun hn => ?_) (by omega)
        have : ad = none := by
          split at hn
          · exact hn
          · simpa using hn
        have := ha this
        omega
      | @l _ _ _ b base cap g hT hb hcap hm hz' hcell hv =>
        obtain ⟨mm, g3, g4, hg⟩ := fin _ es.length cap hx hlen hcap g0 g1 g2
        refine ⟨_, hg, ?_⟩
        have hlen2 : ((es.drop l.toNat).take (m.toNat - l.toNat)).length = m.toNat - l.toNat := by rw [List.length_take, List.length_drop]; omega
        split
        · rename_i hml
          have e1 : m.toNat - l.toNat = 0 := by omega
          have e2 : mm - l.toNat = 0 := by omega
          rw [e1, e2, List.take_zero]
          exact Rv.l (es := []) (fun _ _ => undef) hT hb (Nat.zero_le _) (Nat.zero_le _) (fun j hj => by cases hj) (fun j c hj => by cases hj) (fun j c hj => by cases hj)
        · simp only [Option.map_some, add_at]
          have key : ∀ j c, base + l.toNat * z' + j * z' + c = base + (l.toNat + j) * z' + c := by intro j c; rw [Nat.add_mul]; omega
          have := Rv.l (w := w) (T := T) (ρ := ρ) (z := z') (es := (es.drop l.toNat).take (m.toNat - l.toNat)) (b := b) (base := base + l.toNat * z') (cap := mm - l.toNat) (fun j c => g (l.toNat + j) c) hT hb (by rw [hlen2]; omega) (by omega)
            (fun j hj => by rw [hlen2] at hj; rw [getD_drop_take _ _ _ _ _ hj]; exact hz' _ (by omega))
            (fun j c hj hc => by rw [hlen2] at hj; rw [key]; exact hcell _ c (by omega) hc)
            (fun j c hj hc => by rw [hlen2] at hj; rw [getD_drop_take _ _ _ _ _ hj]; exact hv _ c (by omega) hc)
          rw [hlen2] at this
          exact this
    · cases hc
  · rename_i z' hq
    split at hc
    · rename_i hcond
      obtain ⟨rfl, rfl⟩ := hcond
      cases hc
      have hlen : lenV (x'.ev e) = some 0 := by rw [hq]; rfl
      rw [hq] at r1
      generalize hx : a.eval x = v at r1
      cases r1
      obtain ⟨mm, g3, g4, hg⟩ := fin _ 0 0 hx hlen (Nat.le_refl _) (Int.le_refl _) (Int.le_refl _) (Int.le_refl _)
      refine ⟨_, hg, ?_⟩
      have e2 : mm = 0 := by omega
      rw [e2]
      exact .ns
    · cases hc
  · cases hc
end
end Go.Pe
set_option linter.unusedVariables false
set_option linter.unusedSimpArgs false
namespace Go.Pe
open Go
def Turns (P : Program) (f : Fr) (o : Oper) (a : Act) (w : World) (T : Nat → Prop) (ρ : Rho) (av : AV) (h' : Heap) : Prop :=
  ∃ v w' T' ρ', ((execOp a.eval o).run P w = .ok (.value v) w' ∨ ((execOp a.eval o).run P w = .ok .skip w' ∧ v = undef)) ∧ WInv f w' T' ρ' h' ∧ Goes w w' T T' ρ ρ' ∧ Rv w' T' ρ' av v
section
variable {P : Program} {f : Fr} {w : World} {T : Nat → Prop} {ρ : Rho} {h : Heap} {e : Nat → AV} {a : Act} {o : Oper}
theorem cell_new (w : World) (c : Array Value) (t : TypeId) (i : Nat) : (w.alloc (.cells c t)).cell? ⟨w.heap.size, i, none⟩ = c[i]? := World.cell?_alloc_new w c t i
theorem new_st (k : WInv f w T ρ h) {id : Nat} (hid : h id = none) {cs : List AV} {vs : Array Value} {t : TypeId} (hl : vs.size = cs.length)
    (hv : ∀ c, c < cs.length → Rv w T ρ (cs.getD c .junk) (vs.getD c undef) ∧ (vs.getD c undef).oneCell' = true) :
    ∃ T' ρ', WInv f (w.alloc (.cells vs t)) T' ρ' (h.put id (.st cs)) ∧ Goes w (w.alloc (.cells vs t)) T T' ρ ρ' ∧ Rv (w.alloc (.cells vs t)) T' ρ' (.p id 0 0) (.pointer (some ⟨w.heap.size, 0, none⟩)) := by
  have ho := Old.alloc w (.cells vs t)
  obtain ⟨k', g⟩ := k.new ho hid (x := .st cs) (z := cs.length) (n := 1) (base := 0) (b := w.heap.size) (by simp) (Nat.le_refl _) (by simp) (fun T' ρ' ht hless hmore hρ => by
    refine ⟨w.heap.size, 0, vs, t, hρ, ht, heap_alloc_new w _, by omega, ⟨fun j hj => ?_, fun j c hj hc => ?_⟩⟩
    · cases j with
      | zero => rfl
      | succ j => simp at hj
    · cases j with
      | zero =>
        have h1 : vs[c]? = some (vs.getD c undef) := by
          have : c < vs.size := by omega
          simp [this]
        refine ⟨vs.getD c undef, ?_, (hv c hc).2, (hv c hc).1.mono (ho.same T) hless hmore⟩
        rw [Nat.zero_mul, Nat.add_zero, Nat.zero_add, cell_new, h1]
      | succ j => simp at hj)
  refine ⟨_, _, k', g, ?_⟩
  have := Rv.p (w := w.alloc (.cells vs t)) (T := fun a => T a ∨ a = w.heap.size) (ρ := fun r => if r = id then some ⟨cs.length, 1, some (w.heap.size, 0)⟩ else ρ r) (e := 0) (o := 0) (if_pos rfl)
  simpa using this
theorem op_alloc (k : WInv f w T ρ h) {t : TypeId} {i : TypeInfo} {zv : Value} {id : Nat} {z : List AV} {av : AV} {h' : Heap} (call : Call) (ho : o.op = .alloc t) (hi : P.info? t = some i) (hz : i.zero = some zv) (hm : mvs zv.cells.toList z = true)
    (hv : PO.ev call (.alloc id z) e h = some (av, h')) : Turns P f o a w T ρ av h' := by
  simp only [PO.ev] at hv
  split at hv
  · rename_i hid
    cases hv
    obtain ⟨h1, h2⟩ := mvs_rv (w := w) (T := T) (ρ := ρ) hm
    obtain ⟨T', ρ', k', g, r⟩ := new_st (t := t) k (by simpa using hid) (cs := z) (vs := zv.cells) (by rw [← h1]; simp) fun c hc => by rw [toList_getD]; exact h2 c hc
    refine ⟨_, _, T', ρ', .inl ?_, k', g, r⟩
    simp [execOp, ho, Instr.alloc, run_zeroValue hi hz, newVar, newRow]
  · cases hv
theorem cells_rv {x : AV} {v : Value} (r : Rv w T ρ x v) (hp0 : 0 < x.cells.length) : v.cells.size = x.cells.length ∧ ∀ c, c < x.cells.length → Rv w T ρ (x.cells.getD c .junk) (v.cells.getD c undef) ∧ (v.cells.getD c undef).oneCell' = true := by
  have one : ∀ {y : AV} {u : Value}, Rv w T ρ y u → y.cells = [y] → u.cells = #[u] → u.oneCell' = true → u.cells.size = y.cells.length ∧ ∀ c, c < y.cells.length → Rv w T ρ (y.cells.getD c .junk) (u.cells.getD c undef) ∧ (u.cells.getD c undef).oneCell' = true := by
    intro y u hr h1 h2 h3
    rw [h1, h2]
    refine ⟨rfl, fun c hc => ?_⟩
    cases c with
    | zero => exact ⟨hr, h3⟩
    | succ c => simp at hc
  cases r with
  | agg vs hl h1 hv => exact ⟨hl, fun c hc => ⟨hv c hc, h1 c hc⟩⟩
  | junk => simp [AV.cells] at hp0
  | tup => simp [AV.cells] at hp0
  | b => exact one .b rfl rfl rfl
  | i => exact one .i rfl rfl rfl
  | s => exact one .s rfl rfl rfl
  | np => exact one .np rfl rfl rfl
  | ns => exact one .ns rfl rfl rfl
  | lnil ha hm => exact one (.lnil ha hm) rfl rfl rfl
  | l g hT hb hc hm hz hcell hv => exact one (.l g hT hb hc hm hz hcell hv) rfl rfl rfl
  | tp g hT hb hcell hv => exact one (.tp g hT hb hcell hv) rfl rfl rfl
  | sl hr hn hc hm hs => exact one (.sl hr hn hc hm hs) rfl rfl rfl
  | slz hr hn => exact one (.slz hr hn) rfl rfl rfl
  | slnil hr => exact one (.slnil hr) rfl rfl rfl
  | p hr => exact one (.p hr) rfl rfl rfl
theorem op_box (k : WInv f w T ρ h) (he : Env w T ρ e a) {t : TypeId} {x : Operand} {x' : At} {id sz : Nat} {av : AV} {h' : Heap} (call : Call) (ho : o.op = .box t x) (hsz : 0 < sz) (h1 : ma f.tabs x x' = true)
    (hv : PO.ev call (.box id sz x') e h = some (av, h')) : Turns P f o a w T ρ av h' := by
  have r1 := ma_rv k he h1
  simp only [PO.ev] at hv
  split at hv
  · rename_i hid
    cases hv
    obtain ⟨h2, h3⟩ := cells_rv r1 (by omega)
    obtain ⟨T', ρ', k', g, r⟩ := new_st (t := t) k (by simpa using hid.2) (cs := (x'.ev e).cells) (vs := (a.eval x).cells) h2 h3
    refine ⟨_, _, T', ρ', .inl ?_, k', g, r⟩
    simp [execOp, ho, Instr.box, newVar, newRow]
  · cases hv
theorem new_sl (k : WInv f w T ρ h) {w' : World} (ho : Old w w') {id : Nat} (hid : h id = none) {z : Nat} {es : List (List AV)} {cur : Array Value} {t : TypeId} {b : Nat} (hb : w.heap.size ≤ b) (hcur : w'.heap[b]? = some (Obj.cells cur t (0, 0))) (hsz : es.length * z ≤ cur.size) {cap : Nat} (hcap : es.length ≤ cap) (hm : cap ≤ maxLen) (hcs : cap * z ≤ cur.size)
    (hl : ∀ j, j < es.length → (es.getD j []).length = z) (hv : ∀ j c, j < es.length → c < z → Rv w T Rho.none ((es.getD j []).getD c .junk) (cur.getD (j * z + c) undef) ∧ (cur.getD (j * z + c) undef).oneCell' = true) :
    ∃ T' ρ', WInv f w' T' ρ' (h.put id (.sl true z es)) ∧ Goes w w' T T' ρ ρ' ∧ Rv w' T' ρ' (.sl id z 0 es.length) (.slice (some ⟨b, 0, none⟩) es.length cap) := by
  have hlt := lt_of_cells hcur
  obtain ⟨k', g⟩ := k.new ho hid (x := .sl true z es) (z := z) (n := es.length) (base := 0) (b := b) (by omega) hb hlt (fun T' ρ' ht hless hmore hρ => by
    refine .inr ⟨b, 0, cur, t, hρ, ht, hcur, by omega, fun _ => rfl, ⟨hl, fun j c hj hc => ?_⟩⟩
    have hlt2 : j * z + c < cur.size := by
      have := Nat.mul_le_mul_right z (show j + 1 ≤ es.length by omega)
      rw [Nat.add_mul] at this
      omega
    have h1 : cur[j * z + c]? = some (cur.getD (j * z + c) undef) := by simp [hlt2]
    refine ⟨cur.getD (j * z + c) undef, ?_, (hv j c hj hc).2, (hv j c hj hc).1.mono (ho.same T) hless fun _ _ h => h⟩
    simp only [World.cell?, hcur, Nat.zero_add]
    exact h1)
  refine ⟨_, _, k', g, ?_⟩
  have := Rv.sl (w := w') (T := fun a => T a ∨ a = b) (ρ := fun r => if r = id then some ⟨z, es.length, some (b, 0)⟩ else ρ r) (r := id) (o := 0) (n := es.length) (cap := cap) (if_pos rfl) (by omega) hcap hm ⟨cur, t, (0, 0), hcur, by rw [Nat.zero_add, Nat.zero_add]; exact hcs⟩
  simpa using this
theorem getD_replicate {α : Type} (n : Nat) (x d : α) (j : Nat) (hj : j < n) : (List.replicate n x).getD j d = x := by
  rw [List.getD_eq_getElem?_getD, List.getElem?_replicate, if_pos hj]; rfl
theorem made_getD (z : Array Value) (n j c : Nat) (hc : c < z.size) (hj : j * z.size + c < n) : (madeCells z n).getD (j * z.size + c) undef = z.getD c undef := by
  unfold madeCells
  have h0 : (j * z.size + c) % z.size = c := by rw [Nat.mul_comm, Nat.mul_add_mod, Nat.mod_eq_of_lt hc]
  have h1 : ((Array.range n).map (fun i => z[i % z.size]!))[j * z.size + c]? = some (z[c]!) := by
    rw [Array.getElem?_map, Array.getElem?_range]
    simp [hj, h0]
  rw [show ((Array.range n).map (fun i => z[i % z.size]!)).getD (j * z.size + c) undef = z[c]! by
    rw [← Array.getElem?_eq_some_iff.1 h1 |>.2]
    simp [hj]]
  simp [hc]
theorem op_mk (k : WInv f w T ρ h) (he : Env w T ρ e a) {t el : TypeId} {i : TypeInfo} {zv : Value} {x : Operand} {x' : At} {id sz bytes : Nat} {z : List AV} {av : AV} {h' : Heap} (call : Call) (ho : o.op = .makeSlice t x x) (hu : P.underlying t = some (.slice el)) (hi : P.info? el = some i) (hz : i.zero = some zv)
    (hsz : i.size = sz) (hpos : 0 < sz) (hby : i.bytes = bytes) (hbp : 0 < bytes) (hm : mvs zv.cells.toList z = true) (hzl : z.length = sz) (h1 : ma f.tabs x x' = true)
    (hv : PO.ev call (.mk id sz bytes z x') e h = some (av, h')) : Turns P f o a w T ρ av h' := by
  have r1 := ma_rv k he h1
  simp only [PO.ev] at hv
  split at hv
  · rename_i n hq
    split at hv
    · rename_i hcond
      obtain ⟨g0, g1, hid⟩ := hcond
      cases hv
      rw [hq] at r1
      obtain ⟨h2, h3⟩ := mvs_rv (w := w) (T := T) (ρ := Rho.none) hm
      have hzs : zv.cells.size = sz := by rw [← hzl, ← h2]; simp
      have hnb : (i.bytes : Int) * n ≤ 281474976710656 := by
        rw [hby]
        have : ((n.toNat * bytes : Nat) : Int) ≤ 281474976710656 := Int.ofNat_le.2 g1
        rw [Int.natCast_mul, Int.toNat_of_nonneg g0, Int.mul_comm] at this
        exact this
      have hn63 : n.toNat ≤ 281474976710656 := Nat.le_trans (Nat.le_mul_of_pos_right _ hbp) g1
      have hr := run_make (P := P) w t el i zv hu hi hz .i64 .i64 n n g0 (Int.le_refl _) hnb (by omega)
      rw [hsz] at hr
      have hcurs : (madeCells zv.cells (n.toNat * sz)).size = n.toNat * sz := size_madeCells _ _
      obtain ⟨T', ρ', k', g, r⟩ := new_sl (w' := w.alloc (.cells (madeCells zv.cells (n.toNat * sz)) el)) (t := el) k (Old.alloc w _) (by simpa using hid) (z := sz) (es := List.replicate n.toNat z) (Nat.le_refl _) (heap_alloc_new w _) (by rw [List.length_replicate, hcurs]; exact Nat.le_refl _) (cap := n.toNat) (by rw [List.length_replicate]; exact Nat.le_refl _) (by simp only [maxLen]; omega) (by rw [hcurs]; exact Nat.le_refl _)
        (fun j hj => by rw [List.length_replicate] at hj; rw [getD_replicate _ _ _ _ hj]; exact hzl)
        (fun j c hj hc => by
          rw [List.length_replicate] at hj
          rw [getD_replicate _ _ _ _ hj]
          have hlt : j * sz + c < n.toNat * sz := by
            have := Nat.mul_le_mul_right sz (show j + 1 ≤ n.toNat by omega)
            rw [Nat.add_mul] at this
            omega
          have := made_getD zv.cells (n.toNat * sz) j c (by omega) (by rw [hzs]; exact hlt)
          rw [hzs] at this
          rw [this, toList_getD]
          exact h3 c (by omega))
      rw [List.length_replicate] at r
      refine ⟨_, _, T', ρ', .inl ?_, k', g, r⟩
      simp only [execOp, ho, inv_i r1, Sem.run_bind, hr, Result.andThen_ok, Sem.run_pure]
    · cases hv
  · cases hv
end
end Go.Pe
set_option linter.unusedVariables false
set_option linter.unusedSimpArgs false
namespace Go.Pe
open Go
def mparts (tabs : List (Nat × List AV)) : List (Nat × Operand) → List (Nat × At) → Bool
  | [], [] => true
  | (i, x) :: l, (j, y) :: m => i == j && ma tabs x y && mparts tabs l m
  | _, _ => false
def laid (off : Nat) (vs : Array Value) (C : Array Value) : Array Value := vs.zipIdx.foldl (fun cs (c, j) => cs.setIfInBounds (off + j) c) C
theorem laid_list (off : Nat) : ∀ (l : List Value) (k : Nat) (C : Array Value),
    ((l.zipIdx k).foldl (fun cs (p : Value × Nat) => cs.setIfInBounds (off + p.2) p.1) C).size = C.size ∧
    ∀ m, ((l.zipIdx k).foldl (fun cs (p : Value × Nat) => cs.setIfInBounds (off + p.2) p.1) C)[m]? = if off + k ≤ m ∧ m < off + k + l.length ∧ m < C.size then l[m - (off + k)]? else C[m]?
  | [], k, C => ⟨rfl, fun m => by simp; intro h1 h2; omega⟩
  | v :: l, k, C => by
    obtain ⟨h1, h2⟩ := laid_list off l (k + 1) (C.setIfInBounds (off + k) v)
    simp only [List.zipIdx_cons, List.foldl_cons]
    refine ⟨by rw [h1]; simp, fun m => ?_⟩
    rw [h2]
    simp only [Array.size_setIfInBounds, List.length_cons]
    by_cases hm : m = off + k
    · subst hm
      rw [if_neg (by omega)]
      by_cases hs : off + k < C.size
      · rw [if_pos (by omega), Array.getElem?_setIfInBounds_self_of_lt hs]
        simp
      · rw [if_neg (by omega), Array.getElem?_eq_none (by simp; omega), Array.getElem?_eq_none (by omega)]
    · by_cases hin : off + (k + 1) ≤ m ∧ m < off + (k + 1) + l.length ∧ m < C.size
      · rw [if_pos hin, if_pos (by omega), show m - (off + k) = (m - (off + (k + 1))) + 1 by omega, List.getElem?_cons_succ]
      · rw [if_neg hin, if_neg (by omega), Array.getElem?_setIfInBounds_ne (by omega)]
theorem laid_get (off : Nat) (vs C : Array Value) : (laid off vs C).size = C.size ∧ ∀ m, (laid off vs C)[m]? = if off ≤ m ∧ m < off + vs.size ∧ m < C.size then vs[m - off]? else C[m]? := by
  have h := laid_list off vs.toList 0 C
  have e : laid off vs C = ((vs.toList.zipIdx 0).foldl (fun cs (p : Value × Nat) => cs.setIfInBounds (off + p.2) p.1) C) := by
    unfold laid
    rw [← Array.foldl_toList]
    rw [Array.toList_zipIdx]
  rw [e]
  refine ⟨h.1, fun m => ?_⟩
  rw [h.2 m]
  simp
theorem fill_cons (place : Nat → Option (Nat × Nat)) (C : Array Value) (i : Nat) (v : Value) (rest : List (Nat × Value)) {off sz : Nat} (hp : place i = some (off, sz)) (h1 : v.cells.size = sz) (h2 : off + sz ≤ C.size) :
    Instr.fill place C ((i, v) :: rest) = Instr.fill place (laid off v.cells C) rest := by
  simp only [Instr.fill, hp, h1, laid]
  rw [if_neg]
  simp only [ne_eq, not_true_eq_false, decide_false, Bool.false_or, decide_eq_true_eq, Bool.or_eq_true, false_or]
  omega
section
variable {P : Program} {f : Fr} {w : World} {T T' : Nat → Prop} {ρ : Rho} {h : Heap} {e : Nat → AV} {a : Act} {o : Oper}
structure Good (w : World) (T : Nat → Prop) (n z : Nat) (L : List (List AV)) (C : Array Value) : Prop where
  len : L.length = n
  size : C.size = n * z
  el : ∀ j, j < n → (L.getD j []).length = z
  rv : ∀ j c, j < n → c < z → Rv w T Rho.none ((L.getD j []).getD c .junk) (C.getD (j * z + c) undef) ∧ (C.getD (j * z + c) undef).oneCell' = true
theorem getD_of {C : Array Value} {m : Nat} {v : Value} (h : C[m]? = some v) : C.getD m undef = v := by
  have := (Array.getElem?_eq_some_iff.1 h)
  simp [this.1, this.2]
theorem in_row {n z j c : Nat} (hj : j < n) (hc : c < z) : j * z + c < n * z := by
  have := Nat.mul_le_mul_right z (show j + 1 ≤ n by omega)
  rw [Nat.add_mul] at this
  omega
theorem other_row {z i j c : Nat} (hne : i ≠ j) (hc : c < z) : ¬ (i * z ≤ j * z + c ∧ j * z + c < i * z + z) := by
  rintro ⟨h1, h2⟩
  rcases Nat.lt_or_gt_of_ne hne with h3 | h3
  · have := Nat.mul_le_mul_right z (show i + 1 ≤ j by omega)
    rw [Nat.add_mul] at this
    omega
  · have := Nat.mul_le_mul_right z (show j + 1 ≤ i by omega)
    rw [Nat.add_mul] at this
    omega
theorem getD_set_same {α : Type} {L : List α} {j : Nat} (x d : α) (h : j < L.length) : (L.set j x).getD j d = x := by
  rw [List.getD_eq_getElem?_getD, List.getElem?_set_self h]; rfl
theorem getD_set_other {α : Type} {L : List α} {i j : Nat} (x d : α) (h : i ≠ j) : (L.set i x).getD j d = L.getD j d := by
  rw [List.getD_eq_getElem?_getD, List.getElem?_set_ne h, ← List.getD_eq_getElem?_getD]
theorem Good.part {n z : Nat} {L : List (List AV)} {C : Array Value} (g : Good w T n z L C) {j : Nat} (hj : j < n) {cs : List AV} {vs : Array Value} (hl : vs.size = z) (hc : cs.length = z) (hv : ∀ c, c < z → Rv w T Rho.none (cs.getD c .junk) (vs.getD c undef) ∧ (vs.getD c undef).oneCell' = true) :
    Good w T n z (L.set j cs) (laid (j * z) vs C) := by
  obtain ⟨h1, h2⟩ := laid_get (j * z) vs C
  refine ⟨by rw [List.length_set]; exact g.len, h1.trans g.size, fun i hi => ?_, fun i c hi hc' => ?_⟩
  · by_cases hij : j = i
    · subst hij
      rw [getD_set_same _ _ (by rw [g.len]; exact hj)]
      exact hc
    · rw [getD_set_other _ _ hij]
      exact g.el i hi
  · have hlt := in_row hi hc'
    by_cases hij : j = i
    · subst hij
      rw [getD_set_same _ _ (by rw [g.len]; exact hj)]
      have : (laid (j * z) vs C)[j * z + c]? = some (vs.getD c undef) := by
        rw [h2, if_pos (by rw [g.size]; omega), Nat.add_sub_cancel_left]
        have : c < vs.size := by omega
        simp [this]
      rw [getD_of this]
      exact hv c hc'
    · rw [getD_set_other _ _ hij]
      have : (laid (j * z) vs C)[i * z + c]? = some (C.getD (i * z + c) undef) := by
        rw [h2, if_neg (fun hh => other_row hij hc' ⟨hh.1, by omega⟩)]
        have : i * z + c < C.size := by rw [g.size]; exact hlt
        simp [this]
      rw [getD_of this]
      exact g.rv i c hi hc'
theorem bsl_fill (k : WInv f w T ρ h) (he : Env w T ρ e a) (hless : ∀ b, b < w.heap.size → T' b → T b) {n z : Nat} (hz : 0 < z) : ∀ (parts : List (Nat × Operand)) (ps : List (Nat × At)) (L : List (List AV)) (C : Array Value) {L' : List (List AV)},
    mparts f.tabs parts ps = true → (∀ p ∈ ps, ∀ r ∈ ref1 h (p.2.ev e), ∀ b, rowBlk h ρ r b → ¬ T' b) → Good w T' n z L C → bslV e h z L ps = some L' →
    ∃ C', Instr.fill (fun i => some (i * z, z)) C (parts.map fun p => (p.1, a.eval p.2)) = some C' ∧ Good w T' n z L' C'
  | [], [], L, C, L', _, _, g, hb => by
    simp only [bslV, Option.some.injEq] at hb
    subst hb
    exact ⟨C, rfl, g⟩
  | (i, x) :: parts, (j, y) :: ps, L, C, L', hm, hr, g, hb => by
    simp only [mparts, Bool.and_eq_true, beq_iff_eq] at hm
    obtain ⟨⟨rfl, hm1⟩, hm2⟩ := hm
    simp only [bslV] at hb
    split at hb
    · rename_i hcond
      obtain ⟨c1, c2⟩ := hcond
      have r1 := ma_rv k he hm1
      obtain ⟨h2, h3⟩ := cells_rv r1 (by omega)
      rw [g.len] at c2
      have g' := g.part c2 (vs := (a.eval x).cells) (cs := (y.ev e).cells.map (tellC h)) (by omega) (by rw [List.length_map]; exact c1) fun c hc => by
        rw [getD_map_lt (tellC h) _ c .junk .junk (by omega)]
        obtain ⟨h4, h5⟩ := h3 c (by omega)
        refine ⟨tellC_rv k.rows hless h4 (fun r hr' => hr _ List.mem_cons_self r ?_) (one_of_cell h4 h5).1 (one_of_cell h4 h5).2, h5⟩
        have hmem : (y.ev e).cells.getD c .junk ∈ (y.ev e).cells := getD_mem _ (by omega)
        show r ∈ ref1 h (y.ev e)
        revert hmem hr'
        generalize (y.ev e).cells.getD c .junk = q
        generalize y.ev e = u
        intro hr' hmem
        cases u <;> simp only [AV.cells, List.mem_singleton] at hmem <;> first
          | (subst hmem; exact hr')
          | exact List.mem_flatMap.2 ⟨q, hmem, hr'⟩
          | cases hmem
      obtain ⟨C', h6, h7⟩ := bsl_fill k he hless hz parts ps _ _ hm2 (fun p hp => hr p (List.mem_cons_of_mem _ hp)) g' hb
      refine ⟨C', ?_, h7⟩
      show Instr.fill _ _ ((i, a.eval x) :: _) = _
      rw [fill_cons (fun i => some (i * z, z)) C i (a.eval x) _ rfl (by omega) (by rw [g.size]; have := in_row c2 (show z - 1 < z by omega); omega)]
      exact h6
    · cases hb
  | [], _ :: _, _, _, _, hm, _, _, _ => by simp [mparts] at hm
  | _ :: _, [], _, _, _, hm, _, _, _ => by simp [mparts] at hm
theorem op_bsl (k : WInv f w T ρ h) (he : Env w T ρ e a) {t el : TypeId} {n : Nat} {parts : Array (Nat × Operand)} {i : TypeInfo} {zv : Value} {id sz : Nat} {z : List AV} {ps : List (Nat × At)} {av : AV} {h' : Heap} (call : Call) (ho : o.op = .buildSlice t n parts) (hu : P.underlying t = some (.slice el)) (hi : P.info? el = some i) (hz : i.zero = some zv)
    (hsz : i.size = sz) (hpos : 0 < sz) (hsmall : n * sz ≤ 16777216) (hm : mvs zv.cells.toList z = true) (hzl : z.length = sz) (hp : mparts f.tabs parts.toList ps = true)
    (hv : PO.ev call (.bsl id sz z n ps) e h = some (av, h')) : Turns P f o a w T ρ av h' := by
  simp only [PO.ev] at hv
  split at hv
  · rename_i hid
    simp only [Option.map_eq_some_iff] at hv
    obtain ⟨es, hb, hcv⟩ := hv
    cases hcv
    obtain ⟨T1, k1, g1, hfree, _⟩ := k.freeze (ps.flatMap fun p => ref1 h (p.2.ev e))
    obtain ⟨h2, h3⟩ := mvs_rv (w := w) (T := T1) (ρ := Rho.none) hm
    have hzs : zv.cells.size = sz := by rw [← hzl, ← h2]; simp
    have good0 : Good w T1 n sz (List.replicate n z) (madeCells zv.cells (n * sz)) := by
      refine ⟨List.length_replicate, size_madeCells _ _, fun j hj => by rw [getD_replicate _ _ _ _ hj]; exact hzl, fun j c hj hc => ?_⟩
      rw [getD_replicate _ _ _ _ hj]
      have := made_getD zv.cells (n * sz) j c (by omega) (by rw [hzs]; exact in_row hj hc)
      rw [hzs] at this
      rw [this, toList_getD]
      exact h3 c (by omega)
    obtain ⟨C', hf, gd⟩ := bsl_fill k he g1.less hpos parts.toList ps _ _ hp (fun p hp r hr => hfree r (List.mem_flatMap.2 ⟨p, hp, hr⟩)) good0 hb
    obtain ⟨T2, ρ2, k2, g2, r2⟩ := new_sl (w' := w.alloc (.cells C' el)) (t := el) k1 (Old.alloc w _) (id := id) (by rw [freeze_none]; simpa using hid) (z := sz) (es := es) (Nat.le_refl _) (heap_alloc_new w _) (by rw [gd.size, gd.len]; exact Nat.le_refl _) (cap := n) (by rw [gd.len]; exact Nat.le_refl _) (by have := Nat.le_mul_of_pos_right n hpos; simp only [maxLen]; omega) (by rw [gd.size]; exact Nat.le_refl _)
      (fun j hj => gd.el j (by rw [← gd.len]; exact hj)) (fun j c hj hc => gd.rv j c (by rw [← gd.len]; exact hj) hc)
    rw [gd.len] at r2
    refine ⟨_, _, T2, ρ2, .inl ?_, k2, g1.trans g2, r2⟩
    have hr : (Instr.buildSlice t n (parts.map fun (i, x) => (i, a.eval x))).run P w = .ok (.slice (some ⟨w.heap.size, 0, none⟩) n n) (w.alloc (.cells C' el)) := by
      by_cases hn : n * i.size = 0
      · have hn0 : n = 0 := by
          rcases Nat.mul_eq_zero.1 hn with h9 | h9
          · exact h9
          · omega
        subst hn0
        have hps : parts.toList = [] := by
          cases hpl : parts.toList with
          | nil => rfl
          | cons p l =>
            rw [hpl] at hp
            cases ps with
            | nil => simp [mparts] at hp
            | cons q ps =>
              simp only [bslV, List.replicate_zero, List.length_nil, Nat.not_lt_zero, and_false, if_false] at hb
              cases hb
        have hpa : parts = #[] := by
          apply Array.ext'
          rw [hps]
        subst hpa
        have hC : C' = #[] := by
          apply Array.eq_empty_of_size_eq_zero
          rw [gd.size]; simp
        subst hC
        simp [Instr.buildSlice, run_underlying hu, run_sizeOf' (show szT P el = some i.size by simp [szT, hi]), Instr.fill, newRow]
        have h0 : Array.range 0 = #[] := rfl
        rw [h0, Array.map_empty]
      · refine run_buildSlice w t el n _ C' i zv hu hi hz (by rw [hsz]; omega) hn ?_
        rw [hsz]
        have : (parts.map fun (i, x) => (i, a.eval x)).toList = parts.toList.map fun p => (p.1, a.eval p.2) := by simp
        rw [this]
        exact hf
    simp only [execOp, ho, Sem.run_bind, hr, Result.andThen_ok, Sem.run_pure]
  · cases hv
end
end Go.Pe
set_option linter.unusedVariables false
set_option linter.unusedSimpArgs false
namespace Go.Pe
open Go
section
variable {P : Program} {f : Fr} {w : World} {T T' : Nat → Prop} {ρ : Rho} {h : Heap} {e : Nat → AV} {a : Act} {o : Oper}
theorem run_places (fs : Array Field) (g : Field → Nat) (hs : ∀ x ∈ fs.toList, szT P x.type = some (g x)) : (fs.mapM fun x => (do pure (x.offset, ← sizeOf x.type) : Sem (Nat × Nat))).run P w = .ok (fs.map fun x => (x.offset, g x)) w := by
  have key : ∀ l : List Field, (∀ x ∈ l, szT P x.type = some (g x)) → (l.mapM fun x => (do pure (x.offset, ← sizeOf x.type) : Sem (Nat × Nat))).run P w = .ok (l.map fun x => (x.offset, g x)) w := by
    intro l
    induction l with
    | nil => intro _; simp
    | cons x l ih =>
      intro hl
      simp only [List.mapM_cons, Sem.run_bind, run_sizeOf' (hl x List.mem_cons_self), Result.andThen_ok, Sem.run_pure, ih fun y hy => hl y (List.mem_cons_of_mem _ hy), List.map_cons]
  rw [Array.mapM_eq_mapM_toList, Sem.run_map, key fs.toList hs]
  simp only [Result.andThen_ok]
  congr 1
  apply Array.ext'
  simp
def mfields (P : Program) (tabs : List (Nat × List AV)) (place : Nat → Option (Nat × Nat)) : List (Nat × Operand) → List (Nat × Nat × At) → Bool
  | [], [] => true
  | (i, x) :: l, (off, sz, y) :: m => decide (place i = some (off, sz)) && ma tabs x y && mfields P tabs place l m && decide (0 < sz)
  | _, _ => false
structure GoodB (w : World) (T : Nat → Prop) (ρ : Rho) (z : List AV) (C : Array Value) : Prop where
  size : C.size = z.length
  rv : ∀ c, c < z.length → Rv w T ρ (z.getD c .junk) (C.getD c undef) ∧ (C.getD c undef).oneCell' = true
theorem fillC_get {z cs : List AV} {off : Nat} (hle : off + cs.length ≤ z.length) : (fillC z off cs).length = z.length ∧ ∀ c, (fillC z off cs).getD c .junk = if off ≤ c ∧ c < off + cs.length then cs.getD (c - off) .junk else z.getD c .junk := by
  refine ⟨by simp [fillC]; omega, fun c => ?_⟩
  simp only [fillC, List.getD_eq_getElem?_getD]
  by_cases h1 : c < off
  · rw [if_neg (by omega), List.append_assoc, List.getElem?_append_left (by rw [List.length_take]; omega), List.getElem?_take_of_lt h1]
  · by_cases h2 : c < off + cs.length
    · rw [if_pos (by omega), List.append_assoc, List.getElem?_append_right (by rw [List.length_take]; omega), List.length_take, Nat.min_eq_left (by omega), List.getElem?_append_left (by omega)]
    · rw [if_neg (by omega), List.getElem?_append_right (by rw [List.length_append, List.length_take]; omega), List.getElem?_drop]
      congr 2
      rw [List.length_append, List.length_take]
      omega
theorem GoodB.part {z : List AV} {C : Array Value} (g : GoodB w T ρ z C) {off : Nat} {cs : List AV} {vs : Array Value} (hl : vs.size = cs.length) (hle : off + cs.length ≤ z.length) (hv : ∀ c, c < cs.length → Rv w T ρ (cs.getD c .junk) (vs.getD c undef) ∧ (vs.getD c undef).oneCell' = true) :
    GoodB w T ρ (fillC z off cs) (laid off vs C) := by
  obtain ⟨h1, h2⟩ := laid_get off vs C
  obtain ⟨h3, h4⟩ := fillC_get hle
  refine ⟨by rw [h1, h3, g.size], fun c hc => ?_⟩
  rw [h3] at hc
  rw [h4]
  by_cases hin : off ≤ c ∧ c < off + cs.length
  · rw [if_pos hin]
    have : (laid off vs C)[c]? = some (vs.getD (c - off) undef) := by
      rw [h2, if_pos (by rw [g.size]; omega)]
      have : c - off < vs.size := by omega
      simp [this]
    rw [getD_of this]
    exact hv _ (by omega)
  · rw [if_neg hin]
    have : (laid off vs C)[c]? = some (C.getD c undef) := by
      rw [h2, if_neg (by rw [hl]; omega)]
      have : c < C.size := by rw [g.size]; exact hc
      simp [this]
    rw [getD_of this]
    exact g.rv c hc
theorem build_fill (k : WInv f w T ρ h) (he : Env w T ρ e a) (place : Nat → Option (Nat × Nat)) : ∀ (parts : List (Nat × Operand)) (ps : List (Nat × Nat × At)) (z : List AV) (C : Array Value) {z' : List AV},
    mfields P f.tabs place parts ps = true → GoodB w T ρ z C → buildV e z ps = some z' →
    ∃ C', Instr.fill place C (parts.map fun p => (p.1, a.eval p.2)) = some C' ∧ GoodB w T ρ z' C'
  | [], [], z, C, z', _, g, hb => by
    simp only [buildV, Option.some.injEq] at hb
    subst hb
    exact ⟨C, rfl, g⟩
  | (i, x) :: parts, (off, sz, y) :: ps, z, C, z', hm, g, hb => by
    simp only [mfields, Bool.and_eq_true, decide_eq_true_eq] at hm
    obtain ⟨⟨⟨hp, hm1⟩, hm2⟩, hsz⟩ := hm
    simp only [buildV] at hb
    split at hb
    · rename_i hcond
      obtain ⟨c1, c2⟩ := hcond
      obtain ⟨h2, h3⟩ := cells_rv (ma_rv k he hm1) (by omega)
      have g' := g.part (off := off) (vs := (a.eval x).cells) (cs := (y.ev e).cells) (by omega) (by omega) h3
      obtain ⟨C', h6, h7⟩ := build_fill k he place parts ps _ _ hm2 g' hb
      refine ⟨C', ?_, h7⟩
      show Instr.fill _ _ ((i, a.eval x) :: _) = _
      rw [fill_cons place C i (a.eval x) _ hp (by omega) (by rw [g.size]; omega)]
      exact h6
    · cases hb
  | [], _ :: _, _, _, _, hm, _, _ => by simp [mfields] at hm
  | _ :: _, [], _, _, _, hm, _, _ => by simp [mfields] at hm
theorem GoodB.agg {z : List AV} {C : Array Value} (g : GoodB w T ρ z C) : Rv w T ρ (.agg z) (.agg C) := .agg C g.size (fun c hc => (g.rv c hc).2) fun c hc => (g.rv c hc).1
def placeS (P : Program) (fs : Array Field) (i : Nat) : Option (Nat × Nat) := (fs[i]?).bind fun x => (szT P x.type).map fun n => (x.offset, n)
theorem op_build (k : WInv f w T ρ h) (he : Env w T ρ e a) {t : TypeId} {parts : Array (Nat × Operand)} {i : TypeInfo} {zv : Value} {z : List AV} {ps : List (Nat × Nat × At)} {av : AV} {h' : Heap} (call : Call) (ho : o.op = .build t parts) (hi : P.info? t = some i) (hz : i.zero = some zv) (hm : mvs zv.cells.toList z = true)
    {place : Nat → Option (Nat × Nat)} (hp : mfields P f.tabs place parts.toList ps = true)
    (hk : (∃ fs, P.underlying t = some (.struct fs) ∧ (∀ x ∈ fs.toList, (szT P x.type).isSome = true) ∧ place = placeS P fs) ∨ ∃ n el sz, P.underlying t = some (.array n el) ∧ szT P el = some sz ∧ place = fun i => some (i * sz, sz))
    (hv : PO.ev call (.build z ps) e h = some (av, h')) : h' = h ∧ ∃ v, Gives P o a w v ∧ Rv w T ρ av v := by
  simp only [PO.ev, Option.map_eq_some_iff] at hv
  obtain ⟨cs, hb, hcv⟩ := hv
  cases hcv
  obtain ⟨h2, h3⟩ := mvs_rv (w := w) (T := T) (ρ := ρ) hm
  have g0 : GoodB w T ρ z zv.cells := ⟨by rw [← h2]; simp, fun c hc => by rw [toList_getD]; exact h3 c hc⟩
  obtain ⟨C', hf, gd⟩ := build_fill k he place parts.toList ps z zv.cells hp g0 hb
  refine ⟨rfl, .agg C', ?_, gd.agg⟩
  have hparts : (parts.map fun (i, x) => (i, a.eval x)).toList = parts.toList.map fun p => (p.1, a.eval p.2) := by simp
  rcases hk with ⟨fs, hu, hs, rfl⟩ | ⟨n, el, sz, hu, hs, rfl⟩
  · have hr := run_places (P := P) (w := w) fs (fun x => (szT P x.type).getD 0) fun x hx => by
      obtain ⟨n, hn⟩ := Option.isSome_iff_exists.1 (hs x hx)
      rw [hn]; rfl
    have hpl : (fun i => (fs.map fun x => (x.offset, (szT P x.type).getD 0))[i]?) = placeS P fs := by
      funext i
      simp only [placeS, Array.getElem?_map]
      cases hx : fs[i]? with
      | none => rfl
      | some x =>
        obtain ⟨n, hn⟩ := Option.isSome_iff_exists.1 (hs x (by simpa using Array.mem_of_getElem? hx))
        simp [hn]
    simp only [Gives, execOp, ho, Instr.build, Sem.run_bind, run_zeroValue hi hz, Result.andThen_ok, run_underlying hu w, hr, hpl, hparts, hf, Sem.run_pure]
  · simp only [Gives, execOp, ho, Instr.build, Sem.run_bind, run_zeroValue hi hz, Result.andThen_ok, run_underlying hu w, run_sizeOf' hs, hparts, hf, Sem.run_pure]
end
end Go.Pe
