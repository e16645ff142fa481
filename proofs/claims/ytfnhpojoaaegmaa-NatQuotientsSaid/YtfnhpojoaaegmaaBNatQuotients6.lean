/- Part 6 of the texts of NatQuotients: words, the machine's side of functions (written by a program), plain lemmas. -/
import Derived.Test.YtfnhpojoaaegmaaBNatQuotients5
import Derived.SizedLaws
import Derived.ChangeSlices
namespace Go.Proofs.Ytfnhpojoaaegmaa.V
open Go.RowKit Go.Proofs.Ytfnhpojoaaegmaa.P Go.Proofs.YtfnhpojoaaegmaaW.PrintWords
set_option maxRecDepth 100000 in
theorem awake_f : Ev (fun k => dendronlaw01_awake.f k) true := Ev.of (fun k => dendronlaw01_awake.mono k) (k := 100) (by decide +kernel)
theorem few_f (l : List Int) (n : Nat) : dendronlaw01_few.f l (n : Int) = some (l.take n) := by
  unfold dendronlaw01_few.f
  by_cases h : (l.length : Int) > (n : Int)
  · rw [if_pos h, if_pos (by omega), if_pos (by omega), Int.toNat_natCast]
  · rw [if_neg h, List.take_of_length_le (by omega)]
theorem U_take {l : List Int} (h : U l) (n : Nat) : U (l.take n) := fun x hx => h x (List.mem_of_mem_take hx)
theorem U_wf {l : List Int} (h : ∀ x ∈ l, (Lit.int .u64 x).wf = true) : U l := fun x hx => wf_u64 (h x hx)
theorem take_le (l : List Int) (n : Nat) : (l.take n).length ≤ n := by rw [List.length_take]; omega
theorem LE_W (l : List Int) : LE (W l) ≤ 3 * l.length := Nat.le_trans (LE_L _) (Nat.mul_le_mul_left _ (L_W l))
end Go.Proofs.Ytfnhpojoaaegmaa.V
set_option linter.unusedVariables false
set_option linter.unusedSimpArgs false
namespace Go.Proofs.Ytfnhpojoaaegmaa.V
open Go.RowKit Go.Proofs.Ytfnhpojoaaegmaa.P Go.Proofs.YtfnhpojoaaegmaaW.PrintWords Go.Proofs.YtfnhpojoaaegmaaW.PrintMore
theorem ref_Over_l1 {y r : Nat} (hy : 0 < y) (hy2 : LE y ≤ 1000000000000) (hr : LE r ≤ 1000000000000) (a out : List Int) (i : Nat) (hi : i < out.length) (hlen : out.length ≤ 35184372088832) {res : List Int × List Int}
    (H : Ev (fun k => dendronref01_Over.l0 k a (E y) (out.set i ((r / y : Nat) : Int)) (E (r % y)) ((i : Int) - 1)) res) :
    ∀ (d lo hi : Nat), hi ≤ lo + d → lo < hi → hi ≤ 10000 → y * lo ≤ r → r < y * hi → Ev (fun k => dendronref01_Over.l1 k a (E y) out (E r) (i : Int) (lo : Int) (hi : Int)) res := by
  intro d
  induction d with
  | zero => intro lo hi h1 h2; omega
  | succ d ih =>
    intro lo hi h1 h2 h3 h4 h5
    refine Ev.succ ?_
    by_cases hc : lo + 1 < hi
    · have e1 : ((lo : Int) + (hi : Int)) / 2 = (((lo + hi) / 2 : Nat) : Int) := by omega
      simp (disch := omega) only [dendronref01_Over.l1, w64, if_pos, tdiv_pos, e1]
      clear e1
      have hm : (lo + hi) / 2 < hi := by omega
      have hm2 : lo < (lo + hi) / 2 := by omega
      generalize (lo + hi) / 2 = m at *
      have hl := LE_u64 (n := m) (by omega)
      have hl2 := LE_mul y m
      refine Ev.bind (ref_Small_f (n := m) rfl (by omega)) ?_
      refine Ev.bind (ref_Times_f (by omega)) ?_
      refine Ev.bind (ref_Order_f (by omega) (by omega)) ?_
      have hcm := cmp_le_iff (a := ((y * m : Nat) : Int)) (b := r)
      by_cases hle : y * m ≤ r
      · refine Ev.pos (hcm.2 (by omega)) ?_
        exact ih m hi (by omega) hm h3 hle h5
      · refine Ev.neg (fun h => hle (by have := hcm.1 h; omega)) ?_
        exact ih lo m (by omega) hm2 (by omega) h4 (by omega)
    · have hh : hi = lo + 1 := by omega
      subst hh
      have hq : r / y = lo := Nat.div_eq_of_lt_le (by rw [Nat.mul_comm]; exact h4) (by rw [Nat.mul_comm]; exact h5)
      have hmod : r - y * lo = r % y := by
        have := Nat.div_add_mod r y
        rw [hq] at this
        omega
      rw [hq] at H
      simp (disch := omega) only [dendronref01_Over.l1, w64, if_neg, if_pos]
      have hl := LE_u64 (n := lo) (by omega)
      refine Ev.bind (ref_Small_f (n := lo) rfl (by omega)) ?_
      refine Ev.bind (ref_Times_f (by omega)) ?_
      refine Ev.bind (ref_Minus_f h4 (by omega)) ?_
      rw [hmod, Int.toNat_natCast]
      exact H
theorem vl_drop_E (m w : Nat) : Dg.vl 10000 ((E m).drop w) = ((m / 10000 ^ w : Nat) : Int) := by
  have h := Dg.vl_take_drop 10000 (E m) w
  rw [E_vl] at h
  have h0 := Dg.vl_nonneg ((E_dig m).take w) (by decide)
  have h1 := Dg.vl_lt ((E_dig m).take w) (by decide)
  have h2 := Dg.vl_nonneg ((E_dig m).drop w) (by decide)
  have h3 : 10000 ^ ((E m).take w).length ≤ 10000 ^ w := Nat.pow_le_pow_right (by decide) (by rw [List.length_take]; omega)
  obtain ⟨x, hx⟩ := Int.eq_ofNat_of_zero_le h0
  obtain ⟨y, hy⟩ := Int.eq_ofNat_of_zero_le h2
  rw [hx, hy] at h
  rw [hx] at h1
  have e : ∀ k : Nat, (10000 : Int) ^ k = ((10000 ^ k : Nat) : Int) := fun k => by rw [Int.natCast_pow]; rfl
  rw [e, ← Int.natCast_mul, ← Int.natCast_add] at h
  rw [e] at h1
  have h4 : m = x + 10000 ^ w * y := Int.ofNat_inj.1 h
  have h5 : x < 10000 ^ w := Nat.lt_of_lt_of_le (Int.ofNat_lt.1 h1) h3
  rw [hy, h4, Nat.add_mul_div_left _ _ (Nat.pow_pos (by decide)), Nat.div_eq_of_lt h5, Nat.zero_add]
theorem ref_Over_l0 {x y : Nat} (hy : 0 < y) (hx : LE x ≤ 1000000000 ) (hy2 : LE y ≤ 1000000000) :
    ∀ (n : Nat) (out : List Int), n ≤ LE x → out.length = LE x → Dg.Dig 10000 out → Dg.vl 10000 (out.drop n) = ((x / 10000 ^ n / y : Nat) : Int) →
    Ev (fun k => dendronref01_Over.l0 k (E x) (E y) out (E (x / 10000 ^ n % y)) ((n : Int) - 1)) (E (x / y), E (x % y)) := by
  intro n
  have hEx : (E x).length = LE x := rfl
  induction n with
  | zero =>
    intro out hn ho hd hv
    refine Ev.succ ?_
    rw [Nat.pow_zero, Nat.div_one] at hv ⊢
    simp (disch := omega) only [dendronref01_Over.l0, if_neg]
    exact Ev.bind (ref_Trim_f hd (by omega) (by rw [List.drop_zero] at hv; exact hv)) (Ev.ret _)
  | succ n ih =>
    intro out hn ho hd hv
    have hg := E_get x n
    have hsp := Dg.vl_drop_succ 10000 (E x) n
    rw [vl_drop_E, vl_drop_E] at hsp
    have hpp : x / 10000 ^ (n + 1) = x / 10000 ^ n / 10000 := by rw [Nat.pow_succ, Nat.div_div_eq_div_mul]
    refine Ev.succ ?_
    have e0 : ((n + 1 : Nat) : Int) - 1 = (n : Int) := by omega
    rw [e0]
    simp (disch := omega) only [dendronref01_Over.l0, if_pos, List.length_nil, Option.bind_some, List.nil_append, List.length_singleton, rd_nat, List.singleton_append]
    rw [hpp] at hv hsp ⊢
    have hdm := Nat.div_add_mod (x / 10000 ^ n / 10000) y
    have hrl := Nat.mod_lt (x / 10000 ^ n / 10000) hy
    have hLr : LE (x / 10000 ^ n / 10000 % y) ≤ LE y := LE_mono (by omega)
    have hELr : (E (x / 10000 ^ n / 10000 % y)).length = LE (x / 10000 ^ n / 10000 % y) := rfl
    have h10 : x / 10000 ^ n % 10000 = ((E x).getD n 0).toNat := by omega
    have hdm2 := Nat.div_add_mod (x / 10000 ^ n) 10000
    generalize hz : x / 10000 ^ n = z at *
    generalize hr : z / 10000 % y = r at *
    generalize hq : z / 10000 / y = q at *
    refine Ev.pos (by omega) ?_
    have hval : Dg.vl 10000 ((E x).getD n 0 :: E r) = ((z % 10000 + 10000 * r : Nat) : Int) := by
      rw [Dg.vl_cons, E_vl]
      omega
    refine Ev.bind (ref_Trim_f (Dg.Dig.cons hg.1 hg.2 (E_dig r)) (by rw [List.length_cons]; omega) hval) ?_
    -- z = y * (10000 q) + (z % 10000 + 10000 r)
    have hzz : z = z % 10000 + 10000 * r + y * (10000 * q) := by
      have : y * (10000 * q) = 10000 * (y * q) := by rw [Nat.mul_left_comm]
      omega
    have hmod : (z % 10000 + 10000 * r) % y = z % y := by
      conv => rhs; rw [hzz]
      rw [Nat.add_mul_mod_self_left]
    have hdiv : z / y = (z % 10000 + 10000 * r) / y + 10000 * q := by
      conv => lhs; rw [hzz]
      rw [Nat.add_mul_div_left _ _ hy]
    have hlt : z % 10000 + 10000 * r < y * 10000 := by omega
    have hqd : (z % 10000 + 10000 * r) / y < 10000 := (Nat.div_lt_iff_lt_mul hy).2 (by rw [Nat.mul_comm 10000 y]; exact hlt)
    have hLw : LE (z % 10000 + 10000 * r) ≤ LE (y * 10000) := LE_mono (by omega)
    have hLw2 := LE_mul y 10000
    have hLw3 := LE_u64 (n := 10000) (by omega)
    refine ref_Over_l1 hy (by omega) (by omega) _ _ n (by omega) (by omega) ?_ 10000 0 10000 (by omega) (by omega) (by omega) (by omega) hlt
    rw [hmod]
    have := ih (out.set n (((z % 10000 + 10000 * r) / y : Nat) : Int)) (by omega) (by rw [List.length_set]; exact ho) (hd.set _ (Int.natCast_nonneg _) (Int.ofNat_lt.2 hqd)) ?_
    · exact this
    · rw [Dg.vl_drop_succ, Dg.vl_drop_set _ _ _ _ _ (Nat.lt_succ_self _), hv, Dg.getD_set _ _ _ _ (by omega), if_pos rfl, hdiv]
      omega
theorem ref_Over_f {x y : Nat} (hy : y ≠ 0) (hx : LE x ≤ 1000000000) (hy2 : LE y ≤ 1000000000) : Ev (fun k => dendronref01_Over.f k (E x) (E y)) (E (x / y), E (x % y)) := by
  have hEx : (E x).length = LE x := rfl
  unfold dendronref01_Over.f
  rw [hEx]
  refine Ev.pos (by omega) (Ev.pos (by omega) ?_)
  rw [Int.toNat_natCast, w64pred (by omega)]
  have h0 : x / 10000 ^ LE x = 0 := Nat.div_eq_of_lt (LE_lt x)
  have := ref_Over_l0 (y := y) (by omega) hx hy2 (LE x) (List.replicate (LE x) 0) (Nat.le_refl _) List.length_replicate (Dg.Dig.replicate (by decide) _) (by
    rw [List.drop_of_length_le (by rw [List.length_replicate]; exact Nat.le_refl _), h0, Nat.zero_div]; rfl)
  rwa [h0, Nat.zero_mod, E_zero] at this
end Go.Proofs.Ytfnhpojoaaegmaa.V
namespace Go.Proofs.Ytfnhpojoaaegmaa.Pure
open Go.RowKit Go.Proofs.Ytfnhpojoaaegmaa.P Go.Proofs.Ytfnhpojoaaegmaa.V Go.Proofs.YtfnhpojoaaegmaaW.PrintWords
theorem NatQuotients : dendronlaw01_NatQuotients.Pure := by
  intro l0 l1 _ _ h0 _ _ h1
  have ha := U_take (U_wf h0) 16
  have hb := U_take (U_wf h1) 16
  have la := take_le l0 16
  have lb := take_le l1 16
  apply Ev.ex
  unfold dendronlaw01_NatQuotients.f
  refine Ev.bind1 (few_f l0 16) (Ev.bind1 (few_f l1 16) ?_)
  generalize l0.take 16 = a at *
  generalize l1.take 16 = b at *
  have La := L_W a
  have Lb := L_W b
  have Ea := LE_W a
  have Eb := LE_W b
  refine Ev.bind (nat_DivMod_f ha hb (by omega) (by omega)) ?_
  refine Ev.bind (ref_From_f hb (by omega)) ?_
  by_cases hz : W b = 0
  · rw [if_pos hz, hz, E_zero]
    refine Ev.pos rfl (Ev.pos rfl (Ev.pos rfl (Ev.pos rfl ?_)))
    exact Ev.bind awake_f (Ev.ret _)
  · rw [if_neg hz]
    have hq : L (W a / W b) ≤ L (W a) := L_mono (Nat.div_le_self _ _)
    have hr : L (W a % W b) ≤ L (W b) := L_mono (Nat.le_of_lt (Nat.mod_lt _ (by omega)))
    have hE : (E (W b)).length ≠ 0 := fun h => hz (E_nil.1 (List.eq_nil_of_length_eq_zero h))
    refine Ev.neg (by omega) ?_
    refine Ev.bind (ref_From_f ha (by omega)) ?_
    refine Ev.bind (ref_Over_f hz (by omega) (by omega)) ?_
    refine Ev.pos rfl ?_
    refine Ev.bind (ref_Is_true rfl (by omega)) (Ev.pos rfl ?_)
    refine Ev.bind (ref_Is_true rfl (by omega)) (Ev.pos rfl ?_)
    exact Ev.bind awake_f (Ev.ret _)
end Go.Proofs.Ytfnhpojoaaegmaa.Pure
namespace Go.Proofs.YtfnhpojoaaegmaaW.PrintWords
open Go.ChangeShapes Go.WideShapes
theorem sized_ints {H : Type} {enc : TypeId × Value → H} {P : Program} {W : World} {base : Nat} {spare : Nat → Bool} {held : Bool} {t e : TypeId} {k : IntKind} {a : Option Addr} {len cap : Nat} {d : DataW H} {ps : List MemPlace} {ts : List TypeId} {ds : List (DataW H)} {j : Nat}
    (hsz : (DataW.weightsEach P ts ds).all (· ≤ reachBytes) = true) (ht : ts[j]? = some t) (hd : ds[j]? = some d) (hu : P.underlying t = some (.slice e)) (he : P.underlying e = some (.int k)) (hc : P.cellsOf e = 1) {B : Nat} (hB : P.bytesOf e = B)
    (h : DataW.Trod enc P W base spare held t (.slice a len cap) d ps) : len * B ≤ 140737488351232 := by
  obtain ⟨fuel, hf⟩ := h
  rcases open_ints hu he hc hf with ⟨hcs, _⟩ | ⟨x, l, c, zs, hcs, _, hl, _, hz, hx, _, _⟩
  · simp [Value.cells] at hcs
    obtain ⟨rfl, rfl, rfl⟩ := hcs
    simp
  · simp [Value.cells] at hcs
    obtain ⟨rfl, rfl, rfl⟩ := hcs
    obtain ⟨hx, _⟩ := Prod.mk.inj hx
    subst hx
    have z := sized_slice hsz ht hd hu
    rw [hB] at z
    have hl2 : len ≤ zs.length := by
      rw [hz]
      split
      · exact hl
      · exact Nat.le_refl _
    have h1 : (lits (H := H) k (zs.take len)).length + (lits (H := H) k (zs.drop len)).length = zs.length := by
      simp [lits]
      omega
    rw [h1] at z
    exact Nat.le_trans (Nat.mul_le_mul_right _ hl2) z
end Go.Proofs.YtfnhpojoaaegmaaW.PrintWords
