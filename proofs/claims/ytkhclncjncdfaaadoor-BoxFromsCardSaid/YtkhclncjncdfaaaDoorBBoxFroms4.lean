/- Proved: which entries are from one number on and below another one (up to 3 limbs) is what the program's side tells, for every input. No conditions. -/
import Derived.Test.YtkhclncjncdfaaaDoorBBoxFroms3
import Derived.WideShapes
import Derived.Below
import Derived.Test.YtkhclncjncdfaaaDoorRows
import Derived.WalkKit
import Derived.ProofKit
import Derived.OpenShut
import Derived.ShutString
import Derived.ChangeOld
import Derived.SizedLaws
import Derived.Test.YtkhclncjncdfaaaDoorCards
import Derived.Test.YtkhclncjncdfaaaDoorTie
import Derived.LaidMore
import Derived.Lay
import Derived.SevenTiedAt
import Derived.Stop.Joined
import Derived.Handed
import Derived.LaidLaws
set_option linter.unusedVariables false
set_option linter.unusedSimpArgs false
set_option linter.unusedVariables false
set_option linter.unusedSimpArgs false
namespace Go.Pe
open Go
theorem Old.below {w w' : World} (h : Old w w') : RowKit.Below w.heap.size w w' := ⟨h.os, h.tape, h.output, h.size, h.block⟩
theorem law_calls {P : Program} {F : Fns} {C : Call} {tabs : List (Nat × List AV)} (hC : CallsOk P F tabs C) {g : Nat} {p : PF} (hg : F.1 g = some p) (hl : p.lent = []) (hk : ∀ x ∈ p.res, x.2 ≤ 1) {xs : List AV} {r : AV} (hr : C g xs = some r) {w : World} {vs : Array Value}
    (ht : ∀ q ∈ tabs, Rv w (fun _ => False) Rho.none (.tp q.2 0) (.pointer (some ⟨q.1, 0, none⟩))) (hvl : vs.size = xs.length) (hx : ∀ j, j < xs.length → Rv w (fun _ => False) Rho.none (xs.getD j .junk) (vs.getD j undef)) :
    Calls P (F.2 g) vs w fun e w' => ∃ v, e = .returned v ∧ Old w w' ∧ Rv w' (fun _ => False) Rho.none (demoteT r) v := by
  have hc := hC g p xs r hg hr
  rw [hl] at hc
  have k : WInv ⟨w, fun _ _ => False, fun _ => False, [], fun _ => ⟨0, 0, none⟩, tabs⟩ w (fun _ => False) Rho.none Heap.none :=
    ⟨Keeps.refl _ _, fun b hb => hb.elim, fun _ _ h => (by cases h), fun _ _ => rfl, fun _ _ _ _ _ h => (by cases h), fun _ _ _ _ _ h => (by cases h), fun b hb => hb.elim, fun _ h => (by cases h), fun _ _ _ _ _ _ h => (by cases h), fun b hb => hb.elim, fun _ h => (by cases h), ht⟩
  exact call_told k hk hc hvl hx
theorem law_true {P : Program} {F : Fns} {C : Call} {tabs : List (Nat × List AV)} (hC : CallsOk P F tabs C) {g : Nat} {p : PF} (hg : F.1 g = some p) (hl : p.lent = []) (hk : ∀ x ∈ p.res, x.2 ≤ 1) {xs : List AV} (hr : C g xs = some (.b true)) {w : World} {vs : Array Value}
    (ht : ∀ q ∈ tabs, Rv w (fun _ => False) Rho.none (.tp q.2 0) (.pointer (some ⟨q.1, 0, none⟩))) (hvl : vs.size = xs.length) (hx : ∀ j, j < xs.length → Rv w (fun _ => False) Rho.none (xs.getD j .junk) (vs.getD j undef)) :
    Calls P (F.2 g) vs w fun e w' => e = .returned (.bool true) ∧ RowKit.Below w.heap.size w w' := by
  refine (law_calls hC hg hl hk hr ht hvl hx).mono fun e w' hh => ?_
  obtain ⟨v, rfl, ho, hv⟩ := hh
  have h2 : Rv w' (fun _ => False) Rho.none (.b true) v := hv
  cases h2
  exact ⟨rfl, ho.below⟩
def isStr (P : Program) (t : TypeId) : Bool := match P.underlying t with
  | some (.struct _) => true
  | _ => false
theorem CellsRv.single {w : World} {ks : List CK} {acs : List AV} {v : Value} (h : CellsRv w ks acs [v]) : Rv w (fun _ => False) Rho.none (acs.getD 0 .junk) v := by
  have h2 := h.l2
  exact (h.rv 0 (by simp at h2; omega)).1
theorem arg_rv {H : Type} {enc : TypeId × Value → H} {P : Program} {w : World} {base b0 : Nat} {spare : Nat → Bool} {held : Bool} {r : Reach} {t : TypeId} {v : Value} {d : DataW H} {ps : List MemPlace} {n : Nat} {ks : List CK}
    (hval : Value.okWide P w r b0 t v) (hd : DataW.Trod enc P w base spare held t v d ps) (hty : tyOk P (n + 1) t ks = true) :
    ∃ acs : List AV, acs.length = ks.length ∧ (∀ c, c < ks.length → Fit (ks.getD c default) (acs.getD c .junk)) ∧ Rv w (fun _ => False) Rho.none (if isStr P t then .agg acs else acs.getD 0 .junk) v := by
  obtain ⟨fuel, hf⟩ := hd
  obtain ⟨acs, h⟩ := trod_rv fuel (n + 1) t _ _ ks hf hty
  refine ⟨acs, h.l1, h.fit, ?_⟩
  unfold tyOk at hty
  unfold isStr
  split at hty
  · rename_i hu
    obtain ⟨b, rfl⟩ := WideShapes.okWide_bool hu hval
    rw [hu]
    exact h.single
  · rename_i k k' hu
    obtain ⟨m, rfl⟩ := WideShapes.okWide_int hu hval
    rw [hu]
    exact h.single
  · rename_i hu
    obtain ⟨m, rfl⟩ := WideShapes.okWide_string hu hval
    rw [hu]
    exact h.single
  · rename_i e ds hu
    obtain ⟨a, len, cap, rfl⟩ := WideShapes.okWide_slice hu hval
    rw [hu]
    exact h.single
  · rename_i ks _ _ fs hu
    obtain ⟨cs, rfl, hcs⟩ := WideShapes.okWide_struct hu hval
    rw [hu]
    have h' : CellsRv w ks acs cs.toList := h
    refine .agg cs (by rw [h'.l1, ← h'.l2]; simp) (fun c hc => ?_) fun c hc => ?_
    · rw [toList_getD]; exact (h'.rv c (by rw [← h'.l1]; exact hc)).2
    · rw [toList_getD]; exact (h'.rv c (by rw [← h'.l1]; exact hc)).1
  · cases hty
theorem Fit.inv_int {k : IntKind} {x : AV} (h : Fit (.int k) x) : ∃ n, x = .i k n ∧ (Lit.int k n).wf = true := by cases h; exact ⟨_, rfl, by assumption⟩
theorem Fit.inv_bool {x : AV} (h : Fit .bool x) : ∃ b, x = .b b := by cases h; exact ⟨_, rfl⟩
theorem Fit.inv_sl {ks : List CK} {x : AV} (h : Fit (.sl ks) x) {α : Type} [Inhabited α] (f : α → List AV) (Q : α → Prop) (hf : ∀ acs : List AV, acs.length = ks.length → (∀ c, c < ks.length → Fit (ks.getD c default) (acs.getD c .junk)) → ∃ a, acs = f a ∧ Q a) :
    ∃ l : List α, x = .l ks.length (l.map f) ∧ l.length ≤ maxLen ∧ ∀ a ∈ l, Q a := by
  cases h with
  | @sl _ es hl hz hv =>
    have each : ∀ j, j < es.length → ∃ a, es.getD j [] = f a ∧ Q a := fun j hj => hf _ (hz j hj) fun c hc => hv j c hj hc
    obtain ⟨l, h1, h2⟩ := choose_list (α := α) default each
    have e : es = l.map f := by
      apply List.ext_getElem (by simp [h1])
      intro j hj hj2
      have := (h2 j hj).1
      rw [List.getD_eq_getElem?_getD, List.getElem?_eq_getElem hj, List.getD_eq_getElem?_getD, List.getElem?_eq_getElem (by omega)] at this
      simpa using this
    refine ⟨l, by rw [← e], by omega, fun a ha => ?_⟩
    obtain ⟨j, hj, rfl⟩ := List.getElem_of_mem ha
    have := (h2 j (by omega)).2
    rw [List.getD_eq_getElem?_getD, List.getElem?_eq_getElem hj] at this
    simpa using this
end Go.Pe
set_option linter.unusedVariables false
set_option linter.unusedSimpArgs false
namespace Go.Pe
open Go
theorem maxLen_eq : maxLen = maxL := by decide
abbrev Fits (ks : List CK) (acs : List AV) : Prop := acs.length = ks.length ∧ ∀ c, c < ks.length → Fit (ks.getD c default) (acs.getD c .junk)
theorem Fits.one {k : CK} {acs : List AV} (h : Fits [k] acs) : ∃ x, acs = [x] ∧ Fit k x := by
  obtain ⟨h1, h2⟩ := h
  match acs, h1 with
  | [x], _ => exact ⟨x, rfl, h2 0 (by simp)⟩
theorem Fits.cons {k : CK} {ks : List CK} {acs : List AV} (h : Fits (k :: ks) acs) : ∃ x r, acs = x :: r ∧ Fit k x ∧ Fits ks r := by
  obtain ⟨h1, h2⟩ := h
  match acs, h1 with
  | x :: r, h1 => exact ⟨x, r, rfl, h2 0 (by simp), by simpa using h1, fun c hc => by simpa using h2 (c + 1) (by simpa using hc)⟩
theorem Fits.nil {acs : List AV} (h : Fits [] acs) : acs = [] := List.length_eq_zero_iff.1 h.1
theorem Fits.split {k1 k2 : List CK} {acs : List AV} (h : Fits (k1 ++ k2) acs) : ∃ a b, acs = a ++ b ∧ Fits k1 a ∧ Fits k2 b := by
  obtain ⟨h1, h2⟩ := h
  rw [List.length_append] at h1 h2
  refine ⟨acs.take k1.length, acs.drop k1.length, (List.take_append_drop _ _).symm, ⟨by rw [List.length_take]; omega, fun c hc => ?_⟩, ⟨by rw [List.length_drop]; omega, fun c hc => ?_⟩⟩
  · have := h2 c (by omega)
    rw [List.getD_eq_getElem?_getD, List.getElem?_append_left hc, ← List.getD_eq_getElem?_getD] at this
    rw [show (List.take k1.length acs).getD c AV.junk = acs.getD c AV.junk by rw [List.getD_eq_getElem?_getD, List.getElem?_take_of_lt hc, ← List.getD_eq_getElem?_getD]]
    exact this
  · have := h2 (k1.length + c) (by omega)
    rw [List.getD_eq_getElem?_getD, List.getElem?_append_right (by omega), ← List.getD_eq_getElem?_getD, Nat.add_sub_cancel_left] at this
    rw [show (List.drop k1.length acs).getD c AV.junk = acs.getD (k1.length + c) AV.junk by rw [List.getD_eq_getElem?_getD, List.getElem?_drop, ← List.getD_eq_getElem?_getD]]
    exact this
theorem open_list {ks : List CK} {x : AV} (h : Fit (.sl ks) x) {α : Type} [Inhabited α] (f : α → List AV) (Q : α → Prop) (hf : ∀ acs, Fits ks acs → ∃ a, acs = f a ∧ Q a) : ∃ l : List α, x = .l ks.length (l.map f) ∧ l.length ≤ maxL ∧ ∀ a ∈ l, Q a := by
  obtain ⟨l, h1, h2, h3⟩ := h.inv_sl f Q fun acs h1 h2 => hf acs ⟨h1, h2⟩
  exact ⟨l, h1, by rw [← maxLen_eq]; exact h2, h3⟩
def kN : CK := .sl [.int .u64]
theorem open_N {x : AV} (h : Fit kN x) : ∃ l : List Int, x = .l 1 (l.map u) ∧ U l ∧ l.length ≤ maxL := by
  obtain ⟨l, h1, h2, h3⟩ := open_list h u (fun x => 0 ≤ x ∧ x ≤ 18446744073709551615) fun acs ha => by
    obtain ⟨y, rfl, hy⟩ := ha.one
    obtain ⟨n, rfl, hn⟩ := hy.inv_int
    exact ⟨n, rfl, wf_u64 hn⟩
  exact ⟨l, h1, h3, h2⟩
end Go.Pe
set_option linter.unusedVariables false
set_option linter.unusedSimpArgs false
namespace Go.Pe
open Go
def kQ : List CK := [.bool, kN, kN]
theorem open_Q {acs : List AV} (h : Fits kQ acs) : ∃ x, acs = eQ x ∧ OkQ x := by
  obtain ⟨a, r, rfl, h1, h⟩ := h.cons
  obtain ⟨b, r, rfl, h2, h⟩ := h.cons
  obtain ⟨c, rfl, h3⟩ := h.one
  obtain ⟨q, rfl⟩ := h1.inv_bool
  obtain ⟨l, rfl, g1, g2⟩ := open_N h2
  obtain ⟨d, rfl, g3, g4⟩ := open_N h3
  exact ⟨(q, l, d), rfl, ⟨g1, g2⟩, g3, g4⟩
def kC : List CK := [.bool, .bool, kN, kN]
theorem open_C {acs : List AV} (h : Fits kC acs) : ∃ x, acs = eC x ∧ OkC x := by
  obtain ⟨a, r, rfl, h1, hr⟩ := h.cons
  obtain ⟨m, rfl⟩ := h1.inv_bool
  obtain ⟨x, rfl, g⟩ := open_Q hr
  exact ⟨(m, x), rfl, g⟩
end Go.Pe
namespace Go.Proofs.YtkhclncjncdfaaaDoor.boxFroms
open Go.Pe
open Go.ChangeShapes Go.WideShapes Go.ChangeAt Go.RowKit
set_option linter.unusedVariables false
theorem own : ownKnob Tryd.prog.godebug = none := by kernel_rfl
theorem laidOut : laidOutB Tryd.prog = true := by kernel_rfl
def laid : List (String × DataW Unit) := [("math/bits.deBruijn64tab", Rows.laid_math_bits_deBruijn64tab)]
def tz : List Int := tab0.map fun | .i _ n => n | _ => 0
theorem tab_rv {W : World} (h : laidMetH Tryd.prog laid W) : Rv W (fun _ => False) Rho.none (.tp tab0 0) (.pointer (some ⟨0, 0, none⟩)) := by
  rw [MakeChecks.laidMetH_plain _ _ _ (by kernel_rfl)] at h
  obtain ⟨ps, ⟨g, t, cs, fuel, p, q, hg, ht, hv, hd, _, _⟩, _, _⟩ := h
  obtain rfl := Option.some.inj ((show Tryd.prog.globalNamed "math/bits.deBruijn64tab" = some 0 by kernel_rfl).symm.trans hg)
  obtain rfl := Option.some.inj ((show (Tryd.prog.globals[0]?).map (·.type) = some 176 by kernel_rfl).symm.trans ht)
  obtain ⟨xs, m, _, ex, _, hl, hel⟩ := DataW.trod_array Tryd.underlying176 hd
  have cE : Tryd.prog.cellsOf 5 = 1 := by kernel_rfl
  have hlen : tz.length = 64 := by decide
  have e0 : (xs.map (·.1)) = tz.map fun n => .lit (.int .u8 n) := (DataW.agg.inj (Prod.mk.inj ex).1).symm
  have cell : ∀ r, r < 64 → W.cell? ⟨0, r, none⟩ = some (.int .u8 (tz.getD r 0)) := by
    intro r hr
    have hE := hel r hr
    rw [cE, Nat.mul_one, List.getElem?_eq_getElem (by omega)] at hE
    obtain ⟨z, e1, e2, _⟩ := DataW.trod_int Tryd.underlying5 hE
    have e4 : (xs.map (·.1))[r]? = (tz.map fun n => (DataW.lit (.int .u8 n) : DataW Unit))[r]? := by rw [e0]
    rw [List.getElem?_map, List.getElem?_map, List.getElem?_eq_getElem (by omega : r < xs.length), List.getElem?_eq_getElem (by omega : r < tz.length), e2] at e4
    have hz : z = tz.getD r 0 := by
      simp only [Option.map_some, Option.some.injEq, DataW.lit.injEq, Lit.int.injEq, true_and] at e4
      rw [e4, List.getD, List.getElem?_eq_getElem (by omega : r < tz.length)]; rfl
    rw [World.var?_cell hg hv r, ← hz]
    have : cs.toList[r]? = some (.int .u8 z) := by
      have h0 : ((cs.toList.drop r).take 1)[0]? = some (.int .u8 z) := by rw [e1]; rfl
      simpa using h0
    simpa using this
  have hb : 0 < W.heap.size := by
    have h0 := cell 0 (by decide)
    rcases Nat.lt_or_ge 0 W.heap.size with h | h
    · exact h
    · unfold World.cell? at h0; rw [Array.getElem?_eq_none h] at h0; cases h0
  refine Rv.tp (o := 0) (base := 0) (fun c => .int .u8 (tz.getD c 0)) (fun h => h) hb (fun c hc => ?_) fun c hc => ?_
  · rw [Nat.zero_add]; exact ⟨cell c hc, rfl⟩
  · have e : tab0 = tz.map (AV.i .u8) := rfl
    have hc' : c < tz.length := by rw [hlen]; exact hc
    rw [e, List.getD_eq_getElem?_getD, List.getElem?_map, List.getD_eq_getElem?_getD, List.getElem?_eq_getElem hc']
    exact Rv.i
set_option maxRecDepth 100000 in
theorem lifted (os : Os) (started : os.Started) (H : Type) (enc : TypeId × Value → H) :
    ReturnsInHanded {} Tryd.checked os 3 .any (fun w args => (Rows.boxFromsSpec.pre enc Tryd.prog Tryd.f3 Rows.boxFromsRow.domain false w args ∧ laidMetH Tryd.prog laid w) ∧ sizedMet enc Tryd.prog Tryd.f3 (OpenSpec.ofChange Rows.boxFromsSpec) false w args) (Rows.boxFromsSpec.post enc Tryd.prog Tryd.f3 false true false false) := by
  refine returnsInHanded_of_change_and (C := Tryd.checked) (X := fun w _ => laidMetH Tryd.prog laid w) (fun _ _ _ hh h => h.of_heap hh) own started (by kernel_rfl) Tryd.func3
    (ChangeSpec.witness_shaped (enc := enc) (C := Tryd.checked) (os := os) (X := fun w _ => laidMetH Tryd.prog laid w) false (World.laidAll Tryd.prog os laid) #[.agg #[.bool false, .slice none 0 0, .slice none 0 0], .agg #[.bool false, .slice none 0 0, .slice none 0 0], .agg #[.bool false, .bool false, .slice none 0 0, .slice none 0 0]] 8 (World.laidAll_os _ _ _)
      (World.shaped_of_ZipB (by kernel_rfl) (by kernel_rfl)) (by kernel_rfl) (by kernel_rfl) (by kernel_rfl) (by rw [MakeChecks.laidMetH_plain _ _ _ (by kernel_rfl)]; exact laidMet_laidAll _ (by kernel_rfl) (by kernel_rfl))) ?_
  intro W base args ds gs before hval0 hW hcnd hsz0 hL _
  have hval : ∀ (j : Nat) t v, Tryd.f3.params[j]? = some t → args[j]? = some v → Value.okWide Tryd.prog W .any base t v := hval0
  have hW' := hW
  obtain ⟨p, q, hA0, hV, rfl, hfz, hnd⟩ := hW
  have hA : DataW.TrodAll enc Tryd.prog W 0 (fun _ => true) true Tryd.f3.params.toList args.toList ds p := hA0
  rw [Tryd.params3] at hA hval
  obtain ⟨v0, vs0, d0, ds0, pl0, ql0, hargs, rfl, rfl, h0, r0⟩ := trodAll_cons hA
  obtain ⟨v1, vs1, d1, ds1, pl1, ql1, rfl, rfl, rfl, h1, r1⟩ := trodAll_cons r0
  obtain ⟨v2, vs2, d2, ds2, pl2, ql2, rfl, rfl, rfl, h2, r2⟩ := trodAll_cons r1
  obtain ⟨rfl, rfl, rfl⟩ := trodAll_nil r2
  obtain rfl : args = #[v0, v1, v2] := by cases args; simp_all
  obtain ⟨rfl, rfl⟩ := trodVars_none hV
  have lt0 : ∀ x ∈ pl0, x.block < W.heap.size := by obtain ⟨m, hm⟩ := h0; exact DataW.trod_lt m _ _ _ hm
  obtain ⟨acs0, la0, fa0, rv0⟩ := arg_rv (n := 12) (ks := kQ) (hval 0 27 v0 rfl rfl) h0 (by kernel_rfl)
  rw [show isStr Tryd.prog 27 = true by kernel_rfl] at rv0
  obtain ⟨x0, rfl, ok0⟩ := open_Q ⟨la0, fa0⟩
  have lt1 : ∀ x ∈ pl1, x.block < W.heap.size := by obtain ⟨m, hm⟩ := h1; exact DataW.trod_lt m _ _ _ hm
  obtain ⟨acs1, la1, fa1, rv1⟩ := arg_rv (n := 12) (ks := kQ) (hval 1 27 v1 rfl rfl) h1 (by kernel_rfl)
  rw [show isStr Tryd.prog 27 = true by kernel_rfl] at rv1
  obtain ⟨x1, rfl, ok1⟩ := open_Q ⟨la1, fa1⟩
  have lt2 : ∀ x ∈ pl2, x.block < W.heap.size := by obtain ⟨m, hm⟩ := h2; exact DataW.trod_lt m _ _ _ hm
  obtain ⟨acs2, la2, fa2, rv2⟩ := arg_rv (n := 12) (ks := kC) (hval 2 29 v2 rfl rfl) h2 (by kernel_rfl)
  rw [show isStr Tryd.prog 29 = true by kernel_rfl] at rv2
  obtain ⟨x2, rfl, ok2⟩ := open_C ⟨la2, fa2⟩
  clear hA0 hval0 hsz0
  have hlaw := law_BoxFroms x0 ok0 x1 ok1 x2 ok2
  have hx : ∀ j, j < 3 → Rv W (fun _ => False) Rho.none ([AV.agg (eQ x0), AV.agg (eQ x1), AV.agg (eC x2)].getD j .junk) (#[v0, v1, v2].getD j undef) := by
    intro j hj
    match j, hj with
    | 0, _ => exact rv0
    | 1, _ => exact rv1
    | 2, _ => exact rv2
  refine (law_true (F := (FD, nuD)) callsD (g := 1) (p := p1) rfl rfl (by decide) hlaw (w := W) (vs := #[v0, v1, v2]) (fun q hq => by obtain rfl := List.mem_singleton.1 hq; exact tab_rv hL) rfl hx).mono fun e W' ⟨he, bel⟩ => ?_
  subst he
  exact ⟨_, rfl, _, _, _, [], _, [], hW', trodAll_mk1 (shut_bool Tryd.underlying4 _), (trodAll_cons_mk (Below.trod laidOut (by kernel_rfl) (of_decide_eq_true (by kernel_rfl)) h0 bel lt0) (trodAll_cons_mk (Below.trod laidOut (by kernel_rfl) (of_decide_eq_true (by kernel_rfl)) h1 bel lt1) (trodAll_cons_mk (Below.trod laidOut (by kernel_rfl) (of_decide_eq_true (by kernel_rfl)) h2 bel lt2) trodAll_mk0))), rfl, bel.frame _, fun h => by cases h⟩
theorem over : Rows.boxFromsRow.holds Tryd.pinned (OpenSpec.ofChange Rows.boxFromsSpec) :=
  OpenClaim.holds_of_wide 3 Tryd.f3 rfl rfl rfl rfl rfl rfl rfl ⟨rfl, rfl, rfl, rfl, rfl⟩ rfl rfl rfl rfl rfl (by kernel_rfl) Tryd.func3 (by kernel_rfl)
    (of_decide_eq_true (by kernel_rfl)) (by unfold Func.isWrapper; first | (rw [if_pos (by decide +kernel)]; kernel_rfl) | (rw [if_neg (by decide +kernel)]; exact ⟨rfl, rfl⟩))
    (fun os started H enc _ => lifted os started H enc)
theorem proved : Rows.BoxFromsCardSaid :=
  Claim7.holds_tied_plain_at .later [] [.data] true (true, "ca7753c333c95ae8f012252ec964ad60405cee1a2b465a3c103ac7d30ba861a9") false over (fun _ h => by cases h) (by kernel_rfl) (fun _ h => by cases h) boxFroms_row_tie rfl ⟨rfl, rfl⟩ (by kernel_rfl) rfl
    (fun f fn hf hfn => by
      obtain rfl : f = 3 := Option.some.inj ((show Tryd.prog.funcNamed "dendron/dendronlaw23.BoxFroms" = some 3 by kernel_rfl).symm.trans hf) |>.symm
      obtain rfl : fn = Tryd.f3 := (Option.some.inj (Tryd.func3.symm.trans hfn)).symm
      exact ⟨by kernel_rfl, fun j t ht => by
        rw [Tryd.params3] at ht
        have hm : t ∈ [27, 27, 29] := by simpa using Array.mem_of_getElem? ht
        have hall : ([27, 27, 29].all fun u => !Tryd.prog.wantsStandIn u) = true := by kernel_rfl
        exact (show Tryd.prog.wantsStandIn t = false by simpa using List.all_eq_true.1 hall t hm)⟩)
    (by kernel_rfl)
#print axioms proved
end Go.Proofs.YtkhclncjncdfaaaDoor.boxFroms
namespace Go.Proofs.YtkhclncjncdfaaaDoor
theorem boxFroms_holds : Rows.BoxFromsCardSaid := boxFroms.proved
end Go.Proofs.YtkhclncjncdfaaaDoor
