/- Part 5 of the texts of NatTexts: words, the machine's side of functions (written by a program), plain lemmas. -/
import Derived.Test.YtfnhpojoaaegmaaBNatTexts4
import Derived.Laws.BitsLemmas
import Derived.SizedLaws
import Derived.ChangeSlices
namespace Go.Proofs.Ytfnhpojoaaegmaa.P
open Go.RowKit Go.Proofs.YtfnhpojoaaegmaaW.PrintWords Go.Proofs.YtfnhpojoaaegmaaW.PrintLast Go.Proofs.YtfnhpojoaaegmaaW.PrintMore
set_option linter.unusedVariables false
set_option linter.unusedSimpArgs false
def dendronlaw01_NatTexts.f (k : Nat) (l0 : List Int) : Option (Bool) := (dendronlaw01_few.f l0 30).bind fun t509 => ((dendronref01_From.f k t509).bind fun t512 => ((nat_Print.f k t509).bind fun t515 => ((nat_Parse.f k t515).bind fun bt516 => ((dendronref01_Text.f k t512).bind fun t520 => (if t515.toList = t520.toList then ((nat_Digits.f k t509).bind fun t521 => (if t521 = (t515.size : Int) then (if bt516.2 = 0 then ((dendronref01_Is.f k bt516.1 t512).bind fun t522 => (if t522 = true then ((dendronlaw01_awake.f k).bind fun t523 => (some t523)) else (some false))) else (some false)) else (some false))) else (some false))))))
set_option maxHeartbeats 8000000 in
set_option maxRecDepth 100000 in
theorem dendronlaw01_NatTexts.calls (k : Nat) (A0 : Option Addr) (c0 : Nat) (l0 : List Int) (r : Bool) (w : World) (hr0 : Kd.C (Kd.int .u64) w A0 l0.length l0) (hc0 : l0.length ≤ c0) (h : dendronlaw01_NatTexts.f k l0 = some r) :
    Calls Try.prog 11 #[.slice A0 l0.length c0] w fun e w' => e = .returned (.bool r) ∧ Below w.heap.size w w' := by
  have HR0 := Aside0.mk hr0
  have HC0 := Aside0.mk hc0
  clear hr0 hc0
  have HB := Aside0.mk (Below.refl w.heap.size w)
  have H : ((dendronlaw01_few.f l0 30).bind fun t509 => ((dendronref01_From.f k t509).bind fun t512 => ((nat_Print.f k t509).bind fun t515 => ((nat_Parse.f k t515).bind fun bt516 => ((dendronref01_Text.f k t512).bind fun t520 => (if t515.toList = t520.toList then ((nat_Digits.f k t509).bind fun t521 => (if t521 = (t515.size : Int) then (if bt516.2 = 0 then ((dendronref01_Is.f k bt516.1 t512).bind fun t522 => (if t522 = true then ((dendronlaw01_awake.f k).bind fun t523 => (some t523)) else (some false))) else (some false)) else (some false))) else (some false))))))) = some r := h
  clear h
  replace H := Option.bind_eq_some_iff.mp H
  obtain ⟨t509, A20, H⟩ := H
  replace H : ((dendronref01_From.f k t509).bind fun t512 => ((nat_Print.f k t509).bind fun t515 => ((nat_Parse.f k t515).bind fun bt516 => ((dendronref01_Text.f k t512).bind fun t520 => (if t515.toList = t520.toList then ((nat_Digits.f k t509).bind fun t521 => (if t521 = (t515.size : Int) then (if bt516.2 = 0 then ((dendronref01_Is.f k bt516.1 t512).bind fun t522 => (if t522 = true then ((dendronlaw01_awake.f k).bind fun t523 => (some t523)) else (some false))) else (some false)) else (some false))) else (some false)))))) = some r := H
  have A2 := Aside0.mk A20
  clear A20
  replace H := Option.bind_eq_some_iff.mp H
  obtain ⟨t512, A30, H⟩ := H
  replace H : ((nat_Print.f k t509).bind fun t515 => ((nat_Parse.f k t515).bind fun bt516 => ((dendronref01_Text.f k t512).bind fun t520 => (if t515.toList = t520.toList then ((nat_Digits.f k t509).bind fun t521 => (if t521 = (t515.size : Int) then (if bt516.2 = 0 then ((dendronref01_Is.f k bt516.1 t512).bind fun t522 => (if t522 = true then ((dendronlaw01_awake.f k).bind fun t523 => (some t523)) else (some false))) else (some false)) else (some false))) else (some false))))) = some r := H
  have A3 := Aside0.mk A30
  clear A30
  replace H := Option.bind_eq_some_iff.mp H
  obtain ⟨t515, A40, H⟩ := H
  replace H : ((nat_Parse.f k t515).bind fun bt516 => ((dendronref01_Text.f k t512).bind fun t520 => (if t515.toList = t520.toList then ((nat_Digits.f k t509).bind fun t521 => (if t521 = (t515.size : Int) then (if bt516.2 = 0 then ((dendronref01_Is.f k bt516.1 t512).bind fun t522 => (if t522 = true then ((dendronlaw01_awake.f k).bind fun t523 => (some t523)) else (some false))) else (some false)) else (some false))) else (some false)))) = some r := H
  have A4 := Aside0.mk A40
  clear A40
  replace H := Option.bind_eq_some_iff.mp H
  obtain ⟨⟨t516, t517⟩, A50, H⟩ := H
  replace H : ((dendronref01_Text.f k t512).bind fun t520 => (if t515.toList = t520.toList then ((nat_Digits.f k t509).bind fun t521 => (if t521 = (t515.size : Int) then (if t517 = 0 then ((dendronref01_Is.f k t516 t512).bind fun t522 => (if t522 = true then ((dendronlaw01_awake.f k).bind fun t523 => (some t523)) else (some false))) else (some false)) else (some false))) else (some false))) = some r := H
  have A5 := Aside0.mk A50
  clear A50
  replace H := Option.bind_eq_some_iff.mp H
  obtain ⟨t520, A60, H⟩ := H
  replace H : (if t515.toList = t520.toList then ((nat_Digits.f k t509).bind fun t521 => (if t521 = (t515.size : Int) then (if t517 = 0 then ((dendronref01_Is.f k t516 t512).bind fun t522 => (if t522 = true then ((dendronlaw01_awake.f k).bind fun t523 => (some t523)) else (some false))) else (some false)) else (some false))) else (some false)) = some r := H
  have A6 := Aside0.mk A60
  clear A60
  by_cases c7 : t515.toList = t520.toList
  · rw [if_pos c7] at H
    have c7b0 : (t515.toList == t520.toList) = true := beq_iff_eq.mpr c7
    have c7b1 : (t515.toList != t520.toList) = false := bne_eq_false_iff_eq.mpr c7
    clear c7
    replace H := Option.bind_eq_some_iff.mp H
    obtain ⟨t521, A80, H⟩ := H
    replace H : (if t521 = (t515.size : Int) then (if t517 = 0 then ((dendronref01_Is.f k t516 t512).bind fun t522 => (if t522 = true then ((dendronlaw01_awake.f k).bind fun t523 => (some t523)) else (some false))) else (some false)) else (some false)) = some r := H
    have A8 := Aside0.mk A80
    clear A80
    by_cases c9 : t521 = (t515.size : Int)
    · rw [if_pos c9] at H
      have c9b0 : (t521 == (t515.size : Int)) = true := beq_iff_eq.mpr c9
      have c9b1 : (t521 != (t515.size : Int)) = false := bne_eq_false_iff_eq.mpr c9
      clear c9
      by_cases c10 : t517 = 0
      · rw [if_pos c10] at H
        have c10b0 : (t517 == 0) = true := beq_iff_eq.mpr c10
        have c10b1 : (t517 != 0) = false := bne_eq_false_iff_eq.mpr c10
        clear c10
        replace H := Option.bind_eq_some_iff.mp H
        obtain ⟨t522, A110, H⟩ := H
        replace H : (if t522 = true then ((dendronlaw01_awake.f k).bind fun t523 => (some t523)) else (some false)) = some r := H
        have A11 := Aside0.mk A110
        clear A110
        by_cases c12 : t522 = true
        · subst c12
          have H1 : ((dendronlaw01_awake.f k).bind fun t523 => (some t523)) = some r := by rw [if_pos rfl] at H; exact H
          clear H
          have H := H1
          clear H1
          replace H := Option.bind_eq_some_iff.mp H
          obtain ⟨t523, A130, H⟩ := H
          replace H : (some t523) = some r := H
          have A13 := Aside0.mk A130
          clear A130
          obtain rfl := Option.some.inj H
          go_enter Try.func11, Try.ntmps11
          go_wp2_with (first | ((with_reducible refine gate_callee (f := 30) rfl ?_); refine goesL_ (some 8) rfl rfl Try.func30 (by kernel_rfl) rfl #[.slice A0 l0.length c0, .int .i64 30] rfl (by (try simp only [List.map_toArray, List.map_cons, List.map_nil]); first | done | rfl | (simp only [List.length_drop, List.length_take]; rfl)) ?_; (with_reducible refine (dendronlaw01_few.calls (fun k_ => k_ < w.heap.size) _ _ l0 30 t509 _ ?side1 A2.out).mono ?_); (case side1 => exact Kd.V_mk HC0.out (Kd.F_below (Kd.C_F (Kd.heap_int .u64) HR0.out) (by repeat (first | (with_reducible first | exact HB.out | apply below_alloc | apply pw_below_drewN | apply below_drew1) | exact HB.out)))); rintro e w14 ⟨v510, rfl, ho0, hb⟩; refine ⟨_, rfl, ?_⟩; have n0_ := Aside0.mk (Kd.V_lower (Kd.V_mono (ok' := fun k_ => True) ho0 (fun k_ hk_ => trivial)) (below_size (by repeat (first | (with_reducible first | exact HB.out | apply below_alloc | apply pw_below_drewN | apply below_drew1) | exact HB.out)))); have n1_ := Aside0.mk (below_step (by repeat (first | (with_reducible first | exact HB.out | apply below_alloc | apply pw_below_drewN | apply below_drew1) | exact HB.out)) hb); clear HB; have HO511 := n0_; have HB := n1_; clear n0_ n1_; (try clear hb); (try clear hb2); (try clear hk); (try clear hi); (try clear ho0); obtain ⟨Ao15, co15, eo15⟩ := Kd.V_slice HO511.out; subst eo15) | ((with_reducible refine gate_callee (f := 34) rfl ?_); refine goesL_ (some 10) rfl rfl Try.func34 (by kernel_rfl) rfl #[.slice Ao15 t509.length co15] rfl (by (try simp only [List.map_toArray, List.map_cons, List.map_nil]); first | done | rfl | (simp only [List.length_drop, List.length_take]; rfl)) ?_; (with_reducible refine (dendronref01_From.calls k _ _ t509 t512 _ ?side1 ?side2 A3.out).mono ?_); (case side1 => repeat (first | exact (Kd.V_reads' HO511.out).2.2 | (with_reducible refine Kd.C_alloc ?_ _) | (with_reducible refine Kd.C_drewN ?_ _) | (with_reducible refine Kd.C_drew ?_))); (case side2 => exact (Kd.V_reads' HO511.out).2.1); rintro e w16 ⟨v513, rfl, ho0, hb⟩; refine ⟨_, rfl, ?_⟩; have n0_ := Aside0.mk (Kd.V_elder' (by (with_reducible repeat (first | apply Kd.V_alloc | apply Kd.V_drewN | apply Kd.V_drew)); exact HO511.out) (Kd.R_base ho0) hb); have n1_ := Aside0.mk (Kd.R_lower ho0 (below_size (by repeat (first | (with_reducible first | exact HB.out | apply below_alloc | apply pw_below_drewN | apply below_drew1) | exact HB.out)))); have n2_ := Aside0.mk (below_step (by repeat (first | (with_reducible first | exact HB.out | apply below_alloc | apply pw_below_drewN | apply below_drew1) | exact HB.out)) hb); clear HO511; clear HB; have HO511 := n0_; have HO514 := n1_; have HB := n2_; clear n0_ n1_ n2_; (try clear hb); (try clear hb2); (try clear hk); (try clear hi); (try clear ho0)) | ((with_reducible refine gate_callee (f := 42) rfl ?_); refine goesL_ (some 12) rfl rfl Try.func42 (by kernel_rfl) rfl #[.slice Ao15 t509.length co15] rfl (by (try simp only [List.map_toArray, List.map_cons, List.map_nil]); first | done | rfl | (simp only [List.length_drop, List.length_take]; rfl)) ?_; (with_reducible refine (nat_Print.calls k _ _ t509 t515 _ ?side1 ?side2 A4.out).mono ?_); (case side1 => repeat (first | exact (Kd.V_reads' HO511.out).2.2 | (with_reducible refine Kd.C_alloc ?_ _) | (with_reducible refine Kd.C_drewN ?_ _) | (with_reducible refine Kd.C_drew ?_))); (case side2 => exact (Kd.V_reads' HO511.out).2.1); rintro e w17 ⟨rfl, hb⟩; refine ⟨_, rfl, ?_⟩; have n0_ := Aside0.mk (Kd.V_below (by (with_reducible repeat (first | apply Kd.V_alloc | apply Kd.V_drewN | apply Kd.V_drew)); exact HO511.out) hb); have n1_ := Aside0.mk (Kd.R_below (by (with_reducible repeat (first | apply Kd.R_alloc | apply Kd.R_drewN | apply Kd.R_drew)); exact HO514.out) hb); have n2_ := Aside0.mk (below_step (by repeat (first | (with_reducible first | exact HB.out | apply below_alloc | apply pw_below_drewN | apply below_drew1) | exact HB.out)) hb); clear HO511; clear HO514; clear HB; have HO511 := n0_; have HO514 := n1_; have HB := n2_; clear n0_ n1_ n2_; (try clear hb); (try clear hb2); (try clear hk); (try clear hi)) | ((with_reducible refine gate_callee (f := 38) rfl ?_); refine goesL_ (some 15) rfl rfl Try.func38 (by kernel_rfl) rfl #[.string t515] rfl (by (try simp only [List.map_toArray, List.map_cons, List.map_nil]); first | done | rfl | (simp only [List.length_drop, List.length_take]; rfl)) ?_; (with_reducible refine (nat_Parse.calls k t515 t516 t517 _ A5.out).mono ?_); rintro e w18 ⟨v518, rfl, ho0, hb⟩; refine ⟨_, rfl, ?_⟩; have n0_ := Aside0.mk (Kd.V_elder' (by (with_reducible repeat (first | apply Kd.V_alloc | apply Kd.V_drewN | apply Kd.V_drew)); exact HO511.out) (Kd.R_base ho0) hb); have n1_ := Aside0.mk (Kd.R_below (by (with_reducible repeat (first | apply Kd.R_alloc | apply Kd.R_drewN | apply Kd.R_drew)); exact HO514.out) hb); have n2_ := Aside0.mk (Kd.R_lower ho0 (below_size (by repeat (first | (with_reducible first | exact HB.out | apply below_alloc | apply pw_below_drewN | apply below_drew1) | exact HB.out)))); have n3_ := Aside0.mk (below_step (by repeat (first | (with_reducible first | exact HB.out | apply below_alloc | apply pw_below_drewN | apply below_drew1) | exact HB.out)) hb); clear HO511; clear HO514; clear HB; have HO511 := n0_; have HO514 := n1_; have HO519 := n2_; have HB := n3_; clear n0_ n1_ n2_ n3_; (try clear hb); (try clear hb2); (try clear hk); (try clear hi); (try clear ho0); obtain ⟨Ao19, co19, eo19⟩ := Kd.R_slice HO514.out; subst eo19) | ((with_reducible refine gate_callee (f := 43) rfl ?_); refine goesL_ (some 20) rfl rfl Try.func43 (by kernel_rfl) rfl #[.slice Ao19 t512.length co19] rfl (by (try simp only [List.map_toArray, List.map_cons, List.map_nil]); first | done | rfl | (simp only [List.length_drop, List.length_take]; rfl)) ?_; (with_reducible refine (dendronref01_Text.calls k _ _ t512 t520 _ ?side1 ?side2 A6.out).mono ?_); (case side1 => repeat (first | exact (Kd.R_reads' HO514.out).2.2 | (with_reducible refine Kd.C_alloc ?_ _) | (with_reducible refine Kd.C_drewN ?_ _) | (with_reducible refine Kd.C_drew ?_))); (case side2 => exact (Kd.R_reads' HO514.out).2.1); rintro e w20 ⟨rfl, hb⟩; refine ⟨_, rfl, ?_⟩; have n0_ := Aside0.mk (Kd.V_below (by (with_reducible repeat (first | apply Kd.V_alloc | apply Kd.V_drewN | apply Kd.V_drew)); exact HO511.out) hb); have n1_ := Aside0.mk (Kd.R_below (by (with_reducible repeat (first | apply Kd.R_alloc | apply Kd.R_drewN | apply Kd.R_drew)); exact HO514.out) hb); have n2_ := Aside0.mk (Kd.R_below (by (with_reducible repeat (first | apply Kd.R_alloc | apply Kd.R_drewN | apply Kd.R_drew)); exact HO519.out) hb); have n3_ := Aside0.mk (below_step (by repeat (first | (with_reducible first | exact HB.out | apply below_alloc | apply pw_below_drewN | apply below_drew1) | exact HB.out)) hb); clear HO511; clear HO514; clear HO519; clear HB; have HO511 := n0_; have HO514 := n1_; have HO519 := n2_; have HB := n3_; clear n0_ n1_ n2_ n3_; (try clear hb); (try clear hb2); (try clear hk); (try clear hi)) | (go_at_call 44; (with_reducible refine (nat_Digits.calls k _ _ t509 t521 _ ?side1 ?side2 A8.out).mono ?_); (case side1 => repeat (first | exact (Kd.V_reads' HO511.out).2.2 | (with_reducible refine Kd.C_alloc ?_ _) | (with_reducible refine Kd.C_drewN ?_ _) | (with_reducible refine Kd.C_drew ?_))); (case side2 => exact (Kd.V_reads' HO511.out).2.1); rintro e w21 ⟨rfl, hb⟩; have n0_ := Aside0.mk (Kd.V_below (by (with_reducible repeat (first | apply Kd.V_alloc | apply Kd.V_drewN | apply Kd.V_drew)); exact HO511.out) hb); have n1_ := Aside0.mk (Kd.R_below (by (with_reducible repeat (first | apply Kd.R_alloc | apply Kd.R_drewN | apply Kd.R_drew)); exact HO514.out) hb); have n2_ := Aside0.mk (Kd.R_below (by (with_reducible repeat (first | apply Kd.R_alloc | apply Kd.R_drewN | apply Kd.R_drew)); exact HO519.out) hb); have n3_ := Aside0.mk (below_step (by repeat (first | (with_reducible first | exact HB.out | apply below_alloc | apply pw_below_drewN | apply below_drew1) | exact HB.out)) hb); clear HO511; clear HO514; clear HO519; clear HB; have HO511 := n0_; have HO514 := n1_; have HO519 := n2_; have HB := n3_; clear n0_ n1_ n2_ n3_; (try clear hb); (try clear hb2); (try clear hk); (try clear hi); obtain ⟨Ao22, co22, eo22⟩ := Kd.R_slice HO519.out; subst eo22) | (go_at_call 31; (with_reducible refine (dendronref01_Is.calls k _ _ t516 _ _ t512 true _ ?side1 ?side2 ?side3 ?side4 A11.out).mono ?_); (case side1 => repeat (first | exact (Kd.R_reads' HO519.out).2.2 | (with_reducible refine Kd.C_alloc ?_ _) | (with_reducible refine Kd.C_drewN ?_ _) | (with_reducible refine Kd.C_drew ?_))); (case side2 => exact (Kd.R_reads' HO519.out).2.1); (case side3 => repeat (first | exact (Kd.R_reads' HO514.out).2.2 | (with_reducible refine Kd.C_alloc ?_ _) | (with_reducible refine Kd.C_drewN ?_ _) | (with_reducible refine Kd.C_drew ?_))); (case side4 => exact (Kd.R_reads' HO514.out).2.1); rintro e w23 ⟨rfl, hb⟩; have n0_ := Aside0.mk (Kd.V_below (by (with_reducible repeat (first | apply Kd.V_alloc | apply Kd.V_drewN | apply Kd.V_drew)); exact HO511.out) hb); have n1_ := Aside0.mk (Kd.R_below (by (with_reducible repeat (first | apply Kd.R_alloc | apply Kd.R_drewN | apply Kd.R_drew)); exact HO514.out) hb); have n2_ := Aside0.mk (Kd.R_below (by (with_reducible repeat (first | apply Kd.R_alloc | apply Kd.R_drewN | apply Kd.R_drew)); exact HO519.out) hb); have n3_ := Aside0.mk (below_step (by repeat (first | (with_reducible first | exact HB.out | apply below_alloc | apply pw_below_drewN | apply below_drew1) | exact HB.out)) hb); clear HO511; clear HO514; clear HO519; clear HB; have HO511 := n0_; have HO514 := n1_; have HO519 := n2_; have HB := n3_; clear n0_ n1_ n2_ n3_; (try clear hb); (try clear hb2); (try clear hk); (try clear hi)) | (go_at_call 35; (with_reducible refine (dendronlaw01_awake.calls k  t523 _ A13.out).mono ?_); rintro e w24 ⟨rfl, hb⟩; have n0_ := Aside0.mk (Kd.V_below (by (with_reducible repeat (first | apply Kd.V_alloc | apply Kd.V_drewN | apply Kd.V_drew)); exact HO511.out) hb); have n1_ := Aside0.mk (Kd.R_below (by (with_reducible repeat (first | apply Kd.R_alloc | apply Kd.R_drewN | apply Kd.R_drew)); exact HO514.out) hb); have n2_ := Aside0.mk (Kd.R_below (by (with_reducible repeat (first | apply Kd.R_alloc | apply Kd.R_drewN | apply Kd.R_drew)); exact HO519.out) hb); have n3_ := Aside0.mk (below_step (by repeat (first | (with_reducible first | exact HB.out | apply below_alloc | apply pw_below_drewN | apply below_drew1) | exact HB.out)) hb); clear HO511; clear HO514; clear HO519; clear HB; have HO511 := n0_; have HO514 := n1_; have HO519 := n2_; have HB := n3_; clear n0_ n1_ n2_ n3_; (try clear hb); (try clear hb2); (try clear hk); (try clear hi)))
          go_ret
          exact ⟨by first | rfl | (simp [errW_none, errW_some] <;> rfl) | (simp [*, errW_none, errW_some] <;> rfl), by repeat (first | (with_reducible first | exact HB.out | apply below_alloc | apply pw_below_drewN | apply below_drew1) | exact HB.out)⟩
        · replace c12 := Bool.eq_false_iff.mpr c12
          subst c12
          have H1 : (some false) = some r := by rw [if_neg (show ¬ (false = true) by decide)] at H; exact H
          clear H
          have H := H1
          clear H1
          obtain rfl := Option.some.inj H
          go_enter Try.func11, Try.ntmps11
          go_wp2_with (first | ((with_reducible refine gate_callee (f := 30) rfl ?_); refine goesL_ (some 8) rfl rfl Try.func30 (by kernel_rfl) rfl #[.slice A0 l0.length c0, .int .i64 30] rfl (by (try simp only [List.map_toArray, List.map_cons, List.map_nil]); first | done | rfl | (simp only [List.length_drop, List.length_take]; rfl)) ?_; (with_reducible refine (dendronlaw01_few.calls (fun k_ => k_ < w.heap.size) _ _ l0 30 t509 _ ?side1 A2.out).mono ?_); (case side1 => exact Kd.V_mk HC0.out (Kd.F_below (Kd.C_F (Kd.heap_int .u64) HR0.out) (by repeat (first | (with_reducible first | exact HB.out | apply below_alloc | apply pw_below_drewN | apply below_drew1) | exact HB.out)))); rintro e w25 ⟨v510, rfl, ho0, hb⟩; refine ⟨_, rfl, ?_⟩; have n0_ := Aside0.mk (Kd.V_lower (Kd.V_mono (ok' := fun k_ => True) ho0 (fun k_ hk_ => trivial)) (below_size (by repeat (first | (with_reducible first | exact HB.out | apply below_alloc | apply pw_below_drewN | apply below_drew1) | exact HB.out)))); have n1_ := Aside0.mk (below_step (by repeat (first | (with_reducible first | exact HB.out | apply below_alloc | apply pw_below_drewN | apply below_drew1) | exact HB.out)) hb); clear HB; have HO511 := n0_; have HB := n1_; clear n0_ n1_; (try clear hb); (try clear hb2); (try clear hk); (try clear hi); (try clear ho0); obtain ⟨Ao26, co26, eo26⟩ := Kd.V_slice HO511.out; subst eo26) | ((with_reducible refine gate_callee (f := 34) rfl ?_); refine goesL_ (some 10) rfl rfl Try.func34 (by kernel_rfl) rfl #[.slice Ao26 t509.length co26] rfl (by (try simp only [List.map_toArray, List.map_cons, List.map_nil]); first | done | rfl | (simp only [List.length_drop, List.length_take]; rfl)) ?_; (with_reducible refine (dendronref01_From.calls k _ _ t509 t512 _ ?side1 ?side2 A3.out).mono ?_); (case side1 => repeat (first | exact (Kd.V_reads' HO511.out).2.2 | (with_reducible refine Kd.C_alloc ?_ _) | (with_reducible refine Kd.C_drewN ?_ _) | (with_reducible refine Kd.C_drew ?_))); (case side2 => exact (Kd.V_reads' HO511.out).2.1); rintro e w27 ⟨v513, rfl, ho0, hb⟩; refine ⟨_, rfl, ?_⟩; have n0_ := Aside0.mk (Kd.V_elder' (by (with_reducible repeat (first | apply Kd.V_alloc | apply Kd.V_drewN | apply Kd.V_drew)); exact HO511.out) (Kd.R_base ho0) hb); have n1_ := Aside0.mk (Kd.R_lower ho0 (below_size (by repeat (first | (with_reducible first | exact HB.out | apply below_alloc | apply pw_below_drewN | apply below_drew1) | exact HB.out)))); have n2_ := Aside0.mk (below_step (by repeat (first | (with_reducible first | exact HB.out | apply below_alloc | apply pw_below_drewN | apply below_drew1) | exact HB.out)) hb); clear HO511; clear HB; have HO511 := n0_; have HO514 := n1_; have HB := n2_; clear n0_ n1_ n2_; (try clear hb); (try clear hb2); (try clear hk); (try clear hi); (try clear ho0)) | ((with_reducible refine gate_callee (f := 42) rfl ?_); refine goesL_ (some 12) rfl rfl Try.func42 (by kernel_rfl) rfl #[.slice Ao26 t509.length co26] rfl (by (try simp only [List.map_toArray, List.map_cons, List.map_nil]); first | done | rfl | (simp only [List.length_drop, List.length_take]; rfl)) ?_; (with_reducible refine (nat_Print.calls k _ _ t509 t515 _ ?side1 ?side2 A4.out).mono ?_); (case side1 => repeat (first | exact (Kd.V_reads' HO511.out).2.2 | (with_reducible refine Kd.C_alloc ?_ _) | (with_reducible refine Kd.C_drewN ?_ _) | (with_reducible refine Kd.C_drew ?_))); (case side2 => exact (Kd.V_reads' HO511.out).2.1); rintro e w28 ⟨rfl, hb⟩; refine ⟨_, rfl, ?_⟩; have n0_ := Aside0.mk (Kd.V_below (by (with_reducible repeat (first | apply Kd.V_alloc | apply Kd.V_drewN | apply Kd.V_drew)); exact HO511.out) hb); have n1_ := Aside0.mk (Kd.R_below (by (with_reducible repeat (first | apply Kd.R_alloc | apply Kd.R_drewN | apply Kd.R_drew)); exact HO514.out) hb); have n2_ := Aside0.mk (below_step (by repeat (first | (with_reducible first | exact HB.out | apply below_alloc | apply pw_below_drewN | apply below_drew1) | exact HB.out)) hb); clear HO511; clear HO514; clear HB; have HO511 := n0_; have HO514 := n1_; have HB := n2_; clear n0_ n1_ n2_; (try clear hb); (try clear hb2); (try clear hk); (try clear hi)) | ((with_reducible refine gate_callee (f := 38) rfl ?_); refine goesL_ (some 15) rfl rfl Try.func38 (by kernel_rfl) rfl #[.string t515] rfl (by (try simp only [List.map_toArray, List.map_cons, List.map_nil]); first | done | rfl | (simp only [List.length_drop, List.length_take]; rfl)) ?_; (with_reducible refine (nat_Parse.calls k t515 t516 t517 _ A5.out).mono ?_); rintro e w29 ⟨v518, rfl, ho0, hb⟩; refine ⟨_, rfl, ?_⟩; have n0_ := Aside0.mk (Kd.V_elder' (by (with_reducible repeat (first | apply Kd.V_alloc | apply Kd.V_drewN | apply Kd.V_drew)); exact HO511.out) (Kd.R_base ho0) hb); have n1_ := Aside0.mk (Kd.R_below (by (with_reducible repeat (first | apply Kd.R_alloc | apply Kd.R_drewN | apply Kd.R_drew)); exact HO514.out) hb); have n2_ := Aside0.mk (Kd.R_lower ho0 (below_size (by repeat (first | (with_reducible first | exact HB.out | apply below_alloc | apply pw_below_drewN | apply below_drew1) | exact HB.out)))); have n3_ := Aside0.mk (below_step (by repeat (first | (with_reducible first | exact HB.out | apply below_alloc | apply pw_below_drewN | apply below_drew1) | exact HB.out)) hb); clear HO511; clear HO514; clear HB; have HO511 := n0_; have HO514 := n1_; have HO519 := n2_; have HB := n3_; clear n0_ n1_ n2_ n3_; (try clear hb); (try clear hb2); (try clear hk); (try clear hi); (try clear ho0); obtain ⟨Ao30, co30, eo30⟩ := Kd.R_slice HO514.out; subst eo30) | ((with_reducible refine gate_callee (f := 43) rfl ?_); refine goesL_ (some 20) rfl rfl Try.func43 (by kernel_rfl) rfl #[.slice Ao30 t512.length co30] rfl (by (try simp only [List.map_toArray, List.map_cons, List.map_nil]); first | done | rfl | (simp only [List.length_drop, List.length_take]; rfl)) ?_; (with_reducible refine (dendronref01_Text.calls k _ _ t512 t520 _ ?side1 ?side2 A6.out).mono ?_); (case side1 => repeat (first | exact (Kd.R_reads' HO514.out).2.2 | (with_reducible refine Kd.C_alloc ?_ _) | (with_reducible refine Kd.C_drewN ?_ _) | (with_reducible refine Kd.C_drew ?_))); (case side2 => exact (Kd.R_reads' HO514.out).2.1); rintro e w31 ⟨rfl, hb⟩; refine ⟨_, rfl, ?_⟩; have n0_ := Aside0.mk (Kd.V_below (by (with_reducible repeat (first | apply Kd.V_alloc | apply Kd.V_drewN | apply Kd.V_drew)); exact HO511.out) hb); have n1_ := Aside0.mk (Kd.R_below (by (with_reducible repeat (first | apply Kd.R_alloc | apply Kd.R_drewN | apply Kd.R_drew)); exact HO514.out) hb); have n2_ := Aside0.mk (Kd.R_below (by (with_reducible repeat (first | apply Kd.R_alloc | apply Kd.R_drewN | apply Kd.R_drew)); exact HO519.out) hb); have n3_ := Aside0.mk (below_step (by repeat (first | (with_reducible first | exact HB.out | apply below_alloc | apply pw_below_drewN | apply below_drew1) | exact HB.out)) hb); clear HO511; clear HO514; clear HO519; clear HB; have HO511 := n0_; have HO514 := n1_; have HO519 := n2_; have HB := n3_; clear n0_ n1_ n2_ n3_; (try clear hb); (try clear hb2); (try clear hk); (try clear hi)) | (go_at_call 44; (with_reducible refine (nat_Digits.calls k _ _ t509 t521 _ ?side1 ?side2 A8.out).mono ?_); (case side1 => repeat (first | exact (Kd.V_reads' HO511.out).2.2 | (with_reducible refine Kd.C_alloc ?_ _) | (with_reducible refine Kd.C_drewN ?_ _) | (with_reducible refine Kd.C_drew ?_))); (case side2 => exact (Kd.V_reads' HO511.out).2.1); rintro e w32 ⟨rfl, hb⟩; have n0_ := Aside0.mk (Kd.V_below (by (with_reducible repeat (first | apply Kd.V_alloc | apply Kd.V_drewN | apply Kd.V_drew)); exact HO511.out) hb); have n1_ := Aside0.mk (Kd.R_below (by (with_reducible repeat (first | apply Kd.R_alloc | apply Kd.R_drewN | apply Kd.R_drew)); exact HO514.out) hb); have n2_ := Aside0.mk (Kd.R_below (by (with_reducible repeat (first | apply Kd.R_alloc | apply Kd.R_drewN | apply Kd.R_drew)); exact HO519.out) hb); have n3_ := Aside0.mk (below_step (by repeat (first | (with_reducible first | exact HB.out | apply below_alloc | apply pw_below_drewN | apply below_drew1) | exact HB.out)) hb); clear HO511; clear HO514; clear HO519; clear HB; have HO511 := n0_; have HO514 := n1_; have HO519 := n2_; have HB := n3_; clear n0_ n1_ n2_ n3_; (try clear hb); (try clear hb2); (try clear hk); (try clear hi); obtain ⟨Ao33, co33, eo33⟩ := Kd.R_slice HO519.out; subst eo33) | (go_at_call 31; (with_reducible refine (dendronref01_Is.calls k _ _ t516 _ _ t512 false _ ?side1 ?side2 ?side3 ?side4 A11.out).mono ?_); (case side1 => repeat (first | exact (Kd.R_reads' HO519.out).2.2 | (with_reducible refine Kd.C_alloc ?_ _) | (with_reducible refine Kd.C_drewN ?_ _) | (with_reducible refine Kd.C_drew ?_))); (case side2 => exact (Kd.R_reads' HO519.out).2.1); (case side3 => repeat (first | exact (Kd.R_reads' HO514.out).2.2 | (with_reducible refine Kd.C_alloc ?_ _) | (with_reducible refine Kd.C_drewN ?_ _) | (with_reducible refine Kd.C_drew ?_))); (case side4 => exact (Kd.R_reads' HO514.out).2.1); rintro e w34 ⟨rfl, hb⟩; have n0_ := Aside0.mk (Kd.V_below (by (with_reducible repeat (first | apply Kd.V_alloc | apply Kd.V_drewN | apply Kd.V_drew)); exact HO511.out) hb); have n1_ := Aside0.mk (Kd.R_below (by (with_reducible repeat (first | apply Kd.R_alloc | apply Kd.R_drewN | apply Kd.R_drew)); exact HO514.out) hb); have n2_ := Aside0.mk (Kd.R_below (by (with_reducible repeat (first | apply Kd.R_alloc | apply Kd.R_drewN | apply Kd.R_drew)); exact HO519.out) hb); have n3_ := Aside0.mk (below_step (by repeat (first | (with_reducible first | exact HB.out | apply below_alloc | apply pw_below_drewN | apply below_drew1) | exact HB.out)) hb); clear HO511; clear HO514; clear HO519; clear HB; have HO511 := n0_; have HO514 := n1_; have HO519 := n2_; have HB := n3_; clear n0_ n1_ n2_ n3_; (try clear hb); (try clear hb2); (try clear hk); (try clear hi)))
          go_ret
          exact ⟨by first | rfl | (simp [errW_none, errW_some] <;> rfl) | (simp [*, errW_none, errW_some] <;> rfl), by repeat (first | (with_reducible first | exact HB.out | apply below_alloc | apply pw_below_drewN | apply below_drew1) | exact HB.out)⟩
      · rw [if_neg c10] at H
        have c10b0 : (t517 == 0) = false := beq_eq_false_iff_ne.mpr c10
        have c10b1 : (t517 != 0) = true := bne_iff_ne.mpr c10
        obtain rfl := Option.some.inj H
        go_enter Try.func11, Try.ntmps11
        go_wp2_with (first | ((with_reducible refine gate_callee (f := 30) rfl ?_); refine goesL_ (some 8) rfl rfl Try.func30 (by kernel_rfl) rfl #[.slice A0 l0.length c0, .int .i64 30] rfl (by (try simp only [List.map_toArray, List.map_cons, List.map_nil]); first | done | rfl | (simp only [List.length_drop, List.length_take]; rfl)) ?_; (with_reducible refine (dendronlaw01_few.calls (fun k_ => k_ < w.heap.size) _ _ l0 30 t509 _ ?side1 A2.out).mono ?_); (case side1 => exact Kd.V_mk HC0.out (Kd.F_below (Kd.C_F (Kd.heap_int .u64) HR0.out) (by repeat (first | (with_reducible first | exact HB.out | apply below_alloc | apply pw_below_drewN | apply below_drew1) | exact HB.out)))); rintro e w35 ⟨v510, rfl, ho0, hb⟩; refine ⟨_, rfl, ?_⟩; have n0_ := Aside0.mk (Kd.V_lower (Kd.V_mono (ok' := fun k_ => True) ho0 (fun k_ hk_ => trivial)) (below_size (by repeat (first | (with_reducible first | exact HB.out | apply below_alloc | apply pw_below_drewN | apply below_drew1) | exact HB.out)))); have n1_ := Aside0.mk (below_step (by repeat (first | (with_reducible first | exact HB.out | apply below_alloc | apply pw_below_drewN | apply below_drew1) | exact HB.out)) hb); clear HB; have HO511 := n0_; have HB := n1_; clear n0_ n1_; (try clear hb); (try clear hb2); (try clear hk); (try clear hi); (try clear ho0); obtain ⟨Ao36, co36, eo36⟩ := Kd.V_slice HO511.out; subst eo36) | ((with_reducible refine gate_callee (f := 34) rfl ?_); refine goesL_ (some 10) rfl rfl Try.func34 (by kernel_rfl) rfl #[.slice Ao36 t509.length co36] rfl (by (try simp only [List.map_toArray, List.map_cons, List.map_nil]); first | done | rfl | (simp only [List.length_drop, List.length_take]; rfl)) ?_; (with_reducible refine (dendronref01_From.calls k _ _ t509 t512 _ ?side1 ?side2 A3.out).mono ?_); (case side1 => repeat (first | exact (Kd.V_reads' HO511.out).2.2 | (with_reducible refine Kd.C_alloc ?_ _) | (with_reducible refine Kd.C_drewN ?_ _) | (with_reducible refine Kd.C_drew ?_))); (case side2 => exact (Kd.V_reads' HO511.out).2.1); rintro e w37 ⟨v513, rfl, ho0, hb⟩; refine ⟨_, rfl, ?_⟩; have n0_ := Aside0.mk (Kd.V_elder' (by (with_reducible repeat (first | apply Kd.V_alloc | apply Kd.V_drewN | apply Kd.V_drew)); exact HO511.out) (Kd.R_base ho0) hb); have n1_ := Aside0.mk (Kd.R_lower ho0 (below_size (by repeat (first | (with_reducible first | exact HB.out | apply below_alloc | apply pw_below_drewN | apply below_drew1) | exact HB.out)))); have n2_ := Aside0.mk (below_step (by repeat (first | (with_reducible first | exact HB.out | apply below_alloc | apply pw_below_drewN | apply below_drew1) | exact HB.out)) hb); clear HO511; clear HB; have HO511 := n0_; have HO514 := n1_; have HB := n2_; clear n0_ n1_ n2_; (try clear hb); (try clear hb2); (try clear hk); (try clear hi); (try clear ho0)) | ((with_reducible refine gate_callee (f := 42) rfl ?_); refine goesL_ (some 12) rfl rfl Try.func42 (by kernel_rfl) rfl #[.slice Ao36 t509.length co36] rfl (by (try simp only [List.map_toArray, List.map_cons, List.map_nil]); first | done | rfl | (simp only [List.length_drop, List.length_take]; rfl)) ?_; (with_reducible refine (nat_Print.calls k _ _ t509 t515 _ ?side1 ?side2 A4.out).mono ?_); (case side1 => repeat (first | exact (Kd.V_reads' HO511.out).2.2 | (with_reducible refine Kd.C_alloc ?_ _) | (with_reducible refine Kd.C_drewN ?_ _) | (with_reducible refine Kd.C_drew ?_))); (case side2 => exact (Kd.V_reads' HO511.out).2.1); rintro e w38 ⟨rfl, hb⟩; refine ⟨_, rfl, ?_⟩; have n0_ := Aside0.mk (Kd.V_below (by (with_reducible repeat (first | apply Kd.V_alloc | apply Kd.V_drewN | apply Kd.V_drew)); exact HO511.out) hb); have n1_ := Aside0.mk (Kd.R_below (by (with_reducible repeat (first | apply Kd.R_alloc | apply Kd.R_drewN | apply Kd.R_drew)); exact HO514.out) hb); have n2_ := Aside0.mk (below_step (by repeat (first | (with_reducible first | exact HB.out | apply below_alloc | apply pw_below_drewN | apply below_drew1) | exact HB.out)) hb); clear HO511; clear HO514; clear HB; have HO511 := n0_; have HO514 := n1_; have HB := n2_; clear n0_ n1_ n2_; (try clear hb); (try clear hb2); (try clear hk); (try clear hi)) | ((with_reducible refine gate_callee (f := 38) rfl ?_); refine goesL_ (some 15) rfl rfl Try.func38 (by kernel_rfl) rfl #[.string t515] rfl (by (try simp only [List.map_toArray, List.map_cons, List.map_nil]); first | done | rfl | (simp only [List.length_drop, List.length_take]; rfl)) ?_; (with_reducible refine (nat_Parse.calls k t515 t516 t517 _ A5.out).mono ?_); rintro e w39 ⟨v518, rfl, ho0, hb⟩; refine ⟨_, rfl, ?_⟩; have n0_ := Aside0.mk (Kd.V_elder' (by (with_reducible repeat (first | apply Kd.V_alloc | apply Kd.V_drewN | apply Kd.V_drew)); exact HO511.out) (Kd.R_base ho0) hb); have n1_ := Aside0.mk (Kd.R_below (by (with_reducible repeat (first | apply Kd.R_alloc | apply Kd.R_drewN | apply Kd.R_drew)); exact HO514.out) hb); have n2_ := Aside0.mk (Kd.R_lower ho0 (below_size (by repeat (first | (with_reducible first | exact HB.out | apply below_alloc | apply pw_below_drewN | apply below_drew1) | exact HB.out)))); have n3_ := Aside0.mk (below_step (by repeat (first | (with_reducible first | exact HB.out | apply below_alloc | apply pw_below_drewN | apply below_drew1) | exact HB.out)) hb); clear HO511; clear HO514; clear HB; have HO511 := n0_; have HO514 := n1_; have HO519 := n2_; have HB := n3_; clear n0_ n1_ n2_ n3_; (try clear hb); (try clear hb2); (try clear hk); (try clear hi); (try clear ho0); obtain ⟨Ao40, co40, eo40⟩ := Kd.R_slice HO514.out; subst eo40) | ((with_reducible refine gate_callee (f := 43) rfl ?_); refine goesL_ (some 20) rfl rfl Try.func43 (by kernel_rfl) rfl #[.slice Ao40 t512.length co40] rfl (by (try simp only [List.map_toArray, List.map_cons, List.map_nil]); first | done | rfl | (simp only [List.length_drop, List.length_take]; rfl)) ?_; (with_reducible refine (dendronref01_Text.calls k _ _ t512 t520 _ ?side1 ?side2 A6.out).mono ?_); (case side1 => repeat (first | exact (Kd.R_reads' HO514.out).2.2 | (with_reducible refine Kd.C_alloc ?_ _) | (with_reducible refine Kd.C_drewN ?_ _) | (with_reducible refine Kd.C_drew ?_))); (case side2 => exact (Kd.R_reads' HO514.out).2.1); rintro e w41 ⟨rfl, hb⟩; refine ⟨_, rfl, ?_⟩; have n0_ := Aside0.mk (Kd.V_below (by (with_reducible repeat (first | apply Kd.V_alloc | apply Kd.V_drewN | apply Kd.V_drew)); exact HO511.out) hb); have n1_ := Aside0.mk (Kd.R_below (by (with_reducible repeat (first | apply Kd.R_alloc | apply Kd.R_drewN | apply Kd.R_drew)); exact HO514.out) hb); have n2_ := Aside0.mk (Kd.R_below (by (with_reducible repeat (first | apply Kd.R_alloc | apply Kd.R_drewN | apply Kd.R_drew)); exact HO519.out) hb); have n3_ := Aside0.mk (below_step (by repeat (first | (with_reducible first | exact HB.out | apply below_alloc | apply pw_below_drewN | apply below_drew1) | exact HB.out)) hb); clear HO511; clear HO514; clear HO519; clear HB; have HO511 := n0_; have HO514 := n1_; have HO519 := n2_; have HB := n3_; clear n0_ n1_ n2_ n3_; (try clear hb); (try clear hb2); (try clear hk); (try clear hi)) | (go_at_call 44; (with_reducible refine (nat_Digits.calls k _ _ t509 t521 _ ?side1 ?side2 A8.out).mono ?_); (case side1 => repeat (first | exact (Kd.V_reads' HO511.out).2.2 | (with_reducible refine Kd.C_alloc ?_ _) | (with_reducible refine Kd.C_drewN ?_ _) | (with_reducible refine Kd.C_drew ?_))); (case side2 => exact (Kd.V_reads' HO511.out).2.1); rintro e w42 ⟨rfl, hb⟩; have n0_ := Aside0.mk (Kd.V_below (by (with_reducible repeat (first | apply Kd.V_alloc | apply Kd.V_drewN | apply Kd.V_drew)); exact HO511.out) hb); have n1_ := Aside0.mk (Kd.R_below (by (with_reducible repeat (first | apply Kd.R_alloc | apply Kd.R_drewN | apply Kd.R_drew)); exact HO514.out) hb); have n2_ := Aside0.mk (Kd.R_below (by (with_reducible repeat (first | apply Kd.R_alloc | apply Kd.R_drewN | apply Kd.R_drew)); exact HO519.out) hb); have n3_ := Aside0.mk (below_step (by repeat (first | (with_reducible first | exact HB.out | apply below_alloc | apply pw_below_drewN | apply below_drew1) | exact HB.out)) hb); clear HO511; clear HO514; clear HO519; clear HB; have HO511 := n0_; have HO514 := n1_; have HO519 := n2_; have HB := n3_; clear n0_ n1_ n2_ n3_; (try clear hb); (try clear hb2); (try clear hk); (try clear hi)))
        go_ret
        exact ⟨by first | rfl | (simp [errW_none, errW_some] <;> rfl) | (simp [*, errW_none, errW_some] <;> rfl), by repeat (first | (with_reducible first | exact HB.out | apply below_alloc | apply pw_below_drewN | apply below_drew1) | exact HB.out)⟩
    · rw [if_neg c9] at H
      have c9b0 : (t521 == (t515.size : Int)) = false := beq_eq_false_iff_ne.mpr c9
      have c9b1 : (t521 != (t515.size : Int)) = true := bne_iff_ne.mpr c9
      obtain rfl := Option.some.inj H
      go_enter Try.func11, Try.ntmps11
      go_wp2_with (first | ((with_reducible refine gate_callee (f := 30) rfl ?_); refine goesL_ (some 8) rfl rfl Try.func30 (by kernel_rfl) rfl #[.slice A0 l0.length c0, .int .i64 30] rfl (by (try simp only [List.map_toArray, List.map_cons, List.map_nil]); first | done | rfl | (simp only [List.length_drop, List.length_take]; rfl)) ?_; (with_reducible refine (dendronlaw01_few.calls (fun k_ => k_ < w.heap.size) _ _ l0 30 t509 _ ?side1 A2.out).mono ?_); (case side1 => exact Kd.V_mk HC0.out (Kd.F_below (Kd.C_F (Kd.heap_int .u64) HR0.out) (by repeat (first | (with_reducible first | exact HB.out | apply below_alloc | apply pw_below_drewN | apply below_drew1) | exact HB.out)))); rintro e w43 ⟨v510, rfl, ho0, hb⟩; refine ⟨_, rfl, ?_⟩; have n0_ := Aside0.mk (Kd.V_lower (Kd.V_mono (ok' := fun k_ => True) ho0 (fun k_ hk_ => trivial)) (below_size (by repeat (first | (with_reducible first | exact HB.out | apply below_alloc | apply pw_below_drewN | apply below_drew1) | exact HB.out)))); have n1_ := Aside0.mk (below_step (by repeat (first | (with_reducible first | exact HB.out | apply below_alloc | apply pw_below_drewN | apply below_drew1) | exact HB.out)) hb); clear HB; have HO511 := n0_; have HB := n1_; clear n0_ n1_; (try clear hb); (try clear hb2); (try clear hk); (try clear hi); (try clear ho0); obtain ⟨Ao44, co44, eo44⟩ := Kd.V_slice HO511.out; subst eo44) | ((with_reducible refine gate_callee (f := 34) rfl ?_); refine goesL_ (some 10) rfl rfl Try.func34 (by kernel_rfl) rfl #[.slice Ao44 t509.length co44] rfl (by (try simp only [List.map_toArray, List.map_cons, List.map_nil]); first | done | rfl | (simp only [List.length_drop, List.length_take]; rfl)) ?_; (with_reducible refine (dendronref01_From.calls k _ _ t509 t512 _ ?side1 ?side2 A3.out).mono ?_); (case side1 => repeat (first | exact (Kd.V_reads' HO511.out).2.2 | (with_reducible refine Kd.C_alloc ?_ _) | (with_reducible refine Kd.C_drewN ?_ _) | (with_reducible refine Kd.C_drew ?_))); (case side2 => exact (Kd.V_reads' HO511.out).2.1); rintro e w45 ⟨v513, rfl, ho0, hb⟩; refine ⟨_, rfl, ?_⟩; have n0_ := Aside0.mk (Kd.V_elder' (by (with_reducible repeat (first | apply Kd.V_alloc | apply Kd.V_drewN | apply Kd.V_drew)); exact HO511.out) (Kd.R_base ho0) hb); have n1_ := Aside0.mk (Kd.R_lower ho0 (below_size (by repeat (first | (with_reducible first | exact HB.out | apply below_alloc | apply pw_below_drewN | apply below_drew1) | exact HB.out)))); have n2_ := Aside0.mk (below_step (by repeat (first | (with_reducible first | exact HB.out | apply below_alloc | apply pw_below_drewN | apply below_drew1) | exact HB.out)) hb); clear HO511; clear HB; have HO511 := n0_; have HO514 := n1_; have HB := n2_; clear n0_ n1_ n2_; (try clear hb); (try clear hb2); (try clear hk); (try clear hi); (try clear ho0)) | ((with_reducible refine gate_callee (f := 42) rfl ?_); refine goesL_ (some 12) rfl rfl Try.func42 (by kernel_rfl) rfl #[.slice Ao44 t509.length co44] rfl (by (try simp only [List.map_toArray, List.map_cons, List.map_nil]); first | done | rfl | (simp only [List.length_drop, List.length_take]; rfl)) ?_; (with_reducible refine (nat_Print.calls k _ _ t509 t515 _ ?side1 ?side2 A4.out).mono ?_); (case side1 => repeat (first | exact (Kd.V_reads' HO511.out).2.2 | (with_reducible refine Kd.C_alloc ?_ _) | (with_reducible refine Kd.C_drewN ?_ _) | (with_reducible refine Kd.C_drew ?_))); (case side2 => exact (Kd.V_reads' HO511.out).2.1); rintro e w46 ⟨rfl, hb⟩; refine ⟨_, rfl, ?_⟩; have n0_ := Aside0.mk (Kd.V_below (by (with_reducible repeat (first | apply Kd.V_alloc | apply Kd.V_drewN | apply Kd.V_drew)); exact HO511.out) hb); have n1_ := Aside0.mk (Kd.R_below (by (with_reducible repeat (first | apply Kd.R_alloc | apply Kd.R_drewN | apply Kd.R_drew)); exact HO514.out) hb); have n2_ := Aside0.mk (below_step (by repeat (first | (with_reducible first | exact HB.out | apply below_alloc | apply pw_below_drewN | apply below_drew1) | exact HB.out)) hb); clear HO511; clear HO514; clear HB; have HO511 := n0_; have HO514 := n1_; have HB := n2_; clear n0_ n1_ n2_; (try clear hb); (try clear hb2); (try clear hk); (try clear hi)) | ((with_reducible refine gate_callee (f := 38) rfl ?_); refine goesL_ (some 15) rfl rfl Try.func38 (by kernel_rfl) rfl #[.string t515] rfl (by (try simp only [List.map_toArray, List.map_cons, List.map_nil]); first | done | rfl | (simp only [List.length_drop, List.length_take]; rfl)) ?_; (with_reducible refine (nat_Parse.calls k t515 t516 t517 _ A5.out).mono ?_); rintro e w47 ⟨v518, rfl, ho0, hb⟩; refine ⟨_, rfl, ?_⟩; have n0_ := Aside0.mk (Kd.V_elder' (by (with_reducible repeat (first | apply Kd.V_alloc | apply Kd.V_drewN | apply Kd.V_drew)); exact HO511.out) (Kd.R_base ho0) hb); have n1_ := Aside0.mk (Kd.R_below (by (with_reducible repeat (first | apply Kd.R_alloc | apply Kd.R_drewN | apply Kd.R_drew)); exact HO514.out) hb); have n2_ := Aside0.mk (Kd.R_lower ho0 (below_size (by repeat (first | (with_reducible first | exact HB.out | apply below_alloc | apply pw_below_drewN | apply below_drew1) | exact HB.out)))); have n3_ := Aside0.mk (below_step (by repeat (first | (with_reducible first | exact HB.out | apply below_alloc | apply pw_below_drewN | apply below_drew1) | exact HB.out)) hb); clear HO511; clear HO514; clear HB; have HO511 := n0_; have HO514 := n1_; have HO519 := n2_; have HB := n3_; clear n0_ n1_ n2_ n3_; (try clear hb); (try clear hb2); (try clear hk); (try clear hi); (try clear ho0); obtain ⟨Ao48, co48, eo48⟩ := Kd.R_slice HO514.out; subst eo48) | ((with_reducible refine gate_callee (f := 43) rfl ?_); refine goesL_ (some 20) rfl rfl Try.func43 (by kernel_rfl) rfl #[.slice Ao48 t512.length co48] rfl (by (try simp only [List.map_toArray, List.map_cons, List.map_nil]); first | done | rfl | (simp only [List.length_drop, List.length_take]; rfl)) ?_; (with_reducible refine (dendronref01_Text.calls k _ _ t512 t520 _ ?side1 ?side2 A6.out).mono ?_); (case side1 => repeat (first | exact (Kd.R_reads' HO514.out).2.2 | (with_reducible refine Kd.C_alloc ?_ _) | (with_reducible refine Kd.C_drewN ?_ _) | (with_reducible refine Kd.C_drew ?_))); (case side2 => exact (Kd.R_reads' HO514.out).2.1); rintro e w49 ⟨rfl, hb⟩; refine ⟨_, rfl, ?_⟩; have n0_ := Aside0.mk (Kd.V_below (by (with_reducible repeat (first | apply Kd.V_alloc | apply Kd.V_drewN | apply Kd.V_drew)); exact HO511.out) hb); have n1_ := Aside0.mk (Kd.R_below (by (with_reducible repeat (first | apply Kd.R_alloc | apply Kd.R_drewN | apply Kd.R_drew)); exact HO514.out) hb); have n2_ := Aside0.mk (Kd.R_below (by (with_reducible repeat (first | apply Kd.R_alloc | apply Kd.R_drewN | apply Kd.R_drew)); exact HO519.out) hb); have n3_ := Aside0.mk (below_step (by repeat (first | (with_reducible first | exact HB.out | apply below_alloc | apply pw_below_drewN | apply below_drew1) | exact HB.out)) hb); clear HO511; clear HO514; clear HO519; clear HB; have HO511 := n0_; have HO514 := n1_; have HO519 := n2_; have HB := n3_; clear n0_ n1_ n2_ n3_; (try clear hb); (try clear hb2); (try clear hk); (try clear hi)) | (go_at_call 44; (with_reducible refine (nat_Digits.calls k _ _ t509 t521 _ ?side1 ?side2 A8.out).mono ?_); (case side1 => repeat (first | exact (Kd.V_reads' HO511.out).2.2 | (with_reducible refine Kd.C_alloc ?_ _) | (with_reducible refine Kd.C_drewN ?_ _) | (with_reducible refine Kd.C_drew ?_))); (case side2 => exact (Kd.V_reads' HO511.out).2.1); rintro e w50 ⟨rfl, hb⟩; have n0_ := Aside0.mk (Kd.V_below (by (with_reducible repeat (first | apply Kd.V_alloc | apply Kd.V_drewN | apply Kd.V_drew)); exact HO511.out) hb); have n1_ := Aside0.mk (Kd.R_below (by (with_reducible repeat (first | apply Kd.R_alloc | apply Kd.R_drewN | apply Kd.R_drew)); exact HO514.out) hb); have n2_ := Aside0.mk (Kd.R_below (by (with_reducible repeat (first | apply Kd.R_alloc | apply Kd.R_drewN | apply Kd.R_drew)); exact HO519.out) hb); have n3_ := Aside0.mk (below_step (by repeat (first | (with_reducible first | exact HB.out | apply below_alloc | apply pw_below_drewN | apply below_drew1) | exact HB.out)) hb); clear HO511; clear HO514; clear HO519; clear HB; have HO511 := n0_; have HO514 := n1_; have HO519 := n2_; have HB := n3_; clear n0_ n1_ n2_ n3_; (try clear hb); (try clear hb2); (try clear hk); (try clear hi)))
      go_ret
      exact ⟨by first | rfl | (simp [errW_none, errW_some] <;> rfl) | (simp [*, errW_none, errW_some] <;> rfl), by repeat (first | (with_reducible first | exact HB.out | apply below_alloc | apply pw_below_drewN | apply below_drew1) | exact HB.out)⟩
  · rw [if_neg c7] at H
    have c7b0 : (t515.toList == t520.toList) = false := beq_eq_false_iff_ne.mpr c7
    have c7b1 : (t515.toList != t520.toList) = true := bne_iff_ne.mpr c7
    obtain rfl := Option.some.inj H
    go_enter Try.func11, Try.ntmps11
    go_wp2_with (first | ((with_reducible refine gate_callee (f := 30) rfl ?_); refine goesL_ (some 8) rfl rfl Try.func30 (by kernel_rfl) rfl #[.slice A0 l0.length c0, .int .i64 30] rfl (by (try simp only [List.map_toArray, List.map_cons, List.map_nil]); first | done | rfl | (simp only [List.length_drop, List.length_take]; rfl)) ?_; (with_reducible refine (dendronlaw01_few.calls (fun k_ => k_ < w.heap.size) _ _ l0 30 t509 _ ?side1 A2.out).mono ?_); (case side1 => exact Kd.V_mk HC0.out (Kd.F_below (Kd.C_F (Kd.heap_int .u64) HR0.out) (by repeat (first | (with_reducible first | exact HB.out | apply below_alloc | apply pw_below_drewN | apply below_drew1) | exact HB.out)))); rintro e w51 ⟨v510, rfl, ho0, hb⟩; refine ⟨_, rfl, ?_⟩; have n0_ := Aside0.mk (Kd.V_lower (Kd.V_mono (ok' := fun k_ => True) ho0 (fun k_ hk_ => trivial)) (below_size (by repeat (first | (with_reducible first | exact HB.out | apply below_alloc | apply pw_below_drewN | apply below_drew1) | exact HB.out)))); have n1_ := Aside0.mk (below_step (by repeat (first | (with_reducible first | exact HB.out | apply below_alloc | apply pw_below_drewN | apply below_drew1) | exact HB.out)) hb); clear HB; have HO511 := n0_; have HB := n1_; clear n0_ n1_; (try clear hb); (try clear hb2); (try clear hk); (try clear hi); (try clear ho0); obtain ⟨Ao52, co52, eo52⟩ := Kd.V_slice HO511.out; subst eo52) | ((with_reducible refine gate_callee (f := 34) rfl ?_); refine goesL_ (some 10) rfl rfl Try.func34 (by kernel_rfl) rfl #[.slice Ao52 t509.length co52] rfl (by (try simp only [List.map_toArray, List.map_cons, List.map_nil]); first | done | rfl | (simp only [List.length_drop, List.length_take]; rfl)) ?_; (with_reducible refine (dendronref01_From.calls k _ _ t509 t512 _ ?side1 ?side2 A3.out).mono ?_); (case side1 => repeat (first | exact (Kd.V_reads' HO511.out).2.2 | (with_reducible refine Kd.C_alloc ?_ _) | (with_reducible refine Kd.C_drewN ?_ _) | (with_reducible refine Kd.C_drew ?_))); (case side2 => exact (Kd.V_reads' HO511.out).2.1); rintro e w53 ⟨v513, rfl, ho0, hb⟩; refine ⟨_, rfl, ?_⟩; have n0_ := Aside0.mk (Kd.V_elder' (by (with_reducible repeat (first | apply Kd.V_alloc | apply Kd.V_drewN | apply Kd.V_drew)); exact HO511.out) (Kd.R_base ho0) hb); have n1_ := Aside0.mk (Kd.R_lower ho0 (below_size (by repeat (first | (with_reducible first | exact HB.out | apply below_alloc | apply pw_below_drewN | apply below_drew1) | exact HB.out)))); have n2_ := Aside0.mk (below_step (by repeat (first | (with_reducible first | exact HB.out | apply below_alloc | apply pw_below_drewN | apply below_drew1) | exact HB.out)) hb); clear HO511; clear HB; have HO511 := n0_; have HO514 := n1_; have HB := n2_; clear n0_ n1_ n2_; (try clear hb); (try clear hb2); (try clear hk); (try clear hi); (try clear ho0)) | ((with_reducible refine gate_callee (f := 42) rfl ?_); refine goesL_ (some 12) rfl rfl Try.func42 (by kernel_rfl) rfl #[.slice Ao52 t509.length co52] rfl (by (try simp only [List.map_toArray, List.map_cons, List.map_nil]); first | done | rfl | (simp only [List.length_drop, List.length_take]; rfl)) ?_; (with_reducible refine (nat_Print.calls k _ _ t509 t515 _ ?side1 ?side2 A4.out).mono ?_); (case side1 => repeat (first | exact (Kd.V_reads' HO511.out).2.2 | (with_reducible refine Kd.C_alloc ?_ _) | (with_reducible refine Kd.C_drewN ?_ _) | (with_reducible refine Kd.C_drew ?_))); (case side2 => exact (Kd.V_reads' HO511.out).2.1); rintro e w54 ⟨rfl, hb⟩; refine ⟨_, rfl, ?_⟩; have n0_ := Aside0.mk (Kd.V_below (by (with_reducible repeat (first | apply Kd.V_alloc | apply Kd.V_drewN | apply Kd.V_drew)); exact HO511.out) hb); have n1_ := Aside0.mk (Kd.R_below (by (with_reducible repeat (first | apply Kd.R_alloc | apply Kd.R_drewN | apply Kd.R_drew)); exact HO514.out) hb); have n2_ := Aside0.mk (below_step (by repeat (first | (with_reducible first | exact HB.out | apply below_alloc | apply pw_below_drewN | apply below_drew1) | exact HB.out)) hb); clear HO511; clear HO514; clear HB; have HO511 := n0_; have HO514 := n1_; have HB := n2_; clear n0_ n1_ n2_; (try clear hb); (try clear hb2); (try clear hk); (try clear hi)) | ((with_reducible refine gate_callee (f := 38) rfl ?_); refine goesL_ (some 15) rfl rfl Try.func38 (by kernel_rfl) rfl #[.string t515] rfl (by (try simp only [List.map_toArray, List.map_cons, List.map_nil]); first | done | rfl | (simp only [List.length_drop, List.length_take]; rfl)) ?_; (with_reducible refine (nat_Parse.calls k t515 t516 t517 _ A5.out).mono ?_); rintro e w55 ⟨v518, rfl, ho0, hb⟩; refine ⟨_, rfl, ?_⟩; have n0_ := Aside0.mk (Kd.V_elder' (by (with_reducible repeat (first | apply Kd.V_alloc | apply Kd.V_drewN | apply Kd.V_drew)); exact HO511.out) (Kd.R_base ho0) hb); have n1_ := Aside0.mk (Kd.R_below (by (with_reducible repeat (first | apply Kd.R_alloc | apply Kd.R_drewN | apply Kd.R_drew)); exact HO514.out) hb); have n2_ := Aside0.mk (Kd.R_lower ho0 (below_size (by repeat (first | (with_reducible first | exact HB.out | apply below_alloc | apply pw_below_drewN | apply below_drew1) | exact HB.out)))); have n3_ := Aside0.mk (below_step (by repeat (first | (with_reducible first | exact HB.out | apply below_alloc | apply pw_below_drewN | apply below_drew1) | exact HB.out)) hb); clear HO511; clear HO514; clear HB; have HO511 := n0_; have HO514 := n1_; have HO519 := n2_; have HB := n3_; clear n0_ n1_ n2_ n3_; (try clear hb); (try clear hb2); (try clear hk); (try clear hi); (try clear ho0); obtain ⟨Ao56, co56, eo56⟩ := Kd.R_slice HO514.out; subst eo56) | ((with_reducible refine gate_callee (f := 43) rfl ?_); refine goesL_ (some 20) rfl rfl Try.func43 (by kernel_rfl) rfl #[.slice Ao56 t512.length co56] rfl (by (try simp only [List.map_toArray, List.map_cons, List.map_nil]); first | done | rfl | (simp only [List.length_drop, List.length_take]; rfl)) ?_; (with_reducible refine (dendronref01_Text.calls k _ _ t512 t520 _ ?side1 ?side2 A6.out).mono ?_); (case side1 => repeat (first | exact (Kd.R_reads' HO514.out).2.2 | (with_reducible refine Kd.C_alloc ?_ _) | (with_reducible refine Kd.C_drewN ?_ _) | (with_reducible refine Kd.C_drew ?_))); (case side2 => exact (Kd.R_reads' HO514.out).2.1); rintro e w57 ⟨rfl, hb⟩; refine ⟨_, rfl, ?_⟩; have n0_ := Aside0.mk (Kd.V_below (by (with_reducible repeat (first | apply Kd.V_alloc | apply Kd.V_drewN | apply Kd.V_drew)); exact HO511.out) hb); have n1_ := Aside0.mk (Kd.R_below (by (with_reducible repeat (first | apply Kd.R_alloc | apply Kd.R_drewN | apply Kd.R_drew)); exact HO514.out) hb); have n2_ := Aside0.mk (Kd.R_below (by (with_reducible repeat (first | apply Kd.R_alloc | apply Kd.R_drewN | apply Kd.R_drew)); exact HO519.out) hb); have n3_ := Aside0.mk (below_step (by repeat (first | (with_reducible first | exact HB.out | apply below_alloc | apply pw_below_drewN | apply below_drew1) | exact HB.out)) hb); clear HO511; clear HO514; clear HO519; clear HB; have HO511 := n0_; have HO514 := n1_; have HO519 := n2_; have HB := n3_; clear n0_ n1_ n2_ n3_; (try clear hb); (try clear hb2); (try clear hk); (try clear hi)))
    go_ret
    exact ⟨by first | rfl | (simp [errW_none, errW_some] <;> rfl) | (simp [*, errW_none, errW_some] <;> rfl), by repeat (first | (with_reducible first | exact HB.out | apply below_alloc | apply pw_below_drewN | apply below_drew1) | exact HB.out)⟩
def dendronlaw01_NatTexts.Pure : Prop := ∀ (l0 : List Int), l0.length ≤ maxLen → l0.length * 8 ≤ 140737488351232 → (∀ x ∈ l0, (Lit.int .u64 x).wf = true) → ∃ k, dendronlaw01_NatTexts.f k l0 = some true
theorem dendronlaw01_NatTexts.walk (P : dendronlaw01_NatTexts.Pure) (a0 : Option Addr) (len0 cap0 : Nat) (z0 : List Int) (w : World) (w0 : (a0 = none ∧ len0 = 0 ∧ cap0 = 0 ∧ z0 = []) ∨ ∃ x, a0 = some x ∧ len0 ≤ cap0 ∧ cap0 ≤ maxLen ∧ z0.length = cap0 ∧ (∀ i, i < z0.length → w.cell? (x.add i) = some (.int .u64 (z0.getD i 0))) ∧ ∀ n ∈ z0, (Lit.int .u64 n).wf = true) (y0 : len0 * 8 ≤ 140737488351232) :
    Calls Try.prog 11 #[.slice a0 len0 cap0] w fun e w' => e = .returned (.bool true) ∧ Below w.heap.size w w' := by
  obtain ⟨l0, rfl, hr0, hm0, hw0, hc0⟩ := ReadsInt.ofRowC w0
  obtain ⟨k, h⟩ := P l0 hm0 y0 hw0
  refine (dendronlaw01_NatTexts.calls k _ _ l0 true w (Kd.C_of_reads (d := (0 : Int)) (h1 := fun _ => rfl) hr0) hc0 h).mono ?_
  rintro e w' ⟨rfl, hd⟩
  exact ⟨rfl, hd⟩
end Go.Proofs.Ytfnhpojoaaegmaa.P
set_option linter.unusedVariables false
set_option linter.unusedSimpArgs false
namespace Dg
def vl (B : Int) : List Int → Int
  | [] => 0
  | x :: r => x + B * vl B r
def Dig (B : Int) (l : List Int) : Prop := ∀ x, x ∈ l → 0 ≤ x ∧ x < B
def dg (B : Nat) (n : Nat) : List Int :=
  if h : n = 0 ∨ B < 2 then [] else ((n % B : Nat) : Int) :: dg B (n / B)
termination_by n
decreasing_by exact Nat.div_lt_self (by omega) (by omega)
theorem dg_zero (B : Nat) : dg B 0 = [] := by unfold dg; simp
theorem dg_succ {B n : Nat} (hB : 2 ≤ B) (hn : n ≠ 0) : dg B n = ((n % B : Nat) : Int) :: dg B (n / B) := by
  conv => lhs; unfold dg
  rw [dif_neg (by omega)]
theorem vl_nil (B : Int) : vl B [] = 0 := rfl
theorem vl_cons (B x : Int) (r : List Int) : vl B (x :: r) = x + B * vl B r := rfl
theorem vl_append (B : Int) (l m : List Int) : vl B (l ++ m) = vl B l + B ^ l.length * vl B m := by
  induction l with
  | nil => simp [vl]
  | cons x r ih => simp only [List.cons_append, vl, ih, List.length_cons, Int.pow_succ]; grind
theorem vl_take_succ (B : Int) (l : List Int) (n : Nat) : vl B (l.take (n + 1)) = vl B (l.take n) + l.getD n 0 * B ^ n := by
  induction l generalizing n with
  | nil => simp [vl]
  | cons x r ih =>
    cases n with
    | zero => simp [vl]
    | succ n => simp only [List.take_succ_cons, vl, ih, List.getD_cons_succ, Int.pow_succ]; grind
theorem vl_drop_succ (B : Int) (l : List Int) (n : Nat) : vl B (l.drop n) = l.getD n 0 + B * vl B (l.drop (n + 1)) := by
  induction l generalizing n with
  | nil => simp [vl]
  | cons x r ih =>
    cases n with
    | zero => simp [vl]
    | succ n => simpa using ih n
theorem vl_take_drop (B : Int) (l : List Int) (n : Nat) : vl B l = vl B (l.take n) + B ^ n * vl B (l.drop n) := by
  induction n with
  | zero => simp [vl]
  | succ n ih => rw [vl_take_succ, ih, vl_drop_succ B l n, Int.pow_succ]; grind
theorem vl_take_set (B : Int) (l : List Int) (i n : Nat) (v : Int) (h : n ≤ i) : vl B ((l.set i v).take n) = vl B (l.take n) := by
  rw [List.take_set_of_le h]
theorem getD_set (l : List Int) (i j : Nat) (v : Int) (h : i < l.length) : (l.set i v).getD j 0 = if i = j then v else l.getD j 0 := by
  simp only [List.getD_eq_getElem?_getD, List.getElem?_set]
  split
  · rename_i h1; subst h1; simp
  · rfl
theorem vl_drop_set (B : Int) (l : List Int) (i n : Nat) (v : Int) (h : i < n) : vl B ((l.set i v).drop n) = vl B (l.drop n) := by
  rw [List.drop_set_of_lt h]
theorem vl_set (B : Int) (l : List Int) (i : Nat) (v : Int) (h : i < l.length) : vl B (l.set i v) = vl B l + (v - l.getD i 0) * B ^ i := by
  rw [vl_take_drop B (l.set i v) i, vl_take_drop B l i, vl_take_set _ _ _ _ _ (Nat.le_refl _), vl_drop_succ, vl_drop_succ B l i, vl_drop_set _ _ _ _ _ (Nat.lt_succ_self _), getD_set _ _ _ _ h]
  grind
theorem Dig.getD {B : Int} {l : List Int} (h : Dig B l) (hB : 0 < B) (n : Nat) : 0 ≤ l.getD n 0 ∧ l.getD n 0 < B := by
  rw [List.getD_eq_getElem?_getD]
  rcases Nat.lt_or_ge n l.length with hn | hn
  · rw [List.getElem?_eq_getElem hn]; exact h _ (List.getElem_mem hn)
  · rw [List.getElem?_eq_none hn]; simp; exact hB
theorem Dig.take {B : Int} {l : List Int} (h : Dig B l) (n : Nat) : Dig B (l.take n) := fun x hx => h x (List.mem_of_mem_take hx)
theorem Dig.drop {B : Int} {l : List Int} (h : Dig B l) (n : Nat) : Dig B (l.drop n) := fun x hx => h x (List.mem_of_mem_drop hx)
theorem Dig.set {B : Int} {l : List Int} (h : Dig B l) (n : Nat) {v : Int} (h0 : 0 ≤ v) (h1 : v < B) : Dig B (l.set n v) := by
  intro x hx
  rcases List.mem_or_eq_of_mem_set hx with hx | rfl
  · exact h x hx
  · exact ⟨h0, h1⟩
theorem Dig.nil {B : Int} : Dig B [] := fun x hx => by simp at hx
theorem Dig.cons {B x : Int} {r : List Int} (h0 : 0 ≤ x) (h1 : x < B) (h : Dig B r) : Dig B (x :: r) := by
  intro y hy
  rcases List.mem_cons.1 hy with rfl | hy
  · exact ⟨h0, h1⟩
  · exact h y hy
theorem Dig.append {B : Int} {l m : List Int} (h : Dig B l) (k : Dig B m) : Dig B (l ++ m) := by
  intro y hy
  rcases List.mem_append.1 hy with hy | hy
  · exact h y hy
  · exact k y hy
theorem Dig.replicate {B : Int} (hB : 0 < B) (n : Nat) : Dig B (List.replicate n 0) := by
  intro y hy
  rw [List.mem_replicate] at hy
  omega
theorem vl_nonneg {B : Int} {l : List Int} (h : Dig B l) (hB : 0 < B) : 0 ≤ vl B l := by
  induction l with
  | nil => simp [vl]
  | cons x r ih =>
    have h1 := h x (by simp)
    have h2 := ih (fun y hy => h y (by simp [hy]))
    have := Int.mul_nonneg (Int.le_of_lt hB) h2
    simp only [vl]; omega
theorem vl_lt {B : Int} {l : List Int} (h : Dig B l) (hB : 0 < B) : vl B l < B ^ l.length := by
  induction l with
  | nil => simp [vl]
  | cons x r ih =>
    have h1 := h x (by simp)
    have h2 := ih (fun y hy => h y (by simp [hy]))
    have h3 : B * (vl B r + 1) ≤ B * B ^ r.length := Int.mul_le_mul_of_nonneg_left (by omega) (by omega)
    rw [List.length_cons, Int.pow_succ, Int.mul_comm _ B]
    simp only [vl]
    have h4 : B * (vl B r + 1) = B * vl B r + B := by grind
    omega
theorem vl_replicate_zero (B : Int) (n : Nat) : vl B (List.replicate n 0) = 0 := by
  induction n with
  | zero => rfl
  | succ n ih => rw [List.replicate_succ, vl, ih]; simp
theorem dg_dig {B : Nat} (hB : 2 ≤ B) (n : Nat) : Dig B (dg B n) := by
  induction n using Nat.strongRecOn with
  | _ n ih =>
    by_cases hn : n = 0
    · subst hn; rw [dg_zero]; exact Dig.nil
    · rw [dg_succ hB hn]
      have := Nat.mod_lt n (show 0 < B by omega)
      exact Dig.cons (by omega) (by omega) (ih _ (Nat.div_lt_self (by omega) (by omega)))
theorem vl_dg {B : Nat} (hB : 2 ≤ B) (n : Nat) : vl B (dg B n) = n := by
  induction n using Nat.strongRecOn with
  | _ n ih =>
    by_cases hn : n = 0
    · subst hn; rw [dg_zero]; rfl
    · rw [dg_succ hB hn, vl, ih _ (Nat.div_lt_self (by omega) (by omega))]
      have := Nat.mod_add_div n B
      exact_mod_cast this
def Top (l : List Int) : Prop := l ≠ [] → l.getD (l.length - 1) 0 ≠ 0
theorem Top.nil : Top [] := fun h => absurd rfl h
theorem Top.tail {x y : Int} {r : List Int} (h : Top (x :: y :: r)) : Top (y :: r) := by
  intro _
  have := h (by simp)
  simpa using this
theorem dg_eq_nil {B n : Nat} (hB : 2 ≤ B) : dg B n = [] ↔ n = 0 := by
  constructor
  · intro h
    by_cases hn : n = 0
    · exact hn
    · rw [dg_succ hB hn] at h; cases h
  · rintro rfl; exact dg_zero B
theorem dg_vl {B : Nat} (hB : 2 ≤ B) {l : List Int} (hd : Dig B l) (ht : Top l) : dg B (vl B l).toNat = l := by
  induction l with
  | nil => simp [vl, dg_zero]
  | cons x r ih =>
    have h1 := hd x (by simp)
    have hr : Dig B r := fun y hy => hd y (by simp [hy])
    have hn := vl_nonneg hr (by omega)
    obtain ⟨v, hv⟩ := Int.eq_ofNat_of_zero_le hn
    obtain ⟨y, rfl⟩ := Int.eq_ofNat_of_zero_le h1.1
    have hyB : y < B := by omega
    have htr : Top r := by
      cases r with
      | nil => exact Top.nil
      | cons z r => exact ht.tail
    have ih := ih hr htr
    rw [hv] at ih
    have hval : (vl B ((y : Int) :: r)).toNat = y + B * v := by
      rw [vl, hv]; norm_cast
    rw [hval]
    have hne : y + B * v ≠ 0 := by
      cases r with
      | nil =>
        have := ht (by simp)
        simp at this
        omega
      | cons z r =>
        intro h0
        have hv0 : v = 0 := by
          have : B * v = 0 := by omega
          rcases Nat.mul_eq_zero.1 this with h | h <;> omega
        subst hv0
        simp [dg_zero] at ih
    have hm : (y + B * v) % B = y := by rw [Nat.add_mul_mod_self_left, Nat.mod_eq_of_lt hyB]
    have hq : (y + B * v) / B = v := by rw [Nat.add_mul_div_left _ _ (by omega), Nat.div_eq_of_lt hyB, Nat.zero_add]
    rw [dg_succ hB hne, hm, hq]
    have : (v : Int).toNat = v := by simp
    rw [this] at ih
    rw [ih]
theorem dg_top {B : Nat} (hB : 2 ≤ B) (n : Nat) : Top (dg B n) := by
  induction n using Nat.strongRecOn with
  | _ n ih =>
    by_cases hn : n = 0
    · subst hn; rw [dg_zero]; exact Top.nil
    · rw [dg_succ hB hn]
      intro _
      have hlt := Nat.div_lt_self (n := n) (k := B) (by omega) (by omega)
      by_cases h0 : n / B = 0
      · rw [h0, dg_zero]
        simp
        have := Nat.mod_add_div n B
        rw [h0] at this
        omega
      · have h2 := ih _ hlt
        rw [dg_succ hB h0] at h2 ⊢
        have := h2 (by simp)
        simpa using this
theorem top_unique {B : Nat} (hB : 2 ≤ B) {l m : List Int} (hl : Dig B l) (hm : Dig B m) (tl : Top l) (tm : Top m) (h : vl B l = vl B m) : l = m := by
  rw [← dg_vl hB hl tl, ← dg_vl hB hm tm, h]
end Dg
namespace Go.Proofs.Ytfnhpojoaaegmaa.V
open Go.RowKit Go.Proofs.YtfnhpojoaaegmaaW.PrintWords
section
variable {α β : Type} {r : α}
theorem Ev.succ {g : Nat → Option α} (h : Ev (fun k => g (k + 1)) r) : Ev g r := Ev.step (fun _ => rfl) h
theorem Ev.pos {c : Prop} [Decidable c] {A B : Nat → Option α} (h : c) (hA : Ev A r) : Ev (fun k => if c then A k else B k) r := by simpa only [if_pos h] using hA
theorem Ev.neg {c : Prop} [Decidable c] {A B : Nat → Option α} (h : ¬ c) (hB : Ev B r) : Ev (fun k => if c then A k else B k) r := by simpa only [if_neg h] using hB
theorem Ev.ret (r : α) : Ev (fun _ => some r) r := Ev.now r
theorem Ev.bind1 {β : Type} {q : β} {g : Option α} {f : Nat → α → Option β} (h : g = some r) (k : Ev (fun n => f n r) q) : Ev (fun n => g.bind (f n)) q := by subst h; exact k
theorem Ev.ex {g : Nat → Option α} (h : Ev g r) : ∃ k, g k = some r := Ev.rounds h
theorem Ev.eq {g : Nat → Option α} {q : α} (h : Ev g r) (e : r = q) : Ev g q := e ▸ h
end
theorem w64 {x : Int} (h0 : -9223372036854775808 ≤ x) (h1 : x ≤ 9223372036854775807) : wrap64 x = x := by unfold wrap64; omega
theorem w64add {i m : Nat} (h : i + m ≤ 9223372036854775807) : wrap64 ((i : Int) + (m : Int)) = ((i + m : Nat) : Int) := by rw [w64 (by omega) (by omega)]; omega
theorem w64succ {i : Nat} (h : i + 1 ≤ 9223372036854775807) : wrap64 ((i : Int) + 1) = ((i + 1 : Nat) : Int) := by rw [w64 (by omega) (by omega)]; omega
theorem w64pred {i : Nat} (h : i ≤ 9223372036854775807) : wrap64 ((i : Int) - 1) = (i : Int) - 1 := w64 (by omega) (by omega)
theorem u64w {x : Int} (h0 : 0 ≤ x) (h1 : x ≤ 18446744073709551615) : IntKind.u64.wrap x = x := by
  have : IntKind.u64.wrap x = x % 18446744073709551616 := by simp [IntKind.wrap, IntKind.bits, IntKind.signed]
  rw [this]; omega
theorem u64m (x : Int) : IntKind.u64.wrap x = x % 18446744073709551616 := by simp [IntKind.wrap, IntKind.bits, IntKind.signed]
theorem u64_id (n : Int) (h₀ : 0 ≤ n) (h₁ : n < 2 ^ 64) : IntKind.u64.wrap n = n := by rw [u64m]; omega
theorem and32 {x : Int} (h0 : 0 ≤ x) (h1 : x ≤ 18446744073709551615) : Go.bits .and .u64 x 4294967295 = x % 4294967296 :=
  bits_mask .u64 64 (by decide) u64_id 32 (by decide) x h0 (by omega)
theorem or32 {x y : Int} (hx : 0 ≤ x) (h1 : x ≤ 4294967295) (h2 : 0 ≤ y) (h3 : y ≤ 4294967295) : Go.bits .or .u64 (x * 4294967296) y = x * 4294967296 + y :=
  bits_join .u64 64 (by decide) u64_id 32 (x * 4294967296) y (by omega) (by omega) (by omega) h2 (by omega) (by omega)
theorem wf_u64 {x : Int} (h : (Lit.int .u64 x).wf = true) : 0 ≤ x ∧ x ≤ 18446744073709551615 := by
  simp [Lit.wf, IntKind.min, IntKind.max, IntKind.signed, IntKind.bits] at h
  omega
theorem rd_nat (l : List Int) (n : Nat) : rd l (n : Int) = l.getD n 0 := by unfold rd; rw [Int.toNat_natCast]
theorem rd_add (l : List Int) (i m : Nat) : rd l ((i : Int) + (m : Int)) = l.getD (i + m) 0 := by rw [← Int.natCast_add]; exact rd_nat _ _
theorem tn_add (i m : Nat) : ((i : Int) + (m : Int)).toNat = i + m := by omega
def D (n : Nat) : List Int := Dg.dg 4294967296 n
def E (n : Nat) : List Int := Dg.dg 10000 n
def W (l : List Int) : Nat := (Dg.vl 4294967296 (l.map (· % 4294967296))).toNat
def U (l : List Int) : Prop := ∀ x, x ∈ l → 0 ≤ x ∧ x ≤ 18446744073709551615
theorem D_dig (n : Nat) : Dg.Dig 4294967296 (D n) := Dg.dg_dig (by decide) n
theorem E_dig (n : Nat) : Dg.Dig 10000 (E n) := Dg.dg_dig (by decide) n
theorem D_top (n : Nat) : Dg.Top (D n) := Dg.dg_top (by decide) n
theorem E_top (n : Nat) : Dg.Top (E n) := Dg.dg_top (by decide) n
theorem D_vl (n : Nat) : Dg.vl 4294967296 (D n) = n := Dg.vl_dg (by decide) n
theorem E_vl (n : Nat) : Dg.vl 10000 (E n) = n := Dg.vl_dg (by decide) n
theorem D_U (n : Nat) : U (D n) := fun x hx => by have := D_dig n x hx; omega
theorem D_get (n i : Nat) : 0 ≤ (D n).getD i 0 ∧ (D n).getD i 0 < 4294967296 := (D_dig n).getD (by decide) i
theorem E_get (n i : Nat) : 0 ≤ (E n).getD i 0 ∧ (E n).getD i 0 < 10000 := (E_dig n).getD (by decide) i
theorem D_zero : D 0 = [] := Dg.dg_zero _
theorem E_zero : E 0 = [] := Dg.dg_zero _
theorem D_nil {n : Nat} : D n = [] ↔ n = 0 := Dg.dg_eq_nil (by decide)
theorem map_mod_dig {l : List Int} (h : Dg.Dig 4294967296 l) : l.map (· % 4294967296) = l := by
  conv => rhs; rw [← List.map_id l]
  apply List.map_congr_left
  intro x hx
  have := h x hx
  simp only [id]
  omega
theorem W_dig {l : List Int} (h : Dg.Dig 4294967296 l) : (W l : Int) = Dg.vl 4294967296 l := by
  unfold W
  rw [map_mod_dig h]
  have := Dg.vl_nonneg h (by decide)
  omega
theorem W_D (n : Nat) : W (D n) = n := by
  have := W_dig (D_dig n)
  rw [D_vl] at this
  omega
theorem map_dig (l : List Int) : Dg.Dig 4294967296 (l.map (· % 4294967296)) := by
  intro x hx
  obtain ⟨y, _, rfl⟩ := List.mem_map.1 hx
  omega
theorem W_map (l : List Int) : (W l : Int) = Dg.vl 4294967296 (l.map (· % 4294967296)) := by
  unfold W
  have := Dg.vl_nonneg (map_dig l) (by decide)
  omega
theorem W_nil : W [] = 0 := by simp [W, Dg.vl]
theorem D_of {l : List Int} (hd : Dg.Dig 4294967296 l) (ht : Dg.Top l) {n : Nat} (hv : Dg.vl 4294967296 l = n) : l = D n :=
  Dg.top_unique (B := 4294967296) (by decide) hd (D_dig n) ht (D_top n) (hv.trans (D_vl n).symm)
theorem E_of {l : List Int} (hd : Dg.Dig 10000 l) (ht : Dg.Top l) {n : Nat} (hv : Dg.vl 10000 l = n) : l = E n :=
  Dg.top_unique (B := 10000) (by decide) hd (E_dig n) ht (E_top n) (hv.trans (E_vl n).symm)
theorem len_lt (B : Nat) (hB : 2 ≤ B) (n : Nat) : n < B ^ (Dg.dg B n).length := by
  have h := Dg.vl_lt (Dg.dg_dig hB n) (by omega)
  rw [Dg.vl_dg hB] at h
  exact_mod_cast h
theorem len_le_of_lt (B : Nat) (hB : 2 ≤ B) {n k : Nat} (h : n < B ^ k) : (Dg.dg B n).length ≤ k := by
  induction k generalizing n with
  | zero =>
    have : n = 0 := by simpa using h
    subst this
    rw [Dg.dg_zero]
    simp
  | succ k ih =>
    by_cases hn : n = 0
    · subst hn
      rw [Dg.dg_zero]
      simp
    · rw [Dg.dg_succ hB hn, List.length_cons]
      have : n / B < B ^ k := by
        rw [Nat.div_lt_iff_lt_mul (by omega)]
        rw [Nat.pow_succ] at h
        exact h
      have := ih this
      omega
theorem len_mono (B : Nat) (hB : 2 ≤ B) {m n : Nat} (h : m ≤ n) : (Dg.dg B m).length ≤ (Dg.dg B n).length :=
  len_le_of_lt B hB (Nat.lt_of_le_of_lt h (len_lt B hB n))
theorem len_lt_imp (B : Nat) (hB : 2 ≤ B) {m n : Nat} (h : (Dg.dg B m).length < (Dg.dg B n).length) : m < n := by
  apply Classical.byContradiction
  intro hc
  have := len_mono B hB (Nat.le_of_not_lt hc)
  omega
def L (n : Nat) : Nat := (D n).length
def LE (n : Nat) : Nat := (E n).length
theorem L_lt (n : Nat) : n < 4294967296 ^ L n := len_lt _ (by decide) n
theorem L_le {n k : Nat} (h : n < 4294967296 ^ k) : L n ≤ k := len_le_of_lt _ (by decide) h
theorem L_mono {m n : Nat} (h : m ≤ n) : L m ≤ L n := len_mono _ (by decide) h
theorem LE_lt (n : Nat) : n < 10000 ^ LE n := len_lt _ (by decide) n
theorem LE_le {n k : Nat} (h : n < 10000 ^ k) : LE n ≤ k := len_le_of_lt _ (by decide) h
theorem mul_lt_pow (B : Nat) (hB : 2 ≤ B) {a b i j : Nat} (ha : a < B ^ i) (hb : b < B ^ j) : a * b < B ^ (i + j) := by
  rw [Nat.pow_add]
  rcases Nat.eq_zero_or_pos b with h | h
  · subst h
    rw [Nat.mul_zero]
    exact Nat.mul_pos (Nat.pow_pos (by omega)) (Nat.pow_pos (by omega))
  · exact Nat.lt_of_lt_of_le ((Nat.mul_lt_mul_right h).2 ha) (Nat.mul_le_mul_left _ (Nat.le_of_lt hb))
theorem LE_mul (a b : Nat) : LE (a * b) ≤ LE a + LE b := LE_le (mul_lt_pow _ (by decide) (LE_lt a) (LE_lt b))
theorem L_W (l : List Int) : L (W l) ≤ l.length := by
  apply L_le
  have := Dg.vl_lt (map_dig l) (by decide)
  rw [← W_map, List.length_map, show (4294967296 : Int) = ((4294967296 : Nat) : Int) from rfl, ← Int.natCast_pow] at this
  exact Int.ofNat_lt.1 this
def cmp (a b : Int) : Int := if a < b then -1 else if b < a then 1 else 0
theorem cmp_lt {a b : Int} (h : a < b) : cmp a b = -1 := by unfold cmp; rw [if_pos h]
theorem cmp_gt {a b : Int} (h : b < a) : cmp a b = 1 := by unfold cmp; rw [if_neg (by omega), if_pos h]
theorem cmp_eq_iff {a b : Int} : cmp a b = 0 ↔ a = b := by unfold cmp; split <;> (try split) <;> omega
theorem cmp_top {B : Nat} {a b x y P : Int} (ha0 : 0 ≤ a) (ha : a < P) (hb0 : 0 ≤ b) (hb : b < P) (h : x < y) : a + x * P < b + y * P := by
  have : (x + 1) * P ≤ y * P := Int.mul_le_mul_of_nonneg_right (by omega) (by omega)
  rw [Int.add_mul] at this
  omega
end Go.Proofs.Ytfnhpojoaaegmaa.V
set_option linter.unusedVariables false
set_option linter.unusedSimpArgs false
namespace Go.Proofs.Ytfnhpojoaaegmaa.V
open Go.RowKit Go.Proofs.Ytfnhpojoaaegmaa.P Go.Proofs.YtfnhpojoaaegmaaW.PrintWords
theorem top_take {l : List Int} {n : Nat} (hn : n < l.length) (h : l.getD n 0 ≠ 0) : Dg.Top (l.take (n + 1)) := by
  intro _
  have hl : (l.take (n + 1)).length = n + 1 := by rw [List.length_take]; omega
  rw [hl, Nat.add_sub_cancel]
  rw [List.getD_eq_getElem?_getD, List.getElem?_take_of_lt (by omega), ← List.getD_eq_getElem?_getD]
  exact h
theorem nat_trim_l0 {l : List Int} (hd : Dg.Dig 4294967296 l) (hl : l.length ≤ 35184372088832) : ∀ n : Nat, n ≤ l.length →
    Ev (fun k => nat_trim.l0 k l (n : Int)) (D (Dg.vl 4294967296 (l.take n)).toNat) := by
  intro n
  induction n with
  | zero =>
    intro _
    refine Ev.succ ?_
    simp (disch := omega) only [nat_trim.l0, if_pos, if_neg]
    simp only [List.take_zero, Dg.vl, Int.toNat_zero, D_zero]
    exact Ev.ret _
  | succ n ih =>
    intro hn
    have e : wrap64 (((n + 1 : Nat) : Int) - 1) = (n : Int) := by rw [w64 (by omega) (by omega)]; omega
    refine Ev.succ ?_
    simp (disch := omega) only [nat_trim.l0, e, if_pos, if_neg, rd_nat]
    by_cases h : l.getD n 0 = 0
    · simp only [h, if_true]
      refine Ev.eq (ih (by omega)) ?_
      rw [Dg.vl_take_succ, h]
      simp
    · simp only [h, if_false]
      refine Ev.eq (Ev.ret _) ?_
      rw [Int.toNat_natCast]
      have hdd := hd.take (n + 1)
      refine D_of hdd (top_take (by omega) h) ?_
      have := Dg.vl_nonneg hdd (by decide)
      omega
theorem nat_trim_f {l : List Int} (hd : Dg.Dig 4294967296 l) (hl : l.length ≤ 35184372088832) {n : Nat} (hv : Dg.vl 4294967296 l = n) : Ev (fun k => nat_trim.f k l) (D n) := by
  have := nat_trim_l0 hd hl l.length (Nat.le_refl _)
  rw [List.take_length, hv, Int.toNat_natCast] at this
  exact this
theorem ref_Trim_l0 {l : List Int} (hd : Dg.Dig 10000 l) (hl : l.length ≤ 35184372088832) : ∀ n : Nat, n ≤ l.length →
    Ev (fun k => dendronref01_Trim.l0 k l (n : Int)) (E (Dg.vl 10000 (l.take n)).toNat) := by
  intro n
  induction n with
  | zero =>
    intro _
    refine Ev.succ ?_
    simp (disch := omega) only [dendronref01_Trim.l0, if_pos, if_neg]
    refine Ev.eq (Ev.ret _) ?_
    simp only [List.take_zero, Dg.vl, Int.toNat_zero, E_zero, Int.ofNat_zero, Int.toNat_natCast]
  | succ n ih =>
    intro hn
    have e : wrap64 (((n + 1 : Nat) : Int) - 1) = (n : Int) := by rw [w64 (by omega) (by omega)]; omega
    refine Ev.succ ?_
    simp (disch := omega) only [dendronref01_Trim.l0, e, if_pos, if_neg, rd_nat]
    by_cases h : l.getD n 0 = 0
    · simp only [h, if_true]
      refine Ev.eq (ih (by omega)) ?_
      rw [Dg.vl_take_succ, h]
      simp
    · simp only [h, if_false]
      refine Ev.eq (Ev.ret _) ?_
      rw [Int.toNat_natCast]
      have hdd := hd.take (n + 1)
      refine E_of hdd (top_take (by omega) h) ?_
      have := Dg.vl_nonneg hdd (by decide)
      omega
theorem ref_Trim_f {l : List Int} (hd : Dg.Dig 10000 l) (hl : l.length ≤ 35184372088832) {n : Nat} (hv : Dg.vl 10000 l = n) : Ev (fun k => dendronref01_Trim.f k l) (E n) := by
  have := ref_Trim_l0 hd hl l.length (Nat.le_refl _)
  rw [List.take_length, hv, Int.toNat_natCast] at this
  exact this
theorem set_take {l : List Int} {n : Nat} (v : Int) (h : n < l.length) : (l.set n v).take (n + 1) = l.take n ++ [v] := by
  have h2 : n < (l.set n v).length := by rw [List.length_set]; exact h
  rw [List.take_succ_eq_append_getElem h2, List.getElem_set_self, List.take_set_of_le (Nat.le_refl _)]
theorem map_take_succ {l : List Int} {n : Nat} (f : Int → Int) (h : n < l.length) : (l.map f).take (n + 1) = (l.map f).take n ++ [f (l.getD n 0)] := by
  have h2 : n < (l.map f).length := by rw [List.length_map]; exact h
  rw [List.take_succ_eq_append_getElem h2, List.getElem_map, List.getD_eq_getElem?_getD, List.getElem?_eq_getElem h, Option.getD_some]
theorem U_get {l : List Int} (h : U l) (n : Nat) : 0 ≤ l.getD n 0 ∧ l.getD n 0 ≤ 18446744073709551615 := by
  rw [List.getD_eq_getElem?_getD]
  rcases Nat.lt_or_ge n l.length with hn | hn
  · rw [List.getElem?_eq_getElem hn]; exact h _ (List.getElem_mem hn)
  · rw [List.getElem?_eq_none hn]; simp
theorem nat_Clean_l0 {l : List Int} (hu : U l) (hl : l.length ≤ 35184372088832) : ∀ (d i : Nat) (out : List Int), i + d = l.length → out.length = l.length → out.take i = (l.map (· % 4294967296)).take i →
    Ev (fun k => nat_Clean.l0 k out l (l.length : Int) (i : Int)) (D (W l)) := by
  intro d
  induction d with
  | zero =>
    intro i out hi ho ht
    have e : out = l.map (· % 4294967296) := by
      rw [List.take_of_length_le (by omega), List.take_of_length_le (by rw [List.length_map]; omega)] at ht
      exact ht
    refine Ev.succ ?_
    simp (disch := omega) only [nat_Clean.l0, if_pos, if_neg]
    rw [e]
    refine Ev.bind (nat_trim_f (map_dig l) (by rw [List.length_map]; exact hl) (W_map l).symm) ?_
    exact Ev.ret _
  | succ d ih =>
    intro i out hi ho ht
    have hg := U_get hu i
    have e : wrap64 ((i : Int) + 1) = ((i + 1 : Nat) : Int) := by rw [w64 (by omega) (by omega)]; omega
    refine Ev.succ ?_
    simp (disch := omega) only [nat_Clean.l0, if_pos, if_neg, rd_nat, e, and32, Int.toNat_natCast]
    refine ih (i + 1) _ (by omega) (by rw [List.length_set]; exact ho) ?_
    rw [set_take _ (by omega), map_take_succ _ (by omega), ht]
theorem nat_Clean_f {l : List Int} (hu : U l) (hl : l.length ≤ 35184372088832) : Ev (fun k => nat_Clean.f k l) (D (W l)) := by
  unfold nat_Clean.f
  simp (disch := omega) only [if_pos, Int.toNat_natCast]
  exact nat_Clean_l0 hu hl l.length 0 _ (by omega) (by rw [List.length_replicate]) (by simp)
theorem nat_limb_f (l : List Int) (i : Nat) : nat_limb.f l (i : Int) = some (l.getD i 0) := by
  unfold nat_limb.f
  by_cases h : (i : Int) < (l.length : Int)
  · rw [if_pos h, if_pos (by omega), rd_nat]
  · rw [if_neg h, List.getD_eq_getElem?_getD, List.getElem?_eq_none (by omega)]
    rfl
def Rt (l : List Int) : Prop := Dg.Dig 4294967296 l ∧ Dg.Top l
theorem Rt_D (n : Nat) : Rt (D n) := ⟨D_dig n, D_top n⟩
theorem ref_Right_l0 {l : List Int} (hu : U l) (hl : l.length ≤ 35184372088832) : ∀ (d i : Nat), i + d = l.length → (∀ j, j < i → l.getD j 0 < 4294967296) →
    ∃ b, Ev (fun k => dendronref01_Right.l0 k l (i : Int)) b ∧ (b = true ↔ Rt l) := by
  intro d
  induction d with
  | zero =>
    intro i hi hj
    have hd : Dg.Dig 4294967296 l := by
      intro x hx
      obtain ⟨n, hn, e⟩ := List.mem_iff_getElem.1 hx
      have h1 := hj n (by omega)
      have h2 := U_get hu n
      rw [List.getD_eq_getElem?_getD, List.getElem?_eq_getElem hn, Option.getD_some, e] at h1 h2
      exact ⟨h2.1, h1⟩
    by_cases h0 : l.length = 0
    · refine ⟨true, Ev.succ ?_, ?_⟩
      · simp (disch := omega) only [dendronref01_Right.l0, if_neg, if_pos]
        exact Ev.ret _
      · simp only [true_iff]
        have : l = [] := List.length_eq_zero_iff.1 h0
        subst this
        exact ⟨hd, Dg.Top.nil⟩
    · refine ⟨l.getD (l.length - 1) 0 != 0, Ev.succ ?_, ?_⟩
      · have e : wrap64 ((l.length : Int) - 1) = ((l.length - 1 : Nat) : Int) := by rw [w64 (by omega) (by omega)]; omega
        simp (disch := omega) only [dendronref01_Right.l0, if_neg, if_pos, e, rd_nat]
        exact Ev.ret _
      · rw [bne_iff_ne]
        constructor
        · intro h
          exact ⟨hd, fun _ => h⟩
        · intro h
          exact h.2 (fun e => h0 (by rw [e]; rfl))
  | succ d ih =>
    intro i hi hj
    have e : wrap64 ((i : Int) + 1) = ((i + 1 : Nat) : Int) := by rw [w64 (by omega) (by omega)]; omega
    by_cases h : l.getD i 0 > 4294967295
    · refine ⟨false, Ev.succ ?_, ?_⟩
      · simp (disch := omega) only [dendronref01_Right.l0, if_pos, rd_nat]
        exact Ev.ret _
      · simp only [Bool.false_eq_true, false_iff]
        intro hr
        have := hr.1.getD (by decide) i
        omega
    · obtain ⟨b, hb, hr⟩ := ih (i + 1) (by omega) (fun j hj2 => by
        rcases Nat.lt_or_ge j i with h3 | h3
        · exact hj j h3
        · have : j = i := by omega
          subst this
          omega)
      refine ⟨b, Ev.succ ?_, hr⟩
      simp (disch := omega) only [dendronref01_Right.l0, if_pos, rd_nat, e, h, if_false]
      exact hb
theorem ref_Right_f {l : List Int} (hu : U l) (hl : l.length ≤ 35184372088832) : ∃ b, Ev (fun k => dendronref01_Right.f k l) b ∧ (b = true ↔ Rt l) :=
  ref_Right_l0 hu hl l.length 0 (by omega) (fun j h => absurd h (by omega))
theorem ref_Right_D {n : Nat} (hl : L n ≤ 35184372088832) : Ev (fun k => dendronref01_Right.f k (D n)) true := by
  obtain ⟨b, hb, h⟩ := ref_Right_f (D_U n) hl
  rwa [h.2 (Rt_D n)] at hb
end Go.Proofs.Ytfnhpojoaaegmaa.V
set_option linter.unusedVariables false
set_option linter.unusedSimpArgs false
namespace Go.Proofs.Ytfnhpojoaaegmaa.V
open Go.RowKit Go.Proofs.Ytfnhpojoaaegmaa.P Go.Proofs.YtfnhpojoaaegmaaW.PrintWords
theorem mul_bound {x y M : Int} (hx0 : 0 ≤ x) (hx : x ≤ M) (hy0 : 0 ≤ y) (hy : y ≤ M) : 0 ≤ x * y ∧ x * y ≤ M * M :=
  ⟨Int.mul_nonneg hx0 hy0, Int.le_trans (Int.mul_le_mul_of_nonneg_right hx hy0) (Int.mul_le_mul_of_nonneg_left hy (by omega))⟩
theorem tdiv_pos {x y : Int} (h : 0 ≤ x) : Int.tdiv x y = x / y := Int.tdiv_eq_ediv_of_nonneg h
theorem tmod_pos {x y : Int} (h : 0 ≤ x) : Int.tmod x y = x % y := Int.tmod_eq_emod_of_nonneg h
theorem mul_step {B : Int} {out : List Int} {p : Nat} {c x S t : Int} (hlt : p < out.length) (hv : Dg.vl B out + c * B ^ p = S) (ht : t = c + out.getD p 0 + x) :
    Dg.vl B (out.set p (t % B)) + (t / B) * B ^ (p + 1) = S + x * B ^ p := by
  rw [Dg.vl_set _ _ _ _ hlt, Int.pow_succ]
  have h := Int.mul_ediv_add_emod t B
  have e : (t % B - out.getD p 0) * B ^ p + t / B * (B ^ p * B) = (t - out.getD p 0) * B ^ p := by
    have : t % B = t - B * (t / B) := by omega
    rw [this]
    grind
  rw [Int.add_assoc, e, ht, ← hv]
  grind
theorem zero_set {out : List Int} {p q : Nat} (v : Int) (h : p < q) (hz : ∀ j, q ≤ j → out.getD j 0 = 0) : ∀ j, q ≤ j → (out.set p v).getD j 0 = 0 := by
  intro j hj
  rw [List.getD_eq_getElem?_getD, List.getElem?_set_ne (by omega), ← List.getD_eq_getElem?_getD]
  exact hz j hj
theorem ref_Times_l0 {a b : List Int} (ha : Dg.Dig 10000 a) (hb : Dg.Dig 10000 b) (hl : a.length + b.length ≤ 35184372088832) {n : Nat} (hn : Dg.vl 10000 a * Dg.vl 10000 b = n) :
    ∀ (d i : Nat) (out : List Int), i + d = a.length → out.length = a.length + b.length → Dg.Dig 10000 out → Dg.vl 10000 out = Dg.vl 10000 (a.take i) * Dg.vl 10000 b → (∀ j, i + b.length ≤ j → out.getD j 0 = 0) →
    Ev (fun k => dendronref01_Times.l0 k a b out (i : Int)) (E n) := by
  intro d
  induction d with
  | zero =>
    intro i out hi ho hd hv hz
    refine Ev.succ ?_
    simp (disch := omega) only [dendronref01_Times.l0, if_neg]
    refine Ev.bind (ref_Trim_f hd (by omega) (n := n) ?_) (Ev.ret _)
    rw [hv, List.take_of_length_le (by omega), hn]
  | succ d ih =>
    intro i out hi ho hd hv hz
    refine Ev.succ ?_
    simp (disch := omega) only [dendronref01_Times.l0, if_pos]
    have gi := ha.getD (by decide) i
    have inner : ∀ (e m : Nat) (o : List Int) (c : Int), m + e = b.length → o.length = a.length + b.length → Dg.Dig 10000 o → 0 ≤ c → c ≤ 9999 → (∀ j, i + b.length ≤ j → o.getD j 0 = 0) →
        Dg.vl 10000 o + c * 10000 ^ (i + m) = Dg.vl 10000 out + a.getD i 0 * Dg.vl 10000 (b.take m) * 10000 ^ i → Ev (fun k => dendronref01_Times.l1 k a b o (i : Int) c (m : Int)) (E n) := by
      intro e
      induction e with
      | zero =>
        intro m o c hm ho2 hd2 hc0 hc1 hz2 hv2
        refine Ev.succ ?_
        simp (disch := omega) only [dendronref01_Times.l1, if_neg, if_pos, w64add, w64succ, Int.toNat_natCast]
        refine ih (i + 1) _ (by omega) (by rw [List.length_set]; exact ho2) (hd2.set _ hc0 (by omega)) ?_ ?_
        · have hmb : m = b.length := by omega
          subst hmb
          rw [Dg.vl_set _ _ _ _ (by omega), hz2 _ (Nat.le_refl _), Int.sub_zero, hv2, List.take_length, hv, Dg.vl_take_succ]
          grind
        · intro j hj
          exact zero_set c (q := i + b.length + 1) (by omega) (fun j hj => hz2 j (by omega)) j (by omega)
      | succ e ih2 =>
        intro m o c hm ho2 hd2 hc0 hc1 hz2 hv2
        have gm := hb.getD (by decide) m
        have go := hd2.getD (by decide) (i + m)
        have hx := mul_bound gi.1 (show a.getD i 0 ≤ 9999 by omega) gm.1 (show b.getD m 0 ≤ 9999 by omega)
        refine Ev.succ ?_
        simp (disch := omega) only [dendronref01_Times.l1, if_pos, rd_add, tn_add, rd_nat, w64, tdiv_pos, tmod_pos, Int.toNat_natCast]
        refine ih2 (m + 1) _ _ (by omega) (by rw [List.length_set]; exact ho2) (hd2.set _ (by omega) (by omega)) (by omega) (by omega) ?_ ?_
        · exact zero_set _ (by omega) hz2
        · have := mul_step (B := 10000) (x := a.getD i 0 * b.getD m 0) (show i + m < o.length by omega) hv2 (t := c + o.getD (i + m) 0 + a.getD i 0 * b.getD m 0) rfl
          rw [show i + (m + 1) = i + m + 1 by omega, this, Dg.vl_take_succ, Int.pow_add]
          grind
    refine inner b.length 0 out 0 (by omega) ho hd (by omega) (by omega) hz ?_
    simp [Dg.vl]
theorem ref_Times_f {x y : Nat} (hl : LE x + LE y ≤ 35184372088832) : Ev (fun k => dendronref01_Times.f k (E x) (E y)) (E (x * y)) := by
  have hl' : (E x).length + (E y).length ≤ 35184372088832 := hl
  unfold dendronref01_Times.f
  simp (disch := omega) only [w64add, if_pos, Int.toNat_natCast]
  refine ref_Times_l0 (E_dig x) (E_dig y) hl' (n := x * y) ?_ (E x).length 0 _ (by omega) (by rw [List.length_replicate]) (Dg.Dig.replicate (by decide) _) ?_ ?_
  · rw [E_vl, E_vl]; exact (Int.natCast_mul x y).symm
  · rw [Dg.vl_replicate_zero]; simp [Dg.vl]
  · intro j hj
    rw [List.getD_eq_getElem?_getD]
    by_cases h : j < (E x).length + (E y).length
    · simp [List.getElem?_replicate, h]
    · simp [List.getElem?_replicate, h]
theorem ref_digit_f (l : List Int) (i : Nat) : dendronref01_digit.f l (i : Int) = some (l.getD i 0) := by
  unfold dendronref01_digit.f
  by_cases h : (i : Int) < (l.length : Int)
  · rw [if_pos h, if_pos (by omega), rd_nat]
  · rw [if_neg h, List.getD_eq_getElem?_getD, List.getElem?_eq_none (by omega)]
    rfl
theorem getD_beyond {l : List Int} {i : Nat} (h : l.length ≤ i) : l.getD i 0 = 0 := by rw [List.getD_eq_getElem?_getD, List.getElem?_eq_none h]; rfl
theorem getD_snoc {l : List Int} {i : Nat} (x : Int) (h : l.length = i) : (l ++ [x]).getD i 0 = x := by
  subst h
  rw [List.getD_eq_getElem?_getD, List.getElem?_append_right (Nat.le_refl _), Nat.sub_self]
  rfl
theorem vl_snoc (B : Int) (l : List Int) (x : Int) : Dg.vl B (l ++ [x]) = Dg.vl B l + x * B ^ l.length := by
  rw [Dg.vl_append]
  simp [Dg.vl]
  exact Int.mul_comm _ _
theorem ref_Plus_l0 {a b : List Int} (ha : Dg.Dig 10000 a) (hb : Dg.Dig 10000 b) (ta : Dg.Top a) (tb : Dg.Top b) (hla : a.length ≤ 4398046511104) (hlb : b.length ≤ 4398046511104) {n : Nat} (hn : Dg.vl 10000 a + Dg.vl 10000 b = n) :
    ∀ (d i : Nat) (out : List Int) (c : Int), max a.length b.length + 1 ≤ i + d → i ≤ max a.length b.length + 1 → (i = max a.length b.length + 1 → c = 0) → out.length = i → Dg.Dig 10000 out → 0 ≤ c → c ≤ 1 → Dg.vl 10000 out + c * 10000 ^ i = Dg.vl 10000 (a.take i) + Dg.vl 10000 (b.take i) →
    (i = 0 ∨ i < max a.length b.length ∨ c ≠ 0 ∨ out.getD (i - 1) 0 ≠ 0) → Ev (fun k => dendronref01_Plus.l0 k a b out c (i : Int)) (E n) := by
  intro d
  induction d with
  | zero =>
    intro i out c hid hi2 hc9 ho hd hc0 hc1 hv ht
    have hi : i = max a.length b.length + 1 := by omega
    have hc := hc9 hi
    subst hc
    refine Ev.succ ?_
    simp (disch := omega) only [dendronref01_Plus.l0, if_neg]
    refine Ev.succ ?_
    simp (disch := omega) only [dendronref01_Plus.j1]
    refine Ev.eq (Ev.ret _) (E_of hd ?_ ?_)
    · intro _
      rw [ho]
      rcases ht with h | h | h | h
      · omega
      · omega
      · exact absurd rfl h
      · exact h
    · rw [List.take_of_length_le (by omega), List.take_of_length_le (by omega), hn] at hv
      simpa using hv
  | succ d ih =>
    intro i out c hid hi2 hc9 ho hd hc0 hc1 hv ht
    by_cases hgo : i < a.length ∨ i < b.length ∨ 0 < c
    · have ga := ha.getD (by decide) i
      have gb := hb.getD (by decide) i
      have hig : i ≤ max a.length b.length := by
        rcases Nat.lt_or_ge (max a.length b.length) i with h | h
        · have := hc9 (by omega); omega
        · exact h
      have step : Ev (fun k => dendronref01_Plus.j1 k a b out c (i : Int) true) (E n) := by
        refine Ev.succ ?_
        simp (disch := omega) only [dendronref01_Plus.j1, ref_digit_f, Option.bind_some, if_true, w64, tdiv_pos, tmod_pos, w64succ, if_pos]
        refine ih (i + 1) _ _ (by omega) (by omega) ?_ (by simp [ho]) (hd.append (Dg.Dig.cons (by omega) (by omega) Dg.Dig.nil)) (by omega) (by omega) ?_ ?_
        · intro h9
          have h1 := getD_beyond (l := a) (i := i) (by omega)
          have h2 := getD_beyond (l := b) (i := i) (by omega)
          rw [h1, h2]
          omega
        · rw [vl_snoc, ho, Dg.vl_take_succ, Dg.vl_take_succ, Int.pow_succ]
          have h := Int.mul_ediv_add_emod (c + a.getD i 0 + b.getD i 0) 10000
          grind
        · by_cases h9 : i + 1 < max a.length b.length
          · exact .inr (.inl h9)
          · refine .inr (.inr ?_)
            rw [Nat.add_sub_cancel, getD_snoc _ ho]
            have hs : 0 < c + a.getD i 0 + b.getD i 0 := by
              rcases Nat.lt_or_ge i (max a.length b.length) with h | h
              · by_cases hab : a.length = max a.length b.length
                · have := ta (fun e => by have h0 : a.length = 0 := (by rw [e]; rfl); omega)
                  rw [show a.length - 1 = i by omega] at this
                  omega
                · have := tb (fun e => by have h0 : b.length = 0 := (by rw [e]; rfl); omega)
                  rw [show b.length - 1 = i by omega] at this
                  omega
              · omega
            by_cases hq : (c + a.getD i 0 + b.getD i 0) / 10000 = 0
            · right; omega
            · left; exact hq
      refine Ev.succ ?_
      simp only [dendronref01_Plus.l0]
      by_cases h1 : (i : Int) < (a.length : Int)
      · exact Ev.pos h1 step
      · refine Ev.neg h1 ?_
        by_cases h2 : (i : Int) < (b.length : Int)
        · exact Ev.pos h2 step
        · refine Ev.neg h2 ?_
          have : decide (c > 0) = true := decide_eq_true (by omega)
          rw [this]
          exact step
    · have hc : c = 0 := by omega
      subst hc
      refine Ev.succ ?_
      simp (disch := omega) only [dendronref01_Plus.l0, if_neg]
      refine Ev.succ ?_
      simp (disch := omega) only [dendronref01_Plus.j1]
      refine Ev.eq (Ev.ret _) (E_of hd ?_ ?_)
      · intro hne
        rw [ho]
        rcases ht with h | h | h | h
        · subst h
          exact absurd (List.length_eq_zero_iff.1 ho) hne
        · omega
        · exact absurd rfl h
        · exact h
      · rw [List.take_of_length_le (by omega), List.take_of_length_le (by omega), hn] at hv
        simpa using hv
theorem ref_Plus_f {x y : Nat} (hx : LE x ≤ 4398046511104) (hy : LE y ≤ 4398046511104) : Ev (fun k => dendronref01_Plus.f k (E x) (E y)) (E (x + y)) := by
  unfold dendronref01_Plus.f
  refine ref_Plus_l0 (E_dig x) (E_dig y) (E_top x) (E_top y) hx hy (n := x + y) (by rw [E_vl, E_vl]; omega) (max (E x).length (E y).length + 1) 0 [] 0 (by omega) (by omega) (by omega) rfl Dg.Dig.nil (by omega) (by omega) (by simp [Dg.vl]) (.inl rfl)
theorem ref_Small_l0 (out : List Int) : ∀ (n : Nat), out.length + LE n ≤ 4398046511104 → n ≤ 9223372036854775807 → Ev (fun k => dendronref01_Small.l0 k (n : Int) out) (out ++ E n) := by
  intro n
  induction n using Nat.strongRecOn generalizing out with
  | _ n ih =>
    intro hl hn
    refine Ev.succ ?_
    by_cases h0 : n = 0
    · subst h0
      simp (disch := omega) only [dendronref01_Small.l0, if_neg]
      rw [E_zero, List.append_nil]
      exact Ev.ret _
    · have hE : E n = ((n % 10000 : Nat) : Int) :: E (n / 10000) := Dg.dg_succ (by decide) h0
      have hLE : LE n = LE (n / 10000) + 1 := by unfold LE; rw [hE]; rfl
      simp (disch := omega) only [dendronref01_Small.l0, if_pos, tdiv_pos, tmod_pos, w64]
      have := ih (n / 10000) (Nat.div_lt_self (by omega) (by omega)) (out ++ [((n % 10000 : Nat) : Int)]) (by rw [List.length_append, List.length_singleton]; omega) (by omega)
      rw [hE]
      have e1 : ((n / 10000 : Nat) : Int) = (n : Int) / 10000 := by omega
      have e2 : ((n % 10000 : Nat) : Int) = (n : Int) % 10000 := by omega
      rw [e1, e2] at this
      rw [e2]
      rw [List.append_assoc] at this
      exact this
theorem LE_u64 {n : Nat} (h : n ≤ 18446744073709551615) : LE n ≤ 5 := LE_le (by omega)
theorem ref_Small_f {x : Int} {n : Nat} (h : x = n) (hn : n ≤ 9223372036854775807) : Ev (fun k => dendronref01_Small.f k x) (E n) := by
  subst h
  unfold dendronref01_Small.f
  have := LE_u64 (n := n) (by omega)
  exact ref_Small_l0 [] n (by simp; omega) hn
theorem ref_Order_l0 {a b : List Int} (ha : Dg.Dig 10000 a) (hb : Dg.Dig 10000 b) (hl : a.length = b.length) (hs : a.length ≤ 35184372088832) : ∀ n : Nat, n ≤ a.length →
    Ev (fun k => dendronref01_Order.l0 k a b ((n : Int) - 1)) (cmp (Dg.vl 10000 (a.take n)) (Dg.vl 10000 (b.take n))) := by
  intro n
  induction n with
  | zero =>
    intro _
    refine Ev.succ ?_
    simp (disch := omega) only [dendronref01_Order.l0, if_neg]
    exact Ev.ret _
  | succ n ih =>
    intro hn
    have e0 : ((n + 1 : Nat) : Int) - 1 = (n : Int) := by omega
    have a0 := Dg.vl_nonneg (ha.take n) (by decide)
    have b0 := Dg.vl_nonneg (hb.take n) (by decide)
    have a1 := Dg.vl_lt (ha.take n) (by decide)
    have b1 := Dg.vl_lt (hb.take n) (by decide)
    have hla : (a.take n).length = n := by rw [List.length_take]; omega
    have hlb : (b.take n).length = n := by rw [List.length_take]; omega
    rw [hla] at a1
    rw [hlb] at b1
    rw [e0]
    refine Ev.succ ?_
    simp (disch := omega) only [dendronref01_Order.l0, if_pos, rd_nat, w64pred]
    rw [Dg.vl_take_succ, Dg.vl_take_succ]
    by_cases h1 : a.getD n 0 < b.getD n 0
    · refine Ev.pos h1 (Ev.eq (Ev.ret _) (cmp_lt (cmp_top (B := 0) a0 a1 b0 b1 h1)).symm)
    · refine Ev.neg h1 ?_
      by_cases h2 : b.getD n 0 < a.getD n 0
      · exact Ev.pos h2 (Ev.eq (Ev.ret _) (cmp_gt (cmp_top (B := 0) b0 b1 a0 a1 h2)).symm)
      · refine Ev.neg h2 (Ev.eq (ih (by omega)) ?_)
        have : a.getD n 0 = b.getD n 0 := by omega
        rw [this]
        unfold cmp
        split <;> split <;> (try split) <;> (try split) <;> first | rfl | omega
theorem ref_Order_f {m n : Nat} (hm : LE m ≤ 35184372088832) (hn : LE n ≤ 35184372088832) : Ev (fun k => dendronref01_Order.f k (E m) (E n)) (cmp m n) := by
  unfold dendronref01_Order.f
  have hm' : (E m).length ≤ 35184372088832 := hm
  have hn' : (E n).length ≤ 35184372088832 := hn
  by_cases h0 : ((E m).length : Int) = ((E n).length : Int)
  · refine Ev.pos h0 ?_
    simp (disch := omega) only [w64pred]
    refine Ev.eq (ref_Order_l0 (E_dig m) (E_dig n) (by omega) hm' _ (Nat.le_refl _)) ?_
    rw [List.take_length, show (E m).length = (E n).length by omega, List.take_length, E_vl, E_vl]
  · refine Ev.neg h0 ?_
    by_cases h1 : ((E m).length : Int) < ((E n).length : Int)
    · exact Ev.pos h1 (Ev.eq (Ev.ret _) (cmp_lt (by have := len_lt_imp 10000 (by decide) (show (E m).length < (E n).length by omega); omega)).symm)
    · exact Ev.neg h1 (Ev.eq (Ev.ret _) (cmp_gt (by have := len_lt_imp 10000 (by decide) (show (E n).length < (E m).length by omega); omega)).symm)
theorem LE_L (n : Nat) : LE n ≤ 3 * L n := by
  apply LE_le
  refine Nat.lt_of_lt_of_le (L_lt n) ?_
  rw [Nat.pow_mul]
  exact Nat.pow_le_pow_left (by decide) _
theorem W_drop_succ (l : List Int) (n : Nat) (h : n < l.length) : W (l.drop n) = (l.getD n 0 % 4294967296).toNat + 4294967296 * W (l.drop (n + 1)) := by
  have h1 := W_map (l.drop n)
  have h2 := W_map (l.drop (n + 1))
  rw [List.map_drop, Dg.vl_drop_succ, ← List.map_drop] at h1
  rw [← h2] at h1
  have h3 : (l.map (· % 4294967296)).getD n 0 = l.getD n 0 % 4294967296 := by
    rw [List.getD_eq_getElem?_getD, List.getD_eq_getElem?_getD, List.getElem?_map, List.getElem?_eq_getElem h]
    rfl
  rw [h3] at h1
  omega
theorem ref_From_l0 {l : List Int} (hu : U l) (hl : l.length ≤ 1000000000000) : ∀ n : Nat, n ≤ l.length → Ev (fun k => dendronref01_From.l0 k l (E (W (l.drop n))) (E 4294967296) ((n : Int) - 1)) (E (W l)) := by
  intro n
  induction n with
  | zero =>
    intro _
    refine Ev.succ ?_
    simp (disch := omega) only [dendronref01_From.l0, if_neg, List.drop_zero]
    exact Ev.ret _
  | succ n ih =>
    intro hn
    have e0 : ((n + 1 : Nat) : Int) - 1 = (n : Int) := by omega
    have hg := U_get hu n
    have hL1 : LE (W (l.drop (n + 1))) ≤ 3 * l.length := Nat.le_trans (LE_L _) (Nat.mul_le_mul_left _ (Nat.le_trans (L_W _) (by rw [List.length_drop]; omega)))
    have h5 : LE 4294967296 ≤ 5 := LE_u64 (by omega)
    have hL2 := LE_mul (W (l.drop (n + 1))) 4294967296
    have hv := W_drop_succ l n (by omega)
    have hs : LE (l.getD n 0 % 4294967296).toNat ≤ 5 := LE_u64 (by omega)
    rw [e0]
    refine Ev.succ ?_
    simp (disch := omega) only [dendronref01_From.l0, if_pos, rd_nat, w64pred, and32, w64]
    refine Ev.bind (ref_Times_f (by omega)) ?_
    refine Ev.bind (ref_Small_f (n := (l.getD n 0 % 4294967296).toNat) (by omega) (by omega)) ?_
    refine Ev.bind (ref_Plus_f (by omega) (by omega)) ?_
    have : W (l.drop (n + 1)) * 4294967296 + (l.getD n 0 % 4294967296).toNat = W (l.drop n) := by omega
    rw [this]
    exact ih (by omega)
theorem ref_From_f {l : List Int} (hu : U l) (hl : l.length ≤ 1000000000000) : Ev (fun k => dendronref01_From.f k l) (E (W l)) := by
  unfold dendronref01_From.f
  refine Ev.bind (ref_Small_f (n := 4294967296) rfl (by omega)) ?_
  simp (disch := omega) only [w64pred]
  have := ref_From_l0 hu hl l.length (Nat.le_refl _)
  rw [List.drop_length, W_nil, E_zero] at this
  exact this
theorem ref_From_D {n : Nat} (hl : L n ≤ 1000000000000) : Ev (fun k => dendronref01_From.f k (D n)) (E n) := by
  have := ref_From_f (D_U n) hl
  rwa [W_D] at this
theorem ref_Is_D {m n : Nat} (hm : L m ≤ 1000000000000) (hn : LE n ≤ 35184372088832) : Ev (fun k => dendronref01_Is.f k (D m) (E n)) (decide (m = n)) := by
  unfold dendronref01_Is.f
  refine Ev.bind (ref_Right_D (by omega)) ?_
  simp only [if_true]
  refine Ev.bind (ref_From_D hm) ?_
  have := LE_L m
  refine Ev.bind (ref_Order_f (by omega) hn) ?_
  refine Ev.eq (Ev.ret _) ?_
  have h := cmp_eq_iff (a := (m : Int)) (b := n)
  by_cases h1 : m = n
  · rw [decide_eq_true h1, beq_iff_eq]
    exact h.2 (by omega)
  · rw [decide_eq_false h1, beq_eq_false_iff_ne]
    intro h2
    have := h.1 h2
    omega
theorem ref_Is_true {m n : Nat} (h : m = n) (hm : L m ≤ 1000000000000) : Ev (fun k => dendronref01_Is.f k (D m) (E n)) true := by
  subst h
  have := LE_L m
  exact Ev.eq (ref_Is_D hm (by omega)) (decide_eq_true rfl)
end Go.Proofs.Ytfnhpojoaaegmaa.V
set_option linter.unusedVariables false
set_option linter.unusedSimpArgs false
namespace Go.Proofs.Ytfnhpojoaaegmaa.V
open Go.RowKit Go.Proofs.Ytfnhpojoaaegmaa.P Go.Proofs.YtfnhpojoaaegmaaW.PrintWords Go.Proofs.YtfnhpojoaaegmaaW.PrintMore
theorem nat_small_l0 {a : List Int} (ha : Dg.Dig 4294967296 a) (hl : a.length ≤ 35184372088832) {d : Int} (hd0 : 0 < d) (hd1 : d ≤ 4294967295) {q r : Nat} (hq : Dg.vl 4294967296 a = q * d + r) (hr : (r : Int) < d) :
    ∀ (n : Nat) (out : List Int) (c : Int), n ≤ a.length → out.length = a.length → Dg.Dig 4294967296 out → 0 ≤ c → c < d → Dg.vl 4294967296 (out.drop n) * d + c = Dg.vl 4294967296 (a.drop n) →
    Ev (fun k => nat_small.l0 k a d out c ((n : Int) - 1)) (D q, (r : Int)) := by
  intro n
  induction n with
  | zero =>
    intro out c hn ho hd hc0 hc1 hv
    rw [List.drop_zero, List.drop_zero, hq] at hv
    have h1 : Dg.vl 4294967296 out = q := by
      have e1 : (Dg.vl 4294967296 out - q) * d = r - c := by grind
      rcases Int.lt_trichotomy (Dg.vl 4294967296 out - q) 0 with h | h | h
      · have : (Dg.vl 4294967296 out - q) * d ≤ -1 * d := Int.mul_le_mul_of_nonneg_right (by omega) (by omega)
        omega
      · omega
      · have : 1 * d ≤ (Dg.vl 4294967296 out - q) * d := Int.mul_le_mul_of_nonneg_right (by omega) (by omega)
        omega
    have h2 : c = r := by rw [h1] at hv; omega
    refine Ev.succ ?_
    simp (disch := omega) only [nat_small.l0, if_neg]
    refine Ev.bind (nat_trim_f hd (by omega) (n := q) h1) ?_
    rw [h2]
    exact Ev.ret _
  | succ n ih =>
    intro out c hn ho hd hc0 hc1 hv
    have e0 : ((n + 1 : Nat) : Int) - 1 = (n : Int) := by omega
    have ga := ha.getD (by decide) n
    have t0 : 0 ≤ c * 4294967296 + a.getD n 0 := by omega
    have q0 : (c * 4294967296 + a.getD n 0) / d < 4294967296 := by
      apply Int.ediv_lt_of_lt_mul hd0
      have : (c + 1) * 4294967296 ≤ d * 4294967296 := Int.mul_le_mul_of_nonneg_right (by omega) (by omega)
      omega
    have q1 : 0 ≤ (c * 4294967296 + a.getD n 0) / d := Int.ediv_nonneg t0 (by omega)
    have r0 := Int.emod_nonneg (c * 4294967296 + a.getD n 0) (show d ≠ 0 by omega)
    have r1 := Int.emod_lt_of_pos (c * 4294967296 + a.getD n 0) hd0
    have hqr := Int.mul_ediv_add_emod (c * 4294967296 + a.getD n 0) d
    rw [e0]
    refine Ev.succ ?_
    simp (disch := omega) only [nat_small.l0, if_pos, if_neg, rd_nat, u64w, or32, tdiv_pos, tmod_pos, w64pred, Int.toNat_natCast]
    refine ih _ _ (by omega) (by rw [List.length_set]; exact ho) (hd.set _ q1 q0) r0 r1 ?_
    rw [Dg.vl_drop_succ, Dg.vl_drop_succ 4294967296 a, Dg.vl_drop_set _ _ _ _ _ (Nat.lt_succ_self _), Dg.getD_set _ _ _ _ (by omega), if_pos rfl, ← hv]
    grind
theorem nat_small_D {m d : Nat} (hd0 : 0 < d) (hd1 : d ≤ 4294967295) (hl : L m ≤ 35184372088832) : Ev (fun k => nat_small.f k (D m) (d : Int)) (D (m / d), ((m % d : Nat) : Int)) := by
  have hl' : (D m).length ≤ 35184372088832 := hl
  unfold nat_small.f
  simp (disch := omega) only [if_pos, Int.toNat_natCast, w64pred]
  have hm := Nat.mod_lt m hd0
  have hq : Dg.vl 4294967296 (D m) = ((m / d : Nat) : Int) * (d : Int) + ((m % d : Nat) : Int) := by
    rw [D_vl]
    have := Nat.div_add_mod m d
    rw [Nat.mul_comm] at this
    exact_mod_cast this.symm
  refine nat_small_l0 (D_dig m) hl' (by omega) (by omega) hq (by omega) (D m).length _ 0 (Nat.le_refl _) (by rw [List.length_replicate]) (Dg.Dig.replicate (by decide) _) (by omega) (by omega) ?_
  rw [List.drop_length, List.drop_of_length_le (by rw [List.length_replicate]; omega)]
  simp [Dg.vl]
end Go.Proofs.Ytfnhpojoaaegmaa.V
set_option linter.unusedVariables false
set_option linter.unusedSimpArgs false
namespace Dg
theorem pow_mono {B : Int} (hB : 1 ≤ B) {m n : Nat} (h : m ≤ n) : B ^ m ≤ B ^ n := by
  obtain ⟨d, rfl⟩ := Nat.exists_eq_add_of_le h
  rw [Int.pow_add]
  have h1 : 0 < B ^ m := Int.pow_pos (by omega)
  have h2 : 1 ≤ B ^ d := by
    have : 0 < B ^ d := Int.pow_pos (by omega)
    omega
  have := Int.mul_le_mul_of_nonneg_left h2 (Int.le_of_lt h1)
  omega
end Dg
namespace Go.Proofs.Ytfnhpojoaaegmaa.V
open Go.RowKit Go.Proofs.Ytfnhpojoaaegmaa.P Go.Proofs.YtfnhpojoaaegmaaW.PrintWords Go.Proofs.YtfnhpojoaaegmaaW.PrintMore
end Go.Proofs.Ytfnhpojoaaegmaa.V
set_option linter.unusedVariables false
set_option linter.unusedSimpArgs false
namespace Go.Proofs.Ytfnhpojoaaegmaa.V
open Go.RowKit Go.Proofs.Ytfnhpojoaaegmaa.P Go.Proofs.YtfnhpojoaaegmaaW.PrintWords Go.Proofs.YtfnhpojoaaegmaaW.PrintMore
def LT : ByteArray := (⟨#[0, 1, 2, 2, 3, 3, 3, 3, 4, 4, 4, 4, 4, 4, 4, 4, 5, 5, 5, 5, 5, 5, 5, 5, 5, 5, 5, 5, 5, 5, 5, 5, 6, 6, 6, 6, 6, 6, 6, 6, 6, 6, 6, 6, 6, 6, 6, 6, 6, 6, 6, 6, 6, 6, 6, 6, 6, 6, 6, 6, 6, 6, 6, 6, 7, 7, 7, 7, 7, 7, 7, 7, 7, 7, 7, 7, 7, 7, 7, 7, 7, 7, 7, 7, 7, 7, 7, 7, 7, 7, 7, 7, 7, 7, 7, 7, 7, 7, 7, 7, 7, 7, 7, 7, 7, 7, 7, 7, 7, 7, 7, 7, 7, 7, 7, 7, 7, 7, 7, 7, 7, 7, 7, 7, 7, 7, 7, 7, 8, 8, 8, 8, 8, 8, 8, 8, 8, 8, 8, 8, 8, 8, 8, 8, 8, 8, 8, 8, 8, 8, 8, 8, 8, 8, 8, 8, 8, 8, 8, 8, 8, 8, 8, 8, 8, 8, 8, 8, 8, 8, 8, 8, 8, 8, 8, 8, 8, 8, 8, 8, 8, 8, 8, 8, 8, 8, 8, 8, 8, 8, 8, 8, 8, 8, 8, 8, 8, 8, 8, 8, 8, 8, 8, 8, 8, 8, 8, 8, 8, 8, 8, 8, 8, 8, 8, 8, 8, 8, 8, 8, 8, 8, 8, 8, 8, 8, 8, 8, 8, 8, 8, 8, 8, 8, 8, 8, 8, 8, 8, 8, 8, 8, 8, 8, 8, 8, 8, 8, 8, 8, 8, 8, 8, 8, 8, 8]⟩ : ByteArray)
attribute [irreducible] LT
end Go.Proofs.Ytfnhpojoaaegmaa.V
set_option linter.unusedVariables false
set_option linter.unusedSimpArgs false
namespace Go.Proofs.Ytfnhpojoaaegmaa.V
open Go.RowKit Go.Proofs.Ytfnhpojoaaegmaa.P Go.Proofs.YtfnhpojoaaegmaaW.PrintWords Go.Proofs.YtfnhpojoaaegmaaW.PrintMore
theorem getD_take {l : List Int} {c j : Nat} (h : j < c) : (l.take c).getD j 0 = l.getD j 0 := by rw [List.getD_eq_getElem?_getD, List.getElem?_take_of_lt h, ← List.getD_eq_getElem?_getD]
end Go.Proofs.Ytfnhpojoaaegmaa.V
namespace Go.Proofs.Ytfnhpojoaaegmaa.V
open Go.RowKit Go.Proofs.Ytfnhpojoaaegmaa.P Go.Proofs.YtfnhpojoaaegmaaW.PrintWords
set_option maxRecDepth 100000 in
theorem awake_f : Ev (fun k => dendronlaw01_awake.f k) true := Ev.of (fun k => dendronlaw01_awake.mono k) (k := 100) (by decide +kernel)
theorem few_f (l : List Int) (n : Nat) : dendronlaw01_few.f l (n : Int) = some (l.take n) := by
  unfold dendronlaw01_few.f
  by_cases h : (l.length : Int) > (n : Int)
  · rw [if_pos h, if_pos (by omega), if_pos (by omega), Int.toNat_natCast]
  · rw [if_neg h, List.take_of_length_le (by omega)]
theorem U_take {l : List Int} (h : U l) (n : Nat) : U (l.take n) := fun x hx => h x (List.mem_of_mem_take hx)
theorem U_wf {l : List Int} (h : ∀ x ∈ l, (Lit.int .u64 x).wf = true) : U l := fun x hx => wf_u64 (h x hx)
theorem take_le (l : List Int) (n : Nat) : (l.take n).length ≤ n := by rw [List.length_take]; omega
theorem LE_W (l : List Int) : LE (W l) ≤ 3 * l.length := Nat.le_trans (LE_L _) (Nat.mul_le_mul_left _ (L_W l))
end Go.Proofs.Ytfnhpojoaaegmaa.V
set_option linter.unusedVariables false
set_option linter.unusedSimpArgs false
namespace Go.Proofs.Ytfnhpojoaaegmaa.V
open Go.RowKit Go.Proofs.Ytfnhpojoaaegmaa.P Go.Proofs.YtfnhpojoaaegmaaW.PrintWords Go.Proofs.YtfnhpojoaaegmaaW.PrintMore
def bl (s : ByteArray) : List Int := s.data.toList.map fun x => (x.toNat : Int)
theorem bl_len (s : ByteArray) : (bl s).length = s.size := by
  unfold bl
  rw [List.length_map]
  exact Array.length_toList
theorem bt_bl {s : ByteArray} {i : Nat} (h : i < s.size) : bt s (i : Int) = (bl s).getD i 0 := by
  unfold bt bl
  rw [dif_pos (by rw [Int.toNat_natCast]; exact h), List.getD_eq_getElem?_getD, List.getElem?_map, List.getElem?_eq_getElem (show i < s.data.toList.length by rw [Array.length_toList]; exact h)]
  rfl
theorem bl_extract (s : ByteArray) (i j : Nat) : bl (s.extract i j) = ((bl s).take j).drop i := by
  unfold bl
  rw [← List.map_take, ← List.map_drop]
  congr 1
  simp [ByteArray.data_extract]
  rw [List.drop_take]
theorem bl_nums {xs : List Int} (h : ∀ x, x ∈ xs → 0 ≤ x ∧ x ≤ 255) : bl (strOfNums xs) = xs := by
  unfold bl
  rw [strOfNums_data, List.map_map]
  conv => rhs; rw [← List.map_id xs]
  apply List.map_congr_left
  intro x hx
  obtain ⟨h0, h1⟩ := h x hx
  simp [UInt8.toNat_ofNat']
  omega
theorem size_zero {s : ByteArray} : s.toList = ([] : List UInt8) ↔ s.size = 0 := by
  rw [ByteArray.toList_eq]
  constructor
  · intro h
    have h2 := congrArg List.length h
    rw [Array.length_toList] at h2
    exact h2
  · intro h
    apply List.eq_nil_of_length_eq_zero
    rw [Array.length_toList]
    exact h
def D10 (l : List Int) : Prop := ∀ c, c ∈ l → 48 ≤ c ∧ c ≤ 57
def bv (l : List Int) : Int := Dg.vl 10 (l.reverse.map (· - 48))
theorem bv_nil : bv [] = 0 := rfl
theorem bv_append (l m : List Int) : bv (l ++ m) = bv m + 10 ^ m.length * bv l := by
  unfold bv
  rw [List.reverse_append, List.map_append, Dg.vl_append, List.length_map, List.length_reverse]
theorem bv_one (c : Int) : bv [c] = c - 48 := by simp [bv, Dg.vl]
theorem bv_snoc (l : List Int) (c : Int) : bv (l ++ [c]) = 10 * bv l + (c - 48) := by
  rw [bv_append, bv_one, List.length_singleton]
  omega
theorem bv_cons (l : List Int) (c : Int) : bv (c :: l) = bv l + 10 ^ l.length * (c - 48) := by
  rw [show c :: l = [c] ++ l from rfl, bv_append, bv_one]
theorem D10.dig {l : List Int} (h : D10 l) : Dg.Dig 10 (l.map (· - 48)) := by
  intro x hx
  obtain ⟨c, hc, rfl⟩ := List.mem_map.1 hx
  have := h c hc
  omega
theorem D10.rev {l : List Int} (h : D10 l) : D10 l.reverse := fun c hc => h c (List.mem_reverse.1 hc)
theorem D10.append {l m : List Int} (h : D10 l) (g : D10 m) : D10 (l ++ m) := by
  intro c hc
  rcases List.mem_append.1 hc with h1 | h1
  · exact h c h1
  · exact g c h1
theorem D10.one {c : Int} (h0 : 48 ≤ c) (h1 : c ≤ 57) : D10 [c] := by
  intro x hx
  rw [List.mem_singleton.1 hx]
  exact ⟨h0, h1⟩
theorem D10.nil : D10 [] := fun c hc => by simp at hc
theorem D10.take {l : List Int} (h : D10 l) (n : Nat) : D10 (l.take n) := fun x hx => h x (List.mem_of_mem_take hx)
theorem D10.drop {l : List Int} (h : D10 l) (n : Nat) : D10 (l.drop n) := fun x hx => h x (List.mem_of_mem_drop hx)
theorem D10.get {l : List Int} (h : D10 l) {n : Nat} (hn : n < l.length) : 48 ≤ l.getD n 0 ∧ l.getD n 0 ≤ 57 := by
  rw [List.getD_eq_getElem?_getD, List.getElem?_eq_getElem hn]
  exact h _ (List.getElem_mem hn)
theorem bv_nonneg {l : List Int} (h : D10 l) : 0 ≤ bv l := by
  have := Dg.vl_nonneg h.rev.dig (by decide)
  exact this
theorem bv_lt {l : List Int} (h : D10 l) : bv l < 10 ^ l.length := by
  have := Dg.vl_lt h.rev.dig (by decide)
  rw [List.length_map, List.length_reverse] at this
  exact this
def T (n : Nat) : List Int := if n = 0 then [48] else (Dg.dg 10 n).reverse.map (· + 48)
theorem T_of {l : List Int} (h : D10 l) {n : Nat} (hn : n ≠ 0) (hv : bv l = n) (h0 : l.getD 0 0 ≠ 48) : l = T n := by
  unfold T
  rw [if_neg hn]
  have hd := h.rev.dig
  have ht : Dg.Top (l.reverse.map (· - 48)) := by
    intro hne
    have hl : 0 < l.length := by
      rcases l with _ | ⟨x, r⟩
      · exact absurd rfl hne
      · simp
    rw [List.length_map, List.length_reverse, List.getD_eq_getElem?_getD, List.getElem?_map, List.getElem?_reverse (by omega), show l.length - 1 - (l.length - 1) = 0 by omega]
    rw [List.getD_eq_getElem?_getD] at h0
    rw [List.getElem?_eq_getElem hl] at h0 ⊢
    simp at h0 ⊢
    omega
  have e := Dg.dg_vl (by decide : 2 ≤ 10) hd ht
  have e2 : (Dg.vl (10 : Nat) (l.reverse.map (· - 48))).toNat = n := by
    have : Dg.vl (10 : Nat) (l.reverse.map (· - 48)) = n := hv
    rw [this, Int.toNat_natCast]
  rw [e2] at e
  rw [e, ← List.map_reverse, List.reverse_reverse, List.map_map]
  conv => lhs; rw [← List.map_id l]
  apply List.map_congr_left
  intro x _
  simp
theorem T_D10 (n : Nat) : D10 (T n) := by
  unfold T
  split
  · exact D10.one (by decide) (by decide)
  · intro c hc
    obtain ⟨x, hx, rfl⟩ := List.mem_map.1 hc
    have := Dg.dg_dig (by decide : 2 ≤ 10) n x (List.mem_reverse.1 hx)
    omega
theorem T_bv (n : Nat) : bv (T n) = n := by
  unfold T
  split
  · subst n; rfl
  · unfold bv
    rw [← List.map_reverse, List.reverse_reverse, List.map_map, show ((fun x : Int => x - 48) ∘ fun x => x + 48) = id by funext x; simp, List.map_id]
    exact Dg.vl_dg (by decide) n
theorem T_len (n : Nat) : (T n).length ≤ 10 * L n + 1 := by
  unfold T
  split
  · simp
  · rw [List.length_map, List.length_reverse]
    refine Nat.le_succ_of_le (len_le_of_lt 10 (by decide) ?_)
    refine Nat.lt_of_lt_of_le (L_lt n) ?_
    rw [Nat.pow_mul]
    exact Nat.pow_le_pow_left (by decide) _
theorem T_pos (n : Nat) : 0 < (T n).length := by
  unfold T
  split
  · simp
  · rename_i h
    rw [List.length_map, List.length_reverse]
    rcases Nat.eq_zero_or_pos (Dg.dg 10 n).length with h1 | h1
    · exact absurd ((Dg.dg_eq_nil (by decide)).1 (List.eq_nil_of_length_eq_zero h1)) h
    · exact h1
theorem T_bytes (n : Nat) : ∀ x, x ∈ T n → 0 ≤ x ∧ x ≤ 255 := fun x hx => by have := T_D10 n x hx; omega
theorem bl_T (n : Nat) : bl (strOfNums (T n)) = T n := bl_nums (T_bytes n)
theorem drop_set_self {l : List Int} {i : Nat} (c : Int) (h : i < l.length) : (l.set i c).drop i = c :: l.drop (i + 1) := by
  rw [List.drop_eq_getElem_cons (by rw [List.length_set]; exact h), List.getElem_set_self]
  congr 1
  rw [List.drop_set_of_lt (by omega)]
theorem nat_nine_l0 {x : Int} : ∀ (i : Nat) (y : Int) (out : List Int), i ≤ 9 → 0 ≤ y → y < 10 ^ i → y ≤ 18446744073709551615 → out.length = 9 → D10 (out.drop i) → bv (out.drop i) + 10 ^ (9 - i) * y = x →
    ∃ r, Ev (fun k => nat_nine.l0 k y out ((i : Int) - 1)) r ∧ r.length = 9 ∧ D10 r ∧ bv r = x := by
  intro i
  induction i with
  | zero =>
    intro y out hi h0 h1 h2 hl hd hv
    have hy : y = 0 := by rw [Int.pow_zero] at h1; omega
    subst hy
    rw [List.drop_zero] at hd hv
    refine ⟨out, Ev.succ ?_, hl, hd, by rw [Int.mul_zero] at hv; omega⟩
    simp (disch := omega) only [nat_nine.l0, if_neg]
    exact Ev.ret _
  | succ i ih =>
    intro y out hi h0 h1 h2 hl hd hv
    have hy : y / 10 < 10 ^ i := Int.ediv_lt_of_lt_mul (by decide) (by rw [← Int.pow_succ]; exact h1)
    have hc : (48 + y % 10) % 256 = 48 + y % 10 := by omega
    obtain ⟨r, hr, r1, r2, r3⟩ := ih (y / 10) (out.set i (48 + y % 10)) (by omega) (by omega) hy (by omega) (by rw [List.length_set]; exact hl)
      (by
        rw [drop_set_self _ (by omega)]
        exact D10.append (D10.one (by omega) (by omega)) hd)
      (by
        rw [drop_set_self _ (by omega), bv_cons, List.length_drop, hl, ← hv, show 9 - i = 9 - (i + 1) + 1 by omega, Int.pow_succ]
        have h := Int.mul_ediv_add_emod y 10
        generalize y / 10 = q at *
        generalize y % 10 = m at *
        rw [← h]
        grind)
    refine ⟨r, Ev.succ ?_, r1, r2, r3⟩
    have e0 : ((i + 1 : Nat) : Int) - 1 = (i : Int) := by omega
    rw [e0]
    clear e0 hv hy h1 ih
    simp (disch := omega) only [nat_nine.l0, if_pos, tdiv_pos, tmod_pos, u64w, w64pred, Int.toNat_natCast, hc]
    exact hr
theorem nat_nine_f {x : Int} (h0 : 0 ≤ x) (h1 : x < 1000000000) : ∃ r, Ev (fun k => nat_nine.f k x) r ∧ r.length = 9 ∧ D10 r ∧ bv r = x := by
  obtain ⟨r, hr, h⟩ := nat_nine_l0 (x := x) 9 x (List.replicate 9 0) (by omega) h0 h1 (by omega) rfl D10.nil (by
    show bv [] + 10 ^ 0 * x = x
    rw [bv_nil]
    omega)
  refine ⟨r, ?_, h⟩
  unfold nat_nine.f
  exact Ev.pos (by decide) hr
theorem nat_plus_l0 {m : Nat} (hl : L m + 1 ≤ 35184372088832) {p : Int} {n : Nat} (hn : (m : Int) * 1000000000 + p = n) : ∀ (d i : Nat) (out : List Int) (c : Int), i + d = L m + 1 → out.length = L m + 1 → Dg.Dig 4294967296 out → 0 ≤ c → c ≤ 1000000000 → (i = L m + 1 → c = 0) →
    Dg.vl 4294967296 (out.take i) + c * 4294967296 ^ i = Dg.vl 4294967296 ((D m).take i) * 1000000000 + p →
    Ev (fun k => nat_plus.l0 k (D m) c out ((L m + 1 : Nat) : Int) (i : Int)) (D n) := by
  intro d
  have hlen : (D m).length = L m := rfl
  induction d with
  | zero =>
    intro i out c hi ho hd h0 h1 h9 hv
    have hc := h9 (by omega)
    subst hc
    refine Ev.succ ?_
    simp (disch := omega) only [nat_plus.l0, if_neg]
    refine Ev.bind (nat_trim_f hd (by omega) (n := n) ?_) (Ev.ret _)
    rw [List.take_of_length_le (by omega), List.take_of_length_le (by omega), D_vl, hn, Int.zero_mul, Int.add_zero] at hv
    exact hv
  | succ d ih =>
    intro i out c hi ho hd h0 h1 h9 hv
    have g := D_get m i
    have hcz : i + 1 = L m + 1 → (D m).getD i 0 = 0 := fun h => getD_beyond (by omega)
    refine Ev.succ ?_
    simp (disch := omega) only [nat_plus.l0, if_pos, nat_limb_f, Option.bind_some, u64w, and32, w64succ, Int.toNat_natCast]
    refine ih (i + 1) _ _ (by omega) (by rw [List.length_set]; exact ho) (hd.set _ (by omega) (by omega)) (by omega) (by omega) (fun h => by have := hcz h; omega) ?_
    rw [set_take _ (by omega), vl_snoc, List.length_take, Nat.min_eq_left (by omega), Dg.vl_take_succ, Int.pow_succ]
    have h := Int.mul_ediv_add_emod (c + (D m).getD i 0 * 1000000000) 4294967296
    generalize (c + (D m).getD i 0 * 1000000000) / 4294967296 = q at *
    generalize (c + (D m).getD i 0 * 1000000000) % 4294967296 = r at *
    generalize (D m).getD i 0 = x at *
    grind
theorem nat_plus_f {m : Nat} (hl : L m + 1 ≤ 35184372088832) {p : Int} (h0 : 0 ≤ p) (h1 : p ≤ 1000000000) {n : Nat} (hn : (m : Int) * 1000000000 + p = n) : Ev (fun k => nat_plus.f k (D m) p) (D n) := by
  have hlen : (D m).length = L m := rfl
  unfold nat_plus.f
  rw [hlen, w64succ (by omega)]
  refine Ev.pos (by omega) (Ev.pos (by omega) (Ev.bind (Ev.ret _) ?_))
  rw [Int.toNat_natCast, List.length_replicate]
  refine nat_plus_l0 hl hn (L m + 1) 0 _ p (by omega) List.length_replicate (Dg.Dig.replicate (by decide) _) h0 h1 (by omega) ?_
  simp [Dg.vl]
theorem nat_Print_l0 {r : ByteArray} {n : Nat} (hL : L n ≤ 1000000000) (H : Ev (fun k => nat_Print.l1 k (Dg.dg 1000000000 n) ([] : List Int) (wrap64 (((Dg.dg 1000000000 n).length : Int) - 1))) r) :
    ∀ (m : Nat) (x : List Int), x ++ Dg.dg 1000000000 m = Dg.dg 1000000000 n → x.length ≤ 4000000000 → m ≤ n → Ev (fun k => nat_Print.l0 k (D m) x) r := by
  have hlen : (Dg.dg 1000000000 n).length ≤ 2 * L n := len_le_of_lt _ (by decide) (by
    refine Nat.lt_of_lt_of_le (L_lt n) ?_
    rw [Nat.pow_mul]
    exact Nat.pow_le_pow_left (by decide) _)
  intro m
  induction m using Nat.strongRecOn with
  | _ m ih =>
    intro x hx hl hm
    refine Ev.succ ?_
    have hLm := L_mono hm
    have hDl : (D m).length = L m := rfl
    by_cases h0 : m = 0
    · subst h0
      rw [Dg.dg_zero, List.append_nil] at hx
      subst hx
      rw [D_zero]
      simp only [nat_Print.l0]
      exact Ev.neg (by decide) H
    · have hne : (D m).length ≠ 0 := fun h => h0 (D_nil.1 (List.eq_nil_of_length_eq_zero h))
      rw [Dg.dg_succ (by decide) h0] at hx
      simp only [nat_Print.l0]
      have hs := nat_small_D (m := m) (d := 1000000000) (by decide) (by decide) (by omega)
      have hxl : (x ++ [((m % 1000000000 : Nat) : Int)]).length ≤ 4000000000 := by
        have h3 := congrArg List.length hx
        rw [List.length_append, List.length_cons] at h3
        rw [List.length_append, List.length_singleton]
        omega
      refine Ev.pos (by omega) (Ev.bind hs (Ev.pos (show x.length < _ by omega) ?_))
      exact ih (m / 1000000000) (Nat.div_lt_self (by omega) (by decide)) _ (by rw [List.append_assoc]; exact hx) hxl (by have := Nat.div_le_self m 1000000000; omega)
theorem nat_Print_l2 {n : Nat} (hn : n ≠ 0) {s : List Int} (hd : D10 s) (hl : s.length ≤ 1000000000000) : ∀ (d i : Nat), i + d = s.length → bv (s.drop i) = n → Ev (fun k => nat_Print.l2 k s (i : Int)) (strOfNums (T n)) := by
  intro d
  induction d with
  | zero =>
    intro i hi hv
    rw [List.drop_of_length_le (by omega), bv_nil] at hv
    omega
  | succ d ih =>
    intro i hi hv
    refine Ev.succ ?_
    have hdr : s.drop i = s.getD i 0 :: s.drop (i + 1) := by
      rw [List.drop_eq_getElem_cons (by omega), List.getD_eq_getElem?_getD, List.getElem?_eq_getElem (by omega)]
      rfl
    simp only [nat_Print.l2, rd_nat]
    refine Ev.pos (by omega) (Ev.pos (by omega) ?_)
    by_cases h : s.getD i 0 = 48
    · refine Ev.pos h ?_
      rw [w64succ (by omega)]
      refine ih (i + 1) (by omega) ?_
      rw [hdr, bv_cons, h] at hv
      omega
    · refine Ev.neg h (Ev.pos (by omega) (Ev.eq (Ev.ret _) ?_))
      rw [Int.toNat_natCast]
      congr 1
      refine T_of (hd.drop i) hn hv ?_
      rw [hdr]
      exact h
theorem nat_Print_l1 {n : Nat} (hn : n ≠ 0) (hL : L n ≤ 1000000000) : ∀ (i : Nat) (s : List Int), i ≤ (Dg.dg 1000000000 n).length → s.length + 9 * i ≤ 1000000000000 → D10 s → bv s = Dg.vl 1000000000 ((Dg.dg 1000000000 n).drop i) →
    Ev (fun k => nat_Print.l1 k (Dg.dg 1000000000 n) s ((i : Int) - 1)) (strOfNums (T n)) := by
  intro i
  induction i with
  | zero =>
    intro s hi hl hd hv
    refine Ev.succ ?_
    simp (disch := omega) only [nat_Print.l1, if_neg]
    rw [List.drop_zero] at hv
    have hv2 : bv s = n := hv.trans (Dg.vl_dg (by decide : 2 ≤ 1000000000) n)
    clear hv
    exact nat_Print_l2 hn hd (by omega) s.length 0 (by omega) hv2
  | succ i ih =>
    intro s hi hl hd hv
    have g := (Dg.dg_dig (by decide : 2 ≤ 1000000000) n).getD (by decide) i
    have g2 : (Dg.dg 1000000000 n).getD i 0 < 1000000000 := g.2
    obtain ⟨r, hr, r1, r2, r3⟩ := nat_nine_f g.1 g2
    refine Ev.succ ?_
    have e0 : ((i + 1 : Nat) : Int) - 1 = (i : Int) := by omega
    rw [e0]
    simp (disch := omega) only [nat_Print.l1, if_pos, rd_nat, w64pred]
    refine Ev.bind hr (Ev.pos (by omega) ?_)
    refine ih (s ++ r) (by omega) (by rw [List.length_append]; omega) (hd.append r2) ?_
    rw [bv_append, r1, r3, hv, Dg.vl_drop_succ 1000000000 _ i]
    omega
theorem nat_Print_f {a : List Int} (ha : U a) (hl : a.length ≤ 1000000000) : Ev (fun k => nat_Print.f k a) (strOfNums (T (W a))) := by
  have h1 := nat_Clean_f ha (by omega)
  have l1 := L_W a
  generalize W a = n at *
  unfold nat_Print.f
  refine Ev.bind h1 ?_
  by_cases h0 : n = 0
  · subst h0
    rw [D_zero]
    exact Ev.pos rfl (Ev.eq (Ev.ret _) rfl)
  · have hne : (D n).length ≠ 0 := fun h => h0 (D_nil.1 (List.eq_nil_of_length_eq_zero h))
    have hlen : (Dg.dg 1000000000 n).length ≤ 2 * L n := len_le_of_lt _ (by decide) (by
      refine Nat.lt_of_lt_of_le (L_lt n) ?_
      rw [Nat.pow_mul]
      exact Nat.pow_le_pow_left (by decide) _)
    refine Ev.neg (by omega) (nat_Print_l0 (by omega) ?_ n [] rfl (by simp) (Nat.le_refl _))
    rw [w64pred (by omega)]
    exact nat_Print_l1 h0 (by omega) _ [] (Nat.le_refl _) (by rw [List.length_nil]; omega) D10.nil (by rw [List.drop_of_length_le (Nat.le_refl _)]; rfl)
theorem nat_Digits_f {a : List Int} (ha : U a) (hl : a.length ≤ 1000000000) : Ev (fun k => nat_Digits.f k a) ((T (W a)).length : Int) := by
  unfold nat_Digits.f
  refine Ev.bind (nat_Print_f ha hl) (Ev.eq (Ev.ret _) ?_)
  rw [strOfNums_size]
end Go.Proofs.Ytfnhpojoaaegmaa.V
set_option linter.unusedVariables false
set_option linter.unusedSimpArgs false
namespace Go.Proofs.Ytfnhpojoaaegmaa.V
open Go.RowKit Go.Proofs.Ytfnhpojoaaegmaa.P Go.Proofs.YtfnhpojoaaegmaaW.PrintWords Go.Proofs.YtfnhpojoaaegmaaW.PrintMore
theorem take_snoc {l : List Int} {i : Nat} (h : i < l.length) : l.take (i + 1) = l.take i ++ [l.getD i 0] := by
  rw [List.take_add_one, List.getElem?_eq_getElem h, List.getD_eq_getElem?_getD, List.getElem?_eq_getElem h]
  rfl
theorem D10_get {l : List Int} : D10 l ↔ ∀ j, j < l.length → 48 ≤ l.getD j 0 ∧ l.getD j 0 ≤ 57 := by
  constructor
  · intro h j hj
    exact h.get hj
  · intro h c hc
    obtain ⟨j, hj, rfl⟩ := List.mem_iff_getElem.1 hc
    have := h j hj
    rwa [List.getD_eq_getElem?_getD, List.getElem?_eq_getElem hj] at this
theorem digs_iff {s : ByteArray} : ∀ (b pos : Nat), digsFrom s b pos = true ↔ ∀ j, pos ≤ j → j < pos + b → j < s.size → 48 ≤ (bl s).getD j 0 ∧ (bl s).getD j 0 ≤ 57 := by
  intro b
  induction b with
  | zero =>
    intro pos
    simp only [digsFrom, true_iff]
    intro j h1 h2
    omega
  | succ b ih =>
    intro pos
    simp only [digsFrom]
    by_cases h : pos < s.size
    · rw [if_pos h, bt_bl h, Bool.and_eq_true, Bool.and_eq_true, decide_eq_true_eq, decide_eq_true_eq, ih]
      constructor
      · intro ⟨⟨h1, h2⟩, h3⟩ j hj hj2 hj3
        rcases Nat.lt_or_ge pos j with hc | hc
        · exact h3 j (by omega) (by omega) hj3
        · have : j = pos := by omega
          subst this
          exact ⟨h1, h2⟩
      · intro h1
        exact ⟨h1 pos (Nat.le_refl _) (by omega) h, fun j hj hj2 hj3 => h1 j (by omega) (by omega) hj3⟩
    · rw [if_neg h]
      simp only [true_iff]
      intro j h1 h2 h3
      omega
theorem digs_D10 {s : ByteArray} : digsFrom s s.size 0 = true ↔ D10 (bl s) := by
  rw [digs_iff, D10_get, bl_len]
  constructor
  · intro h j hj
    exact h j (Nat.zero_le _) (by omega) hj
  · intro h j _ _ hj
    exact h j hj
theorem pow10_9 {i : Nat} (h : i ≤ 9) : (10 : Int) ^ i ≤ 1000000000 := Int.le_trans (Dg.pow_mono (by decide) h) (by decide)
theorem bv_take_succ {l : List Int} {i : Nat} (h : i < l.length) : bv (l.take (i + 1)) = 10 * bv (l.take i) + (l.getD i 0 - 48) := by rw [take_snoc h, bv_snoc]
theorem nat_Parse_l1 {s sub : ByteArray} (hs : D10 (bl s)) {m c : Nat} (hm : L m + 1 ≤ 35184372088832) (hc : c ≤ 9) (hcs : c ≤ s.size) (hsub : bl sub = (bl s).take c) {r : List Int × Int}
    (H : ∀ n' : Nat, (m : Int) * 1000000000 + bv ((bl s).take c) = n' → Ev (fun k => nat_Parse.l0 k (s.extract c s.size) (D n')) r) :
    ∀ (d i : Nat), i + d = c → Ev (fun k => nat_Parse.l1 k s (D m) (c : Int) (bv ((bl s).take i)) sub (c : Int) (i : Int)) r := by
  have hlen := bl_len s
  have hsz : sub.size = c := by rw [← bl_len, hsub, List.length_take]; omega
  intro d
  induction d with
  | zero =>
    intro i hi
    have hic : i = c := by omega
    subst hic
    have h0 := bv_nonneg (hs.take i)
    have h1 := bv_lt (hs.take i)
    have h2 := pow10_9 (i := ((bl s).take i).length) (by rw [List.length_take]; omega)
    obtain ⟨n', hn'⟩ := Int.eq_ofNat_of_zero_le (show 0 ≤ (m : Int) * 1000000000 + bv ((bl s).take i) by omega)
    refine Ev.succ ?_
    simp only [nat_Parse.l1]
    refine Ev.neg (by omega) (Ev.bind (nat_plus_f hm h0 (by omega) hn') (Ev.pos (by omega) (Ev.pos (by omega) ?_)))
    rw [Int.toNat_natCast]
    exact H n' hn'
  | succ d ih =>
    intro i hi
    have h0 := bv_nonneg (hs.take i)
    have h1 := bv_lt (hs.take i)
    have h2 := pow10_9 (i := ((bl s).take i).length) (by rw [List.length_take]; omega)
    have hb : bt sub (i : Int) = (bl s).getD i 0 := by rw [bt_bl (by omega), hsub, getD_take (by omega)]
    have hg := hs.get (n := i) (by omega)
    have hst := bv_take_succ (l := bl s) (i := i) (by omega)
    refine Ev.succ ?_
    simp only [nat_Parse.l1]
    rw [hb, w64succ (by omega), u64w (x := 10 * bv ((bl s).take i)) (by omega) (by omega), show ((bl s).getD i 0 - 48) % 256 = (bl s).getD i 0 - 48 by omega, u64w (by omega) (by omega), ← hst]
    exact Ev.pos (by omega) (Ev.pos (by omega) (Ev.pos (by omega) (ih (i + 1) (by omega))))
theorem nat_Parse_l0 {n : Nat} (hn : L n ≤ 1000000000) : ∀ (z : Nat) (s : ByteArray) (m : Nat), s.size = z → s.size ≤ 100000 → D10 (bl s) → (s.size % 9 ≠ 0 → m = 0) → (m : Int) * 10 ^ s.size + bv (bl s) = n → Ev (fun k => nat_Parse.l0 k s (D m)) (D n, 0) := by
  intro z
  induction z using Nat.strongRecOn with
  | _ z ih =>
    intro s m hz hsz hd h9 hv
    have hlen := bl_len s
    have hmn : m ≤ n := by
      have h1 : (0 : Int) < 10 ^ s.size := Int.pow_pos (by decide)
      have h2 := bv_nonneg hd
      have h3 : (m : Int) * 1 ≤ (m : Int) * 10 ^ s.size := Int.mul_le_mul_of_nonneg_left (by omega) (by omega)
      omega
    have hLm := L_mono hmn
    by_cases h0 : s.size = 0
    · have hbl : bl s = [] := List.eq_nil_of_length_eq_zero (by omega)
      rw [h0, hbl, bv_nil, Int.pow_zero] at hv
      have : m = n := by omega
      subst this
      refine Ev.succ ?_
      simp only [nat_Parse.l0]
      exact Ev.neg (by omega) (Ev.ret _)
    · have key : ∀ c : Nat, 1 ≤ c → c ≤ 9 → c ≤ s.size → (s.size - c) % 9 = 0 → (m = 0 ∨ c = 9) → Ev (fun k => nat_Parse.j1 k s (D m) (c : Int)) (D n, 0) := by
        intro c c1 c9 cs cm cz
        have hsub : bl (s.extract 0 c) = (bl s).take c := by rw [bl_extract, List.drop_zero]
        have hsz2 : (s.extract 0 c).size = c := by rw [← bl_len, hsub, List.length_take]; omega
        refine Ev.succ ?_
        simp only [nat_Parse.j1]
        refine Ev.pos (by omega) (Ev.pos (by omega) ?_)
        rw [Int.toNat_natCast, hsz2]
        refine nat_Parse_l1 hd (by omega) c9 cs hsub ?_ c 0 (by omega)
        intro n' hn'
        have hbl2 : bl (s.extract c s.size) = (bl s).drop c := by rw [bl_extract, ← hlen, List.take_length]
        have hsz3 : (s.extract c s.size).size = s.size - c := by rw [← bl_len, hbl2, List.length_drop, hlen]
        refine ih (s.size - c) (by omega) _ n' hsz3 (by omega) (by rw [hbl2]; exact hd.drop c) (fun h => absurd cm (by rw [hsz3] at h; exact h)) ?_
        rw [hbl2, hsz3, ← hv, ← hn']
        have hsplit : bv (bl s) = bv ((bl s).drop c) + 10 ^ (s.size - c) * bv ((bl s).take c) := by
          conv => lhs; rw [← List.take_append_drop c (bl s)]
          rw [bv_append, List.length_drop, hlen]
        rw [hsplit]
        rcases cz with h | h
        · subst h
          simp
          grind
        · subst h
          have hp : (10 : Int) ^ s.size = 1000000000 * 10 ^ (s.size - 9) := by
            have : s.size = 9 + (s.size - 9) := by omega
            conv => lhs; rw [this, Int.pow_add]
            rfl
          rw [hp]
          grind
      refine Ev.succ ?_
      simp only [nat_Parse.l0]
      refine Ev.pos (by omega) ?_
      by_cases h : (s.size : Int) % 9 = 0
      · exact Ev.pos h (key 9 (by omega) (by omega) (by omega) (by omega) (.inr rfl))
      · refine Ev.neg h ?_
        have e : (s.size : Int) % 9 = ((s.size % 9 : Nat) : Int) := by omega
        rw [e]
        exact key (s.size % 9) (by omega) (by omega) (by omega) (by omega) (.inl (h9 (by omega)))
def rd10 (s : ByteArray) : Nat × Int :=
  if s.size = 0 then (0, 4) else if digsFrom s s.size 0 = true then (if s.size > 10000 then (0, 5) else ((bv (bl s)).toNat, 0)) else (0, 4)
theorem rd10_lt {s : ByteArray} : ∃ k, k ≤ s.size ∧ k ≤ 10000 ∧ (rd10 s).1 < 10 ^ k := by
  have p0 : ∃ k, k ≤ s.size ∧ k ≤ 10000 ∧ 0 < 10 ^ k := ⟨0, Nat.zero_le _, Nat.zero_le _, Nat.one_pos⟩
  unfold rd10
  split
  · exact p0
  split
  · rename_i h
    split
    · exact p0
    · have hd := digs_D10.1 h
      have h1 := bv_lt hd
      have h2 := bv_nonneg hd
      obtain ⟨n, hn⟩ := Int.eq_ofNat_of_zero_le h2
      rw [hn, bl_len, show (10 : Int) ^ s.size = ((10 ^ s.size : Nat) : Int) by rw [Int.natCast_pow]; rfl] at h1
      rw [hn]
      exact ⟨s.size, Nat.le_refl _, by omega, Int.ofNat_lt.1 h1⟩
  · exact p0
theorem L_10 {n k : Nat} (h : n < 10 ^ k) : L n ≤ k := L_le (Nat.lt_of_lt_of_le h (Nat.pow_le_pow_left (by decide) _))
theorem nat_Parse_f (s : ByteArray) : Ev (fun k => nat_Parse.f k s) (D (rd10 s).1, (rd10 s).2) := by
  have hL : L (rd10 s).1 ≤ 10000 := by
    obtain ⟨k, _, hk, h⟩ := rd10_lt (s := s)
    exact Nat.le_trans (L_10 h) hk
  unfold nat_Parse.f
  unfold rd10 at hL ⊢
  by_cases h0 : s.size = 0
  · rw [if_pos h0, D_zero]
    exact Ev.pos (size_zero.2 h0) (Ev.ret _)
  · rw [if_neg h0] at hL ⊢
    refine Ev.neg (fun h => h0 (size_zero.1 h)) ?_
    by_cases h1 : digsFrom s s.size 0 = true
    · rw [if_pos h1] at hL ⊢
      refine Ev.pos h1 ?_
      by_cases h2 : s.size > 10000
      · rw [if_pos h2, D_zero]
        exact Ev.pos (by omega) (Ev.ret _)
      · rw [if_neg h2] at hL ⊢
        refine Ev.neg (by omega) ?_
        have hd := digs_D10.1 h1
        have h3 := bv_nonneg hd
        have hL2 : L (bv (bl s)).toNat ≤ 10000 := hL
        have := nat_Parse_l0 (n := (bv (bl s)).toNat) (by omega) s.size s 0 rfl (by omega) hd (fun _ => rfl) (by
          rw [show ((0 : Nat) : Int) = 0 from rfl, Int.zero_mul]
          omega)
        rw [D_zero] at this
        exact this
    · rw [if_neg h1, D_zero]
      exact Ev.neg h1 (Ev.ret _)
theorem ref_Text_l1 {e : List Int} {i : Nat} {v : Int} {len : Nat} (hl : len ≤ 100000000000000) {r : ByteArray} (hi : i ≤ 1000000000000)
    (H : ∀ x : List Int, D10 x → Dg.vl 10 (x.map (· - 48)) = v → x.length = len → Ev (fun k => dendronref01_Text.l0 k e x ((i + 1 : Nat) : Int)) r) :
    ∀ (c : Nat) (x : List Int) (y : Int), c ≤ 4 → 0 ≤ y → y < 10 ^ c → x.length + c = len → D10 x → Dg.vl 10 (x.map (· - 48)) + 10 ^ x.length * y = v →
    Ev (fun k => dendronref01_Text.l1 k e x (i : Int) y (4 - (c : Int))) r := by
  intro c
  induction c with
  | zero =>
    intro x y hc h0 h1 hx hd hv
    refine Ev.succ ?_
    simp only [dendronref01_Text.l1]
    rw [w64succ (by omega)]
    have hy : y = 0 := by rw [Int.pow_zero] at h1; omega
    rw [hy, Int.mul_zero, Int.add_zero] at hv
    exact Ev.neg (by omega) (H x hd hv (by omega))
  | succ c ih =>
    intro x y hc h0 h1 hx hd hv
    have h4 : (10 : Int) ^ (c + 1) ≤ 10 ^ 4 := Dg.pow_mono (by decide) hc
    have hy9 : y < 10000 := Int.lt_of_lt_of_le h1 h4
    have hy : y / 10 < 10 ^ c := Int.ediv_lt_of_lt_mul (by decide) (by rw [← Int.pow_succ]; exact h1)
    have hm := Int.mul_ediv_add_emod y 10
    clear h4 h1
    refine Ev.succ ?_
    simp only [dendronref01_Text.l1]
    have e1 : wrap64 (4 - ((c + 1 : Nat) : Int) + 1) = 4 - (c : Int) := by rw [w64 (by omega) (by omega)]; omega
    have e2 : wrap64 (48 + Int.tmod y 10) % 256 = 48 + y % 10 := by rw [tmod_pos h0, w64 (by omega) (by omega)]; omega
    have e3 : wrap64 (Int.tdiv y 10) = y / 10 := by rw [tdiv_pos h0, w64 (by omega) (by omega)]
    rw [e1, e2, e3]
    clear e1 e2 e3
    refine Ev.pos (by omega) (Ev.pos (by omega) ?_)
    refine ih _ _ (by omega) (by omega) hy (by rw [List.length_append, List.length_singleton]; omega) (hd.append (D10.one (by omega) (by omega))) ?_
    rw [List.map_append, Dg.vl_append, List.length_map, List.length_append, List.length_singleton, Int.pow_succ, ← hv, List.map_singleton, Dg.vl_cons, Dg.vl_nil]
    generalize y / 10 = q at *
    generalize y % 10 = w at *
    rw [← hm]
    grind
theorem ref_Text_l3 {x : List Int} (hx : x.length ≤ 100000000000000) {R : List Int} (hR : R.length ≤ 100000000000000) : ∀ (i : Nat) (acc : List Int), i ≤ x.length → acc ++ (x.take i).reverse = R → Ev (fun k => dendronref01_Text.l3 k x acc ((i : Int) - 1)) (strOfNums R) := by
  intro i
  induction i with
  | zero =>
    intro acc hi h
    rw [List.take_zero, List.reverse_nil, List.append_nil] at h
    subst h
    refine Ev.succ ?_
    simp only [dendronref01_Text.l3]
    exact Ev.neg (by omega) (Ev.ret _)
  | succ i ih =>
    intro acc hi h
    have hl := congrArg List.length h
    rw [List.length_append, List.length_reverse, List.length_take] at hl
    refine Ev.succ ?_
    have e0 : ((i + 1 : Nat) : Int) - 1 = (i : Int) := by omega
    rw [e0]
    simp only [dendronref01_Text.l3, rd_nat]
    rw [w64pred (by omega)]
    refine Ev.pos (by omega) (Ev.pos (by omega) (Ev.pos (by omega) (Ev.pos (by omega) (ih _ (by omega) ?_))))
    rw [take_snoc (by omega), List.reverse_append] at h
    rw [List.append_assoc]
    exact h
theorem ref_Text_j3 {x : List Int} (hx : x.length ≤ 100000000000000) (hd : D10 x) {n : Nat} (hn : n ≠ 0) {i : Nat} (hi : i < x.length) (hv : Dg.vl 10 ((x.take (i + 1)).map (· - 48)) = n) (ht : x.getD i 0 ≠ 48) :
    Ev (fun k => dendronref01_Text.j3 k x ((i + 1 : Nat) : Int)) (strOfNums (T n)) := by
  refine Ev.succ ?_
  simp only [dendronref01_Text.j3]
  have hR : (x.take (i + 1)).reverse = T n := by
    refine T_of (hd.take _).rev hn ?_ ?_
    · unfold bv
      rw [List.reverse_reverse]
      exact hv
    · rw [take_snoc hi, List.reverse_append]
      exact ht
  refine Ev.neg (by omega) ?_
  rw [w64pred (by omega)]
  refine ref_Text_l3 hx ?_ (i + 1) [] (by omega) (by rw [List.nil_append, hR])
  rw [← hR, List.length_reverse, List.length_take]
  omega
theorem ref_Text_l2 {x : List Int} (hx : x.length ≤ 100000000000000) (hd : D10 x) {n : Nat} (hn : n ≠ 0) : ∀ i : Nat, i ≤ x.length → Dg.vl 10 ((x.take i).map (· - 48)) = n → Ev (fun k => dendronref01_Text.l2 k x (i : Int)) (strOfNums (T n)) := by
  intro i
  induction i with
  | zero =>
    intro hi hv
    rw [List.take_zero] at hv
    exact absurd hv (by
      show ¬ ((0 : Int) = n)
      omega)
  | succ i ih =>
    intro hi hv
    refine Ev.succ ?_
    have e0 : wrap64 (((i + 1 : Nat) : Int) - 1) = (i : Int) := by rw [w64pred (by omega)]; omega
    simp only [dendronref01_Text.l2, e0, rd_nat]
    clear e0
    have hs : Dg.vl 10 ((x.take (i + 1)).map (· - 48)) = Dg.vl 10 ((x.take i).map (· - 48)) + (x.getD i 0 - 48) * 10 ^ i := by
      rw [take_snoc (by omega), List.map_append, List.map_singleton, vl_snoc, List.length_map, List.length_take, Nat.min_eq_left (by omega)]
    by_cases h1 : ((i + 1 : Nat) : Int) > 1
    · refine Ev.pos h1 (Ev.pos (by omega) (Ev.pos (by omega) ?_))
      by_cases h2 : x.getD i 0 = 48
      · refine Ev.pos h2 (ih (by omega) ?_)
        rw [h2, Int.sub_self, Int.zero_mul, Int.add_zero, hv] at hs
        exact hs.symm
      · exact Ev.neg h2 (ref_Text_j3 hx hd hn (by omega) hv h2)
    · have hi0 : i = 0 := by omega
      subst hi0
      refine Ev.neg h1 (ref_Text_j3 hx hd hn (by omega) hv ?_)
      intro h2
      rw [h2, List.take_zero] at hs
      have : Dg.vl 10 ((x.take (0 + 1)).map (· - 48)) = 0 := by rw [hs]; rfl
      omega
theorem ref_Text_l0 {n : Nat} (hL : LE n ≤ 10000000000) (hn : n ≠ 0) : ∀ (d i : Nat) (x : List Int), i + d = LE n → x.length = 4 * i → D10 x → Dg.vl 10 (x.map (· - 48)) = Dg.vl 10000 ((E n).take i) → Ev (fun k => dendronref01_Text.l0 k (E n) x (i : Int)) (strOfNums (T n)) := by
  have hEl : (E n).length = LE n := rfl
  intro d
  induction d with
  | zero =>
    intro i x hi hx hd hv
    refine Ev.succ ?_
    simp only [dendronref01_Text.l0]
    refine Ev.neg (by omega) (ref_Text_l2 (by omega) hd hn x.length (Nat.le_refl _) ?_)
    rw [List.take_length, hv, List.take_of_length_le (by omega), E_vl]
  | succ d ih =>
    intro i x hi hx hd hv
    have g := E_get n i
    refine Ev.succ ?_
    simp only [dendronref01_Text.l0, rd_nat]
    refine Ev.pos (by omega) (Ev.pos (by omega) ?_)
    have := ref_Text_l1 (e := E n) (i := i) (v := Dg.vl 10000 ((E n).take (i + 1))) (len := 4 * (i + 1)) (r := strOfNums (T n)) (by omega) (by omega) (fun x' hd' hv' hx' => ih (i + 1) x' (by omega) hx' hd' hv') 4 x ((E n).getD i 0) (Nat.le_refl _) g.1 (by
      have h4 : (10 : Int) ^ 4 = 10000 := by decide
      rw [h4]
      exact g.2) (by omega) hd (by
        rw [hv, hx, Dg.vl_take_succ, Int.pow_mul]
        have h4 : (10 : Int) ^ 4 = 10000 := by decide
        rw [h4, Int.mul_comm])
    exact this
theorem ref_Text_f {n : Nat} (hL : LE n ≤ 10000000000) : Ev (fun k => dendronref01_Text.f k (E n)) (strOfNums (T n)) := by
  unfold dendronref01_Text.f
  by_cases hn : n = 0
  · subst hn
    rw [E_zero]
    refine Ev.succ ?_
    simp only [dendronref01_Text.l0]
    refine Ev.neg (by decide) (Ev.succ ?_)
    simp only [dendronref01_Text.l2]
    refine Ev.neg (by decide) (Ev.succ ?_)
    simp only [dendronref01_Text.j3]
    exact Ev.pos (by decide) (Ev.eq (Ev.ret _) rfl)
  · exact ref_Text_l0 hL hn (LE n) 0 [] (by omega) rfl D10.nil rfl
end Go.Proofs.Ytfnhpojoaaegmaa.V
set_option linter.unusedVariables false
set_option linter.unusedSimpArgs false
namespace Go.Proofs.Ytfnhpojoaaegmaa.Pure
open Go.RowKit Go.Proofs.Ytfnhpojoaaegmaa.P Go.Proofs.Ytfnhpojoaaegmaa.V Go.Proofs.YtfnhpojoaaegmaaW.PrintWords
theorem NatTexts : dendronlaw01_NatTexts.Pure := by
  intro l0 _ _ h0
  have ha := U_take (U_wf h0) 30
  have la := take_le l0 30
  apply Ev.ex
  unfold dendronlaw01_NatTexts.f
  refine Ev.bind1 (few_f l0 30) ?_
  generalize l0.take 30 = a at *
  have La := L_W a
  have Ea := LE_W a
  have hT := T_len (W a)
  have hT0 := T_pos (W a)
  have hb : rd10 (strOfNums (T (W a))) = (W a, 0) := by
    unfold rd10
    have hs : (strOfNums (T (W a))).size = (T (W a)).length := strOfNums_size _
    rw [if_neg (by omega), if_pos (digs_D10.2 (by rw [bl_T]; exact T_D10 _)), if_neg (by omega), bl_T, T_bv, Int.toNat_natCast]
  have hp := nat_Parse_f (strOfNums (T (W a)))
  rw [hb] at hp
  refine Ev.bind (ref_From_f ha (by omega)) (Ev.bind (nat_Print_f ha (by omega)) (Ev.bind hp (Ev.bind (ref_Text_f (by omega)) (Ev.pos rfl ?_))))
  refine Ev.bind (nat_Digits_f ha (by omega)) (Ev.pos (by rw [strOfNums_size]) (Ev.pos rfl (Ev.bind (ref_Is_true rfl (show V.L (W a) ≤ _ by omega)) (Ev.pos rfl ?_))))
  exact Ev.bind awake_f (Ev.ret _)
end Go.Proofs.Ytfnhpojoaaegmaa.Pure
namespace Go.Proofs.YtfnhpojoaaegmaaW.PrintWords
open Go.ChangeShapes Go.WideShapes
theorem sized_ints {H : Type} {enc : TypeId × Value → H} {P : Program} {W : World} {base : Nat} {spare : Nat → Bool} {held : Bool} {t e : TypeId} {k : IntKind} {a : Option Addr} {len cap : Nat} {d : DataW H} {ps : List MemPlace} {ts : List TypeId} {ds : List (DataW H)} {j : Nat}
    (hsz : (DataW.weightsEach P ts ds).all (· ≤ reachBytes) = true) (ht : ts[j]? = some t) (hd : ds[j]? = some d) (hu : P.underlying t = some (.slice e)) (he : P.underlying e = some (.int k)) (hc : P.cellsOf e = 1) {B : Nat} (hB : P.bytesOf e = B)
    (h : DataW.Trod enc P W base spare held t (.slice a len cap) d ps) : len * B ≤ 140737488351232 := by
  obtain ⟨fuel, hf⟩ := h
  rcases open_ints hu he hc hf with ⟨hcs, _⟩ | ⟨x, l, c, zs, hcs, _, hl, _, hz, hx, _, _⟩
  · simp [Value.cells] at hcs
    obtain ⟨rfl, rfl, rfl⟩ := hcs
    simp
  · simp [Value.cells] at hcs
    obtain ⟨rfl, rfl, rfl⟩ := hcs
    obtain ⟨hx, _⟩ := Prod.mk.inj hx
    subst hx
    have z := sized_slice hsz ht hd hu
    rw [hB] at z
    have hl2 : len ≤ zs.length := by
      rw [hz]
      split
      · exact hl
      · exact Nat.le_refl _
    have h1 : (lits (H := H) k (zs.take len)).length + (lits (H := H) k (zs.drop len)).length = zs.length := by
      simp [lits]
      omega
    rw [h1] at z
    exact Nat.le_trans (Nat.mul_le_mul_right _ hl2) z
end Go.Proofs.YtfnhpojoaaegmaaW.PrintWords
