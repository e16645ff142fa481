/- Part 5 of the texts of NatDivides: words, the machine's side of functions (written by a program), plain lemmas. -/
import Derived.Test.YtfnhpojoaaegmaaBNatDivides4
import Derived.Laws.BitsLemmas
import Derived.SizedLaws
import Derived.ChangeSlices
namespace Go.Proofs.Ytfnhpojoaaegmaa.P
open Go.RowKit Go.Proofs.YtfnhpojoaaegmaaW.PrintWords Go.Proofs.YtfnhpojoaaegmaaW.PrintLast Go.Proofs.YtfnhpojoaaegmaaW.PrintMore
set_option linter.unusedVariables false
set_option linter.unusedSimpArgs false
def dendronlaw01_NatDivides.f (k : Nat) (l0 : List Int) (l1 : List Int) : Option (Bool) := (dendronlaw01_few.f l0 60).bind fun t610 => ((dendronlaw01_few.f l1 60).bind fun t613 => ((nat_DivMod.f k t610 t613).bind fun bt616 => ((nat_Zero.f k t613).bind fun t623 => (if t623 = true then (if bt616.2.2 = 2 then ((dendronlaw01_awake.f k).bind fun t624 => (some t624)) else (some false)) else (if bt616.2.2 = 0 then ((dendronref01_Right.f k bt616.1).bind fun t625 => (if t625 = true then ((dendronref01_Right.f k bt616.2.1).bind fun t626 => (if t626 = true then ((nat_Cmp.f k bt616.2.1 t613).bind fun t627 => (if t627 < 0 then ((nat_Mul.f k bt616.1 t613).bind fun t628 => ((nat_Add.f k t628 bt616.2.1).bind fun t631 => ((nat_Cmp.f k t631 t610).bind fun t634 => (if t634 = 0 then ((dendronlaw01_awake.f k).bind fun t635 => (some t635)) else (some false))))) else (some false))) else (some false))) else (some false))) else (some false))))))
set_option maxHeartbeats 8000000 in
set_option maxRecDepth 100000 in
theorem dendronlaw01_NatDivides.calls (k : Nat) (A0 : Option Addr) (c0 : Nat) (l0 : List Int) (A1 : Option Addr) (c1 : Nat) (l1 : List Int) (r : Bool) (w : World) (hr0 : Kd.C (Kd.int .u64) w A0 l0.length l0) (hc0 : l0.length ≤ c0) (hr1 : Kd.C (Kd.int .u64) w A1 l1.length l1) (hc1 : l1.length ≤ c1) (h : dendronlaw01_NatDivides.f k l0 l1 = some r) :
    Calls Try.prog 14 #[.slice A0 l0.length c0, .slice A1 l1.length c1] w fun e w' => e = .returned (.bool r) ∧ Below w.heap.size w w' := by
  have HR0 := Aside0.mk hr0
  have HC0 := Aside0.mk hc0
  clear hr0 hc0
  have HR1 := Aside0.mk hr1
  have HC1 := Aside0.mk hc1
  clear hr1 hc1
  have HB := Aside0.mk (Below.refl w.heap.size w)
  have H : ((dendronlaw01_few.f l0 60).bind fun t610 => ((dendronlaw01_few.f l1 60).bind fun t613 => ((nat_DivMod.f k t610 t613).bind fun bt616 => ((nat_Zero.f k t613).bind fun t623 => (if t623 = true then (if bt616.2.2 = 2 then ((dendronlaw01_awake.f k).bind fun t624 => (some t624)) else (some false)) else (if bt616.2.2 = 0 then ((dendronref01_Right.f k bt616.1).bind fun t625 => (if t625 = true then ((dendronref01_Right.f k bt616.2.1).bind fun t626 => (if t626 = true then ((nat_Cmp.f k bt616.2.1 t613).bind fun t627 => (if t627 < 0 then ((nat_Mul.f k bt616.1 t613).bind fun t628 => ((nat_Add.f k t628 bt616.2.1).bind fun t631 => ((nat_Cmp.f k t631 t610).bind fun t634 => (if t634 = 0 then ((dendronlaw01_awake.f k).bind fun t635 => (some t635)) else (some false))))) else (some false))) else (some false))) else (some false))) else (some false))))))) = some r := h
  clear h
  replace H := Option.bind_eq_some_iff.mp H
  obtain ⟨t610, A30, H⟩ := H
  replace H : ((dendronlaw01_few.f l1 60).bind fun t613 => ((nat_DivMod.f k t610 t613).bind fun bt616 => ((nat_Zero.f k t613).bind fun t623 => (if t623 = true then (if bt616.2.2 = 2 then ((dendronlaw01_awake.f k).bind fun t624 => (some t624)) else (some false)) else (if bt616.2.2 = 0 then ((dendronref01_Right.f k bt616.1).bind fun t625 => (if t625 = true then ((dendronref01_Right.f k bt616.2.1).bind fun t626 => (if t626 = true then ((nat_Cmp.f k bt616.2.1 t613).bind fun t627 => (if t627 < 0 then ((nat_Mul.f k bt616.1 t613).bind fun t628 => ((nat_Add.f k t628 bt616.2.1).bind fun t631 => ((nat_Cmp.f k t631 t610).bind fun t634 => (if t634 = 0 then ((dendronlaw01_awake.f k).bind fun t635 => (some t635)) else (some false))))) else (some false))) else (some false))) else (some false))) else (some false)))))) = some r := H
  have A3 := Aside0.mk A30
  clear A30
  replace H := Option.bind_eq_some_iff.mp H
  obtain ⟨t613, A40, H⟩ := H
  replace H : ((nat_DivMod.f k t610 t613).bind fun bt616 => ((nat_Zero.f k t613).bind fun t623 => (if t623 = true then (if bt616.2.2 = 2 then ((dendronlaw01_awake.f k).bind fun t624 => (some t624)) else (some false)) else (if bt616.2.2 = 0 then ((dendronref01_Right.f k bt616.1).bind fun t625 => (if t625 = true then ((dendronref01_Right.f k bt616.2.1).bind fun t626 => (if t626 = true then ((nat_Cmp.f k bt616.2.1 t613).bind fun t627 => (if t627 < 0 then ((nat_Mul.f k bt616.1 t613).bind fun t628 => ((nat_Add.f k t628 bt616.2.1).bind fun t631 => ((nat_Cmp.f k t631 t610).bind fun t634 => (if t634 = 0 then ((dendronlaw01_awake.f k).bind fun t635 => (some t635)) else (some false))))) else (some false))) else (some false))) else (some false))) else (some false))))) = some r := H
  have A4 := Aside0.mk A40
  clear A40
  replace H := Option.bind_eq_some_iff.mp H
  obtain ⟨⟨t616, t617, t618⟩, A50, H⟩ := H
  replace H : ((nat_Zero.f k t613).bind fun t623 => (if t623 = true then (if t618 = 2 then ((dendronlaw01_awake.f k).bind fun t624 => (some t624)) else (some false)) else (if t618 = 0 then ((dendronref01_Right.f k t616).bind fun t625 => (if t625 = true then ((dendronref01_Right.f k t617).bind fun t626 => (if t626 = true then ((nat_Cmp.f k t617 t613).bind fun t627 => (if t627 < 0 then ((nat_Mul.f k t616 t613).bind fun t628 => ((nat_Add.f k t628 t617).bind fun t631 => ((nat_Cmp.f k t631 t610).bind fun t634 => (if t634 = 0 then ((dendronlaw01_awake.f k).bind fun t635 => (some t635)) else (some false))))) else (some false))) else (some false))) else (some false))) else (some false)))) = some r := H
  have A5 := Aside0.mk A50
  clear A50
  replace H := Option.bind_eq_some_iff.mp H
  obtain ⟨t623, A60, H⟩ := H
  replace H : (if t623 = true then (if t618 = 2 then ((dendronlaw01_awake.f k).bind fun t624 => (some t624)) else (some false)) else (if t618 = 0 then ((dendronref01_Right.f k t616).bind fun t625 => (if t625 = true then ((dendronref01_Right.f k t617).bind fun t626 => (if t626 = true then ((nat_Cmp.f k t617 t613).bind fun t627 => (if t627 < 0 then ((nat_Mul.f k t616 t613).bind fun t628 => ((nat_Add.f k t628 t617).bind fun t631 => ((nat_Cmp.f k t631 t610).bind fun t634 => (if t634 = 0 then ((dendronlaw01_awake.f k).bind fun t635 => (some t635)) else (some false))))) else (some false))) else (some false))) else (some false))) else (some false))) = some r := H
  have A6 := Aside0.mk A60
  clear A60
  by_cases c7 : t623 = true
  · subst c7
    have H1 : (if t618 = 2 then ((dendronlaw01_awake.f k).bind fun t624 => (some t624)) else (some false)) = some r := by rw [if_pos rfl] at H; exact H
    clear H
    have H := H1
    clear H1
    by_cases c8 : t618 = 2
    · rw [if_pos c8] at H
      have c8b0 : (t618 == 2) = true := beq_iff_eq.mpr c8
      have c8b1 : (t618 != 2) = false := bne_eq_false_iff_eq.mpr c8
      clear c8
      replace H := Option.bind_eq_some_iff.mp H
      obtain ⟨t624, A90, H⟩ := H
      replace H : (some t624) = some r := H
      have A9 := Aside0.mk A90
      clear A90
      obtain rfl := Option.some.inj H
      go_enter Try.func14, Try.ntmps14
      go_wp2_with (first | ((with_reducible refine gate_callee (f := 30) rfl ?_); refine goesL_ (some 9) rfl rfl Try.func30 (by kernel_rfl) rfl #[.slice A0 l0.length c0, .int .i64 60] rfl (by (try simp only [List.map_toArray, List.map_cons, List.map_nil]); first | done | rfl | (simp only [List.length_drop, List.length_take]; rfl)) ?_; (with_reducible refine (dendronlaw01_few.calls (fun k_ => k_ < w.heap.size) _ _ l0 60 t610 _ ?side1 A3.out).mono ?_); (case side1 => exact Kd.V_mk HC0.out (Kd.F_below (Kd.C_F (Kd.heap_int .u64) HR0.out) (by repeat (first | (with_reducible first | exact HB.out | apply below_alloc | apply pw_below_drewN | apply below_drew1) | exact HB.out)))); rintro e w10 ⟨v611, rfl, ho0, hb⟩; refine ⟨_, rfl, ?_⟩; have n0_ := Aside0.mk (Kd.V_lower (Kd.V_mono (ok' := fun k_ => True) ho0 (fun k_ hk_ => trivial)) (below_size (by repeat (first | (with_reducible first | exact HB.out | apply below_alloc | apply pw_below_drewN | apply below_drew1) | exact HB.out)))); have n1_ := Aside0.mk (below_step (by repeat (first | (with_reducible first | exact HB.out | apply below_alloc | apply pw_below_drewN | apply below_drew1) | exact HB.out)) hb); clear HB; have HO612 := n0_; have HB := n1_; clear n0_ n1_; (try clear hb); (try clear hb2); (try clear hk); (try clear hi); (try clear ho0)) | ((with_reducible refine gate_callee (f := 30) rfl ?_); refine goesL_ (some 11) rfl rfl Try.func30 (by kernel_rfl) rfl #[.slice A1 l1.length c1, .int .i64 60] rfl (by (try simp only [List.map_toArray, List.map_cons, List.map_nil]); first | done | rfl | (simp only [List.length_drop, List.length_take]; rfl)) ?_; (with_reducible refine (dendronlaw01_few.calls (fun k_ => k_ < w.heap.size) _ _ l1 60 t613 _ ?side1 A4.out).mono ?_); (case side1 => exact Kd.V_mk HC1.out (Kd.F_below (Kd.C_F (Kd.heap_int .u64) HR1.out) (by repeat (first | (with_reducible first | exact HB.out | apply below_alloc | apply pw_below_drewN | apply below_drew1) | exact HB.out)))); rintro e w11 ⟨v614, rfl, ho0, hb⟩; refine ⟨_, rfl, ?_⟩; have n0_ := Aside0.mk (Kd.V_below (by (with_reducible repeat (first | apply Kd.V_alloc | apply Kd.V_drewN | apply Kd.V_drew)); exact HO612.out) hb); have n1_ := Aside0.mk (Kd.V_lower (Kd.V_mono (ok' := fun k_ => True) ho0 (fun k_ hk_ => trivial)) (below_size (by repeat (first | (with_reducible first | exact HB.out | apply below_alloc | apply pw_below_drewN | apply below_drew1) | exact HB.out)))); have n2_ := Aside0.mk (below_step (by repeat (first | (with_reducible first | exact HB.out | apply below_alloc | apply pw_below_drewN | apply below_drew1) | exact HB.out)) hb); clear HO612; clear HB; have HO612 := n0_; have HO615 := n1_; have HB := n2_; clear n0_ n1_ n2_; (try clear hb); (try clear hb2); (try clear hk); (try clear hi); (try clear ho0); obtain ⟨Ao12, co12, eo12⟩ := Kd.V_slice HO612.out; subst eo12; obtain ⟨Ao13, co13, eo13⟩ := Kd.V_slice HO615.out; subst eo13) | ((with_reducible refine gate_callee (f := 36) rfl ?_); refine goesL_ (some 15) rfl rfl Try.func36 (by kernel_rfl) rfl #[.slice Ao12 t610.length co12, .slice Ao13 t613.length co13] rfl (by (try simp only [List.map_toArray, List.map_cons, List.map_nil]); first | done | rfl | (simp only [List.length_drop, List.length_take]; rfl)) ?_; (with_reducible refine (nat_DivMod.calls k _ _ t610 _ _ t613 t616 t617 t618 _ ?side1 ?side2 ?side3 ?side4 A5.out).mono ?_); (case side1 => repeat (first | exact (Kd.V_reads' HO612.out).2.2 | (with_reducible refine Kd.C_alloc ?_ _) | (with_reducible refine Kd.C_drewN ?_ _) | (with_reducible refine Kd.C_drew ?_))); (case side2 => exact (Kd.V_reads' HO612.out).2.1); (case side3 => repeat (first | exact (Kd.V_reads' HO615.out).2.2 | (with_reducible refine Kd.C_alloc ?_ _) | (with_reducible refine Kd.C_drewN ?_ _) | (with_reducible refine Kd.C_drew ?_))); (case side4 => exact (Kd.V_reads' HO615.out).2.1); rintro e w14 ⟨v619, v621, rfl, ho0, ho1, hb⟩; refine ⟨_, rfl, ?_⟩; have n0_ := Aside0.mk (Kd.V_mono (Kd.V_told (Kd.V_told (Kd.V_old (by (with_reducible repeat (first | apply Kd.V_alloc | apply Kd.V_drewN | apply Kd.V_drew)); exact HO612.out) hb) (Kd.R_base ho0)) (Kd.R_base ho1)) (fun _ h_ => h_.1)); have n1_ := Aside0.mk (Kd.V_mono (Kd.V_told (Kd.V_told (Kd.V_old (by (with_reducible repeat (first | apply Kd.V_alloc | apply Kd.V_drewN | apply Kd.V_drew)); exact HO615.out) hb) (Kd.R_base ho0)) (Kd.R_base ho1)) (fun _ h_ => h_.1)); have n2_ := Aside0.mk (Kd.R_lower ho0 (below_size (by repeat (first | (with_reducible first | exact HB.out | apply below_alloc | apply pw_below_drewN | apply below_drew1) | exact HB.out)))); have n3_ := Aside0.mk (Kd.R_lower ho1 (below_size (by repeat (first | (with_reducible first | exact HB.out | apply below_alloc | apply pw_below_drewN | apply below_drew1) | exact HB.out)))); have n4_ := Aside0.mk (below_step (by repeat (first | (with_reducible first | exact HB.out | apply below_alloc | apply pw_below_drewN | apply below_drew1) | exact HB.out)) hb); clear HO612; clear HO615; clear HB; have HO612 := n0_; have HO615 := n1_; have HO620 := n2_; have HO622 := n3_; have HB := n4_; clear n0_ n1_ n2_ n3_ n4_; (try clear hb); (try clear hb2); (try clear hk); (try clear hi); (try clear ho0); (try clear ho1)) | ((with_reducible refine gate_callee (f := 51) rfl ?_); refine goesL_ (some 20) rfl rfl Try.func51 (by kernel_rfl) rfl #[.slice Ao13 t613.length co13] rfl (by (try simp only [List.map_toArray, List.map_cons, List.map_nil]); first | done | rfl | (simp only [List.length_drop, List.length_take]; rfl)) ?_; (with_reducible refine (nat_Zero.calls k _ _ t613 true _ ?side1 ?side2 A6.out).mono ?_); (case side1 => repeat (first | exact (Kd.V_reads' HO615.out).2.2 | (with_reducible refine Kd.C_alloc ?_ _) | (with_reducible refine Kd.C_drewN ?_ _) | (with_reducible refine Kd.C_drew ?_))); (case side2 => exact (Kd.V_reads' HO615.out).2.1); rintro e w15 ⟨rfl, hb⟩; refine ⟨_, rfl, ?_⟩; have n0_ := Aside0.mk (Kd.V_below (by (with_reducible repeat (first | apply Kd.V_alloc | apply Kd.V_drewN | apply Kd.V_drew)); exact HO612.out) hb); have n1_ := Aside0.mk (Kd.V_below (by (with_reducible repeat (first | apply Kd.V_alloc | apply Kd.V_drewN | apply Kd.V_drew)); exact HO615.out) hb); have n2_ := Aside0.mk (Kd.R_below (by (with_reducible repeat (first | apply Kd.R_alloc | apply Kd.R_drewN | apply Kd.R_drew)); exact HO620.out) hb); have n3_ := Aside0.mk (Kd.R_below (by (with_reducible repeat (first | apply Kd.R_alloc | apply Kd.R_drewN | apply Kd.R_drew)); exact HO622.out) hb); have n4_ := Aside0.mk (below_step (by repeat (first | (with_reducible first | exact HB.out | apply below_alloc | apply pw_below_drewN | apply below_drew1) | exact HB.out)) hb); clear HO612; clear HO615; clear HO620; clear HO622; clear HB; have HO612 := n0_; have HO615 := n1_; have HO620 := n2_; have HO622 := n3_; have HB := n4_; clear n0_ n1_ n2_ n3_ n4_; (try clear hb); (try clear hb2); (try clear hk); (try clear hi)) | (go_at_call 35; (with_reducible refine (dendronlaw01_awake.calls k  t624 _ A9.out).mono ?_); rintro e w16 ⟨rfl, hb⟩; have n0_ := Aside0.mk (Kd.V_below (by (with_reducible repeat (first | apply Kd.V_alloc | apply Kd.V_drewN | apply Kd.V_drew)); exact HO612.out) hb); have n1_ := Aside0.mk (Kd.V_below (by (with_reducible repeat (first | apply Kd.V_alloc | apply Kd.V_drewN | apply Kd.V_drew)); exact HO615.out) hb); have n2_ := Aside0.mk (Kd.R_below (by (with_reducible repeat (first | apply Kd.R_alloc | apply Kd.R_drewN | apply Kd.R_drew)); exact HO620.out) hb); have n3_ := Aside0.mk (Kd.R_below (by (with_reducible repeat (first | apply Kd.R_alloc | apply Kd.R_drewN | apply Kd.R_drew)); exact HO622.out) hb); have n4_ := Aside0.mk (below_step (by repeat (first | (with_reducible first | exact HB.out | apply below_alloc | apply pw_below_drewN | apply below_drew1) | exact HB.out)) hb); clear HO612; clear HO615; clear HO620; clear HO622; clear HB; have HO612 := n0_; have HO615 := n1_; have HO620 := n2_; have HO622 := n3_; have HB := n4_; clear n0_ n1_ n2_ n3_ n4_; (try clear hb); (try clear hb2); (try clear hk); (try clear hi)))
      go_ret
      exact ⟨by first | rfl | (simp [errW_none, errW_some] <;> rfl) | (simp [*, errW_none, errW_some] <;> rfl), by repeat (first | (with_reducible first | exact HB.out | apply below_alloc | apply pw_below_drewN | apply below_drew1) | exact HB.out)⟩
    · rw [if_neg c8] at H
      have c8b0 : (t618 == 2) = false := beq_eq_false_iff_ne.mpr c8
      have c8b1 : (t618 != 2) = true := bne_iff_ne.mpr c8
      obtain rfl := Option.some.inj H
      go_enter Try.func14, Try.ntmps14
      go_wp2_with (first | ((with_reducible refine gate_callee (f := 30) rfl ?_); refine goesL_ (some 9) rfl rfl Try.func30 (by kernel_rfl) rfl #[.slice A0 l0.length c0, .int .i64 60] rfl (by (try simp only [List.map_toArray, List.map_cons, List.map_nil]); first | done | rfl | (simp only [List.length_drop, List.length_take]; rfl)) ?_; (with_reducible refine (dendronlaw01_few.calls (fun k_ => k_ < w.heap.size) _ _ l0 60 t610 _ ?side1 A3.out).mono ?_); (case side1 => exact Kd.V_mk HC0.out (Kd.F_below (Kd.C_F (Kd.heap_int .u64) HR0.out) (by repeat (first | (with_reducible first | exact HB.out | apply below_alloc | apply pw_below_drewN | apply below_drew1) | exact HB.out)))); rintro e w17 ⟨v611, rfl, ho0, hb⟩; refine ⟨_, rfl, ?_⟩; have n0_ := Aside0.mk (Kd.V_lower (Kd.V_mono (ok' := fun k_ => True) ho0 (fun k_ hk_ => trivial)) (below_size (by repeat (first | (with_reducible first | exact HB.out | apply below_alloc | apply pw_below_drewN | apply below_drew1) | exact HB.out)))); have n1_ := Aside0.mk (below_step (by repeat (first | (with_reducible first | exact HB.out | apply below_alloc | apply pw_below_drewN | apply below_drew1) | exact HB.out)) hb); clear HB; have HO612 := n0_; have HB := n1_; clear n0_ n1_; (try clear hb); (try clear hb2); (try clear hk); (try clear hi); (try clear ho0)) | ((with_reducible refine gate_callee (f := 30) rfl ?_); refine goesL_ (some 11) rfl rfl Try.func30 (by kernel_rfl) rfl #[.slice A1 l1.length c1, .int .i64 60] rfl (by (try simp only [List.map_toArray, List.map_cons, List.map_nil]); first | done | rfl | (simp only [List.length_drop, List.length_take]; rfl)) ?_; (with_reducible refine (dendronlaw01_few.calls (fun k_ => k_ < w.heap.size) _ _ l1 60 t613 _ ?side1 A4.out).mono ?_); (case side1 => exact Kd.V_mk HC1.out (Kd.F_below (Kd.C_F (Kd.heap_int .u64) HR1.out) (by repeat (first | (with_reducible first | exact HB.out | apply below_alloc | apply pw_below_drewN | apply below_drew1) | exact HB.out)))); rintro e w18 ⟨v614, rfl, ho0, hb⟩; refine ⟨_, rfl, ?_⟩; have n0_ := Aside0.mk (Kd.V_below (by (with_reducible repeat (first | apply Kd.V_alloc | apply Kd.V_drewN | apply Kd.V_drew)); exact HO612.out) hb); have n1_ := Aside0.mk (Kd.V_lower (Kd.V_mono (ok' := fun k_ => True) ho0 (fun k_ hk_ => trivial)) (below_size (by repeat (first | (with_reducible first | exact HB.out | apply below_alloc | apply pw_below_drewN | apply below_drew1) | exact HB.out)))); have n2_ := Aside0.mk (below_step (by repeat (first | (with_reducible first | exact HB.out | apply below_alloc | apply pw_below_drewN | apply below_drew1) | exact HB.out)) hb); clear HO612; clear HB; have HO612 := n0_; have HO615 := n1_; have HB := n2_; clear n0_ n1_ n2_; (try clear hb); (try clear hb2); (try clear hk); (try clear hi); (try clear ho0); obtain ⟨Ao19, co19, eo19⟩ := Kd.V_slice HO612.out; subst eo19; obtain ⟨Ao20, co20, eo20⟩ := Kd.V_slice HO615.out; subst eo20) | ((with_reducible refine gate_callee (f := 36) rfl ?_); refine goesL_ (some 15) rfl rfl Try.func36 (by kernel_rfl) rfl #[.slice Ao19 t610.length co19, .slice Ao20 t613.length co20] rfl (by (try simp only [List.map_toArray, List.map_cons, List.map_nil]); first | done | rfl | (simp only [List.length_drop, List.length_take]; rfl)) ?_; (with_reducible refine (nat_DivMod.calls k _ _ t610 _ _ t613 t616 t617 t618 _ ?side1 ?side2 ?side3 ?side4 A5.out).mono ?_); (case side1 => repeat (first | exact (Kd.V_reads' HO612.out).2.2 | (with_reducible refine Kd.C_alloc ?_ _) | (with_reducible refine Kd.C_drewN ?_ _) | (with_reducible refine Kd.C_drew ?_))); (case side2 => exact (Kd.V_reads' HO612.out).2.1); (case side3 => repeat (first | exact (Kd.V_reads' HO615.out).2.2 | (with_reducible refine Kd.C_alloc ?_ _) | (with_reducible refine Kd.C_drewN ?_ _) | (with_reducible refine Kd.C_drew ?_))); (case side4 => exact (Kd.V_reads' HO615.out).2.1); rintro e w21 ⟨v619, v621, rfl, ho0, ho1, hb⟩; refine ⟨_, rfl, ?_⟩; have n0_ := Aside0.mk (Kd.V_mono (Kd.V_told (Kd.V_told (Kd.V_old (by (with_reducible repeat (first | apply Kd.V_alloc | apply Kd.V_drewN | apply Kd.V_drew)); exact HO612.out) hb) (Kd.R_base ho0)) (Kd.R_base ho1)) (fun _ h_ => h_.1)); have n1_ := Aside0.mk (Kd.V_mono (Kd.V_told (Kd.V_told (Kd.V_old (by (with_reducible repeat (first | apply Kd.V_alloc | apply Kd.V_drewN | apply Kd.V_drew)); exact HO615.out) hb) (Kd.R_base ho0)) (Kd.R_base ho1)) (fun _ h_ => h_.1)); have n2_ := Aside0.mk (Kd.R_lower ho0 (below_size (by repeat (first | (with_reducible first | exact HB.out | apply below_alloc | apply pw_below_drewN | apply below_drew1) | exact HB.out)))); have n3_ := Aside0.mk (Kd.R_lower ho1 (below_size (by repeat (first | (with_reducible first | exact HB.out | apply below_alloc | apply pw_below_drewN | apply below_drew1) | exact HB.out)))); have n4_ := Aside0.mk (below_step (by repeat (first | (with_reducible first | exact HB.out | apply below_alloc | apply pw_below_drewN | apply below_drew1) | exact HB.out)) hb); clear HO612; clear HO615; clear HB; have HO612 := n0_; have HO615 := n1_; have HO620 := n2_; have HO622 := n3_; have HB := n4_; clear n0_ n1_ n2_ n3_ n4_; (try clear hb); (try clear hb2); (try clear hk); (try clear hi); (try clear ho0); (try clear ho1)) | ((with_reducible refine gate_callee (f := 51) rfl ?_); refine goesL_ (some 20) rfl rfl Try.func51 (by kernel_rfl) rfl #[.slice Ao20 t613.length co20] rfl (by (try simp only [List.map_toArray, List.map_cons, List.map_nil]); first | done | rfl | (simp only [List.length_drop, List.length_take]; rfl)) ?_; (with_reducible refine (nat_Zero.calls k _ _ t613 true _ ?side1 ?side2 A6.out).mono ?_); (case side1 => repeat (first | exact (Kd.V_reads' HO615.out).2.2 | (with_reducible refine Kd.C_alloc ?_ _) | (with_reducible refine Kd.C_drewN ?_ _) | (with_reducible refine Kd.C_drew ?_))); (case side2 => exact (Kd.V_reads' HO615.out).2.1); rintro e w22 ⟨rfl, hb⟩; refine ⟨_, rfl, ?_⟩; have n0_ := Aside0.mk (Kd.V_below (by (with_reducible repeat (first | apply Kd.V_alloc | apply Kd.V_drewN | apply Kd.V_drew)); exact HO612.out) hb); have n1_ := Aside0.mk (Kd.V_below (by (with_reducible repeat (first | apply Kd.V_alloc | apply Kd.V_drewN | apply Kd.V_drew)); exact HO615.out) hb); have n2_ := Aside0.mk (Kd.R_below (by (with_reducible repeat (first | apply Kd.R_alloc | apply Kd.R_drewN | apply Kd.R_drew)); exact HO620.out) hb); have n3_ := Aside0.mk (Kd.R_below (by (with_reducible repeat (first | apply Kd.R_alloc | apply Kd.R_drewN | apply Kd.R_drew)); exact HO622.out) hb); have n4_ := Aside0.mk (below_step (by repeat (first | (with_reducible first | exact HB.out | apply below_alloc | apply pw_below_drewN | apply below_drew1) | exact HB.out)) hb); clear HO612; clear HO615; clear HO620; clear HO622; clear HB; have HO612 := n0_; have HO615 := n1_; have HO620 := n2_; have HO622 := n3_; have HB := n4_; clear n0_ n1_ n2_ n3_ n4_; (try clear hb); (try clear hb2); (try clear hk); (try clear hi)))
      go_ret
      exact ⟨by first | rfl | (simp [errW_none, errW_some] <;> rfl) | (simp [*, errW_none, errW_some] <;> rfl), by repeat (first | (with_reducible first | exact HB.out | apply below_alloc | apply pw_below_drewN | apply below_drew1) | exact HB.out)⟩
  · replace c7 := Bool.eq_false_iff.mpr c7
    subst c7
    have H1 : (if t618 = 0 then ((dendronref01_Right.f k t616).bind fun t625 => (if t625 = true then ((dendronref01_Right.f k t617).bind fun t626 => (if t626 = true then ((nat_Cmp.f k t617 t613).bind fun t627 => (if t627 < 0 then ((nat_Mul.f k t616 t613).bind fun t628 => ((nat_Add.f k t628 t617).bind fun t631 => ((nat_Cmp.f k t631 t610).bind fun t634 => (if t634 = 0 then ((dendronlaw01_awake.f k).bind fun t635 => (some t635)) else (some false))))) else (some false))) else (some false))) else (some false))) else (some false)) = some r := by rw [if_neg (show ¬ (false = true) by decide)] at H; exact H
    clear H
    have H := H1
    clear H1
    by_cases c23 : t618 = 0
    · rw [if_pos c23] at H
      have c23b0 : (t618 == 0) = true := beq_iff_eq.mpr c23
      have c23b1 : (t618 != 0) = false := bne_eq_false_iff_eq.mpr c23
      clear c23
      replace H := Option.bind_eq_some_iff.mp H
      obtain ⟨t625, A240, H⟩ := H
      replace H : (if t625 = true then ((dendronref01_Right.f k t617).bind fun t626 => (if t626 = true then ((nat_Cmp.f k t617 t613).bind fun t627 => (if t627 < 0 then ((nat_Mul.f k t616 t613).bind fun t628 => ((nat_Add.f k t628 t617).bind fun t631 => ((nat_Cmp.f k t631 t610).bind fun t634 => (if t634 = 0 then ((dendronlaw01_awake.f k).bind fun t635 => (some t635)) else (some false))))) else (some false))) else (some false))) else (some false)) = some r := H
      have A24 := Aside0.mk A240
      clear A240
      by_cases c25 : t625 = true
      · subst c25
        have H1 : ((dendronref01_Right.f k t617).bind fun t626 => (if t626 = true then ((nat_Cmp.f k t617 t613).bind fun t627 => (if t627 < 0 then ((nat_Mul.f k t616 t613).bind fun t628 => ((nat_Add.f k t628 t617).bind fun t631 => ((nat_Cmp.f k t631 t610).bind fun t634 => (if t634 = 0 then ((dendronlaw01_awake.f k).bind fun t635 => (some t635)) else (some false))))) else (some false))) else (some false))) = some r := by rw [if_pos rfl] at H; exact H
        clear H
        have H := H1
        clear H1
        replace H := Option.bind_eq_some_iff.mp H
        obtain ⟨t626, A260, H⟩ := H
        replace H : (if t626 = true then ((nat_Cmp.f k t617 t613).bind fun t627 => (if t627 < 0 then ((nat_Mul.f k t616 t613).bind fun t628 => ((nat_Add.f k t628 t617).bind fun t631 => ((nat_Cmp.f k t631 t610).bind fun t634 => (if t634 = 0 then ((dendronlaw01_awake.f k).bind fun t635 => (some t635)) else (some false))))) else (some false))) else (some false)) = some r := H
        have A26 := Aside0.mk A260
        clear A260
        by_cases c27 : t626 = true
        · subst c27
          have H1 : ((nat_Cmp.f k t617 t613).bind fun t627 => (if t627 < 0 then ((nat_Mul.f k t616 t613).bind fun t628 => ((nat_Add.f k t628 t617).bind fun t631 => ((nat_Cmp.f k t631 t610).bind fun t634 => (if t634 = 0 then ((dendronlaw01_awake.f k).bind fun t635 => (some t635)) else (some false))))) else (some false))) = some r := by rw [if_pos rfl] at H; exact H
          clear H
          have H := H1
          clear H1
          replace H := Option.bind_eq_some_iff.mp H
          obtain ⟨t627, A280, H⟩ := H
          replace H : (if t627 < 0 then ((nat_Mul.f k t616 t613).bind fun t628 => ((nat_Add.f k t628 t617).bind fun t631 => ((nat_Cmp.f k t631 t610).bind fun t634 => (if t634 = 0 then ((dendronlaw01_awake.f k).bind fun t635 => (some t635)) else (some false))))) else (some false)) = some r := H
          have A28 := Aside0.mk A280
          clear A280
          by_cases c29 : t627 < 0
          · rw [if_pos c29] at H
            have c29b0 : decide (t627 < 0) = true := decide_eq_true c29
            clear c29
            replace H := Option.bind_eq_some_iff.mp H
            obtain ⟨t628, A300, H⟩ := H
            replace H : ((nat_Add.f k t628 t617).bind fun t631 => ((nat_Cmp.f k t631 t610).bind fun t634 => (if t634 = 0 then ((dendronlaw01_awake.f k).bind fun t635 => (some t635)) else (some false)))) = some r := H
            have A30 := Aside0.mk A300
            clear A300
            replace H := Option.bind_eq_some_iff.mp H
            obtain ⟨t631, A310, H⟩ := H
            replace H : ((nat_Cmp.f k t631 t610).bind fun t634 => (if t634 = 0 then ((dendronlaw01_awake.f k).bind fun t635 => (some t635)) else (some false))) = some r := H
            have A31 := Aside0.mk A310
            clear A310
            replace H := Option.bind_eq_some_iff.mp H
            obtain ⟨t634, A320, H⟩ := H
            replace H : (if t634 = 0 then ((dendronlaw01_awake.f k).bind fun t635 => (some t635)) else (some false)) = some r := H
            have A32 := Aside0.mk A320
            clear A320
            by_cases c33 : t634 = 0
            · rw [if_pos c33] at H
              have c33b0 : (t634 == 0) = true := beq_iff_eq.mpr c33
              have c33b1 : (t634 != 0) = false := bne_eq_false_iff_eq.mpr c33
              clear c33
              replace H := Option.bind_eq_some_iff.mp H
              obtain ⟨t635, A340, H⟩ := H
              replace H : (some t635) = some r := H
              have A34 := Aside0.mk A340
              clear A340
              obtain rfl := Option.some.inj H
              go_enter Try.func14, Try.ntmps14
              go_wp2_with (first | ((with_reducible refine gate_callee (f := 30) rfl ?_); refine goesL_ (some 9) rfl rfl Try.func30 (by kernel_rfl) rfl #[.slice A0 l0.length c0, .int .i64 60] rfl (by (try simp only [List.map_toArray, List.map_cons, List.map_nil]); first | done | rfl | (simp only [List.length_drop, List.length_take]; rfl)) ?_; (with_reducible refine (dendronlaw01_few.calls (fun k_ => k_ < w.heap.size) _ _ l0 60 t610 _ ?side1 A3.out).mono ?_); (case side1 => exact Kd.V_mk HC0.out (Kd.F_below (Kd.C_F (Kd.heap_int .u64) HR0.out) (by repeat (first | (with_reducible first | exact HB.out | apply below_alloc | apply pw_below_drewN | apply below_drew1) | exact HB.out)))); rintro e w35 ⟨v611, rfl, ho0, hb⟩; refine ⟨_, rfl, ?_⟩; have n0_ := Aside0.mk (Kd.V_lower (Kd.V_mono (ok' := fun k_ => True) ho0 (fun k_ hk_ => trivial)) (below_size (by repeat (first | (with_reducible first | exact HB.out | apply below_alloc | apply pw_below_drewN | apply below_drew1) | exact HB.out)))); have n1_ := Aside0.mk (below_step (by repeat (first | (with_reducible first | exact HB.out | apply below_alloc | apply pw_below_drewN | apply below_drew1) | exact HB.out)) hb); clear HB; have HO612 := n0_; have HB := n1_; clear n0_ n1_; (try clear hb); (try clear hb2); (try clear hk); (try clear hi); (try clear ho0)) | ((with_reducible refine gate_callee (f := 30) rfl ?_); refine goesL_ (some 11) rfl rfl Try.func30 (by kernel_rfl) rfl #[.slice A1 l1.length c1, .int .i64 60] rfl (by (try simp only [List.map_toArray, List.map_cons, List.map_nil]); first | done | rfl | (simp only [List.length_drop, List.length_take]; rfl)) ?_; (with_reducible refine (dendronlaw01_few.calls (fun k_ => k_ < w.heap.size) _ _ l1 60 t613 _ ?side1 A4.out).mono ?_); (case side1 => exact Kd.V_mk HC1.out (Kd.F_below (Kd.C_F (Kd.heap_int .u64) HR1.out) (by repeat (first | (with_reducible first | exact HB.out | apply below_alloc | apply pw_below_drewN | apply below_drew1) | exact HB.out)))); rintro e w36 ⟨v614, rfl, ho0, hb⟩; refine ⟨_, rfl, ?_⟩; have n0_ := Aside0.mk (Kd.V_below (by (with_reducible repeat (first | apply Kd.V_alloc | apply Kd.V_drewN | apply Kd.V_drew)); exact HO612.out) hb); have n1_ := Aside0.mk (Kd.V_lower (Kd.V_mono (ok' := fun k_ => True) ho0 (fun k_ hk_ => trivial)) (below_size (by repeat (first | (with_reducible first | exact HB.out | apply below_alloc | apply pw_below_drewN | apply below_drew1) | exact HB.out)))); have n2_ := Aside0.mk (below_step (by repeat (first | (with_reducible first | exact HB.out | apply below_alloc | apply pw_below_drewN | apply below_drew1) | exact HB.out)) hb); clear HO612; clear HB; have HO612 := n0_; have HO615 := n1_; have HB := n2_; clear n0_ n1_ n2_; (try clear hb); (try clear hb2); (try clear hk); (try clear hi); (try clear ho0); obtain ⟨Ao37, co37, eo37⟩ := Kd.V_slice HO612.out; subst eo37; obtain ⟨Ao38, co38, eo38⟩ := Kd.V_slice HO615.out; subst eo38) | ((with_reducible refine gate_callee (f := 36) rfl ?_); refine goesL_ (some 15) rfl rfl Try.func36 (by kernel_rfl) rfl #[.slice Ao37 t610.length co37, .slice Ao38 t613.length co38] rfl (by (try simp only [List.map_toArray, List.map_cons, List.map_nil]); first | done | rfl | (simp only [List.length_drop, List.length_take]; rfl)) ?_; (with_reducible refine (nat_DivMod.calls k _ _ t610 _ _ t613 t616 t617 t618 _ ?side1 ?side2 ?side3 ?side4 A5.out).mono ?_); (case side1 => repeat (first | exact (Kd.V_reads' HO612.out).2.2 | (with_reducible refine Kd.C_alloc ?_ _) | (with_reducible refine Kd.C_drewN ?_ _) | (with_reducible refine Kd.C_drew ?_))); (case side2 => exact (Kd.V_reads' HO612.out).2.1); (case side3 => repeat (first | exact (Kd.V_reads' HO615.out).2.2 | (with_reducible refine Kd.C_alloc ?_ _) | (with_reducible refine Kd.C_drewN ?_ _) | (with_reducible refine Kd.C_drew ?_))); (case side4 => exact (Kd.V_reads' HO615.out).2.1); rintro e w39 ⟨v619, v621, rfl, ho0, ho1, hb⟩; refine ⟨_, rfl, ?_⟩; have n0_ := Aside0.mk (Kd.V_mono (Kd.V_told (Kd.V_told (Kd.V_old (by (with_reducible repeat (first | apply Kd.V_alloc | apply Kd.V_drewN | apply Kd.V_drew)); exact HO612.out) hb) (Kd.R_base ho0)) (Kd.R_base ho1)) (fun _ h_ => h_.1)); have n1_ := Aside0.mk (Kd.V_mono (Kd.V_told (Kd.V_told (Kd.V_old (by (with_reducible repeat (first | apply Kd.V_alloc | apply Kd.V_drewN | apply Kd.V_drew)); exact HO615.out) hb) (Kd.R_base ho0)) (Kd.R_base ho1)) (fun _ h_ => h_.1)); have n2_ := Aside0.mk (Kd.R_lower ho0 (below_size (by repeat (first | (with_reducible first | exact HB.out | apply below_alloc | apply pw_below_drewN | apply below_drew1) | exact HB.out)))); have n3_ := Aside0.mk (Kd.R_lower ho1 (below_size (by repeat (first | (with_reducible first | exact HB.out | apply below_alloc | apply pw_below_drewN | apply below_drew1) | exact HB.out)))); have n4_ := Aside0.mk (below_step (by repeat (first | (with_reducible first | exact HB.out | apply below_alloc | apply pw_below_drewN | apply below_drew1) | exact HB.out)) hb); clear HO612; clear HO615; clear HB; have HO612 := n0_; have HO615 := n1_; have HO620 := n2_; have HO622 := n3_; have HB := n4_; clear n0_ n1_ n2_ n3_ n4_; (try clear hb); (try clear hb2); (try clear hk); (try clear hi); (try clear ho0); (try clear ho1)) | ((with_reducible refine gate_callee (f := 51) rfl ?_); refine goesL_ (some 20) rfl rfl Try.func51 (by kernel_rfl) rfl #[.slice Ao38 t613.length co38] rfl (by (try simp only [List.map_toArray, List.map_cons, List.map_nil]); first | done | rfl | (simp only [List.length_drop, List.length_take]; rfl)) ?_; (with_reducible refine (nat_Zero.calls k _ _ t613 false _ ?side1 ?side2 A6.out).mono ?_); (case side1 => repeat (first | exact (Kd.V_reads' HO615.out).2.2 | (with_reducible refine Kd.C_alloc ?_ _) | (with_reducible refine Kd.C_drewN ?_ _) | (with_reducible refine Kd.C_drew ?_))); (case side2 => exact (Kd.V_reads' HO615.out).2.1); rintro e w40 ⟨rfl, hb⟩; refine ⟨_, rfl, ?_⟩; have n0_ := Aside0.mk (Kd.V_below (by (with_reducible repeat (first | apply Kd.V_alloc | apply Kd.V_drewN | apply Kd.V_drew)); exact HO612.out) hb); have n1_ := Aside0.mk (Kd.V_below (by (with_reducible repeat (first | apply Kd.V_alloc | apply Kd.V_drewN | apply Kd.V_drew)); exact HO615.out) hb); have n2_ := Aside0.mk (Kd.R_below (by (with_reducible repeat (first | apply Kd.R_alloc | apply Kd.R_drewN | apply Kd.R_drew)); exact HO620.out) hb); have n3_ := Aside0.mk (Kd.R_below (by (with_reducible repeat (first | apply Kd.R_alloc | apply Kd.R_drewN | apply Kd.R_drew)); exact HO622.out) hb); have n4_ := Aside0.mk (below_step (by repeat (first | (with_reducible first | exact HB.out | apply below_alloc | apply pw_below_drewN | apply below_drew1) | exact HB.out)) hb); clear HO612; clear HO615; clear HO620; clear HO622; clear HB; have HO612 := n0_; have HO615 := n1_; have HO620 := n2_; have HO622 := n3_; have HB := n4_; clear n0_ n1_ n2_ n3_ n4_; (try clear hb); (try clear hb2); (try clear hk); (try clear hi); obtain ⟨Ao41, co41, eo41⟩ := Kd.R_slice HO620.out; subst eo41) | (go_at_call 47; (with_reducible refine (dendronref01_Right.calls k _ _ t616 true _ ?side1 ?side2 A24.out).mono ?_); (case side1 => repeat (first | exact (Kd.R_reads' HO620.out).2.2 | (with_reducible refine Kd.C_alloc ?_ _) | (with_reducible refine Kd.C_drewN ?_ _) | (with_reducible refine Kd.C_drew ?_))); (case side2 => exact (Kd.R_reads' HO620.out).2.1); rintro e w' ⟨rfl, ⟨nd, rfl⟩⟩; obtain ⟨Ao42, co42, eo42⟩ := Kd.R_slice HO622.out; subst eo42) | (go_at_call 47; (with_reducible refine (dendronref01_Right.calls k _ _ t617 true _ ?side1 ?side2 A26.out).mono ?_); (case side1 => repeat (first | exact (Kd.R_reads' HO622.out).2.2 | (with_reducible refine Kd.C_alloc ?_ _) | (with_reducible refine Kd.C_drewN ?_ _) | (with_reducible refine Kd.C_drew ?_))); (case side2 => exact (Kd.R_reads' HO622.out).2.1); rintro e w' ⟨rfl, ⟨nd, rfl⟩⟩) | (go_at_call 40; (with_reducible refine (nat_Cmp.calls k _ _ t617 _ _ t613 t627 _ ?side1 ?side2 ?side3 ?side4 A28.out).mono ?_); (case side1 => repeat (first | exact (Kd.R_reads' HO622.out).2.2 | (with_reducible refine Kd.C_alloc ?_ _) | (with_reducible refine Kd.C_drewN ?_ _) | (with_reducible refine Kd.C_drew ?_))); (case side2 => exact (Kd.R_reads' HO622.out).2.1); (case side3 => repeat (first | exact (Kd.V_reads' HO615.out).2.2 | (with_reducible refine Kd.C_alloc ?_ _) | (with_reducible refine Kd.C_drewN ?_ _) | (with_reducible refine Kd.C_drew ?_))); (case side4 => exact (Kd.V_reads' HO615.out).2.1); rintro e w43 ⟨rfl, hb⟩; have n0_ := Aside0.mk (Kd.V_below (by (with_reducible repeat (first | apply Kd.V_alloc | apply Kd.V_drewN | apply Kd.V_drew)); exact HO612.out) hb); have n1_ := Aside0.mk (Kd.V_below (by (with_reducible repeat (first | apply Kd.V_alloc | apply Kd.V_drewN | apply Kd.V_drew)); exact HO615.out) hb); have n2_ := Aside0.mk (Kd.R_below (by (with_reducible repeat (first | apply Kd.R_alloc | apply Kd.R_drewN | apply Kd.R_drew)); exact HO620.out) hb); have n3_ := Aside0.mk (Kd.R_below (by (with_reducible repeat (first | apply Kd.R_alloc | apply Kd.R_drewN | apply Kd.R_drew)); exact HO622.out) hb); have n4_ := Aside0.mk (below_step (by repeat (first | (with_reducible first | exact HB.out | apply below_alloc | apply pw_below_drewN | apply below_drew1) | exact HB.out)) hb); clear HO612; clear HO615; clear HO620; clear HO622; clear HB; have HO612 := n0_; have HO615 := n1_; have HO620 := n2_; have HO622 := n3_; have HB := n4_; clear n0_ n1_ n2_ n3_ n4_; (try clear hb); (try clear hb2); (try clear hk); (try clear hi)) | (go_at_call 32; (with_reducible refine (nat_Mul.calls k _ _ t616 _ _ t613 t628 _ ?side1 ?side2 ?side3 ?side4 A30.out).mono ?_); (case side1 => repeat (first | exact (Kd.R_reads' HO620.out).2.2 | (with_reducible refine Kd.C_alloc ?_ _) | (with_reducible refine Kd.C_drewN ?_ _) | (with_reducible refine Kd.C_drew ?_))); (case side2 => exact (Kd.R_reads' HO620.out).2.1); (case side3 => repeat (first | exact (Kd.V_reads' HO615.out).2.2 | (with_reducible refine Kd.C_alloc ?_ _) | (with_reducible refine Kd.C_drewN ?_ _) | (with_reducible refine Kd.C_drew ?_))); (case side4 => exact (Kd.V_reads' HO615.out).2.1); rintro e w44 ⟨v629, rfl, ho0, hb⟩; have n0_ := Aside0.mk (Kd.V_elder' (by (with_reducible repeat (first | apply Kd.V_alloc | apply Kd.V_drewN | apply Kd.V_drew)); exact HO612.out) (Kd.R_base ho0) hb); have n1_ := Aside0.mk (Kd.V_elder' (by (with_reducible repeat (first | apply Kd.V_alloc | apply Kd.V_drewN | apply Kd.V_drew)); exact HO615.out) (Kd.R_base ho0) hb); have n2_ := Aside0.mk (Kd.R_elder' (by (with_reducible repeat (first | apply Kd.R_alloc | apply Kd.R_drewN | apply Kd.R_drew)); exact HO620.out) (Kd.R_base ho0) hb); have n3_ := Aside0.mk (Kd.R_elder' (by (with_reducible repeat (first | apply Kd.R_alloc | apply Kd.R_drewN | apply Kd.R_drew)); exact HO622.out) (Kd.R_base ho0) hb); have n4_ := Aside0.mk (Kd.R_lower (Kd.R_new' (Kd.R_new' ho0 (Kd.R_lt (by (with_reducible repeat (first | apply Kd.R_alloc | apply Kd.R_drewN | apply Kd.R_drew)); exact HO620.out))) (Kd.R_lt (by (with_reducible repeat (first | apply Kd.R_alloc | apply Kd.R_drewN | apply Kd.R_drew)); exact HO622.out))) (below_size (by repeat (first | (with_reducible first | exact HB.out | apply below_alloc | apply pw_below_drewN | apply below_drew1) | exact HB.out)))); have n5_ := Aside0.mk (below_step (by repeat (first | (with_reducible first | exact HB.out | apply below_alloc | apply pw_below_drewN | apply below_drew1) | exact HB.out)) hb); clear HO612; clear HO615; clear HO620; clear HO622; clear HB; have HO612 := n0_; have HO615 := n1_; have HO620 := n2_; have HO622 := n3_; have HO630 := n4_; have HB := n5_; clear n0_ n1_ n2_ n3_ n4_ n5_; (try clear hb); (try clear hb2); (try clear hk); (try clear hi); (try clear ho0); obtain ⟨Ao45, co45, eo45⟩ := Kd.R_slice HO630.out; subst eo45) | (go_at_call 52; (with_reducible refine (nat_Add.calls k _ _ t628 _ _ t617 t631 _ ?side1 ?side2 ?side3 ?side4 A31.out).mono ?_); (case side1 => repeat (first | exact (Kd.R_reads' HO630.out).2.2 | (with_reducible refine Kd.C_alloc ?_ _) | (with_reducible refine Kd.C_drewN ?_ _) | (with_reducible refine Kd.C_drew ?_))); (case side2 => exact (Kd.R_reads' HO630.out).2.1); (case side3 => repeat (first | exact (Kd.R_reads' HO622.out).2.2 | (with_reducible refine Kd.C_alloc ?_ _) | (with_reducible refine Kd.C_drewN ?_ _) | (with_reducible refine Kd.C_drew ?_))); (case side4 => exact (Kd.R_reads' HO622.out).2.1); rintro e w46 ⟨v632, rfl, ho0, hb⟩; have n0_ := Aside0.mk (Kd.V_elder' (by (with_reducible repeat (first | apply Kd.V_alloc | apply Kd.V_drewN | apply Kd.V_drew)); exact HO612.out) (Kd.R_base ho0) hb); have n1_ := Aside0.mk (Kd.V_elder' (by (with_reducible repeat (first | apply Kd.V_alloc | apply Kd.V_drewN | apply Kd.V_drew)); exact HO615.out) (Kd.R_base ho0) hb); have n2_ := Aside0.mk (Kd.R_elder' (by (with_reducible repeat (first | apply Kd.R_alloc | apply Kd.R_drewN | apply Kd.R_drew)); exact HO620.out) (Kd.R_base ho0) hb); have n3_ := Aside0.mk (Kd.R_elder' (by (with_reducible repeat (first | apply Kd.R_alloc | apply Kd.R_drewN | apply Kd.R_drew)); exact HO622.out) (Kd.R_base ho0) hb); have n4_ := Aside0.mk (Kd.R_elder' (by (with_reducible repeat (first | apply Kd.R_alloc | apply Kd.R_drewN | apply Kd.R_drew)); exact HO630.out) (Kd.R_base ho0) hb); have n5_ := Aside0.mk (Kd.R_lower (Kd.R_new' (Kd.R_new' (Kd.R_new' ho0 (Kd.R_lt (by (with_reducible repeat (first | apply Kd.R_alloc | apply Kd.R_drewN | apply Kd.R_drew)); exact HO620.out))) (Kd.R_lt (by (with_reducible repeat (first | apply Kd.R_alloc | apply Kd.R_drewN | apply Kd.R_drew)); exact HO622.out))) (Kd.R_lt (by (with_reducible repeat (first | apply Kd.R_alloc | apply Kd.R_drewN | apply Kd.R_drew)); exact HO630.out))) (below_size (by repeat (first | (with_reducible first | exact HB.out | apply below_alloc | apply pw_below_drewN | apply below_drew1) | exact HB.out)))); have n6_ := Aside0.mk (below_step (by repeat (first | (with_reducible first | exact HB.out | apply below_alloc | apply pw_below_drewN | apply below_drew1) | exact HB.out)) hb); clear HO612; clear HO615; clear HO620; clear HO622; clear HO630; clear HB; have HO612 := n0_; have HO615 := n1_; have HO620 := n2_; have HO622 := n3_; have HO630 := n4_; have HO633 := n5_; have HB := n6_; clear n0_ n1_ n2_ n3_ n4_ n5_ n6_; (try clear hb); (try clear hb2); (try clear hk); (try clear hi); (try clear ho0); obtain ⟨Ao47, co47, eo47⟩ := Kd.R_slice HO633.out; subst eo47) | (go_at_call 40; (with_reducible refine (nat_Cmp.calls k _ _ t631 _ _ t610 t634 _ ?side1 ?side2 ?side3 ?side4 A32.out).mono ?_); (case side1 => repeat (first | exact (Kd.R_reads' HO633.out).2.2 | (with_reducible refine Kd.C_alloc ?_ _) | (with_reducible refine Kd.C_drewN ?_ _) | (with_reducible refine Kd.C_drew ?_))); (case side2 => exact (Kd.R_reads' HO633.out).2.1); (case side3 => repeat (first | exact (Kd.V_reads' HO612.out).2.2 | (with_reducible refine Kd.C_alloc ?_ _) | (with_reducible refine Kd.C_drewN ?_ _) | (with_reducible refine Kd.C_drew ?_))); (case side4 => exact (Kd.V_reads' HO612.out).2.1); rintro e w48 ⟨rfl, hb⟩; have n0_ := Aside0.mk (Kd.V_below (by (with_reducible repeat (first | apply Kd.V_alloc | apply Kd.V_drewN | apply Kd.V_drew)); exact HO612.out) hb); have n1_ := Aside0.mk (Kd.V_below (by (with_reducible repeat (first | apply Kd.V_alloc | apply Kd.V_drewN | apply Kd.V_drew)); exact HO615.out) hb); have n2_ := Aside0.mk (Kd.R_below (by (with_reducible repeat (first | apply Kd.R_alloc | apply Kd.R_drewN | apply Kd.R_drew)); exact HO620.out) hb); have n3_ := Aside0.mk (Kd.R_below (by (with_reducible repeat (first | apply Kd.R_alloc | apply Kd.R_drewN | apply Kd.R_drew)); exact HO622.out) hb); have n4_ := Aside0.mk (Kd.R_below (by (with_reducible repeat (first | apply Kd.R_alloc | apply Kd.R_drewN | apply Kd.R_drew)); exact HO630.out) hb); have n5_ := Aside0.mk (Kd.R_below (by (with_reducible repeat (first | apply Kd.R_alloc | apply Kd.R_drewN | apply Kd.R_drew)); exact HO633.out) hb); have n6_ := Aside0.mk (below_step (by repeat (first | (with_reducible first | exact HB.out | apply below_alloc | apply pw_below_drewN | apply below_drew1) | exact HB.out)) hb); clear HO612; clear HO615; clear HO620; clear HO622; clear HO630; clear HO633; clear HB; have HO612 := n0_; have HO615 := n1_; have HO620 := n2_; have HO622 := n3_; have HO630 := n4_; have HO633 := n5_; have HB := n6_; clear n0_ n1_ n2_ n3_ n4_ n5_ n6_; (try clear hb); (try clear hb2); (try clear hk); (try clear hi)) | (go_at_call 35; (with_reducible refine (dendronlaw01_awake.calls k  t635 _ A34.out).mono ?_); rintro e w49 ⟨rfl, hb⟩; have n0_ := Aside0.mk (Kd.V_below (by (with_reducible repeat (first | apply Kd.V_alloc | apply Kd.V_drewN | apply Kd.V_drew)); exact HO612.out) hb); have n1_ := Aside0.mk (Kd.V_below (by (with_reducible repeat (first | apply Kd.V_alloc | apply Kd.V_drewN | apply Kd.V_drew)); exact HO615.out) hb); have n2_ := Aside0.mk (Kd.R_below (by (with_reducible repeat (first | apply Kd.R_alloc | apply Kd.R_drewN | apply Kd.R_drew)); exact HO620.out) hb); have n3_ := Aside0.mk (Kd.R_below (by (with_reducible repeat (first | apply Kd.R_alloc | apply Kd.R_drewN | apply Kd.R_drew)); exact HO622.out) hb); have n4_ := Aside0.mk (Kd.R_below (by (with_reducible repeat (first | apply Kd.R_alloc | apply Kd.R_drewN | apply Kd.R_drew)); exact HO630.out) hb); have n5_ := Aside0.mk (Kd.R_below (by (with_reducible repeat (first | apply Kd.R_alloc | apply Kd.R_drewN | apply Kd.R_drew)); exact HO633.out) hb); have n6_ := Aside0.mk (below_step (by repeat (first | (with_reducible first | exact HB.out | apply below_alloc | apply pw_below_drewN | apply below_drew1) | exact HB.out)) hb); clear HO612; clear HO615; clear HO620; clear HO622; clear HO630; clear HO633; clear HB; have HO612 := n0_; have HO615 := n1_; have HO620 := n2_; have HO622 := n3_; have HO630 := n4_; have HO633 := n5_; have HB := n6_; clear n0_ n1_ n2_ n3_ n4_ n5_ n6_; (try clear hb); (try clear hb2); (try clear hk); (try clear hi)))
              go_ret
              exact ⟨by first | rfl | (simp [errW_none, errW_some] <;> rfl) | (simp [*, errW_none, errW_some] <;> rfl), by repeat (first | (with_reducible first | exact HB.out | apply below_alloc | apply pw_below_drewN | apply below_drew1) | exact HB.out)⟩
            · rw [if_neg c33] at H
              have c33b0 : (t634 == 0) = false := beq_eq_false_iff_ne.mpr c33
              have c33b1 : (t634 != 0) = true := bne_iff_ne.mpr c33
              obtain rfl := Option.some.inj H
              go_enter Try.func14, Try.ntmps14
              go_wp2_with (first | ((with_reducible refine gate_callee (f := 30) rfl ?_); refine goesL_ (some 9) rfl rfl Try.func30 (by kernel_rfl) rfl #[.slice A0 l0.length c0, .int .i64 60] rfl (by (try simp only [List.map_toArray, List.map_cons, List.map_nil]); first | done | rfl | (simp only [List.length_drop, List.length_take]; rfl)) ?_; (with_reducible refine (dendronlaw01_few.calls (fun k_ => k_ < w.heap.size) _ _ l0 60 t610 _ ?side1 A3.out).mono ?_); (case side1 => exact Kd.V_mk HC0.out (Kd.F_below (Kd.C_F (Kd.heap_int .u64) HR0.out) (by repeat (first | (with_reducible first | exact HB.out | apply below_alloc | apply pw_below_drewN | apply below_drew1) | exact HB.out)))); rintro e w50 ⟨v611, rfl, ho0, hb⟩; refine ⟨_, rfl, ?_⟩; have n0_ := Aside0.mk (Kd.V_lower (Kd.V_mono (ok' := fun k_ => True) ho0 (fun k_ hk_ => trivial)) (below_size (by repeat (first | (with_reducible first | exact HB.out | apply below_alloc | apply pw_below_drewN | apply below_drew1) | exact HB.out)))); have n1_ := Aside0.mk (below_step (by repeat (first | (with_reducible first | exact HB.out | apply below_alloc | apply pw_below_drewN | apply below_drew1) | exact HB.out)) hb); clear HB; have HO612 := n0_; have HB := n1_; clear n0_ n1_; (try clear hb); (try clear hb2); (try clear hk); (try clear hi); (try clear ho0)) | ((with_reducible refine gate_callee (f := 30) rfl ?_); refine goesL_ (some 11) rfl rfl Try.func30 (by kernel_rfl) rfl #[.slice A1 l1.length c1, .int .i64 60] rfl (by (try simp only [List.map_toArray, List.map_cons, List.map_nil]); first | done | rfl | (simp only [List.length_drop, List.length_take]; rfl)) ?_; (with_reducible refine (dendronlaw01_few.calls (fun k_ => k_ < w.heap.size) _ _ l1 60 t613 _ ?side1 A4.out).mono ?_); (case side1 => exact Kd.V_mk HC1.out (Kd.F_below (Kd.C_F (Kd.heap_int .u64) HR1.out) (by repeat (first | (with_reducible first | exact HB.out | apply below_alloc | apply pw_below_drewN | apply below_drew1) | exact HB.out)))); rintro e w51 ⟨v614, rfl, ho0, hb⟩; refine ⟨_, rfl, ?_⟩; have n0_ := Aside0.mk (Kd.V_below (by (with_reducible repeat (first | apply Kd.V_alloc | apply Kd.V_drewN | apply Kd.V_drew)); exact HO612.out) hb); have n1_ := Aside0.mk (Kd.V_lower (Kd.V_mono (ok' := fun k_ => True) ho0 (fun k_ hk_ => trivial)) (below_size (by repeat (first | (with_reducible first | exact HB.out | apply below_alloc | apply pw_below_drewN | apply below_drew1) | exact HB.out)))); have n2_ := Aside0.mk (below_step (by repeat (first | (with_reducible first | exact HB.out | apply below_alloc | apply pw_below_drewN | apply below_drew1) | exact HB.out)) hb); clear HO612; clear HB; have HO612 := n0_; have HO615 := n1_; have HB := n2_; clear n0_ n1_ n2_; (try clear hb); (try clear hb2); (try clear hk); (try clear hi); (try clear ho0); obtain ⟨Ao52, co52, eo52⟩ := Kd.V_slice HO612.out; subst eo52; obtain ⟨Ao53, co53, eo53⟩ := Kd.V_slice HO615.out; subst eo53) | ((with_reducible refine gate_callee (f := 36) rfl ?_); refine goesL_ (some 15) rfl rfl Try.func36 (by kernel_rfl) rfl #[.slice Ao52 t610.length co52, .slice Ao53 t613.length co53] rfl (by (try simp only [List.map_toArray, List.map_cons, List.map_nil]); first | done | rfl | (simp only [List.length_drop, List.length_take]; rfl)) ?_; (with_reducible refine (nat_DivMod.calls k _ _ t610 _ _ t613 t616 t617 t618 _ ?side1 ?side2 ?side3 ?side4 A5.out).mono ?_); (case side1 => repeat (first | exact (Kd.V_reads' HO612.out).2.2 | (with_reducible refine Kd.C_alloc ?_ _) | (with_reducible refine Kd.C_drewN ?_ _) | (with_reducible refine Kd.C_drew ?_))); (case side2 => exact (Kd.V_reads' HO612.out).2.1); (case side3 => repeat (first | exact (Kd.V_reads' HO615.out).2.2 | (with_reducible refine Kd.C_alloc ?_ _) | (with_reducible refine Kd.C_drewN ?_ _) | (with_reducible refine Kd.C_drew ?_))); (case side4 => exact (Kd.V_reads' HO615.out).2.1); rintro e w54 ⟨v619, v621, rfl, ho0, ho1, hb⟩; refine ⟨_, rfl, ?_⟩; have n0_ := Aside0.mk (Kd.V_mono (Kd.V_told (Kd.V_told (Kd.V_old (by (with_reducible repeat (first | apply Kd.V_alloc | apply Kd.V_drewN | apply Kd.V_drew)); exact HO612.out) hb) (Kd.R_base ho0)) (Kd.R_base ho1)) (fun _ h_ => h_.1)); have n1_ := Aside0.mk (Kd.V_mono (Kd.V_told (Kd.V_told (Kd.V_old (by (with_reducible repeat (first | apply Kd.V_alloc | apply Kd.V_drewN | apply Kd.V_drew)); exact HO615.out) hb) (Kd.R_base ho0)) (Kd.R_base ho1)) (fun _ h_ => h_.1)); have n2_ := Aside0.mk (Kd.R_lower ho0 (below_size (by repeat (first | (with_reducible first | exact HB.out | apply below_alloc | apply pw_below_drewN | apply below_drew1) | exact HB.out)))); have n3_ := Aside0.mk (Kd.R_lower ho1 (below_size (by repeat (first | (with_reducible first | exact HB.out | apply below_alloc | apply pw_below_drewN | apply below_drew1) | exact HB.out)))); have n4_ := Aside0.mk (below_step (by repeat (first | (with_reducible first | exact HB.out | apply below_alloc | apply pw_below_drewN | apply below_drew1) | exact HB.out)) hb); clear HO612; clear HO615; clear HB; have HO612 := n0_; have HO615 := n1_; have HO620 := n2_; have HO622 := n3_; have HB := n4_; clear n0_ n1_ n2_ n3_ n4_; (try clear hb); (try clear hb2); (try clear hk); (try clear hi); (try clear ho0); (try clear ho1)) | ((with_reducible refine gate_callee (f := 51) rfl ?_); refine goesL_ (some 20) rfl rfl Try.func51 (by kernel_rfl) rfl #[.slice Ao53 t613.length co53] rfl (by (try simp only [List.map_toArray, List.map_cons, List.map_nil]); first | done | rfl | (simp only [List.length_drop, List.length_take]; rfl)) ?_; (with_reducible refine (nat_Zero.calls k _ _ t613 false _ ?side1 ?side2 A6.out).mono ?_); (case side1 => repeat (first | exact (Kd.V_reads' HO615.out).2.2 | (with_reducible refine Kd.C_alloc ?_ _) | (with_reducible refine Kd.C_drewN ?_ _) | (with_reducible refine Kd.C_drew ?_))); (case side2 => exact (Kd.V_reads' HO615.out).2.1); rintro e w55 ⟨rfl, hb⟩; refine ⟨_, rfl, ?_⟩; have n0_ := Aside0.mk (Kd.V_below (by (with_reducible repeat (first | apply Kd.V_alloc | apply Kd.V_drewN | apply Kd.V_drew)); exact HO612.out) hb); have n1_ := Aside0.mk (Kd.V_below (by (with_reducible repeat (first | apply Kd.V_alloc | apply Kd.V_drewN | apply Kd.V_drew)); exact HO615.out) hb); have n2_ := Aside0.mk (Kd.R_below (by (with_reducible repeat (first | apply Kd.R_alloc | apply Kd.R_drewN | apply Kd.R_drew)); exact HO620.out) hb); have n3_ := Aside0.mk (Kd.R_below (by (with_reducible repeat (first | apply Kd.R_alloc | apply Kd.R_drewN | apply Kd.R_drew)); exact HO622.out) hb); have n4_ := Aside0.mk (below_step (by repeat (first | (with_reducible first | exact HB.out | apply below_alloc | apply pw_below_drewN | apply below_drew1) | exact HB.out)) hb); clear HO612; clear HO615; clear HO620; clear HO622; clear HB; have HO612 := n0_; have HO615 := n1_; have HO620 := n2_; have HO622 := n3_; have HB := n4_; clear n0_ n1_ n2_ n3_ n4_; (try clear hb); (try clear hb2); (try clear hk); (try clear hi); obtain ⟨Ao56, co56, eo56⟩ := Kd.R_slice HO620.out; subst eo56) | (go_at_call 47; (with_reducible refine (dendronref01_Right.calls k _ _ t616 true _ ?side1 ?side2 A24.out).mono ?_); (case side1 => repeat (first | exact (Kd.R_reads' HO620.out).2.2 | (with_reducible refine Kd.C_alloc ?_ _) | (with_reducible refine Kd.C_drewN ?_ _) | (with_reducible refine Kd.C_drew ?_))); (case side2 => exact (Kd.R_reads' HO620.out).2.1); rintro e w' ⟨rfl, ⟨nd, rfl⟩⟩; obtain ⟨Ao57, co57, eo57⟩ := Kd.R_slice HO622.out; subst eo57) | (go_at_call 47; (with_reducible refine (dendronref01_Right.calls k _ _ t617 true _ ?side1 ?side2 A26.out).mono ?_); (case side1 => repeat (first | exact (Kd.R_reads' HO622.out).2.2 | (with_reducible refine Kd.C_alloc ?_ _) | (with_reducible refine Kd.C_drewN ?_ _) | (with_reducible refine Kd.C_drew ?_))); (case side2 => exact (Kd.R_reads' HO622.out).2.1); rintro e w' ⟨rfl, ⟨nd, rfl⟩⟩) | (go_at_call 40; (with_reducible refine (nat_Cmp.calls k _ _ t617 _ _ t613 t627 _ ?side1 ?side2 ?side3 ?side4 A28.out).mono ?_); (case side1 => repeat (first | exact (Kd.R_reads' HO622.out).2.2 | (with_reducible refine Kd.C_alloc ?_ _) | (with_reducible refine Kd.C_drewN ?_ _) | (with_reducible refine Kd.C_drew ?_))); (case side2 => exact (Kd.R_reads' HO622.out).2.1); (case side3 => repeat (first | exact (Kd.V_reads' HO615.out).2.2 | (with_reducible refine Kd.C_alloc ?_ _) | (with_reducible refine Kd.C_drewN ?_ _) | (with_reducible refine Kd.C_drew ?_))); (case side4 => exact (Kd.V_reads' HO615.out).2.1); rintro e w58 ⟨rfl, hb⟩; have n0_ := Aside0.mk (Kd.V_below (by (with_reducible repeat (first | apply Kd.V_alloc | apply Kd.V_drewN | apply Kd.V_drew)); exact HO612.out) hb); have n1_ := Aside0.mk (Kd.V_below (by (with_reducible repeat (first | apply Kd.V_alloc | apply Kd.V_drewN | apply Kd.V_drew)); exact HO615.out) hb); have n2_ := Aside0.mk (Kd.R_below (by (with_reducible repeat (first | apply Kd.R_alloc | apply Kd.R_drewN | apply Kd.R_drew)); exact HO620.out) hb); have n3_ := Aside0.mk (Kd.R_below (by (with_reducible repeat (first | apply Kd.R_alloc | apply Kd.R_drewN | apply Kd.R_drew)); exact HO622.out) hb); have n4_ := Aside0.mk (below_step (by repeat (first | (with_reducible first | exact HB.out | apply below_alloc | apply pw_below_drewN | apply below_drew1) | exact HB.out)) hb); clear HO612; clear HO615; clear HO620; clear HO622; clear HB; have HO612 := n0_; have HO615 := n1_; have HO620 := n2_; have HO622 := n3_; have HB := n4_; clear n0_ n1_ n2_ n3_ n4_; (try clear hb); (try clear hb2); (try clear hk); (try clear hi)) | (go_at_call 32; (with_reducible refine (nat_Mul.calls k _ _ t616 _ _ t613 t628 _ ?side1 ?side2 ?side3 ?side4 A30.out).mono ?_); (case side1 => repeat (first | exact (Kd.R_reads' HO620.out).2.2 | (with_reducible refine Kd.C_alloc ?_ _) | (with_reducible refine Kd.C_drewN ?_ _) | (with_reducible refine Kd.C_drew ?_))); (case side2 => exact (Kd.R_reads' HO620.out).2.1); (case side3 => repeat (first | exact (Kd.V_reads' HO615.out).2.2 | (with_reducible refine Kd.C_alloc ?_ _) | (with_reducible refine Kd.C_drewN ?_ _) | (with_reducible refine Kd.C_drew ?_))); (case side4 => exact (Kd.V_reads' HO615.out).2.1); rintro e w59 ⟨v629, rfl, ho0, hb⟩; have n0_ := Aside0.mk (Kd.V_elder' (by (with_reducible repeat (first | apply Kd.V_alloc | apply Kd.V_drewN | apply Kd.V_drew)); exact HO612.out) (Kd.R_base ho0) hb); have n1_ := Aside0.mk (Kd.V_elder' (by (with_reducible repeat (first | apply Kd.V_alloc | apply Kd.V_drewN | apply Kd.V_drew)); exact HO615.out) (Kd.R_base ho0) hb); have n2_ := Aside0.mk (Kd.R_elder' (by (with_reducible repeat (first | apply Kd.R_alloc | apply Kd.R_drewN | apply Kd.R_drew)); exact HO620.out) (Kd.R_base ho0) hb); have n3_ := Aside0.mk (Kd.R_elder' (by (with_reducible repeat (first | apply Kd.R_alloc | apply Kd.R_drewN | apply Kd.R_drew)); exact HO622.out) (Kd.R_base ho0) hb); have n4_ := Aside0.mk (Kd.R_lower (Kd.R_new' (Kd.R_new' ho0 (Kd.R_lt (by (with_reducible repeat (first | apply Kd.R_alloc | apply Kd.R_drewN | apply Kd.R_drew)); exact HO620.out))) (Kd.R_lt (by (with_reducible repeat (first | apply Kd.R_alloc | apply Kd.R_drewN | apply Kd.R_drew)); exact HO622.out))) (below_size (by repeat (first | (with_reducible first | exact HB.out | apply below_alloc | apply pw_below_drewN | apply below_drew1) | exact HB.out)))); have n5_ := Aside0.mk (below_step (by repeat (first | (with_reducible first | exact HB.out | apply below_alloc | apply pw_below_drewN | apply below_drew1) | exact HB.out)) hb); clear HO612; clear HO615; clear HO620; clear HO622; clear HB; have HO612 := n0_; have HO615 := n1_; have HO620 := n2_; have HO622 := n3_; have HO630 := n4_; have HB := n5_; clear n0_ n1_ n2_ n3_ n4_ n5_; (try clear hb); (try clear hb2); (try clear hk); (try clear hi); (try clear ho0); obtain ⟨Ao60, co60, eo60⟩ := Kd.R_slice HO630.out; subst eo60) | (go_at_call 52; (with_reducible refine (nat_Add.calls k _ _ t628 _ _ t617 t631 _ ?side1 ?side2 ?side3 ?side4 A31.out).mono ?_); (case side1 => repeat (first | exact (Kd.R_reads' HO630.out).2.2 | (with_reducible refine Kd.C_alloc ?_ _) | (with_reducible refine Kd.C_drewN ?_ _) | (with_reducible refine Kd.C_drew ?_))); (case side2 => exact (Kd.R_reads' HO630.out).2.1); (case side3 => repeat (first | exact (Kd.R_reads' HO622.out).2.2 | (with_reducible refine Kd.C_alloc ?_ _) | (with_reducible refine Kd.C_drewN ?_ _) | (with_reducible refine Kd.C_drew ?_))); (case side4 => exact (Kd.R_reads' HO622.out).2.1); rintro e w61 ⟨v632, rfl, ho0, hb⟩; have n0_ := Aside0.mk (Kd.V_elder' (by (with_reducible repeat (first | apply Kd.V_alloc | apply Kd.V_drewN | apply Kd.V_drew)); exact HO612.out) (Kd.R_base ho0) hb); have n1_ := Aside0.mk (Kd.V_elder' (by (with_reducible repeat (first | apply Kd.V_alloc | apply Kd.V_drewN | apply Kd.V_drew)); exact HO615.out) (Kd.R_base ho0) hb); have n2_ := Aside0.mk (Kd.R_elder' (by (with_reducible repeat (first | apply Kd.R_alloc | apply Kd.R_drewN | apply Kd.R_drew)); exact HO620.out) (Kd.R_base ho0) hb); have n3_ := Aside0.mk (Kd.R_elder' (by (with_reducible repeat (first | apply Kd.R_alloc | apply Kd.R_drewN | apply Kd.R_drew)); exact HO622.out) (Kd.R_base ho0) hb); have n4_ := Aside0.mk (Kd.R_elder' (by (with_reducible repeat (first | apply Kd.R_alloc | apply Kd.R_drewN | apply Kd.R_drew)); exact HO630.out) (Kd.R_base ho0) hb); have n5_ := Aside0.mk (Kd.R_lower (Kd.R_new' (Kd.R_new' (Kd.R_new' ho0 (Kd.R_lt (by (with_reducible repeat (first | apply Kd.R_alloc | apply Kd.R_drewN | apply Kd.R_drew)); exact HO620.out))) (Kd.R_lt (by (with_reducible repeat (first | apply Kd.R_alloc | apply Kd.R_drewN | apply Kd.R_drew)); exact HO622.out))) (Kd.R_lt (by (with_reducible repeat (first | apply Kd.R_alloc | apply Kd.R_drewN | apply Kd.R_drew)); exact HO630.out))) (below_size (by repeat (first | (with_reducible first | exact HB.out | apply below_alloc | apply pw_below_drewN | apply below_drew1) | exact HB.out)))); have n6_ := Aside0.mk (below_step (by repeat (first | (with_reducible first | exact HB.out | apply below_alloc | apply pw_below_drewN | apply below_drew1) | exact HB.out)) hb); clear HO612; clear HO615; clear HO620; clear HO622; clear HO630; clear HB; have HO612 := n0_; have HO615 := n1_; have HO620 := n2_; have HO622 := n3_; have HO630 := n4_; have HO633 := n5_; have HB := n6_; clear n0_ n1_ n2_ n3_ n4_ n5_ n6_; (try clear hb); (try clear hb2); (try clear hk); (try clear hi); (try clear ho0); obtain ⟨Ao62, co62, eo62⟩ := Kd.R_slice HO633.out; subst eo62) | (go_at_call 40; (with_reducible refine (nat_Cmp.calls k _ _ t631 _ _ t610 t634 _ ?side1 ?side2 ?side3 ?side4 A32.out).mono ?_); (case side1 => repeat (first | exact (Kd.R_reads' HO633.out).2.2 | (with_reducible refine Kd.C_alloc ?_ _) | (with_reducible refine Kd.C_drewN ?_ _) | (with_reducible refine Kd.C_drew ?_))); (case side2 => exact (Kd.R_reads' HO633.out).2.1); (case side3 => repeat (first | exact (Kd.V_reads' HO612.out).2.2 | (with_reducible refine Kd.C_alloc ?_ _) | (with_reducible refine Kd.C_drewN ?_ _) | (with_reducible refine Kd.C_drew ?_))); (case side4 => exact (Kd.V_reads' HO612.out).2.1); rintro e w63 ⟨rfl, hb⟩; have n0_ := Aside0.mk (Kd.V_below (by (with_reducible repeat (first | apply Kd.V_alloc | apply Kd.V_drewN | apply Kd.V_drew)); exact HO612.out) hb); have n1_ := Aside0.mk (Kd.V_below (by (with_reducible repeat (first | apply Kd.V_alloc | apply Kd.V_drewN | apply Kd.V_drew)); exact HO615.out) hb); have n2_ := Aside0.mk (Kd.R_below (by (with_reducible repeat (first | apply Kd.R_alloc | apply Kd.R_drewN | apply Kd.R_drew)); exact HO620.out) hb); have n3_ := Aside0.mk (Kd.R_below (by (with_reducible repeat (first | apply Kd.R_alloc | apply Kd.R_drewN | apply Kd.R_drew)); exact HO622.out) hb); have n4_ := Aside0.mk (Kd.R_below (by (with_reducible repeat (first | apply Kd.R_alloc | apply Kd.R_drewN | apply Kd.R_drew)); exact HO630.out) hb); have n5_ := Aside0.mk (Kd.R_below (by (with_reducible repeat (first | apply Kd.R_alloc | apply Kd.R_drewN | apply Kd.R_drew)); exact HO633.out) hb); have n6_ := Aside0.mk (below_step (by repeat (first | (with_reducible first | exact HB.out | apply below_alloc | apply pw_below_drewN | apply below_drew1) | exact HB.out)) hb); clear HO612; clear HO615; clear HO620; clear HO622; clear HO630; clear HO633; clear HB; have HO612 := n0_; have HO615 := n1_; have HO620 := n2_; have HO622 := n3_; have HO630 := n4_; have HO633 := n5_; have HB := n6_; clear n0_ n1_ n2_ n3_ n4_ n5_ n6_; (try clear hb); (try clear hb2); (try clear hk); (try clear hi)))
              go_ret
              exact ⟨by first | rfl | (simp [errW_none, errW_some] <;> rfl) | (simp [*, errW_none, errW_some] <;> rfl), by repeat (first | (with_reducible first | exact HB.out | apply below_alloc | apply pw_below_drewN | apply below_drew1) | exact HB.out)⟩
          · rw [if_neg c29] at H
            have c29b0 : decide (t627 < 0) = false := decide_eq_false c29
            clear c29
            obtain rfl := Option.some.inj H
            go_enter Try.func14, Try.ntmps14
            go_wp2_with (first | ((with_reducible refine gate_callee (f := 30) rfl ?_); refine goesL_ (some 9) rfl rfl Try.func30 (by kernel_rfl) rfl #[.slice A0 l0.length c0, .int .i64 60] rfl (by (try simp only [List.map_toArray, List.map_cons, List.map_nil]); first | done | rfl | (simp only [List.length_drop, List.length_take]; rfl)) ?_; (with_reducible refine (dendronlaw01_few.calls (fun k_ => k_ < w.heap.size) _ _ l0 60 t610 _ ?side1 A3.out).mono ?_); (case side1 => exact Kd.V_mk HC0.out (Kd.F_below (Kd.C_F (Kd.heap_int .u64) HR0.out) (by repeat (first | (with_reducible first | exact HB.out | apply below_alloc | apply pw_below_drewN | apply below_drew1) | exact HB.out)))); rintro e w64 ⟨v611, rfl, ho0, hb⟩; refine ⟨_, rfl, ?_⟩; have n0_ := Aside0.mk (Kd.V_lower (Kd.V_mono (ok' := fun k_ => True) ho0 (fun k_ hk_ => trivial)) (below_size (by repeat (first | (with_reducible first | exact HB.out | apply below_alloc | apply pw_below_drewN | apply below_drew1) | exact HB.out)))); have n1_ := Aside0.mk (below_step (by repeat (first | (with_reducible first | exact HB.out | apply below_alloc | apply pw_below_drewN | apply below_drew1) | exact HB.out)) hb); clear HB; have HO612 := n0_; have HB := n1_; clear n0_ n1_; (try clear hb); (try clear hb2); (try clear hk); (try clear hi); (try clear ho0)) | ((with_reducible refine gate_callee (f := 30) rfl ?_); refine goesL_ (some 11) rfl rfl Try.func30 (by kernel_rfl) rfl #[.slice A1 l1.length c1, .int .i64 60] rfl (by (try simp only [List.map_toArray, List.map_cons, List.map_nil]); first | done | rfl | (simp only [List.length_drop, List.length_take]; rfl)) ?_; (with_reducible refine (dendronlaw01_few.calls (fun k_ => k_ < w.heap.size) _ _ l1 60 t613 _ ?side1 A4.out).mono ?_); (case side1 => exact Kd.V_mk HC1.out (Kd.F_below (Kd.C_F (Kd.heap_int .u64) HR1.out) (by repeat (first | (with_reducible first | exact HB.out | apply below_alloc | apply pw_below_drewN | apply below_drew1) | exact HB.out)))); rintro e w65 ⟨v614, rfl, ho0, hb⟩; refine ⟨_, rfl, ?_⟩; have n0_ := Aside0.mk (Kd.V_below (by (with_reducible repeat (first | apply Kd.V_alloc | apply Kd.V_drewN | apply Kd.V_drew)); exact HO612.out) hb); have n1_ := Aside0.mk (Kd.V_lower (Kd.V_mono (ok' := fun k_ => True) ho0 (fun k_ hk_ => trivial)) (below_size (by repeat (first | (with_reducible first | exact HB.out | apply below_alloc | apply pw_below_drewN | apply below_drew1) | exact HB.out)))); have n2_ := Aside0.mk (below_step (by repeat (first | (with_reducible first | exact HB.out | apply below_alloc | apply pw_below_drewN | apply below_drew1) | exact HB.out)) hb); clear HO612; clear HB; have HO612 := n0_; have HO615 := n1_; have HB := n2_; clear n0_ n1_ n2_; (try clear hb); (try clear hb2); (try clear hk); (try clear hi); (try clear ho0); obtain ⟨Ao66, co66, eo66⟩ := Kd.V_slice HO612.out; subst eo66; obtain ⟨Ao67, co67, eo67⟩ := Kd.V_slice HO615.out; subst eo67) | ((with_reducible refine gate_callee (f := 36) rfl ?_); refine goesL_ (some 15) rfl rfl Try.func36 (by kernel_rfl) rfl #[.slice Ao66 t610.length co66, .slice Ao67 t613.length co67] rfl (by (try simp only [List.map_toArray, List.map_cons, List.map_nil]); first | done | rfl | (simp only [List.length_drop, List.length_take]; rfl)) ?_; (with_reducible refine (nat_DivMod.calls k _ _ t610 _ _ t613 t616 t617 t618 _ ?side1 ?side2 ?side3 ?side4 A5.out).mono ?_); (case side1 => repeat (first | exact (Kd.V_reads' HO612.out).2.2 | (with_reducible refine Kd.C_alloc ?_ _) | (with_reducible refine Kd.C_drewN ?_ _) | (with_reducible refine Kd.C_drew ?_))); (case side2 => exact (Kd.V_reads' HO612.out).2.1); (case side3 => repeat (first | exact (Kd.V_reads' HO615.out).2.2 | (with_reducible refine Kd.C_alloc ?_ _) | (with_reducible refine Kd.C_drewN ?_ _) | (with_reducible refine Kd.C_drew ?_))); (case side4 => exact (Kd.V_reads' HO615.out).2.1); rintro e w68 ⟨v619, v621, rfl, ho0, ho1, hb⟩; refine ⟨_, rfl, ?_⟩; have n0_ := Aside0.mk (Kd.V_mono (Kd.V_told (Kd.V_told (Kd.V_old (by (with_reducible repeat (first | apply Kd.V_alloc | apply Kd.V_drewN | apply Kd.V_drew)); exact HO612.out) hb) (Kd.R_base ho0)) (Kd.R_base ho1)) (fun _ h_ => h_.1)); have n1_ := Aside0.mk (Kd.V_mono (Kd.V_told (Kd.V_told (Kd.V_old (by (with_reducible repeat (first | apply Kd.V_alloc | apply Kd.V_drewN | apply Kd.V_drew)); exact HO615.out) hb) (Kd.R_base ho0)) (Kd.R_base ho1)) (fun _ h_ => h_.1)); have n2_ := Aside0.mk (Kd.R_lower ho0 (below_size (by repeat (first | (with_reducible first | exact HB.out | apply below_alloc | apply pw_below_drewN | apply below_drew1) | exact HB.out)))); have n3_ := Aside0.mk (Kd.R_lower ho1 (below_size (by repeat (first | (with_reducible first | exact HB.out | apply below_alloc | apply pw_below_drewN | apply below_drew1) | exact HB.out)))); have n4_ := Aside0.mk (below_step (by repeat (first | (with_reducible first | exact HB.out | apply below_alloc | apply pw_below_drewN | apply below_drew1) | exact HB.out)) hb); clear HO612; clear HO615; clear HB; have HO612 := n0_; have HO615 := n1_; have HO620 := n2_; have HO622 := n3_; have HB := n4_; clear n0_ n1_ n2_ n3_ n4_; (try clear hb); (try clear hb2); (try clear hk); (try clear hi); (try clear ho0); (try clear ho1)) | ((with_reducible refine gate_callee (f := 51) rfl ?_); refine goesL_ (some 20) rfl rfl Try.func51 (by kernel_rfl) rfl #[.slice Ao67 t613.length co67] rfl (by (try simp only [List.map_toArray, List.map_cons, List.map_nil]); first | done | rfl | (simp only [List.length_drop, List.length_take]; rfl)) ?_; (with_reducible refine (nat_Zero.calls k _ _ t613 false _ ?side1 ?side2 A6.out).mono ?_); (case side1 => repeat (first | exact (Kd.V_reads' HO615.out).2.2 | (with_reducible refine Kd.C_alloc ?_ _) | (with_reducible refine Kd.C_drewN ?_ _) | (with_reducible refine Kd.C_drew ?_))); (case side2 => exact (Kd.V_reads' HO615.out).2.1); rintro e w69 ⟨rfl, hb⟩; refine ⟨_, rfl, ?_⟩; have n0_ := Aside0.mk (Kd.V_below (by (with_reducible repeat (first | apply Kd.V_alloc | apply Kd.V_drewN | apply Kd.V_drew)); exact HO612.out) hb); have n1_ := Aside0.mk (Kd.V_below (by (with_reducible repeat (first | apply Kd.V_alloc | apply Kd.V_drewN | apply Kd.V_drew)); exact HO615.out) hb); have n2_ := Aside0.mk (Kd.R_below (by (with_reducible repeat (first | apply Kd.R_alloc | apply Kd.R_drewN | apply Kd.R_drew)); exact HO620.out) hb); have n3_ := Aside0.mk (Kd.R_below (by (with_reducible repeat (first | apply Kd.R_alloc | apply Kd.R_drewN | apply Kd.R_drew)); exact HO622.out) hb); have n4_ := Aside0.mk (below_step (by repeat (first | (with_reducible first | exact HB.out | apply below_alloc | apply pw_below_drewN | apply below_drew1) | exact HB.out)) hb); clear HO612; clear HO615; clear HO620; clear HO622; clear HB; have HO612 := n0_; have HO615 := n1_; have HO620 := n2_; have HO622 := n3_; have HB := n4_; clear n0_ n1_ n2_ n3_ n4_; (try clear hb); (try clear hb2); (try clear hk); (try clear hi); obtain ⟨Ao70, co70, eo70⟩ := Kd.R_slice HO620.out; subst eo70) | (go_at_call 47; (with_reducible refine (dendronref01_Right.calls k _ _ t616 true _ ?side1 ?side2 A24.out).mono ?_); (case side1 => repeat (first | exact (Kd.R_reads' HO620.out).2.2 | (with_reducible refine Kd.C_alloc ?_ _) | (with_reducible refine Kd.C_drewN ?_ _) | (with_reducible refine Kd.C_drew ?_))); (case side2 => exact (Kd.R_reads' HO620.out).2.1); rintro e w' ⟨rfl, ⟨nd, rfl⟩⟩; obtain ⟨Ao71, co71, eo71⟩ := Kd.R_slice HO622.out; subst eo71) | (go_at_call 47; (with_reducible refine (dendronref01_Right.calls k _ _ t617 true _ ?side1 ?side2 A26.out).mono ?_); (case side1 => repeat (first | exact (Kd.R_reads' HO622.out).2.2 | (with_reducible refine Kd.C_alloc ?_ _) | (with_reducible refine Kd.C_drewN ?_ _) | (with_reducible refine Kd.C_drew ?_))); (case side2 => exact (Kd.R_reads' HO622.out).2.1); rintro e w' ⟨rfl, ⟨nd, rfl⟩⟩) | (go_at_call 40; (with_reducible refine (nat_Cmp.calls k _ _ t617 _ _ t613 t627 _ ?side1 ?side2 ?side3 ?side4 A28.out).mono ?_); (case side1 => repeat (first | exact (Kd.R_reads' HO622.out).2.2 | (with_reducible refine Kd.C_alloc ?_ _) | (with_reducible refine Kd.C_drewN ?_ _) | (with_reducible refine Kd.C_drew ?_))); (case side2 => exact (Kd.R_reads' HO622.out).2.1); (case side3 => repeat (first | exact (Kd.V_reads' HO615.out).2.2 | (with_reducible refine Kd.C_alloc ?_ _) | (with_reducible refine Kd.C_drewN ?_ _) | (with_reducible refine Kd.C_drew ?_))); (case side4 => exact (Kd.V_reads' HO615.out).2.1); rintro e w72 ⟨rfl, hb⟩; have n0_ := Aside0.mk (Kd.V_below (by (with_reducible repeat (first | apply Kd.V_alloc | apply Kd.V_drewN | apply Kd.V_drew)); exact HO612.out) hb); have n1_ := Aside0.mk (Kd.V_below (by (with_reducible repeat (first | apply Kd.V_alloc | apply Kd.V_drewN | apply Kd.V_drew)); exact HO615.out) hb); have n2_ := Aside0.mk (Kd.R_below (by (with_reducible repeat (first | apply Kd.R_alloc | apply Kd.R_drewN | apply Kd.R_drew)); exact HO620.out) hb); have n3_ := Aside0.mk (Kd.R_below (by (with_reducible repeat (first | apply Kd.R_alloc | apply Kd.R_drewN | apply Kd.R_drew)); exact HO622.out) hb); have n4_ := Aside0.mk (below_step (by repeat (first | (with_reducible first | exact HB.out | apply below_alloc | apply pw_below_drewN | apply below_drew1) | exact HB.out)) hb); clear HO612; clear HO615; clear HO620; clear HO622; clear HB; have HO612 := n0_; have HO615 := n1_; have HO620 := n2_; have HO622 := n3_; have HB := n4_; clear n0_ n1_ n2_ n3_ n4_; (try clear hb); (try clear hb2); (try clear hk); (try clear hi)))
            go_ret
            exact ⟨by first | rfl | (simp [errW_none, errW_some] <;> rfl) | (simp [*, errW_none, errW_some] <;> rfl), by repeat (first | (with_reducible first | exact HB.out | apply below_alloc | apply pw_below_drewN | apply below_drew1) | exact HB.out)⟩
        · replace c27 := Bool.eq_false_iff.mpr c27
          subst c27
          have H1 : (some false) = some r := by rw [if_neg (show ¬ (false = true) by decide)] at H; exact H
          clear H
          have H := H1
          clear H1
          obtain rfl := Option.some.inj H
          go_enter Try.func14, Try.ntmps14
          go_wp2_with (first | ((with_reducible refine gate_callee (f := 30) rfl ?_); refine goesL_ (some 9) rfl rfl Try.func30 (by kernel_rfl) rfl #[.slice A0 l0.length c0, .int .i64 60] rfl (by (try simp only [List.map_toArray, List.map_cons, List.map_nil]); first | done | rfl | (simp only [List.length_drop, List.length_take]; rfl)) ?_; (with_reducible refine (dendronlaw01_few.calls (fun k_ => k_ < w.heap.size) _ _ l0 60 t610 _ ?side1 A3.out).mono ?_); (case side1 => exact Kd.V_mk HC0.out (Kd.F_below (Kd.C_F (Kd.heap_int .u64) HR0.out) (by repeat (first | (with_reducible first | exact HB.out | apply below_alloc | apply pw_below_drewN | apply below_drew1) | exact HB.out)))); rintro e w73 ⟨v611, rfl, ho0, hb⟩; refine ⟨_, rfl, ?_⟩; have n0_ := Aside0.mk (Kd.V_lower (Kd.V_mono (ok' := fun k_ => True) ho0 (fun k_ hk_ => trivial)) (below_size (by repeat (first | (with_reducible first | exact HB.out | apply below_alloc | apply pw_below_drewN | apply below_drew1) | exact HB.out)))); have n1_ := Aside0.mk (below_step (by repeat (first | (with_reducible first | exact HB.out | apply below_alloc | apply pw_below_drewN | apply below_drew1) | exact HB.out)) hb); clear HB; have HO612 := n0_; have HB := n1_; clear n0_ n1_; (try clear hb); (try clear hb2); (try clear hk); (try clear hi); (try clear ho0)) | ((with_reducible refine gate_callee (f := 30) rfl ?_); refine goesL_ (some 11) rfl rfl Try.func30 (by kernel_rfl) rfl #[.slice A1 l1.length c1, .int .i64 60] rfl (by (try simp only [List.map_toArray, List.map_cons, List.map_nil]); first | done | rfl | (simp only [List.length_drop, List.length_take]; rfl)) ?_; (with_reducible refine (dendronlaw01_few.calls (fun k_ => k_ < w.heap.size) _ _ l1 60 t613 _ ?side1 A4.out).mono ?_); (case side1 => exact Kd.V_mk HC1.out (Kd.F_below (Kd.C_F (Kd.heap_int .u64) HR1.out) (by repeat (first | (with_reducible first | exact HB.out | apply below_alloc | apply pw_below_drewN | apply below_drew1) | exact HB.out)))); rintro e w74 ⟨v614, rfl, ho0, hb⟩; refine ⟨_, rfl, ?_⟩; have n0_ := Aside0.mk (Kd.V_below (by (with_reducible repeat (first | apply Kd.V_alloc | apply Kd.V_drewN | apply Kd.V_drew)); exact HO612.out) hb); have n1_ := Aside0.mk (Kd.V_lower (Kd.V_mono (ok' := fun k_ => True) ho0 (fun k_ hk_ => trivial)) (below_size (by repeat (first | (with_reducible first | exact HB.out | apply below_alloc | apply pw_below_drewN | apply below_drew1) | exact HB.out)))); have n2_ := Aside0.mk (below_step (by repeat (first | (with_reducible first | exact HB.out | apply below_alloc | apply pw_below_drewN | apply below_drew1) | exact HB.out)) hb); clear HO612; clear HB; have HO612 := n0_; have HO615 := n1_; have HB := n2_; clear n0_ n1_ n2_; (try clear hb); (try clear hb2); (try clear hk); (try clear hi); (try clear ho0); obtain ⟨Ao75, co75, eo75⟩ := Kd.V_slice HO612.out; subst eo75; obtain ⟨Ao76, co76, eo76⟩ := Kd.V_slice HO615.out; subst eo76) | ((with_reducible refine gate_callee (f := 36) rfl ?_); refine goesL_ (some 15) rfl rfl Try.func36 (by kernel_rfl) rfl #[.slice Ao75 t610.length co75, .slice Ao76 t613.length co76] rfl (by (try simp only [List.map_toArray, List.map_cons, List.map_nil]); first | done | rfl | (simp only [List.length_drop, List.length_take]; rfl)) ?_; (with_reducible refine (nat_DivMod.calls k _ _ t610 _ _ t613 t616 t617 t618 _ ?side1 ?side2 ?side3 ?side4 A5.out).mono ?_); (case side1 => repeat (first | exact (Kd.V_reads' HO612.out).2.2 | (with_reducible refine Kd.C_alloc ?_ _) | (with_reducible refine Kd.C_drewN ?_ _) | (with_reducible refine Kd.C_drew ?_))); (case side2 => exact (Kd.V_reads' HO612.out).2.1); (case side3 => repeat (first | exact (Kd.V_reads' HO615.out).2.2 | (with_reducible refine Kd.C_alloc ?_ _) | (with_reducible refine Kd.C_drewN ?_ _) | (with_reducible refine Kd.C_drew ?_))); (case side4 => exact (Kd.V_reads' HO615.out).2.1); rintro e w77 ⟨v619, v621, rfl, ho0, ho1, hb⟩; refine ⟨_, rfl, ?_⟩; have n0_ := Aside0.mk (Kd.V_mono (Kd.V_told (Kd.V_told (Kd.V_old (by (with_reducible repeat (first | apply Kd.V_alloc | apply Kd.V_drewN | apply Kd.V_drew)); exact HO612.out) hb) (Kd.R_base ho0)) (Kd.R_base ho1)) (fun _ h_ => h_.1)); have n1_ := Aside0.mk (Kd.V_mono (Kd.V_told (Kd.V_told (Kd.V_old (by (with_reducible repeat (first | apply Kd.V_alloc | apply Kd.V_drewN | apply Kd.V_drew)); exact HO615.out) hb) (Kd.R_base ho0)) (Kd.R_base ho1)) (fun _ h_ => h_.1)); have n2_ := Aside0.mk (Kd.R_lower ho0 (below_size (by repeat (first | (with_reducible first | exact HB.out | apply below_alloc | apply pw_below_drewN | apply below_drew1) | exact HB.out)))); have n3_ := Aside0.mk (Kd.R_lower ho1 (below_size (by repeat (first | (with_reducible first | exact HB.out | apply below_alloc | apply pw_below_drewN | apply below_drew1) | exact HB.out)))); have n4_ := Aside0.mk (below_step (by repeat (first | (with_reducible first | exact HB.out | apply below_alloc | apply pw_below_drewN | apply below_drew1) | exact HB.out)) hb); clear HO612; clear HO615; clear HB; have HO612 := n0_; have HO615 := n1_; have HO620 := n2_; have HO622 := n3_; have HB := n4_; clear n0_ n1_ n2_ n3_ n4_; (try clear hb); (try clear hb2); (try clear hk); (try clear hi); (try clear ho0); (try clear ho1)) | ((with_reducible refine gate_callee (f := 51) rfl ?_); refine goesL_ (some 20) rfl rfl Try.func51 (by kernel_rfl) rfl #[.slice Ao76 t613.length co76] rfl (by (try simp only [List.map_toArray, List.map_cons, List.map_nil]); first | done | rfl | (simp only [List.length_drop, List.length_take]; rfl)) ?_; (with_reducible refine (nat_Zero.calls k _ _ t613 false _ ?side1 ?side2 A6.out).mono ?_); (case side1 => repeat (first | exact (Kd.V_reads' HO615.out).2.2 | (with_reducible refine Kd.C_alloc ?_ _) | (with_reducible refine Kd.C_drewN ?_ _) | (with_reducible refine Kd.C_drew ?_))); (case side2 => exact (Kd.V_reads' HO615.out).2.1); rintro e w78 ⟨rfl, hb⟩; refine ⟨_, rfl, ?_⟩; have n0_ := Aside0.mk (Kd.V_below (by (with_reducible repeat (first | apply Kd.V_alloc | apply Kd.V_drewN | apply Kd.V_drew)); exact HO612.out) hb); have n1_ := Aside0.mk (Kd.V_below (by (with_reducible repeat (first | apply Kd.V_alloc | apply Kd.V_drewN | apply Kd.V_drew)); exact HO615.out) hb); have n2_ := Aside0.mk (Kd.R_below (by (with_reducible repeat (first | apply Kd.R_alloc | apply Kd.R_drewN | apply Kd.R_drew)); exact HO620.out) hb); have n3_ := Aside0.mk (Kd.R_below (by (with_reducible repeat (first | apply Kd.R_alloc | apply Kd.R_drewN | apply Kd.R_drew)); exact HO622.out) hb); have n4_ := Aside0.mk (below_step (by repeat (first | (with_reducible first | exact HB.out | apply below_alloc | apply pw_below_drewN | apply below_drew1) | exact HB.out)) hb); clear HO612; clear HO615; clear HO620; clear HO622; clear HB; have HO612 := n0_; have HO615 := n1_; have HO620 := n2_; have HO622 := n3_; have HB := n4_; clear n0_ n1_ n2_ n3_ n4_; (try clear hb); (try clear hb2); (try clear hk); (try clear hi); obtain ⟨Ao79, co79, eo79⟩ := Kd.R_slice HO620.out; subst eo79) | (go_at_call 47; (with_reducible refine (dendronref01_Right.calls k _ _ t616 true _ ?side1 ?side2 A24.out).mono ?_); (case side1 => repeat (first | exact (Kd.R_reads' HO620.out).2.2 | (with_reducible refine Kd.C_alloc ?_ _) | (with_reducible refine Kd.C_drewN ?_ _) | (with_reducible refine Kd.C_drew ?_))); (case side2 => exact (Kd.R_reads' HO620.out).2.1); rintro e w' ⟨rfl, ⟨nd, rfl⟩⟩; obtain ⟨Ao80, co80, eo80⟩ := Kd.R_slice HO622.out; subst eo80) | (go_at_call 47; (with_reducible refine (dendronref01_Right.calls k _ _ t617 false _ ?side1 ?side2 A26.out).mono ?_); (case side1 => repeat (first | exact (Kd.R_reads' HO622.out).2.2 | (with_reducible refine Kd.C_alloc ?_ _) | (with_reducible refine Kd.C_drewN ?_ _) | (with_reducible refine Kd.C_drew ?_))); (case side2 => exact (Kd.R_reads' HO622.out).2.1); rintro e w' ⟨rfl, ⟨nd, rfl⟩⟩))
          go_ret
          exact ⟨by first | rfl | (simp [errW_none, errW_some] <;> rfl) | (simp [*, errW_none, errW_some] <;> rfl), by repeat (first | (with_reducible first | exact HB.out | apply below_alloc | apply pw_below_drewN | apply below_drew1) | exact HB.out)⟩
      · replace c25 := Bool.eq_false_iff.mpr c25
        subst c25
        have H1 : (some false) = some r := by rw [if_neg (show ¬ (false = true) by decide)] at H; exact H
        clear H
        have H := H1
        clear H1
        obtain rfl := Option.some.inj H
        go_enter Try.func14, Try.ntmps14
        go_wp2_with (first | ((with_reducible refine gate_callee (f := 30) rfl ?_); refine goesL_ (some 9) rfl rfl Try.func30 (by kernel_rfl) rfl #[.slice A0 l0.length c0, .int .i64 60] rfl (by (try simp only [List.map_toArray, List.map_cons, List.map_nil]); first | done | rfl | (simp only [List.length_drop, List.length_take]; rfl)) ?_; (with_reducible refine (dendronlaw01_few.calls (fun k_ => k_ < w.heap.size) _ _ l0 60 t610 _ ?side1 A3.out).mono ?_); (case side1 => exact Kd.V_mk HC0.out (Kd.F_below (Kd.C_F (Kd.heap_int .u64) HR0.out) (by repeat (first | (with_reducible first | exact HB.out | apply below_alloc | apply pw_below_drewN | apply below_drew1) | exact HB.out)))); rintro e w81 ⟨v611, rfl, ho0, hb⟩; refine ⟨_, rfl, ?_⟩; have n0_ := Aside0.mk (Kd.V_lower (Kd.V_mono (ok' := fun k_ => True) ho0 (fun k_ hk_ => trivial)) (below_size (by repeat (first | (with_reducible first | exact HB.out | apply below_alloc | apply pw_below_drewN | apply below_drew1) | exact HB.out)))); have n1_ := Aside0.mk (below_step (by repeat (first | (with_reducible first | exact HB.out | apply below_alloc | apply pw_below_drewN | apply below_drew1) | exact HB.out)) hb); clear HB; have HO612 := n0_; have HB := n1_; clear n0_ n1_; (try clear hb); (try clear hb2); (try clear hk); (try clear hi); (try clear ho0)) | ((with_reducible refine gate_callee (f := 30) rfl ?_); refine goesL_ (some 11) rfl rfl Try.func30 (by kernel_rfl) rfl #[.slice A1 l1.length c1, .int .i64 60] rfl (by (try simp only [List.map_toArray, List.map_cons, List.map_nil]); first | done | rfl | (simp only [List.length_drop, List.length_take]; rfl)) ?_; (with_reducible refine (dendronlaw01_few.calls (fun k_ => k_ < w.heap.size) _ _ l1 60 t613 _ ?side1 A4.out).mono ?_); (case side1 => exact Kd.V_mk HC1.out (Kd.F_below (Kd.C_F (Kd.heap_int .u64) HR1.out) (by repeat (first | (with_reducible first | exact HB.out | apply below_alloc | apply pw_below_drewN | apply below_drew1) | exact HB.out)))); rintro e w82 ⟨v614, rfl, ho0, hb⟩; refine ⟨_, rfl, ?_⟩; have n0_ := Aside0.mk (Kd.V_below (by (with_reducible repeat (first | apply Kd.V_alloc | apply Kd.V_drewN | apply Kd.V_drew)); exact HO612.out) hb); have n1_ := Aside0.mk (Kd.V_lower (Kd.V_mono (ok' := fun k_ => True) ho0 (fun k_ hk_ => trivial)) (below_size (by repeat (first | (with_reducible first | exact HB.out | apply below_alloc | apply pw_below_drewN | apply below_drew1) | exact HB.out)))); have n2_ := Aside0.mk (below_step (by repeat (first | (with_reducible first | exact HB.out | apply below_alloc | apply pw_below_drewN | apply below_drew1) | exact HB.out)) hb); clear HO612; clear HB; have HO612 := n0_; have HO615 := n1_; have HB := n2_; clear n0_ n1_ n2_; (try clear hb); (try clear hb2); (try clear hk); (try clear hi); (try clear ho0); obtain ⟨Ao83, co83, eo83⟩ := Kd.V_slice HO612.out; subst eo83; obtain ⟨Ao84, co84, eo84⟩ := Kd.V_slice HO615.out; subst eo84) | ((with_reducible refine gate_callee (f := 36) rfl ?_); refine goesL_ (some 15) rfl rfl Try.func36 (by kernel_rfl) rfl #[.slice Ao83 t610.length co83, .slice Ao84 t613.length co84] rfl (by (try simp only [List.map_toArray, List.map_cons, List.map_nil]); first | done | rfl | (simp only [List.length_drop, List.length_take]; rfl)) ?_; (with_reducible refine (nat_DivMod.calls k _ _ t610 _ _ t613 t616 t617 t618 _ ?side1 ?side2 ?side3 ?side4 A5.out).mono ?_); (case side1 => repeat (first | exact (Kd.V_reads' HO612.out).2.2 | (with_reducible refine Kd.C_alloc ?_ _) | (with_reducible refine Kd.C_drewN ?_ _) | (with_reducible refine Kd.C_drew ?_))); (case side2 => exact (Kd.V_reads' HO612.out).2.1); (case side3 => repeat (first | exact (Kd.V_reads' HO615.out).2.2 | (with_reducible refine Kd.C_alloc ?_ _) | (with_reducible refine Kd.C_drewN ?_ _) | (with_reducible refine Kd.C_drew ?_))); (case side4 => exact (Kd.V_reads' HO615.out).2.1); rintro e w85 ⟨v619, v621, rfl, ho0, ho1, hb⟩; refine ⟨_, rfl, ?_⟩; have n0_ := Aside0.mk (Kd.V_mono (Kd.V_told (Kd.V_told (Kd.V_old (by (with_reducible repeat (first | apply Kd.V_alloc | apply Kd.V_drewN | apply Kd.V_drew)); exact HO612.out) hb) (Kd.R_base ho0)) (Kd.R_base ho1)) (fun _ h_ => h_.1)); have n1_ := Aside0.mk (Kd.V_mono (Kd.V_told (Kd.V_told (Kd.V_old (by (with_reducible repeat (first | apply Kd.V_alloc | apply Kd.V_drewN | apply Kd.V_drew)); exact HO615.out) hb) (Kd.R_base ho0)) (Kd.R_base ho1)) (fun _ h_ => h_.1)); have n2_ := Aside0.mk (Kd.R_lower ho0 (below_size (by repeat (first | (with_reducible first | exact HB.out | apply below_alloc | apply pw_below_drewN | apply below_drew1) | exact HB.out)))); have n3_ := Aside0.mk (Kd.R_lower ho1 (below_size (by repeat (first | (with_reducible first | exact HB.out | apply below_alloc | apply pw_below_drewN | apply below_drew1) | exact HB.out)))); have n4_ := Aside0.mk (below_step (by repeat (first | (with_reducible first | exact HB.out | apply below_alloc | apply pw_below_drewN | apply below_drew1) | exact HB.out)) hb); clear HO612; clear HO615; clear HB; have HO612 := n0_; have HO615 := n1_; have HO620 := n2_; have HO622 := n3_; have HB := n4_; clear n0_ n1_ n2_ n3_ n4_; (try clear hb); (try clear hb2); (try clear hk); (try clear hi); (try clear ho0); (try clear ho1)) | ((with_reducible refine gate_callee (f := 51) rfl ?_); refine goesL_ (some 20) rfl rfl Try.func51 (by kernel_rfl) rfl #[.slice Ao84 t613.length co84] rfl (by (try simp only [List.map_toArray, List.map_cons, List.map_nil]); first | done | rfl | (simp only [List.length_drop, List.length_take]; rfl)) ?_; (with_reducible refine (nat_Zero.calls k _ _ t613 false _ ?side1 ?side2 A6.out).mono ?_); (case side1 => repeat (first | exact (Kd.V_reads' HO615.out).2.2 | (with_reducible refine Kd.C_alloc ?_ _) | (with_reducible refine Kd.C_drewN ?_ _) | (with_reducible refine Kd.C_drew ?_))); (case side2 => exact (Kd.V_reads' HO615.out).2.1); rintro e w86 ⟨rfl, hb⟩; refine ⟨_, rfl, ?_⟩; have n0_ := Aside0.mk (Kd.V_below (by (with_reducible repeat (first | apply Kd.V_alloc | apply Kd.V_drewN | apply Kd.V_drew)); exact HO612.out) hb); have n1_ := Aside0.mk (Kd.V_below (by (with_reducible repeat (first | apply Kd.V_alloc | apply Kd.V_drewN | apply Kd.V_drew)); exact HO615.out) hb); have n2_ := Aside0.mk (Kd.R_below (by (with_reducible repeat (first | apply Kd.R_alloc | apply Kd.R_drewN | apply Kd.R_drew)); exact HO620.out) hb); have n3_ := Aside0.mk (Kd.R_below (by (with_reducible repeat (first | apply Kd.R_alloc | apply Kd.R_drewN | apply Kd.R_drew)); exact HO622.out) hb); have n4_ := Aside0.mk (below_step (by repeat (first | (with_reducible first | exact HB.out | apply below_alloc | apply pw_below_drewN | apply below_drew1) | exact HB.out)) hb); clear HO612; clear HO615; clear HO620; clear HO622; clear HB; have HO612 := n0_; have HO615 := n1_; have HO620 := n2_; have HO622 := n3_; have HB := n4_; clear n0_ n1_ n2_ n3_ n4_; (try clear hb); (try clear hb2); (try clear hk); (try clear hi); obtain ⟨Ao87, co87, eo87⟩ := Kd.R_slice HO620.out; subst eo87) | (go_at_call 47; (with_reducible refine (dendronref01_Right.calls k _ _ t616 false _ ?side1 ?side2 A24.out).mono ?_); (case side1 => repeat (first | exact (Kd.R_reads' HO620.out).2.2 | (with_reducible refine Kd.C_alloc ?_ _) | (with_reducible refine Kd.C_drewN ?_ _) | (with_reducible refine Kd.C_drew ?_))); (case side2 => exact (Kd.R_reads' HO620.out).2.1); rintro e w' ⟨rfl, ⟨nd, rfl⟩⟩))
        go_ret
        exact ⟨by first | rfl | (simp [errW_none, errW_some] <;> rfl) | (simp [*, errW_none, errW_some] <;> rfl), by repeat (first | (with_reducible first | exact HB.out | apply below_alloc | apply pw_below_drewN | apply below_drew1) | exact HB.out)⟩
    · rw [if_neg c23] at H
      have c23b0 : (t618 == 0) = false := beq_eq_false_iff_ne.mpr c23
      have c23b1 : (t618 != 0) = true := bne_iff_ne.mpr c23
      obtain rfl := Option.some.inj H
      go_enter Try.func14, Try.ntmps14
      go_wp2_with (first | ((with_reducible refine gate_callee (f := 30) rfl ?_); refine goesL_ (some 9) rfl rfl Try.func30 (by kernel_rfl) rfl #[.slice A0 l0.length c0, .int .i64 60] rfl (by (try simp only [List.map_toArray, List.map_cons, List.map_nil]); first | done | rfl | (simp only [List.length_drop, List.length_take]; rfl)) ?_; (with_reducible refine (dendronlaw01_few.calls (fun k_ => k_ < w.heap.size) _ _ l0 60 t610 _ ?side1 A3.out).mono ?_); (case side1 => exact Kd.V_mk HC0.out (Kd.F_below (Kd.C_F (Kd.heap_int .u64) HR0.out) (by repeat (first | (with_reducible first | exact HB.out | apply below_alloc | apply pw_below_drewN | apply below_drew1) | exact HB.out)))); rintro e w88 ⟨v611, rfl, ho0, hb⟩; refine ⟨_, rfl, ?_⟩; have n0_ := Aside0.mk (Kd.V_lower (Kd.V_mono (ok' := fun k_ => True) ho0 (fun k_ hk_ => trivial)) (below_size (by repeat (first | (with_reducible first | exact HB.out | apply below_alloc | apply pw_below_drewN | apply below_drew1) | exact HB.out)))); have n1_ := Aside0.mk (below_step (by repeat (first | (with_reducible first | exact HB.out | apply below_alloc | apply pw_below_drewN | apply below_drew1) | exact HB.out)) hb); clear HB; have HO612 := n0_; have HB := n1_; clear n0_ n1_; (try clear hb); (try clear hb2); (try clear hk); (try clear hi); (try clear ho0)) | ((with_reducible refine gate_callee (f := 30) rfl ?_); refine goesL_ (some 11) rfl rfl Try.func30 (by kernel_rfl) rfl #[.slice A1 l1.length c1, .int .i64 60] rfl (by (try simp only [List.map_toArray, List.map_cons, List.map_nil]); first | done | rfl | (simp only [List.length_drop, List.length_take]; rfl)) ?_; (with_reducible refine (dendronlaw01_few.calls (fun k_ => k_ < w.heap.size) _ _ l1 60 t613 _ ?side1 A4.out).mono ?_); (case side1 => exact Kd.V_mk HC1.out (Kd.F_below (Kd.C_F (Kd.heap_int .u64) HR1.out) (by repeat (first | (with_reducible first | exact HB.out | apply below_alloc | apply pw_below_drewN | apply below_drew1) | exact HB.out)))); rintro e w89 ⟨v614, rfl, ho0, hb⟩; refine ⟨_, rfl, ?_⟩; have n0_ := Aside0.mk (Kd.V_below (by (with_reducible repeat (first | apply Kd.V_alloc | apply Kd.V_drewN | apply Kd.V_drew)); exact HO612.out) hb); have n1_ := Aside0.mk (Kd.V_lower (Kd.V_mono (ok' := fun k_ => True) ho0 (fun k_ hk_ => trivial)) (below_size (by repeat (first | (with_reducible first | exact HB.out | apply below_alloc | apply pw_below_drewN | apply below_drew1) | exact HB.out)))); have n2_ := Aside0.mk (below_step (by repeat (first | (with_reducible first | exact HB.out | apply below_alloc | apply pw_below_drewN | apply below_drew1) | exact HB.out)) hb); clear HO612; clear HB; have HO612 := n0_; have HO615 := n1_; have HB := n2_; clear n0_ n1_ n2_; (try clear hb); (try clear hb2); (try clear hk); (try clear hi); (try clear ho0); obtain ⟨Ao90, co90, eo90⟩ := Kd.V_slice HO612.out; subst eo90; obtain ⟨Ao91, co91, eo91⟩ := Kd.V_slice HO615.out; subst eo91) | ((with_reducible refine gate_callee (f := 36) rfl ?_); refine goesL_ (some 15) rfl rfl Try.func36 (by kernel_rfl) rfl #[.slice Ao90 t610.length co90, .slice Ao91 t613.length co91] rfl (by (try simp only [List.map_toArray, List.map_cons, List.map_nil]); first | done | rfl | (simp only [List.length_drop, List.length_take]; rfl)) ?_; (with_reducible refine (nat_DivMod.calls k _ _ t610 _ _ t613 t616 t617 t618 _ ?side1 ?side2 ?side3 ?side4 A5.out).mono ?_); (case side1 => repeat (first | exact (Kd.V_reads' HO612.out).2.2 | (with_reducible refine Kd.C_alloc ?_ _) | (with_reducible refine Kd.C_drewN ?_ _) | (with_reducible refine Kd.C_drew ?_))); (case side2 => exact (Kd.V_reads' HO612.out).2.1); (case side3 => repeat (first | exact (Kd.V_reads' HO615.out).2.2 | (with_reducible refine Kd.C_alloc ?_ _) | (with_reducible refine Kd.C_drewN ?_ _) | (with_reducible refine Kd.C_drew ?_))); (case side4 => exact (Kd.V_reads' HO615.out).2.1); rintro e w92 ⟨v619, v621, rfl, ho0, ho1, hb⟩; refine ⟨_, rfl, ?_⟩; have n0_ := Aside0.mk (Kd.V_mono (Kd.V_told (Kd.V_told (Kd.V_old (by (with_reducible repeat (first | apply Kd.V_alloc | apply Kd.V_drewN | apply Kd.V_drew)); exact HO612.out) hb) (Kd.R_base ho0)) (Kd.R_base ho1)) (fun _ h_ => h_.1)); have n1_ := Aside0.mk (Kd.V_mono (Kd.V_told (Kd.V_told (Kd.V_old (by (with_reducible repeat (first | apply Kd.V_alloc | apply Kd.V_drewN | apply Kd.V_drew)); exact HO615.out) hb) (Kd.R_base ho0)) (Kd.R_base ho1)) (fun _ h_ => h_.1)); have n2_ := Aside0.mk (Kd.R_lower ho0 (below_size (by repeat (first | (with_reducible first | exact HB.out | apply below_alloc | apply pw_below_drewN | apply below_drew1) | exact HB.out)))); have n3_ := Aside0.mk (Kd.R_lower ho1 (below_size (by repeat (first | (with_reducible first | exact HB.out | apply below_alloc | apply pw_below_drewN | apply below_drew1) | exact HB.out)))); have n4_ := Aside0.mk (below_step (by repeat (first | (with_reducible first | exact HB.out | apply below_alloc | apply pw_below_drewN | apply below_drew1) | exact HB.out)) hb); clear HO612; clear HO615; clear HB; have HO612 := n0_; have HO615 := n1_; have HO620 := n2_; have HO622 := n3_; have HB := n4_; clear n0_ n1_ n2_ n3_ n4_; (try clear hb); (try clear hb2); (try clear hk); (try clear hi); (try clear ho0); (try clear ho1)) | ((with_reducible refine gate_callee (f := 51) rfl ?_); refine goesL_ (some 20) rfl rfl Try.func51 (by kernel_rfl) rfl #[.slice Ao91 t613.length co91] rfl (by (try simp only [List.map_toArray, List.map_cons, List.map_nil]); first | done | rfl | (simp only [List.length_drop, List.length_take]; rfl)) ?_; (with_reducible refine (nat_Zero.calls k _ _ t613 false _ ?side1 ?side2 A6.out).mono ?_); (case side1 => repeat (first | exact (Kd.V_reads' HO615.out).2.2 | (with_reducible refine Kd.C_alloc ?_ _) | (with_reducible refine Kd.C_drewN ?_ _) | (with_reducible refine Kd.C_drew ?_))); (case side2 => exact (Kd.V_reads' HO615.out).2.1); rintro e w93 ⟨rfl, hb⟩; refine ⟨_, rfl, ?_⟩; have n0_ := Aside0.mk (Kd.V_below (by (with_reducible repeat (first | apply Kd.V_alloc | apply Kd.V_drewN | apply Kd.V_drew)); exact HO612.out) hb); have n1_ := Aside0.mk (Kd.V_below (by (with_reducible repeat (first | apply Kd.V_alloc | apply Kd.V_drewN | apply Kd.V_drew)); exact HO615.out) hb); have n2_ := Aside0.mk (Kd.R_below (by (with_reducible repeat (first | apply Kd.R_alloc | apply Kd.R_drewN | apply Kd.R_drew)); exact HO620.out) hb); have n3_ := Aside0.mk (Kd.R_below (by (with_reducible repeat (first | apply Kd.R_alloc | apply Kd.R_drewN | apply Kd.R_drew)); exact HO622.out) hb); have n4_ := Aside0.mk (below_step (by repeat (first | (with_reducible first | exact HB.out | apply below_alloc | apply pw_below_drewN | apply below_drew1) | exact HB.out)) hb); clear HO612; clear HO615; clear HO620; clear HO622; clear HB; have HO612 := n0_; have HO615 := n1_; have HO620 := n2_; have HO622 := n3_; have HB := n4_; clear n0_ n1_ n2_ n3_ n4_; (try clear hb); (try clear hb2); (try clear hk); (try clear hi)))
      go_ret
      exact ⟨by first | rfl | (simp [errW_none, errW_some] <;> rfl) | (simp [*, errW_none, errW_some] <;> rfl), by repeat (first | (with_reducible first | exact HB.out | apply below_alloc | apply pw_below_drewN | apply below_drew1) | exact HB.out)⟩
def dendronlaw01_NatDivides.Pure : Prop := ∀ (l0 : List Int) (l1 : List Int), l0.length ≤ maxLen → l0.length * 8 ≤ 140737488351232 → (∀ x ∈ l0, (Lit.int .u64 x).wf = true) → l1.length ≤ maxLen → l1.length * 8 ≤ 140737488351232 → (∀ x ∈ l1, (Lit.int .u64 x).wf = true) → ∃ k, dendronlaw01_NatDivides.f k l0 l1 = some true
theorem dendronlaw01_NatDivides.walk (P : dendronlaw01_NatDivides.Pure) (a0 : Option Addr) (len0 cap0 : Nat) (z0 : List Int) (a1 : Option Addr) (len1 cap1 : Nat) (z1 : List Int) (w : World) (w0 : (a0 = none ∧ len0 = 0 ∧ cap0 = 0 ∧ z0 = []) ∨ ∃ x, a0 = some x ∧ len0 ≤ cap0 ∧ cap0 ≤ maxLen ∧ z0.length = cap0 ∧ (∀ i, i < z0.length → w.cell? (x.add i) = some (.int .u64 (z0.getD i 0))) ∧ ∀ n ∈ z0, (Lit.int .u64 n).wf = true) (y0 : len0 * 8 ≤ 140737488351232) (w1 : (a1 = none ∧ len1 = 0 ∧ cap1 = 0 ∧ z1 = []) ∨ ∃ x, a1 = some x ∧ len1 ≤ cap1 ∧ cap1 ≤ maxLen ∧ z1.length = cap1 ∧ (∀ i, i < z1.length → w.cell? (x.add i) = some (.int .u64 (z1.getD i 0))) ∧ ∀ n ∈ z1, (Lit.int .u64 n).wf = true) (y1 : len1 * 8 ≤ 140737488351232) :
    Calls Try.prog 14 #[.slice a0 len0 cap0, .slice a1 len1 cap1] w fun e w' => e = .returned (.bool true) ∧ Below w.heap.size w w' := by
  obtain ⟨l0, rfl, hr0, hm0, hw0, hc0⟩ := ReadsInt.ofRowC w0
  obtain ⟨l1, rfl, hr1, hm1, hw1, hc1⟩ := ReadsInt.ofRowC w1
  obtain ⟨k, h⟩ := P l0 l1 hm0 y0 hw0 hm1 y1 hw1
  refine (dendronlaw01_NatDivides.calls k _ _ l0 _ _ l1 true w (Kd.C_of_reads (d := (0 : Int)) (h1 := fun _ => rfl) hr0) hc0 (Kd.C_of_reads (d := (0 : Int)) (h1 := fun _ => rfl) hr1) hc1 h).mono ?_
  rintro e w' ⟨rfl, hd⟩
  exact ⟨rfl, hd⟩
end Go.Proofs.Ytfnhpojoaaegmaa.P
set_option linter.unusedVariables false
set_option linter.unusedSimpArgs false
namespace Dg
def vl (B : Int) : List Int → Int
  | [] => 0
  | x :: r => x + B * vl B r
def Dig (B : Int) (l : List Int) : Prop := ∀ x, x ∈ l → 0 ≤ x ∧ x < B
def dg (B : Nat) (n : Nat) : List Int :=
  if h : n = 0 ∨ B < 2 then [] else ((n % B : Nat) : Int) :: dg B (n / B)
termination_by n
decreasing_by exact Nat.div_lt_self (by omega) (by omega)
theorem dg_zero (B : Nat) : dg B 0 = [] := by unfold dg; simp
theorem dg_succ {B n : Nat} (hB : 2 ≤ B) (hn : n ≠ 0) : dg B n = ((n % B : Nat) : Int) :: dg B (n / B) := by
  conv => lhs; unfold dg
  rw [dif_neg (by omega)]
theorem vl_nil (B : Int) : vl B [] = 0 := rfl
theorem vl_append (B : Int) (l m : List Int) : vl B (l ++ m) = vl B l + B ^ l.length * vl B m := by
  induction l with
  | nil => simp [vl]
  | cons x r ih => simp only [List.cons_append, vl, ih, List.length_cons, Int.pow_succ]; grind
theorem vl_take_succ (B : Int) (l : List Int) (n : Nat) : vl B (l.take (n + 1)) = vl B (l.take n) + l.getD n 0 * B ^ n := by
  induction l generalizing n with
  | nil => simp [vl]
  | cons x r ih =>
    cases n with
    | zero => simp [vl]
    | succ n => simp only [List.take_succ_cons, vl, ih, List.getD_cons_succ, Int.pow_succ]; grind
theorem vl_drop_succ (B : Int) (l : List Int) (n : Nat) : vl B (l.drop n) = l.getD n 0 + B * vl B (l.drop (n + 1)) := by
  induction l generalizing n with
  | nil => simp [vl]
  | cons x r ih =>
    cases n with
    | zero => simp [vl]
    | succ n => simpa using ih n
theorem vl_take_drop (B : Int) (l : List Int) (n : Nat) : vl B l = vl B (l.take n) + B ^ n * vl B (l.drop n) := by
  induction n with
  | zero => simp [vl]
  | succ n ih => rw [vl_take_succ, ih, vl_drop_succ B l n, Int.pow_succ]; grind
theorem vl_take_set (B : Int) (l : List Int) (i n : Nat) (v : Int) (h : n ≤ i) : vl B ((l.set i v).take n) = vl B (l.take n) := by
  rw [List.take_set_of_le h]
theorem getD_set (l : List Int) (i j : Nat) (v : Int) (h : i < l.length) : (l.set i v).getD j 0 = if i = j then v else l.getD j 0 := by
  simp only [List.getD_eq_getElem?_getD, List.getElem?_set]
  split
  · rename_i h1; subst h1; simp
  · rfl
theorem vl_drop_set (B : Int) (l : List Int) (i n : Nat) (v : Int) (h : i < n) : vl B ((l.set i v).drop n) = vl B (l.drop n) := by
  rw [List.drop_set_of_lt h]
theorem vl_set (B : Int) (l : List Int) (i : Nat) (v : Int) (h : i < l.length) : vl B (l.set i v) = vl B l + (v - l.getD i 0) * B ^ i := by
  rw [vl_take_drop B (l.set i v) i, vl_take_drop B l i, vl_take_set _ _ _ _ _ (Nat.le_refl _), vl_drop_succ, vl_drop_succ B l i, vl_drop_set _ _ _ _ _ (Nat.lt_succ_self _), getD_set _ _ _ _ h]
  grind
theorem Dig.getD {B : Int} {l : List Int} (h : Dig B l) (hB : 0 < B) (n : Nat) : 0 ≤ l.getD n 0 ∧ l.getD n 0 < B := by
  rw [List.getD_eq_getElem?_getD]
  rcases Nat.lt_or_ge n l.length with hn | hn
  · rw [List.getElem?_eq_getElem hn]; exact h _ (List.getElem_mem hn)
  · rw [List.getElem?_eq_none hn]; simp; exact hB
theorem Dig.take {B : Int} {l : List Int} (h : Dig B l) (n : Nat) : Dig B (l.take n) := fun x hx => h x (List.mem_of_mem_take hx)
theorem Dig.drop {B : Int} {l : List Int} (h : Dig B l) (n : Nat) : Dig B (l.drop n) := fun x hx => h x (List.mem_of_mem_drop hx)
theorem Dig.set {B : Int} {l : List Int} (h : Dig B l) (n : Nat) {v : Int} (h0 : 0 ≤ v) (h1 : v < B) : Dig B (l.set n v) := by
  intro x hx
  rcases List.mem_or_eq_of_mem_set hx with hx | rfl
  · exact h x hx
  · exact ⟨h0, h1⟩
theorem Dig.nil {B : Int} : Dig B [] := fun x hx => by simp at hx
theorem Dig.cons {B x : Int} {r : List Int} (h0 : 0 ≤ x) (h1 : x < B) (h : Dig B r) : Dig B (x :: r) := by
  intro y hy
  rcases List.mem_cons.1 hy with rfl | hy
  · exact ⟨h0, h1⟩
  · exact h y hy
theorem Dig.append {B : Int} {l m : List Int} (h : Dig B l) (k : Dig B m) : Dig B (l ++ m) := by
  intro y hy
  rcases List.mem_append.1 hy with hy | hy
  · exact h y hy
  · exact k y hy
theorem Dig.replicate {B : Int} (hB : 0 < B) (n : Nat) : Dig B (List.replicate n 0) := by
  intro y hy
  rw [List.mem_replicate] at hy
  omega
theorem vl_nonneg {B : Int} {l : List Int} (h : Dig B l) (hB : 0 < B) : 0 ≤ vl B l := by
  induction l with
  | nil => simp [vl]
  | cons x r ih =>
    have h1 := h x (by simp)
    have h2 := ih (fun y hy => h y (by simp [hy]))
    have := Int.mul_nonneg (Int.le_of_lt hB) h2
    simp only [vl]; omega
theorem vl_lt {B : Int} {l : List Int} (h : Dig B l) (hB : 0 < B) : vl B l < B ^ l.length := by
  induction l with
  | nil => simp [vl]
  | cons x r ih =>
    have h1 := h x (by simp)
    have h2 := ih (fun y hy => h y (by simp [hy]))
    have h3 : B * (vl B r + 1) ≤ B * B ^ r.length := Int.mul_le_mul_of_nonneg_left (by omega) (by omega)
    rw [List.length_cons, Int.pow_succ, Int.mul_comm _ B]
    simp only [vl]
    have h4 : B * (vl B r + 1) = B * vl B r + B := by grind
    omega
theorem vl_replicate_zero (B : Int) (n : Nat) : vl B (List.replicate n 0) = 0 := by
  induction n with
  | zero => rfl
  | succ n ih => rw [List.replicate_succ, vl, ih]; simp
theorem dg_dig {B : Nat} (hB : 2 ≤ B) (n : Nat) : Dig B (dg B n) := by
  induction n using Nat.strongRecOn with
  | _ n ih =>
    by_cases hn : n = 0
    · subst hn; rw [dg_zero]; exact Dig.nil
    · rw [dg_succ hB hn]
      have := Nat.mod_lt n (show 0 < B by omega)
      exact Dig.cons (by omega) (by omega) (ih _ (Nat.div_lt_self (by omega) (by omega)))
theorem vl_dg {B : Nat} (hB : 2 ≤ B) (n : Nat) : vl B (dg B n) = n := by
  induction n using Nat.strongRecOn with
  | _ n ih =>
    by_cases hn : n = 0
    · subst hn; rw [dg_zero]; rfl
    · rw [dg_succ hB hn, vl, ih _ (Nat.div_lt_self (by omega) (by omega))]
      have := Nat.mod_add_div n B
      exact_mod_cast this
def Top (l : List Int) : Prop := l ≠ [] → l.getD (l.length - 1) 0 ≠ 0
theorem Top.nil : Top [] := fun h => absurd rfl h
theorem Top.tail {x y : Int} {r : List Int} (h : Top (x :: y :: r)) : Top (y :: r) := by
  intro _
  have := h (by simp)
  simpa using this
theorem dg_eq_nil {B n : Nat} (hB : 2 ≤ B) : dg B n = [] ↔ n = 0 := by
  constructor
  · intro h
    by_cases hn : n = 0
    · exact hn
    · rw [dg_succ hB hn] at h; cases h
  · rintro rfl; exact dg_zero B
theorem dg_vl {B : Nat} (hB : 2 ≤ B) {l : List Int} (hd : Dig B l) (ht : Top l) : dg B (vl B l).toNat = l := by
  induction l with
  | nil => simp [vl, dg_zero]
  | cons x r ih =>
    have h1 := hd x (by simp)
    have hr : Dig B r := fun y hy => hd y (by simp [hy])
    have hn := vl_nonneg hr (by omega)
    obtain ⟨v, hv⟩ := Int.eq_ofNat_of_zero_le hn
    obtain ⟨y, rfl⟩ := Int.eq_ofNat_of_zero_le h1.1
    have hyB : y < B := by omega
    have htr : Top r := by
      cases r with
      | nil => exact Top.nil
      | cons z r => exact ht.tail
    have ih := ih hr htr
    rw [hv] at ih
    have hval : (vl B ((y : Int) :: r)).toNat = y + B * v := by
      rw [vl, hv]; norm_cast
    rw [hval]
    have hne : y + B * v ≠ 0 := by
      cases r with
      | nil =>
        have := ht (by simp)
        simp at this
        omega
      | cons z r =>
        intro h0
        have hv0 : v = 0 := by
          have : B * v = 0 := by omega
          rcases Nat.mul_eq_zero.1 this with h | h <;> omega
        subst hv0
        simp [dg_zero] at ih
    have hm : (y + B * v) % B = y := by rw [Nat.add_mul_mod_self_left, Nat.mod_eq_of_lt hyB]
    have hq : (y + B * v) / B = v := by rw [Nat.add_mul_div_left _ _ (by omega), Nat.div_eq_of_lt hyB, Nat.zero_add]
    rw [dg_succ hB hne, hm, hq]
    have : (v : Int).toNat = v := by simp
    rw [this] at ih
    rw [ih]
theorem dg_top {B : Nat} (hB : 2 ≤ B) (n : Nat) : Top (dg B n) := by
  induction n using Nat.strongRecOn with
  | _ n ih =>
    by_cases hn : n = 0
    · subst hn; rw [dg_zero]; exact Top.nil
    · rw [dg_succ hB hn]
      intro _
      have hlt := Nat.div_lt_self (n := n) (k := B) (by omega) (by omega)
      by_cases h0 : n / B = 0
      · rw [h0, dg_zero]
        simp
        have := Nat.mod_add_div n B
        rw [h0] at this
        omega
      · have h2 := ih _ hlt
        rw [dg_succ hB h0] at h2 ⊢
        have := h2 (by simp)
        simpa using this
theorem top_unique {B : Nat} (hB : 2 ≤ B) {l m : List Int} (hl : Dig B l) (hm : Dig B m) (tl : Top l) (tm : Top m) (h : vl B l = vl B m) : l = m := by
  rw [← dg_vl hB hl tl, ← dg_vl hB hm tm, h]
end Dg
namespace Go.Proofs.Ytfnhpojoaaegmaa.V
open Go.RowKit Go.Proofs.YtfnhpojoaaegmaaW.PrintWords
section
variable {α β : Type} {r : α}
theorem Ev.succ {g : Nat → Option α} (h : Ev (fun k => g (k + 1)) r) : Ev g r := Ev.step (fun _ => rfl) h
theorem Ev.pos {c : Prop} [Decidable c] {A B : Nat → Option α} (h : c) (hA : Ev A r) : Ev (fun k => if c then A k else B k) r := by simpa only [if_pos h] using hA
theorem Ev.neg {c : Prop} [Decidable c] {A B : Nat → Option α} (h : ¬ c) (hB : Ev B r) : Ev (fun k => if c then A k else B k) r := by simpa only [if_neg h] using hB
theorem Ev.ret (r : α) : Ev (fun _ => some r) r := Ev.now r
theorem Ev.bind1 {β : Type} {q : β} {g : Option α} {f : Nat → α → Option β} (h : g = some r) (k : Ev (fun n => f n r) q) : Ev (fun n => g.bind (f n)) q := by subst h; exact k
theorem Ev.ex {g : Nat → Option α} (h : Ev g r) : ∃ k, g k = some r := Ev.rounds h
theorem Ev.eq {g : Nat → Option α} {q : α} (h : Ev g r) (e : r = q) : Ev g q := e ▸ h
end
theorem w64 {x : Int} (h0 : -9223372036854775808 ≤ x) (h1 : x ≤ 9223372036854775807) : wrap64 x = x := by unfold wrap64; omega
theorem w64add {i m : Nat} (h : i + m ≤ 9223372036854775807) : wrap64 ((i : Int) + (m : Int)) = ((i + m : Nat) : Int) := by rw [w64 (by omega) (by omega)]; omega
theorem w64succ {i : Nat} (h : i + 1 ≤ 9223372036854775807) : wrap64 ((i : Int) + 1) = ((i + 1 : Nat) : Int) := by rw [w64 (by omega) (by omega)]; omega
theorem w64pred {i : Nat} (h : i ≤ 9223372036854775807) : wrap64 ((i : Int) - 1) = (i : Int) - 1 := w64 (by omega) (by omega)
theorem u64w {x : Int} (h0 : 0 ≤ x) (h1 : x ≤ 18446744073709551615) : IntKind.u64.wrap x = x := by
  have : IntKind.u64.wrap x = x % 18446744073709551616 := by simp [IntKind.wrap, IntKind.bits, IntKind.signed]
  rw [this]; omega
theorem u64m (x : Int) : IntKind.u64.wrap x = x % 18446744073709551616 := by simp [IntKind.wrap, IntKind.bits, IntKind.signed]
theorem u64_id (n : Int) (h₀ : 0 ≤ n) (h₁ : n < 2 ^ 64) : IntKind.u64.wrap n = n := by rw [u64m]; omega
theorem and32 {x : Int} (h0 : 0 ≤ x) (h1 : x ≤ 18446744073709551615) : Go.bits .and .u64 x 4294967295 = x % 4294967296 :=
  bits_mask .u64 64 (by decide) u64_id 32 (by decide) x h0 (by omega)
theorem or32 {x y : Int} (hx : 0 ≤ x) (h1 : x ≤ 4294967295) (h2 : 0 ≤ y) (h3 : y ≤ 4294967295) : Go.bits .or .u64 (x * 4294967296) y = x * 4294967296 + y :=
  bits_join .u64 64 (by decide) u64_id 32 (x * 4294967296) y (by omega) (by omega) (by omega) h2 (by omega) (by omega)
theorem wf_u64 {x : Int} (h : (Lit.int .u64 x).wf = true) : 0 ≤ x ∧ x ≤ 18446744073709551615 := by
  simp [Lit.wf, IntKind.min, IntKind.max, IntKind.signed, IntKind.bits] at h
  omega
theorem rd_nat (l : List Int) (n : Nat) : rd l (n : Int) = l.getD n 0 := by unfold rd; rw [Int.toNat_natCast]
theorem rd_add (l : List Int) (i m : Nat) : rd l ((i : Int) + (m : Int)) = l.getD (i + m) 0 := by rw [← Int.natCast_add]; exact rd_nat _ _
theorem tn_add (i m : Nat) : ((i : Int) + (m : Int)).toNat = i + m := by omega
def D (n : Nat) : List Int := Dg.dg 4294967296 n
def E (n : Nat) : List Int := Dg.dg 10000 n
def W (l : List Int) : Nat := (Dg.vl 4294967296 (l.map (· % 4294967296))).toNat
def U (l : List Int) : Prop := ∀ x, x ∈ l → 0 ≤ x ∧ x ≤ 18446744073709551615
theorem D_dig (n : Nat) : Dg.Dig 4294967296 (D n) := Dg.dg_dig (by decide) n
theorem D_top (n : Nat) : Dg.Top (D n) := Dg.dg_top (by decide) n
theorem D_vl (n : Nat) : Dg.vl 4294967296 (D n) = n := Dg.vl_dg (by decide) n
theorem D_U (n : Nat) : U (D n) := fun x hx => by have := D_dig n x hx; omega
theorem D_get (n i : Nat) : 0 ≤ (D n).getD i 0 ∧ (D n).getD i 0 < 4294967296 := (D_dig n).getD (by decide) i
theorem D_zero : D 0 = [] := Dg.dg_zero _
theorem D_nil {n : Nat} : D n = [] ↔ n = 0 := Dg.dg_eq_nil (by decide)
theorem map_mod_dig {l : List Int} (h : Dg.Dig 4294967296 l) : l.map (· % 4294967296) = l := by
  conv => rhs; rw [← List.map_id l]
  apply List.map_congr_left
  intro x hx
  have := h x hx
  simp only [id]
  omega
theorem W_dig {l : List Int} (h : Dg.Dig 4294967296 l) : (W l : Int) = Dg.vl 4294967296 l := by
  unfold W
  rw [map_mod_dig h]
  have := Dg.vl_nonneg h (by decide)
  omega
theorem W_D (n : Nat) : W (D n) = n := by
  have := W_dig (D_dig n)
  rw [D_vl] at this
  omega
theorem map_dig (l : List Int) : Dg.Dig 4294967296 (l.map (· % 4294967296)) := by
  intro x hx
  obtain ⟨y, _, rfl⟩ := List.mem_map.1 hx
  omega
theorem W_map (l : List Int) : (W l : Int) = Dg.vl 4294967296 (l.map (· % 4294967296)) := by
  unfold W
  have := Dg.vl_nonneg (map_dig l) (by decide)
  omega
theorem D_of {l : List Int} (hd : Dg.Dig 4294967296 l) (ht : Dg.Top l) {n : Nat} (hv : Dg.vl 4294967296 l = n) : l = D n :=
  Dg.top_unique (B := 4294967296) (by decide) hd (D_dig n) ht (D_top n) (hv.trans (D_vl n).symm)
theorem len_lt (B : Nat) (hB : 2 ≤ B) (n : Nat) : n < B ^ (Dg.dg B n).length := by
  have h := Dg.vl_lt (Dg.dg_dig hB n) (by omega)
  rw [Dg.vl_dg hB] at h
  exact_mod_cast h
theorem len_le_of_lt (B : Nat) (hB : 2 ≤ B) {n k : Nat} (h : n < B ^ k) : (Dg.dg B n).length ≤ k := by
  induction k generalizing n with
  | zero =>
    have : n = 0 := by simpa using h
    subst this
    rw [Dg.dg_zero]
    simp
  | succ k ih =>
    by_cases hn : n = 0
    · subst hn
      rw [Dg.dg_zero]
      simp
    · rw [Dg.dg_succ hB hn, List.length_cons]
      have : n / B < B ^ k := by
        rw [Nat.div_lt_iff_lt_mul (by omega)]
        rw [Nat.pow_succ] at h
        exact h
      have := ih this
      omega
theorem len_mono (B : Nat) (hB : 2 ≤ B) {m n : Nat} (h : m ≤ n) : (Dg.dg B m).length ≤ (Dg.dg B n).length :=
  len_le_of_lt B hB (Nat.lt_of_le_of_lt h (len_lt B hB n))
theorem len_lt_imp (B : Nat) (hB : 2 ≤ B) {m n : Nat} (h : (Dg.dg B m).length < (Dg.dg B n).length) : m < n := by
  apply Classical.byContradiction
  intro hc
  have := len_mono B hB (Nat.le_of_not_lt hc)
  omega
def L (n : Nat) : Nat := (D n).length
theorem L_lt (n : Nat) : n < 4294967296 ^ L n := len_lt _ (by decide) n
theorem L_le {n k : Nat} (h : n < 4294967296 ^ k) : L n ≤ k := len_le_of_lt _ (by decide) h
theorem L_mono {m n : Nat} (h : m ≤ n) : L m ≤ L n := len_mono _ (by decide) h
theorem L_W (l : List Int) : L (W l) ≤ l.length := by
  apply L_le
  have := Dg.vl_lt (map_dig l) (by decide)
  rw [← W_map, List.length_map, show (4294967296 : Int) = ((4294967296 : Nat) : Int) from rfl, ← Int.natCast_pow] at this
  exact Int.ofNat_lt.1 this
def cmp (a b : Int) : Int := if a < b then -1 else if b < a then 1 else 0
theorem cmp_lt {a b : Int} (h : a < b) : cmp a b = -1 := by unfold cmp; rw [if_pos h]
theorem cmp_gt {a b : Int} (h : b < a) : cmp a b = 1 := by unfold cmp; rw [if_neg (by omega), if_pos h]
theorem cmp_eq {a b : Int} (h : a = b) : cmp a b = 0 := by unfold cmp; rw [if_neg (by omega), if_neg (by omega)]
theorem cmp_lt_iff {a b : Int} : cmp a b < 0 ↔ a < b := by unfold cmp; split <;> (try split) <;> omega
theorem cmp_top {B : Nat} {a b x y P : Int} (ha0 : 0 ≤ a) (ha : a < P) (hb0 : 0 ≤ b) (hb : b < P) (h : x < y) : a + x * P < b + y * P := by
  have : (x + 1) * P ≤ y * P := Int.mul_le_mul_of_nonneg_right (by omega) (by omega)
  rw [Int.add_mul] at this
  omega
end Go.Proofs.Ytfnhpojoaaegmaa.V
set_option linter.unusedVariables false
set_option linter.unusedSimpArgs false
namespace Go.Proofs.Ytfnhpojoaaegmaa.V
open Go.RowKit Go.Proofs.Ytfnhpojoaaegmaa.P Go.Proofs.YtfnhpojoaaegmaaW.PrintWords
theorem top_take {l : List Int} {n : Nat} (hn : n < l.length) (h : l.getD n 0 ≠ 0) : Dg.Top (l.take (n + 1)) := by
  intro _
  have hl : (l.take (n + 1)).length = n + 1 := by rw [List.length_take]; omega
  rw [hl, Nat.add_sub_cancel]
  rw [List.getD_eq_getElem?_getD, List.getElem?_take_of_lt (by omega), ← List.getD_eq_getElem?_getD]
  exact h
theorem nat_trim_l0 {l : List Int} (hd : Dg.Dig 4294967296 l) (hl : l.length ≤ 35184372088832) : ∀ n : Nat, n ≤ l.length →
    Ev (fun k => nat_trim.l0 k l (n : Int)) (D (Dg.vl 4294967296 (l.take n)).toNat) := by
  intro n
  induction n with
  | zero =>
    intro _
    refine Ev.succ ?_
    simp (disch := omega) only [nat_trim.l0, if_pos, if_neg]
    simp only [List.take_zero, Dg.vl, Int.toNat_zero, D_zero]
    exact Ev.ret _
  | succ n ih =>
    intro hn
    have e : wrap64 (((n + 1 : Nat) : Int) - 1) = (n : Int) := by rw [w64 (by omega) (by omega)]; omega
    refine Ev.succ ?_
    simp (disch := omega) only [nat_trim.l0, e, if_pos, if_neg, rd_nat]
    by_cases h : l.getD n 0 = 0
    · simp only [h, if_true]
      refine Ev.eq (ih (by omega)) ?_
      rw [Dg.vl_take_succ, h]
      simp
    · simp only [h, if_false]
      refine Ev.eq (Ev.ret _) ?_
      rw [Int.toNat_natCast]
      have hdd := hd.take (n + 1)
      refine D_of hdd (top_take (by omega) h) ?_
      have := Dg.vl_nonneg hdd (by decide)
      omega
theorem nat_trim_f {l : List Int} (hd : Dg.Dig 4294967296 l) (hl : l.length ≤ 35184372088832) {n : Nat} (hv : Dg.vl 4294967296 l = n) : Ev (fun k => nat_trim.f k l) (D n) := by
  have := nat_trim_l0 hd hl l.length (Nat.le_refl _)
  rw [List.take_length, hv, Int.toNat_natCast] at this
  exact this
theorem set_take {l : List Int} {n : Nat} (v : Int) (h : n < l.length) : (l.set n v).take (n + 1) = l.take n ++ [v] := by
  have h2 : n < (l.set n v).length := by rw [List.length_set]; exact h
  rw [List.take_succ_eq_append_getElem h2, List.getElem_set_self, List.take_set_of_le (Nat.le_refl _)]
theorem map_take_succ {l : List Int} {n : Nat} (f : Int → Int) (h : n < l.length) : (l.map f).take (n + 1) = (l.map f).take n ++ [f (l.getD n 0)] := by
  have h2 : n < (l.map f).length := by rw [List.length_map]; exact h
  rw [List.take_succ_eq_append_getElem h2, List.getElem_map, List.getD_eq_getElem?_getD, List.getElem?_eq_getElem h, Option.getD_some]
theorem U_get {l : List Int} (h : U l) (n : Nat) : 0 ≤ l.getD n 0 ∧ l.getD n 0 ≤ 18446744073709551615 := by
  rw [List.getD_eq_getElem?_getD]
  rcases Nat.lt_or_ge n l.length with hn | hn
  · rw [List.getElem?_eq_getElem hn]; exact h _ (List.getElem_mem hn)
  · rw [List.getElem?_eq_none hn]; simp
theorem nat_Clean_l0 {l : List Int} (hu : U l) (hl : l.length ≤ 35184372088832) : ∀ (d i : Nat) (out : List Int), i + d = l.length → out.length = l.length → out.take i = (l.map (· % 4294967296)).take i →
    Ev (fun k => nat_Clean.l0 k out l (l.length : Int) (i : Int)) (D (W l)) := by
  intro d
  induction d with
  | zero =>
    intro i out hi ho ht
    have e : out = l.map (· % 4294967296) := by
      rw [List.take_of_length_le (by omega), List.take_of_length_le (by rw [List.length_map]; omega)] at ht
      exact ht
    refine Ev.succ ?_
    simp (disch := omega) only [nat_Clean.l0, if_pos, if_neg]
    rw [e]
    refine Ev.bind (nat_trim_f (map_dig l) (by rw [List.length_map]; exact hl) (W_map l).symm) ?_
    exact Ev.ret _
  | succ d ih =>
    intro i out hi ho ht
    have hg := U_get hu i
    have e : wrap64 ((i : Int) + 1) = ((i + 1 : Nat) : Int) := by rw [w64 (by omega) (by omega)]; omega
    refine Ev.succ ?_
    simp (disch := omega) only [nat_Clean.l0, if_pos, if_neg, rd_nat, e, and32, Int.toNat_natCast]
    refine ih (i + 1) _ (by omega) (by rw [List.length_set]; exact ho) ?_
    rw [set_take _ (by omega), map_take_succ _ (by omega), ht]
theorem nat_Clean_f {l : List Int} (hu : U l) (hl : l.length ≤ 35184372088832) : Ev (fun k => nat_Clean.f k l) (D (W l)) := by
  unfold nat_Clean.f
  simp (disch := omega) only [if_pos, Int.toNat_natCast]
  exact nat_Clean_l0 hu hl l.length 0 _ (by omega) (by rw [List.length_replicate]) (by simp)
theorem nat_order_l0 {a b : List Int} (ha : Dg.Dig 4294967296 a) (hb : Dg.Dig 4294967296 b) (hl : a.length = b.length) (hs : a.length ≤ 35184372088832) : ∀ n : Nat, n ≤ a.length →
    Ev (fun k => nat_order.l0 k a b ((n : Int) - 1)) (cmp (Dg.vl 4294967296 (a.take n)) (Dg.vl 4294967296 (b.take n))) := by
  intro n
  induction n with
  | zero =>
    intro _
    refine Ev.succ ?_
    simp (disch := omega) only [nat_order.l0, if_neg]
    exact Ev.ret _
  | succ n ih =>
    intro hn
    have e0 : ((n + 1 : Nat) : Int) - 1 = (n : Int) := by omega
    have e : wrap64 ((n : Int) - 1) = (n : Int) - 1 := w64 (by omega) (by omega)
    have ga := ha.getD (by decide) n
    have gb := hb.getD (by decide) n
    have a0 := Dg.vl_nonneg (ha.take n) (by decide)
    have b0 := Dg.vl_nonneg (hb.take n) (by decide)
    have a1 := Dg.vl_lt (ha.take n) (by decide)
    have b1 := Dg.vl_lt (hb.take n) (by decide)
    have hla : (a.take n).length = n := by rw [List.length_take]; omega
    have hlb : (b.take n).length = n := by rw [List.length_take]; omega
    rw [hla] at a1
    rw [hlb] at b1
    rw [e0]
    refine Ev.succ ?_
    simp (disch := omega) only [nat_order.l0, if_pos, rd_nat, e]
    rw [Dg.vl_take_succ, Dg.vl_take_succ]
    by_cases h1 : a.getD n 0 < b.getD n 0
    · refine Ev.pos h1 (Ev.eq (Ev.ret _) (cmp_lt (cmp_top (B := 0) a0 a1 b0 b1 h1)).symm)
    · refine Ev.neg h1 ?_
      by_cases h2 : b.getD n 0 < a.getD n 0
      · exact Ev.pos h2 (Ev.eq (Ev.ret _) (cmp_gt (cmp_top (B := 0) b0 b1 a0 a1 h2)).symm)
      · refine Ev.neg h2 (Ev.eq (ih (by omega)) ?_)
        have : a.getD n 0 = b.getD n 0 := by omega
        rw [this]
        unfold cmp
        split <;> split <;> (try split) <;> (try split) <;> first | rfl | omega
theorem nat_order_D {m n : Nat} (hm : L m ≤ 35184372088832) (hn : L n ≤ 35184372088832) : Ev (fun k => nat_order.f k (D m) (D n)) (cmp m n) := by
  unfold nat_order.f
  have hm' : (D m).length ≤ 35184372088832 := hm
  have hn' : (D n).length ≤ 35184372088832 := hn
  by_cases h1 : ((D m).length : Int) < ((D n).length : Int)
  · exact Ev.pos h1 (Ev.eq (Ev.ret _) (cmp_lt (by have := len_lt_imp _ (by decide) (show (D m).length < (D n).length by omega); omega)).symm)
  · refine Ev.neg h1 ?_
    by_cases h2 : ((D n).length : Int) < ((D m).length : Int)
    · exact Ev.pos h2 (Ev.eq (Ev.ret _) (cmp_gt (by have := len_lt_imp _ (by decide) (show (D n).length < (D m).length by omega); omega)).symm)
    · refine Ev.neg h2 ?_
      have e : wrap64 (((D m).length : Int) - 1) = ((D m).length : Int) - 1 := w64 (by omega) (by omega)
      simp only [e]
      refine Ev.eq (nat_order_l0 (D_dig m) (D_dig n) (by omega) hm' _ (Nat.le_refl _)) ?_
      rw [List.take_length, show (D m).length = (D n).length by omega, List.take_length, D_vl, D_vl]
theorem nat_limb_f (l : List Int) (i : Nat) : nat_limb.f l (i : Int) = some (l.getD i 0) := by
  unfold nat_limb.f
  by_cases h : (i : Int) < (l.length : Int)
  · rw [if_pos h, if_pos (by omega), rd_nat]
  · rw [if_neg h, List.getD_eq_getElem?_getD, List.getElem?_eq_none (by omega)]
    rfl
theorem nat_Cmp_f {a b : List Int} (ha : U a) (hb : U b) (hla : a.length ≤ 35184372088832) (hlb : b.length ≤ 35184372088832) : Ev (fun k => nat_Cmp.f k a b) (cmp (W a) (W b)) := by
  unfold nat_Cmp.f
  refine Ev.bind (nat_Clean_f ha hla) ?_
  refine Ev.bind (nat_Clean_f hb hlb) ?_
  refine Ev.bind (nat_order_D (Nat.le_trans (L_W a) hla) (Nat.le_trans (L_W b) hlb)) ?_
  exact Ev.ret _
theorem nat_Zero_f {a : List Int} (ha : U a) (hla : a.length ≤ 35184372088832) : Ev (fun k => nat_Zero.f k a) (decide (W a = 0)) := by
  unfold nat_Zero.f
  refine Ev.bind (nat_Clean_f ha hla) ?_
  refine Ev.eq (Ev.ret _) ?_
  by_cases h : W a = 0
  · simp [h, D_zero]
  · have : D (W a) ≠ [] := fun e => h (D_nil.1 e)
    have : (D (W a)).length ≠ 0 := fun e => this (List.length_eq_zero_iff.1 e)
    simp [h]
    exact fun e => h (D_nil.1 e)
theorem nat_Of_f {x : Int} (h0 : 0 ≤ x) (h1 : x ≤ 18446744073709551615) {n : Nat} (hn : (n : Int) = x) : Ev (fun k => nat_Of.f k x) (D n) := by
  unfold nat_Of.f
  rw [and32 h0 h1]
  refine Ev.bind (nat_trim_f (n := n) ?_ (by simp) ?_) (Ev.ret _)
  · exact Dg.Dig.cons (by omega) (by omega) (Dg.Dig.cons (by omega) (by omega) Dg.Dig.nil)
  · simp only [Dg.vl]; omega
theorem D_small {n : Nat} (h0 : n ≠ 0) (h : n < 4294967296) : D n = [(n : Int)] := by
  unfold D
  rw [Dg.dg_succ (by decide) h0, Nat.mod_eq_of_lt h, Nat.div_eq_of_lt h, Dg.dg_zero]
def Rt (l : List Int) : Prop := Dg.Dig 4294967296 l ∧ Dg.Top l
theorem Rt_D (n : Nat) : Rt (D n) := ⟨D_dig n, D_top n⟩
theorem ref_Right_l0 {l : List Int} (hu : U l) (hl : l.length ≤ 35184372088832) : ∀ (d i : Nat), i + d = l.length → (∀ j, j < i → l.getD j 0 < 4294967296) →
    ∃ b, Ev (fun k => dendronref01_Right.l0 k l (i : Int)) b ∧ (b = true ↔ Rt l) := by
  intro d
  induction d with
  | zero =>
    intro i hi hj
    have hd : Dg.Dig 4294967296 l := by
      intro x hx
      obtain ⟨n, hn, e⟩ := List.mem_iff_getElem.1 hx
      have h1 := hj n (by omega)
      have h2 := U_get hu n
      rw [List.getD_eq_getElem?_getD, List.getElem?_eq_getElem hn, Option.getD_some, e] at h1 h2
      exact ⟨h2.1, h1⟩
    by_cases h0 : l.length = 0
    · refine ⟨true, Ev.succ ?_, ?_⟩
      · simp (disch := omega) only [dendronref01_Right.l0, if_neg, if_pos]
        exact Ev.ret _
      · simp only [true_iff]
        have : l = [] := List.length_eq_zero_iff.1 h0
        subst this
        exact ⟨hd, Dg.Top.nil⟩
    · refine ⟨l.getD (l.length - 1) 0 != 0, Ev.succ ?_, ?_⟩
      · have e : wrap64 ((l.length : Int) - 1) = ((l.length - 1 : Nat) : Int) := by rw [w64 (by omega) (by omega)]; omega
        simp (disch := omega) only [dendronref01_Right.l0, if_neg, if_pos, e, rd_nat]
        exact Ev.ret _
      · rw [bne_iff_ne]
        constructor
        · intro h
          exact ⟨hd, fun _ => h⟩
        · intro h
          exact h.2 (fun e => h0 (by rw [e]; rfl))
  | succ d ih =>
    intro i hi hj
    have e : wrap64 ((i : Int) + 1) = ((i + 1 : Nat) : Int) := by rw [w64 (by omega) (by omega)]; omega
    by_cases h : l.getD i 0 > 4294967295
    · refine ⟨false, Ev.succ ?_, ?_⟩
      · simp (disch := omega) only [dendronref01_Right.l0, if_pos, rd_nat]
        exact Ev.ret _
      · simp only [Bool.false_eq_true, false_iff]
        intro hr
        have := hr.1.getD (by decide) i
        omega
    · obtain ⟨b, hb, hr⟩ := ih (i + 1) (by omega) (fun j hj2 => by
        rcases Nat.lt_or_ge j i with h3 | h3
        · exact hj j h3
        · have : j = i := by omega
          subst this
          omega)
      refine ⟨b, Ev.succ ?_, hr⟩
      simp (disch := omega) only [dendronref01_Right.l0, if_pos, rd_nat, e, h, if_false]
      exact hb
theorem ref_Right_f {l : List Int} (hu : U l) (hl : l.length ≤ 35184372088832) : ∃ b, Ev (fun k => dendronref01_Right.f k l) b ∧ (b = true ↔ Rt l) :=
  ref_Right_l0 hu hl l.length 0 (by omega) (fun j h => absurd h (by omega))
theorem ref_Right_D {n : Nat} (hl : L n ≤ 35184372088832) : Ev (fun k => dendronref01_Right.f k (D n)) true := by
  obtain ⟨b, hb, h⟩ := ref_Right_f (D_U n) hl
  rwa [h.2 (Rt_D n)] at hb
end Go.Proofs.Ytfnhpojoaaegmaa.V
set_option linter.unusedVariables false
set_option linter.unusedSimpArgs false
namespace Go.Proofs.Ytfnhpojoaaegmaa.V
open Go.RowKit Go.Proofs.Ytfnhpojoaaegmaa.P Go.Proofs.YtfnhpojoaaegmaaW.PrintWords
theorem mul_bound {x y M : Int} (hx0 : 0 ≤ x) (hx : x ≤ M) (hy0 : 0 ≤ y) (hy : y ≤ M) : 0 ≤ x * y ∧ x * y ≤ M * M :=
  ⟨Int.mul_nonneg hx0 hy0, Int.le_trans (Int.mul_le_mul_of_nonneg_right hx hy0) (Int.mul_le_mul_of_nonneg_left hy (by omega))⟩
theorem tdiv_pos {x y : Int} (h : 0 ≤ x) : Int.tdiv x y = x / y := Int.tdiv_eq_ediv_of_nonneg h
theorem tmod_pos {x y : Int} (h : 0 ≤ x) : Int.tmod x y = x % y := Int.tmod_eq_emod_of_nonneg h
theorem mul_step {B : Int} {out : List Int} {p : Nat} {c x S t : Int} (hlt : p < out.length) (hv : Dg.vl B out + c * B ^ p = S) (ht : t = c + out.getD p 0 + x) :
    Dg.vl B (out.set p (t % B)) + (t / B) * B ^ (p + 1) = S + x * B ^ p := by
  rw [Dg.vl_set _ _ _ _ hlt, Int.pow_succ]
  have h := Int.mul_ediv_add_emod t B
  have e : (t % B - out.getD p 0) * B ^ p + t / B * (B ^ p * B) = (t - out.getD p 0) * B ^ p := by
    have : t % B = t - B * (t / B) := by omega
    rw [this]
    grind
  rw [Int.add_assoc, e, ht, ← hv]
  grind
theorem zero_set {out : List Int} {p q : Nat} (v : Int) (h : p < q) (hz : ∀ j, q ≤ j → out.getD j 0 = 0) : ∀ j, q ≤ j → (out.set p v).getD j 0 = 0 := by
  intro j hj
  rw [List.getD_eq_getElem?_getD, List.getElem?_set_ne (by omega), ← List.getD_eq_getElem?_getD]
  exact hz j hj
theorem getD_beyond {l : List Int} {i : Nat} (h : l.length ≤ i) : l.getD i 0 = 0 := by rw [List.getD_eq_getElem?_getD, List.getElem?_eq_none h]; rfl
theorem vl_snoc (B : Int) (l : List Int) (x : Int) : Dg.vl B (l ++ [x]) = Dg.vl B l + x * B ^ l.length := by
  rw [Dg.vl_append]
  simp [Dg.vl]
  exact Int.mul_comm _ _
end Go.Proofs.Ytfnhpojoaaegmaa.V
set_option linter.unusedVariables false
set_option linter.unusedSimpArgs false
namespace Go.Proofs.Ytfnhpojoaaegmaa.V
open Go.RowKit Go.Proofs.Ytfnhpojoaaegmaa.P Go.Proofs.YtfnhpojoaaegmaaW.PrintWords
theorem getD_rep (n j : Nat) : (List.replicate n (0 : Int)).getD j 0 = 0 := by
  rw [List.getD_eq_getElem?_getD]
  by_cases h : j < n
  · simp [List.getElem?_replicate, h]
  · simp [List.getElem?_replicate, h]
theorem nat_Mul_l0 {a b : List Int} (ha : Dg.Dig 4294967296 a) (hb : Dg.Dig 4294967296 b) (hl : a.length + b.length ≤ 35184372088832) {n : Nat} (hn : Dg.vl 4294967296 a * Dg.vl 4294967296 b = n) :
    ∀ (d i : Nat) (out : List Int), i + d = a.length → out.length = a.length + b.length → Dg.Dig 4294967296 out → Dg.vl 4294967296 out = Dg.vl 4294967296 (a.take i) * Dg.vl 4294967296 b → (∀ j, i + b.length ≤ j → out.getD j 0 = 0) →
    Ev (fun k => nat_Mul.l0 k b out a (a.length : Int) (i : Int)) (D n) := by
  intro d
  induction d with
  | zero =>
    intro i out hi ho hd hv hz
    refine Ev.succ ?_
    simp (disch := omega) only [nat_Mul.l0, if_neg]
    refine Ev.bind (nat_trim_f hd (by omega) (n := n) ?_) (Ev.ret _)
    rw [hv, List.take_of_length_le (by omega), hn]
  | succ d ih =>
    intro i out hi ho hd hv hz
    refine Ev.succ ?_
    simp (disch := omega) only [nat_Mul.l0, if_pos, rd_nat]
    have gi := ha.getD (by decide) i
    have inner : ∀ (e m : Nat) (o : List Int) (c : Int), m + e = b.length → o.length = a.length + b.length → Dg.Dig 4294967296 o → 0 ≤ c → c ≤ 4294967295 → (∀ j, i + b.length ≤ j → o.getD j 0 = 0) →
        Dg.vl 4294967296 o + c * 4294967296 ^ (i + m) = Dg.vl 4294967296 out + a.getD i 0 * Dg.vl 4294967296 (b.take m) * 4294967296 ^ i → Ev (fun k => nat_Mul.l1 k b o (i : Int) (a.getD i 0) c a (a.length : Int) (i : Int) b (b.length : Int) (m : Int)) (D n) := by
      intro e
      induction e with
      | zero =>
        intro m o c hm ho2 hd2 hc0 hc1 hz2 hv2
        refine Ev.succ ?_
        simp (disch := omega) only [nat_Mul.l1, if_neg, if_pos, w64add, w64succ, Int.toNat_natCast]
        refine ih (i + 1) _ (by omega) (by rw [List.length_set]; exact ho2) (hd2.set _ hc0 (by omega)) ?_ ?_
        · have hmb : m = b.length := by omega
          subst hmb
          rw [Dg.vl_set _ _ _ _ (by omega), hz2 _ (Nat.le_refl _), Int.sub_zero, hv2, List.take_length, hv, Dg.vl_take_succ]
          grind
        · intro j hj
          exact zero_set c (q := i + b.length + 1) (by omega) (fun j hj => hz2 j (by omega)) j (by omega)
      | succ e ih2 =>
        intro m o c hm ho2 hd2 hc0 hc1 hz2 hv2
        have gm := hb.getD (by decide) m
        have go := hd2.getD (by decide) (i + m)
        have hx := mul_bound gi.1 (show a.getD i 0 ≤ 4294967295 by omega) gm.1 (show b.getD m 0 ≤ 4294967295 by omega)
        refine Ev.succ ?_
        simp (disch := omega) only [nat_Mul.l1, if_pos, rd_add, tn_add, rd_nat, w64, u64w, and32, Int.toNat_natCast]
        have ht : c + (o.getD (i + m) 0 + a.getD i 0 * b.getD m 0) = c + o.getD (i + m) 0 + a.getD i 0 * b.getD m 0 := by omega
        refine ih2 (m + 1) _ _ (by omega) (by rw [List.length_set]; exact ho2) (hd2.set _ (by omega) (by omega)) (by omega) (by omega) ?_ ?_
        · exact zero_set _ (by omega) hz2
        · have := mul_step (B := 4294967296) (x := a.getD i 0 * b.getD m 0) (show i + m < o.length by omega) hv2 (t := c + o.getD (i + m) 0 + a.getD i 0 * b.getD m 0) rfl
          rw [ht, show i + (m + 1) = i + m + 1 by omega, this, Dg.vl_take_succ, Int.pow_add]
          grind
    refine inner b.length 0 out 0 (by omega) ho hd (by omega) (by omega) hz ?_
    simp [Dg.vl]
theorem nat_Mul_f {a b : List Int} (ha : U a) (hb : U b) (hl : a.length + b.length ≤ 35184372088832) : Ev (fun k => nat_Mul.f k a b) (D (W a * W b)) := by
  unfold nat_Mul.f
  refine Ev.bind (nat_Clean_f ha (by omega)) ?_
  refine Ev.bind (nat_Clean_f hb (by omega)) ?_
  have h1 : (D (W a)).length ≤ a.length := L_W a
  have h2 : (D (W b)).length ≤ b.length := L_W b
  simp (disch := omega) only [w64add, if_pos, Int.toNat_natCast]
  refine nat_Mul_l0 (D_dig _) (D_dig _) (by omega) (n := W a * W b) ?_ (D (W a)).length 0 _ (by omega) (by rw [List.length_replicate]) (Dg.Dig.replicate (by decide) _) ?_ (fun j _ => getD_rep _ j)
  · rw [D_vl, D_vl]; exact (Int.natCast_mul _ _).symm
  · rw [Dg.vl_replicate_zero]; simp [Dg.vl]
theorem nat_Add_l0 {a b : List Int} (ha : Dg.Dig 4294967296 a) (hb : Dg.Dig 4294967296 b) (hl : max a.length b.length + 1 ≤ 35184372088832) {n : Nat} (hn : Dg.vl 4294967296 a + Dg.vl 4294967296 b = n) :
    ∀ (d i : Nat) (out : List Int) (c : Int), i + d = max a.length b.length + 1 → out.length = max a.length b.length + 1 → Dg.Dig 4294967296 out → 0 ≤ c → c ≤ 1 → (i = max a.length b.length + 1 → c = 0) → Dg.vl 4294967296 (out.take i) + c * 4294967296 ^ i = Dg.vl 4294967296 (a.take i) + Dg.vl 4294967296 (b.take i) →
    Ev (fun k => nat_Add.l0 k a b out c (out.length : Int) (i : Int)) (D n) := by
  intro d
  induction d with
  | zero =>
    intro i out c hi ho hd hc0 hc1 hc9 hv
    have hc := hc9 (by omega)
    subst hc
    refine Ev.succ ?_
    simp (disch := omega) only [nat_Add.l0, if_neg]
    refine Ev.bind (nat_trim_f hd (by omega) (n := n) ?_) (Ev.ret _)
    rw [List.take_of_length_le (by omega), List.take_of_length_le (by omega), List.take_of_length_le (by omega), hn] at hv
    simpa using hv
  | succ d ih =>
    intro i out c hi ho hd hc0 hc1 hc9 hv
    have ga := ha.getD (by decide) i
    have gb := hb.getD (by decide) i
    refine Ev.succ ?_
    simp (disch := omega) only [nat_Add.l0, if_pos, nat_limb_f, Option.bind_some, u64w, and32, w64succ, Int.toNat_natCast]
    have hlen : (out.length : Int) = ((out.set i ((c + (a.getD i 0 + b.getD i 0)) % 4294967296)).length : Int) := by rw [List.length_set]
    rw [hlen]
    refine ih (i + 1) _ _ (by omega) (by rw [List.length_set]; exact ho) (hd.set _ (by omega) (by omega)) (by omega) (by omega) ?_ ?_
    · intro h9
      have h1 := getD_beyond (l := a) (i := i) (by omega)
      have h2 := getD_beyond (l := b) (i := i) (by omega)
      rw [h1, h2]
      omega
    · rw [set_take _ (by omega), vl_snoc, List.length_take, Nat.min_eq_left (by omega), Dg.vl_take_succ, Dg.vl_take_succ, Int.pow_succ]
      have h := Int.mul_ediv_add_emod (c + (a.getD i 0 + b.getD i 0)) 4294967296
      grind
theorem mx_nat (a b : Nat) : mx (a : Int) (b : Int) = ((max a b : Nat) : Int) := by unfold mx; split <;> omega
theorem nat_Add_f {a b : List Int} (ha : U a) (hb : U b) (hla : a.length + 1 ≤ 35184372088832) (hlb : b.length + 1 ≤ 35184372088832) : Ev (fun k => nat_Add.f k a b) (D (W a + W b)) := by
  unfold nat_Add.f
  refine Ev.bind (nat_Clean_f ha (by omega)) ?_
  refine Ev.bind (nat_Clean_f hb (by omega)) ?_
  have h1 : (D (W a)).length ≤ a.length := L_W a
  have h2 : (D (W b)).length ≤ b.length := L_W b
  rw [mx_nat]
  simp (disch := omega) only [w64succ, if_pos, Int.toNat_natCast, Option.bind_some]
  refine nat_Add_l0 (D_dig _) (D_dig _) (by omega) (n := W a + W b) (by rw [D_vl, D_vl]; omega) (max (D (W a)).length (D (W b)).length + 1) 0 _ 0 (by omega) (by rw [List.length_replicate]) (Dg.Dig.replicate (by decide) _) (by omega) (by omega) (by omega) ?_
  simp [Dg.vl]
theorem nat_Add_D {m n : Nat} (hm : L m + 1 ≤ 35184372088832) (hn : L n + 1 ≤ 35184372088832) : Ev (fun k => nat_Add.f k (D m) (D n)) (D (m + n)) := by
  have := nat_Add_f (D_U m) (D_U n) hm hn
  rwa [W_D, W_D] at this
end Go.Proofs.Ytfnhpojoaaegmaa.V
set_option linter.unusedVariables false
set_option linter.unusedSimpArgs false
namespace Go.Proofs.Ytfnhpojoaaegmaa.V
open Go.RowKit Go.Proofs.Ytfnhpojoaaegmaa.P Go.Proofs.YtfnhpojoaaegmaaW.PrintWords Go.Proofs.YtfnhpojoaaegmaaW.PrintMore
theorem nat_small_l0 {a : List Int} (ha : Dg.Dig 4294967296 a) (hl : a.length ≤ 35184372088832) {d : Int} (hd0 : 0 < d) (hd1 : d ≤ 4294967295) {q r : Nat} (hq : Dg.vl 4294967296 a = q * d + r) (hr : (r : Int) < d) :
    ∀ (n : Nat) (out : List Int) (c : Int), n ≤ a.length → out.length = a.length → Dg.Dig 4294967296 out → 0 ≤ c → c < d → Dg.vl 4294967296 (out.drop n) * d + c = Dg.vl 4294967296 (a.drop n) →
    Ev (fun k => nat_small.l0 k a d out c ((n : Int) - 1)) (D q, (r : Int)) := by
  intro n
  induction n with
  | zero =>
    intro out c hn ho hd hc0 hc1 hv
    rw [List.drop_zero, List.drop_zero, hq] at hv
    have h1 : Dg.vl 4294967296 out = q := by
      have e1 : (Dg.vl 4294967296 out - q) * d = r - c := by grind
      rcases Int.lt_trichotomy (Dg.vl 4294967296 out - q) 0 with h | h | h
      · have : (Dg.vl 4294967296 out - q) * d ≤ -1 * d := Int.mul_le_mul_of_nonneg_right (by omega) (by omega)
        omega
      · omega
      · have : 1 * d ≤ (Dg.vl 4294967296 out - q) * d := Int.mul_le_mul_of_nonneg_right (by omega) (by omega)
        omega
    have h2 : c = r := by rw [h1] at hv; omega
    refine Ev.succ ?_
    simp (disch := omega) only [nat_small.l0, if_neg]
    refine Ev.bind (nat_trim_f hd (by omega) (n := q) h1) ?_
    rw [h2]
    exact Ev.ret _
  | succ n ih =>
    intro out c hn ho hd hc0 hc1 hv
    have e0 : ((n + 1 : Nat) : Int) - 1 = (n : Int) := by omega
    have ga := ha.getD (by decide) n
    have t0 : 0 ≤ c * 4294967296 + a.getD n 0 := by omega
    have q0 : (c * 4294967296 + a.getD n 0) / d < 4294967296 := by
      apply Int.ediv_lt_of_lt_mul hd0
      have : (c + 1) * 4294967296 ≤ d * 4294967296 := Int.mul_le_mul_of_nonneg_right (by omega) (by omega)
      omega
    have q1 : 0 ≤ (c * 4294967296 + a.getD n 0) / d := Int.ediv_nonneg t0 (by omega)
    have r0 := Int.emod_nonneg (c * 4294967296 + a.getD n 0) (show d ≠ 0 by omega)
    have r1 := Int.emod_lt_of_pos (c * 4294967296 + a.getD n 0) hd0
    have hqr := Int.mul_ediv_add_emod (c * 4294967296 + a.getD n 0) d
    rw [e0]
    refine Ev.succ ?_
    simp (disch := omega) only [nat_small.l0, if_pos, if_neg, rd_nat, u64w, or32, tdiv_pos, tmod_pos, w64pred, Int.toNat_natCast]
    refine ih _ _ (by omega) (by rw [List.length_set]; exact ho) (hd.set _ q1 q0) r0 r1 ?_
    rw [Dg.vl_drop_succ, Dg.vl_drop_succ 4294967296 a, Dg.vl_drop_set _ _ _ _ _ (Nat.lt_succ_self _), Dg.getD_set _ _ _ _ (by omega), if_pos rfl, ← hv]
    grind
theorem nat_small_D {m d : Nat} (hd0 : 0 < d) (hd1 : d ≤ 4294967295) (hl : L m ≤ 35184372088832) : Ev (fun k => nat_small.f k (D m) (d : Int)) (D (m / d), ((m % d : Nat) : Int)) := by
  have hl' : (D m).length ≤ 35184372088832 := hl
  unfold nat_small.f
  simp (disch := omega) only [if_pos, Int.toNat_natCast, w64pred]
  have hm := Nat.mod_lt m hd0
  have hq : Dg.vl 4294967296 (D m) = ((m / d : Nat) : Int) * (d : Int) + ((m % d : Nat) : Int) := by
    rw [D_vl]
    have := Nat.div_add_mod m d
    rw [Nat.mul_comm] at this
    exact_mod_cast this.symm
  refine nat_small_l0 (D_dig m) hl' (by omega) (by omega) hq (by omega) (D m).length _ 0 (Nat.le_refl _) (by rw [List.length_replicate]) (Dg.Dig.replicate (by decide) _) (by omega) (by omega) ?_
  rw [List.drop_length, List.drop_of_length_le (by rw [List.length_replicate]; omega)]
  simp [Dg.vl]
theorem bits_or_comm (k : IntKind) (x y : Int) : Go.bits .or k x y = Go.bits .or k y x := by simp [Go.bits, BitVec.or_comm]
theorem shift_parts (x s : Nat) (hs : s < 32) : (x * 2 ^ s) % 4294967296 = (x % 2 ^ (32 - s)) * 2 ^ s ∧ (x * 2 ^ s) / 4294967296 = x / 2 ^ (32 - s) := by
  have e : 4294967296 = 2 ^ (32 - s) * 2 ^ s := by rw [← Nat.pow_add, Nat.sub_add_cancel (by omega)]
  constructor
  · rw [e, Nat.mul_mod_mul_right]
  · rw [e, Nat.mul_div_mul_right _ _ (Nat.two_pow_pos s)]
theorem nat_shl_l0 {a : List Int} (ha : Dg.Dig 4294967296 a) {w s : Nat} (hs : s < 32) (hl : a.length + w + 1 ≤ 35184372088832) {n : Nat} (hn : Dg.vl 4294967296 a * 2 ^ s * 4294967296 ^ w = n) :
    ∀ (d i : Nat) (out : List Int), i + d = a.length → out.length = a.length + w + 1 → Dg.Dig 4294967296 out → Dg.vl 4294967296 out = Dg.vl 4294967296 (a.take i) * 2 ^ s * 4294967296 ^ w → out.getD (i + w) 0 < 2 ^ s → (∀ j, i + w < j → out.getD j 0 = 0) →
    Ev (fun k => nat_shl.l0 k (w : Int) (s : Int) out a (a.length : Int) (i : Int)) (D n) := by
  intro d
  induction d with
  | zero =>
    intro i out hi ho hd hv hp hz
    refine Ev.succ ?_
    simp (disch := omega) only [nat_shl.l0, if_neg]
    refine Ev.bind (nat_trim_f hd (by omega) (n := n) ?_) (Ev.ret _)
    rw [hv, List.take_of_length_le (by omega), hn]
  | succ d ih =>
    intro i out hi ho hd hv hp hz
    have ga := ha.getD (by decide) i
    have go := hd.getD (by decide) (i + w)
    obtain ⟨x, hx⟩ := Int.eq_ofNat_of_zero_le ga.1
    obtain ⟨y, hy⟩ := Int.eq_ofNat_of_zero_le go.1
    have hxlt : x < 4294967296 := by omega
    have hylt : y < 2 ^ s := by rw [hy] at hp; exact_mod_cast hp
    obtain ⟨p1, p2⟩ := shift_parts x s hs
    have hps : 2 ^ s ≤ 2 ^ 31 := Nat.pow_le_pow_right (by decide) (by omega)
    have hxs : x * 2 ^ s ≤ 4294967295 * 2 ^ 31 := Nat.mul_le_mul (by omega) hps
    have hsp := Nat.two_pow_pos s
    have hhi : x * 2 ^ s / 4294967296 < 2 ^ s := by
      rw [Nat.div_lt_iff_lt_mul (by decide), Nat.mul_comm (2 ^ s)]
      exact (Nat.mul_lt_mul_right hsp).2 hxlt
    have hlo : y + x * 2 ^ s % 4294967296 < 4294967296 := by
      rw [p1]
      have h1 : x % 2 ^ (32 - s) + 1 ≤ 2 ^ (32 - s) := Nat.mod_lt _ (Nat.two_pow_pos _)
      have h2 := Nat.mul_le_mul_right (2 ^ s) h1
      rw [← Nat.pow_add, Nat.sub_add_cancel (by omega), Nat.add_mul] at h2
      omega
    have hsh : shl .u64 (x : Int) (s : Int) = ((x * 2 ^ s : Nat) : Int) := by
      unfold shl
      rw [Int.toNat_natCast, show min s IntKind.u64.bits = s from Nat.min_eq_left (by simp [IntKind.bits]; omega)]
      rw [show (x : Int) * 2 ^ s = ((x * 2 ^ s : Nat) : Int) by rw [Int.natCast_mul, Int.natCast_pow]; rfl]
      rw [u64w (by omega) (by omega)]
    have hor : Go.bits .or .u64 (y : Int) ((x * 2 ^ s % 4294967296 : Nat) : Int) = ((y + x * 2 ^ s % 4294967296 : Nat) : Int) := by
      rw [bits_or_comm, bits_join .u64 64 (by decide) u64_id s _ _ (by omega) ?_ (by omega) (by omega) (by exact_mod_cast hylt) (by omega)]
      · omega
      · rw [p1]
        exact_mod_cast Nat.mul_mod_left _ _
    have hand : Go.bits .and .u64 ((x * 2 ^ s : Nat) : Int) 4294967295 = ((x * 2 ^ s % 4294967296 : Nat) : Int) := by rw [and32 (by omega) (by omega)]; omega
    have hdv : ((x * 2 ^ s : Nat) : Int) / 4294967296 = ((x * 2 ^ s / 4294967296 : Nat) : Int) := by omega
    refine Ev.succ ?_
    simp (disch := omega) only [nat_shl.l0, if_pos, rd_add, tn_add, rd_nat, w64, hx, hy, hsh, hand, hor, hdv]
    have htn : ((i : Int) + (w : Int) + 1).toNat = i + w + 1 := by omega
    rw [htn]
    have ho1 : (out.set (i + w) ((y + x * 2 ^ s % 4294967296 : Nat) : Int)).length = a.length + w + 1 := by rw [List.length_set]; exact ho
    have hz1 : (out.set (i + w) ((y + x * 2 ^ s % 4294967296 : Nat) : Int)).getD (i + w + 1) 0 = 0 := by
      rw [Dg.getD_set _ _ _ _ (by omega), if_neg (by omega)]
      exact hz _ (by omega)
    refine ih (i + 1) _ (by omega) (by rw [List.length_set]; exact ho1) ((hd.set _ (by omega) (by omega)).set _ (by omega) (by omega)) ?_ ?_ ?_
    · rw [Dg.vl_set _ _ _ _ (by omega), hz1, Dg.vl_set _ _ _ _ (by omega), hv, hy, Dg.vl_take_succ, hx]
      have h := Nat.mod_add_div (x * 2 ^ s) 4294967296
      have h' : ((x * 2 ^ s % 4294967296 : Nat) : Int) + 4294967296 * ((x * 2 ^ s / 4294967296 : Nat) : Int) = (x : Int) * 2 ^ s := by
        have e : (x : Int) * 2 ^ s = ((x * 2 ^ s : Nat) : Int) := by rw [Int.natCast_mul, Int.natCast_pow]; rfl
        rw [e]
        omega
      rw [Int.natCast_add, Int.pow_succ, Int.pow_add]
      grind
    · rw [show i + 1 + w = i + w + 1 by omega, Dg.getD_set _ _ _ _ (by omega), if_pos rfl]
      exact_mod_cast hhi
    · intro j hj
      rw [Dg.getD_set _ _ _ _ (by omega), if_neg (by omega), Dg.getD_set _ _ _ _ (by omega), if_neg (by omega)]
      exact hz j (by omega)
theorem nat_shl_D {m n : Nat} (hl : L m + n / 32 + 1 ≤ 35184372088832) (hn : n ≤ 9223372036854775807) : Ev (fun k => nat_shl.f k (D m) (n : Int)) (D (m * 2 ^ n)) := by
  have hl' : (D m).length + n / 32 + 1 ≤ 35184372088832 := hl
  unfold nat_shl.f
  have e1 : Int.tdiv (n : Int) 32 = ((n / 32 : Nat) : Int) := by rw [tdiv_pos (by omega)]; omega
  have e2 : Int.tmod (n : Int) 32 = ((n % 32 : Nat) : Int) := by rw [tmod_pos (by omega)]; omega
  have e3 : wrap64 ((n / 32 : Nat) : Int) = ((n / 32 : Nat) : Int) := w64 (by omega) (by omega)
  simp only [e1, e2, e3]
  have e4 : wrap64 (wrap64 (((D m).length : Int) + ((n / 32 : Nat) : Int)) + 1) = (((D m).length + n / 32 + 1 : Nat) : Int) := by rw [w64add (by omega), w64succ (by omega)]
  simp (disch := omega) only [e4, if_pos, Int.toNat_natCast]
  clear e1 e2 e3 e4
  refine nat_shl_l0 (D_dig m) (Nat.mod_lt n (by decide)) hl' (n := m * 2 ^ n) ?_ (D m).length 0 _ (by omega) (by rw [List.length_replicate]) (Dg.Dig.replicate (by decide) _) ?_ ?_ (fun j _ => getD_rep _ j)
  · rw [D_vl]
    have e : m * 2 ^ (n % 32) * 4294967296 ^ (n / 32) = m * 2 ^ n := by
      rw [show (4294967296 : Nat) = 2 ^ 32 from rfl, ← Nat.pow_mul, Nat.mul_assoc, ← Nat.pow_add, show n % 32 + 32 * (n / 32) = n by omega]
    rw [← e]
    simp only [Int.natCast_mul, Int.natCast_pow]
    rfl
  · rw [Dg.vl_replicate_zero]; simp [Dg.vl]
  · rw [getD_rep]
    exact Int.pow_pos (by decide)
theorem vl_drop_D (m w : Nat) : Dg.vl 4294967296 ((D m).drop w) = ((m / 4294967296 ^ w : Nat) : Int) := by
  have h := Dg.vl_take_drop 4294967296 (D m) w
  rw [D_vl] at h
  have h0 := Dg.vl_nonneg ((D_dig m).take w) (by decide)
  have h1 := Dg.vl_lt ((D_dig m).take w) (by decide)
  have h2 := Dg.vl_nonneg ((D_dig m).drop w) (by decide)
  have h3 : 4294967296 ^ ((D m).take w).length ≤ 4294967296 ^ w := Nat.pow_le_pow_right (by decide) (by rw [List.length_take]; omega)
  obtain ⟨x, hx⟩ := Int.eq_ofNat_of_zero_le h0
  obtain ⟨y, hy⟩ := Int.eq_ofNat_of_zero_le h2
  rw [hx, hy] at h
  rw [hx] at h1
  have e : ∀ k : Nat, (4294967296 : Int) ^ k = ((4294967296 ^ k : Nat) : Int) := fun k => by rw [Int.natCast_pow]; rfl
  rw [e, ← Int.natCast_mul, ← Int.natCast_add] at h
  rw [e] at h1
  have h4 : m = x + 4294967296 ^ w * y := Int.ofNat_inj.1 h
  have h5 : x < 4294967296 ^ w := Nat.lt_of_lt_of_le (Int.ofNat_lt.1 h1) h3
  rw [hy, h4, Nat.add_mul_div_left _ _ (Nat.pow_pos (by decide)), Nat.div_eq_of_lt h5, Nat.zero_add]
theorem shr_parts (x u v s : Nat) (hs : s < 32) (hu : u < 4294967296) : (u + 4294967296 * x) / 2 ^ s = (u + 4294967296 * (x % 2 ^ s)) / 2 ^ s + 4294967296 * (x / 2 ^ s) ∧ (u + 4294967296 * (x % 2 ^ s)) / 2 ^ s < 4294967296 := by
  have hp := Nat.two_pow_pos s
  constructor
  · have h := Nat.mod_add_div x (2 ^ s)
    have e : u + 4294967296 * x = u + 4294967296 * (x % 2 ^ s) + 2 ^ s * (4294967296 * (x / 2 ^ s)) := by
      have : 4294967296 * x = 4294967296 * (x % 2 ^ s) + 4294967296 * (2 ^ s * (x / 2 ^ s)) := by rw [← Nat.mul_add, h]
      rw [this, Nat.mul_left_comm]
      omega
    rw [e, Nat.add_mul_div_left _ _ hp]
  · rw [Nat.div_lt_iff_lt_mul hp]
    have h1 : x % 2 ^ s + 1 ≤ 2 ^ s := Nat.mod_lt _ hp
    have h2 := Nat.mul_le_mul_left 4294967296 h1
    omega
theorem mod_pow_limb (x s : Nat) (u : Nat) (hs : s < 32) : (u + 4294967296 * x) % 2 ^ s = u % 2 ^ s := by
  have e : 4294967296 = 2 ^ s * 2 ^ (32 - s) := by rw [← Nat.pow_add, Nat.add_sub_cancel' (by omega)]
  rw [e, Nat.mul_assoc, Nat.add_mul_mod_self_left]
theorem and_part {t r c : Nat} (h : t = r + 4294967296 * c) (hr : r < 4294967296) (ht : t ≤ 18446744073709551615) : Go.bits .and .u64 (t : Int) 4294967295 = (r : Int) := by
  rw [and32 (by omega) (by omega)]
  omega
theorem nat_shr_l0 {m : Nat} (hl : (D m).length ≤ 35184372088832) {w s : Nat} (hs : s < 32) (hw : w < (D m).length) :
    ∀ (d i : Nat) (out : List Int), i + d = (D m).length - w → out.length = (D m).length - w → Dg.Dig 4294967296 out → Dg.vl 4294967296 (out.take i) + 4294967296 ^ i * ((m / 4294967296 ^ (w + i) / 2 ^ s : Nat) : Int) = ((m / 4294967296 ^ w / 2 ^ s : Nat) : Int) →
    Ev (fun k => nat_shr.l0 k (D m) (w : Int) (s : Int) out (out.length : Int) (i : Int)) (D (m / 4294967296 ^ w / 2 ^ s)) := by
  intro d
  induction d with
  | zero =>
    intro i out hi ho hd hv
    refine Ev.succ ?_
    simp (disch := omega) only [nat_shr.l0, if_neg]
    refine Ev.bind (nat_trim_f hd (by omega) (n := m / 4294967296 ^ w / 2 ^ s) ?_) (Ev.ret _)
    have h0 : m / 4294967296 ^ (w + i) = 0 := by
      apply Nat.div_eq_of_lt
      have := L_lt m
      rwa [show w + i = L m by unfold L; omega]
    rw [h0, Nat.zero_div, List.take_of_length_le (by omega)] at hv
    simpa using hv
  | succ d ih =>
    intro i out hi ho hd hv
    have g1 := D_get m (i + w)
    have g2 := D_get m (i + w + 1)
    obtain ⟨u, hu⟩ := Int.eq_ofNat_of_zero_le g1.1
    obtain ⟨v, hv1⟩ := Int.eq_ofNat_of_zero_le g2.1
    have hul : u < 4294967296 := by omega
    have hvl : v < 4294967296 := by omega
    have hd1 : m / 4294967296 ^ (w + i) = u + 4294967296 * (m / 4294967296 ^ (w + i + 1)) := by
      have h1 := Dg.vl_drop_succ 4294967296 (D m) (i + w)
      rw [vl_drop_D, vl_drop_D, hu] at h1
      rw [show w + i = i + w by omega]
      omega
    have hd2 : m / 4294967296 ^ (w + i + 1) = v + 4294967296 * (m / 4294967296 ^ (w + i + 2)) := by
      have h1 := Dg.vl_drop_succ 4294967296 (D m) (i + w + 1)
      rw [vl_drop_D, vl_drop_D, hv1] at h1
      rw [show w + i + 1 = i + w + 1 by omega, show w + i + 2 = i + w + 1 + 1 by omega]
      omega
    have hmod : m / 4294967296 ^ (w + i + 1) % 2 ^ s = v % 2 ^ s := by rw [hd2, mod_pow_limb _ _ _ hs]
    obtain ⟨q1, q2⟩ := shr_parts (m / 4294967296 ^ (w + i + 1)) u 0 s hs hul
    obtain ⟨q3, q4⟩ := shr_parts v u 0 s hs hul
    rw [hmod] at q1 q2
    have hsh : shr .u64 ((v : Int) * 4294967296 + u) (s : Int) = (((u + 4294967296 * v) / 2 ^ s : Nat) : Int) := by
      unfold shr
      rw [Int.toNat_natCast, show min s IntKind.u64.bits = s from Nat.min_eq_left (by simp [IntKind.bits]; omega), Int.natCast_ediv, Int.natCast_pow]
      congr 1
      omega
    have hle : (u + 4294967296 * v) / 2 ^ s ≤ u + 4294967296 * v := Nat.div_le_self _ _
    have hand : Go.bits .and .u64 (((u + 4294967296 * v) / 2 ^ s : Nat) : Int) 4294967295 = (((u + 4294967296 * (v % 2 ^ s)) / 2 ^ s : Nat) : Int) :=
      and_part q3 q4 (Nat.le_trans hle (by omega))
    refine Ev.succ ?_
    have hlim := nat_limb_f (D m) (i + w + 1)
    have elim : ((i : Int) + (w : Int) + 1) = ((i + w + 1 : Nat) : Int) := by omega
    simp (disch := omega) only [nat_shr.l0, if_pos, w64, elim, hlim, Option.bind_some, rd_add, rd_nat, hu, hv1, u64w, or32, hsh, hand, Int.toNat_natCast]
    clear hsh hand hle q3 q4 hmod hd2 hlim elim
    generalize (u + 4294967296 * (v % 2 ^ s)) / 2 ^ s = r at *
    have hlen : (out.length : Int) = ((out.set i (r : Int)).length : Int) := by rw [List.length_set]
    rw [hlen]
    refine ih (i + 1) _ (by omega) (by rw [List.length_set]; exact ho) (hd.set _ (by omega) (by omega)) ?_
    rw [set_take _ (by omega), vl_snoc, List.length_take, Nat.min_eq_left (by omega), ← hv, hd1, q1, Int.pow_succ, Int.natCast_add, Int.natCast_mul]
    rw [show w + (i + 1) = w + i + 1 by omega]
    grind
theorem nat_shr_D {m n : Nat} (hl : L m ≤ 35184372088832) (hn : n ≤ 9223372036854775807) : Ev (fun k => nat_shr.f k (D m) (n : Int)) (D (m / 2 ^ n)) := by
  have hl' : (D m).length ≤ 35184372088832 := hl
  have e : m / 2 ^ n = m / 4294967296 ^ (n / 32) / 2 ^ (n % 32) := by
    rw [Nat.div_div_eq_div_mul, show (4294967296 : Nat) = 2 ^ 32 from rfl, ← Nat.pow_mul, ← Nat.pow_add, show 32 * (n / 32) + n % 32 = n by omega]
  unfold nat_shr.f
  have e1 : Int.tdiv (n : Int) 32 = ((n / 32 : Nat) : Int) := by rw [tdiv_pos (by omega)]; omega
  have e2 : Int.tmod (n : Int) 32 = ((n % 32 : Nat) : Int) := by rw [tmod_pos (by omega)]; omega
  have e3 : wrap64 ((n / 32 : Nat) : Int) = ((n / 32 : Nat) : Int) := w64 (by omega) (by omega)
  simp only [e1, e2, e3]
  clear e1 e2 e3
  by_cases h : n / 32 ≥ (D m).length
  · refine Ev.pos (by omega) (Ev.eq (Ev.ret _) ?_)
    have : m / 4294967296 ^ (n / 32) = 0 := by
      apply Nat.div_eq_of_lt
      exact Nat.lt_of_lt_of_le (L_lt m) (Nat.pow_le_pow_right (by decide) h)
    rw [e, this, Nat.zero_div, D_zero]
  · refine Ev.neg (by omega) ?_
    have e4 : wrap64 (((D m).length : Int) - ((n / 32 : Nat) : Int)) = (((D m).length - n / 32 : Nat) : Int) := by rw [w64 (by omega) (by omega)]; omega
    simp (disch := omega) only [e4, if_pos, Int.toNat_natCast, Option.bind_some]
    clear e4
    rw [e]
    refine nat_shr_l0 hl' (Nat.mod_lt n (by decide)) (by omega) ((D m).length - n / 32) 0 _ (by omega) (by rw [List.length_replicate]) (Dg.Dig.replicate (by decide) _) ?_
    simp [Dg.vl]
end Go.Proofs.Ytfnhpojoaaegmaa.V
set_option linter.unusedVariables false
set_option linter.unusedSimpArgs false
namespace Dg
theorem dig_ext {B : Int} (hB : 0 < B) {l m : List Int} (hl : Dig B l) (hm : Dig B m) (hlen : l.length = m.length) (h : vl B l = vl B m) : l = m := by
  induction l generalizing m with
  | nil => cases m with
    | nil => rfl
    | cons y s => simp at hlen
  | cons x r ih =>
    cases m with
    | nil => simp at hlen
    | cons y s =>
      have hx := hl x (by simp)
      have hy := hm y (by simp)
      have hr : Dig B r := fun z hz => hl z (by simp [hz])
      have hs : Dig B s := fun z hz => hm z (by simp [hz])
      simp only [vl] at h
      have e : vl B r = vl B s := by
        rcases Int.lt_trichotomy (vl B r) (vl B s) with g | g | g
        · have : B * (vl B r + 1) ≤ B * vl B s := Int.mul_le_mul_of_nonneg_left (by omega) (by omega)
          rw [Int.mul_add] at this
          omega
        · exact g
        · have : B * (vl B s + 1) ≤ B * vl B r := Int.mul_le_mul_of_nonneg_left (by omega) (by omega)
          rw [Int.mul_add] at this
          omega
      rw [e] at h
      have hxy : x = y := by omega
      subst hxy
      rw [ih hr hs (by simpa using hlen) e]
theorem dig_exists {B : Int} (hB : 0 < B) (n : Nat) (x : Int) (h0 : 0 ≤ x) (h1 : x < B ^ n) : ∃ l : List Int, l.length = n ∧ Dig B l ∧ vl B l = x := by
  induction n generalizing x with
  | zero =>
    refine ⟨[], rfl, Dig.nil, ?_⟩
    simp only [Int.pow_zero] at h1
    simp only [vl]
    omega
  | succ n ih =>
    have hq : x / B < B ^ n := by
      apply Int.ediv_lt_of_lt_mul hB
      rw [← Int.pow_succ]
      exact h1
    obtain ⟨l, hl, hd, hv⟩ := ih (x / B) (Int.ediv_nonneg h0 (by omega)) hq
    refine ⟨(x % B) :: l, by simp [hl], Dig.cons (Int.emod_nonneg x (by omega)) (Int.emod_lt_of_pos x hB) hd, ?_⟩
    rw [vl, hv]
    have := Int.mul_ediv_add_emod x B
    omega
theorem pow_mono {B : Int} (hB : 1 ≤ B) {m n : Nat} (h : m ≤ n) : B ^ m ≤ B ^ n := by
  obtain ⟨d, rfl⟩ := Nat.exists_eq_add_of_le h
  rw [Int.pow_add]
  have h1 : 0 < B ^ m := Int.pow_pos (by omega)
  have h2 : 1 ≤ B ^ d := by
    have : 0 < B ^ d := Int.pow_pos (by omega)
    omega
  have := Int.mul_le_mul_of_nonneg_left h2 (Int.le_of_lt h1)
  omega
end Dg
namespace Go.Proofs.Ytfnhpojoaaegmaa.V
open Go.RowKit Go.Proofs.Ytfnhpojoaaegmaa.P Go.Proofs.YtfnhpojoaaegmaaW.PrintWords Go.Proofs.YtfnhpojoaaegmaaW.PrintMore
theorem nat_take_l0 {u v : List Int} (hu : Dg.Dig 4294967296 u) (hv : Dg.Dig 4294967296 v) (hl : u.length ≤ 35184372088832) (hlv : v.length < u.length) {g : Int} (hg0 : 0 ≤ g) (hg1 : g ≤ 4294967295) {r : List Int} {b : Bool}
    (hr : ∀ (out : List Int) (c : Int), out.length = u.length → Dg.Dig 4294967296 out → 0 ≤ c → c ≤ 1 → Dg.vl 4294967296 out = Dg.vl 4294967296 u - g * Dg.vl 4294967296 v + c * 4294967296 ^ u.length → (c == 1, out) = (b, r)) :
    ∀ (d i : Nat) (out : List Int) (c e : Int), i + d = u.length → out.length = u.length → Dg.Dig 4294967296 out → 0 ≤ c → c ≤ 4294967295 → (i = u.length → c = 0) → 0 ≤ e → e ≤ 1 → (∀ j, i ≤ j → out.getD j 0 = u.getD j 0) →
    Dg.vl 4294967296 (out.take i) = Dg.vl 4294967296 (u.take i) - g * Dg.vl 4294967296 (v.take i) + (c + e) * 4294967296 ^ i →
    Ev (fun k => nat_take.l0 k out v g c e (u.length : Int) (i : Int)) (b, r) := by
  intro d
  induction d with
  | zero =>
    intro i out c e hi ho hd hc0 hc1 hc9 he0 he1 hsame hval
    have hc := hc9 (by omega)
    subst hc
    refine Ev.succ ?_
    simp (disch := omega) only [nat_take.l0, if_neg]
    refine Ev.eq (Ev.ret _) (hr out e ho hd he0 he1 ?_)
    rw [List.take_of_length_le (by omega), List.take_of_length_le (by omega), List.take_of_length_le (by omega), show i = u.length by omega] at hval
    rw [hval, Int.zero_add]
  | succ d ih =>
    intro i out c e hi ho hd hc0 hc1 hc9 he0 he1 hsame hval
    have gu := hu.getD (by decide) i
    have gv := hv.getD (by decide) i
    have hs := hsame i (Nat.le_refl _)
    have hx := mul_bound hg0 hg1 gv.1 (show v.getD i 0 ≤ 4294967295 by omega)
    have hx2 : g * v.getD i 0 ≤ 4294967295 * 4294967295 := hx.2
    refine Ev.succ ?_
    simp (disch := omega) only [nat_take.l0, if_pos, nat_limb_f, Option.bind_some, rd_nat, hs, u64w, and32, w64succ, Int.toNat_natCast]
    generalize hp : g * v.getD i 0 = p at *
    have hcz : i + 1 = u.length → (c + p) / 4294967296 = 0 := by
      intro h1
      have h2 := getD_beyond (l := v) (i := i) (by omega)
      rw [h2, Int.mul_zero] at hp
      omega
    refine ih (i + 1) _ _ _ (by omega) (by rw [List.length_set]; exact ho) (hd.set _ (by omega) (by omega)) (by omega) (by omega) hcz (by omega) (by omega) ?_ ?_
    · intro j hj
      rw [Dg.getD_set _ _ _ _ (by omega), if_neg (by omega)]
      exact hsame j (by omega)
    · rw [set_take _ (by omega), vl_snoc, List.length_take, Nat.min_eq_left (by omega), hval, Dg.vl_take_succ, Dg.vl_take_succ, Int.pow_succ]
      have h1 := Int.mul_ediv_add_emod (c + p) 4294967296
      have h2 := Int.mul_ediv_add_emod (4294967296 + u.getD i 0 - (c + p) % 4294967296 - e) 4294967296
      generalize (4294967296 + u.getD i 0 - (c + p) % 4294967296 - e) / 4294967296 = y at *
      generalize (4294967296 + u.getD i 0 - (c + p) % 4294967296 - e) % 4294967296 = z at *
      generalize (c + p) / 4294967296 = cq at *
      generalize (c + p) % 4294967296 = cr at *
      rw [Int.mul_add, ← Int.mul_assoc g, hp]
      grind
theorem nat_take_f {u v : List Int} (hu : Dg.Dig 4294967296 u) (hv : Dg.Dig 4294967296 v) (hl : u.length ≤ 35184372088832) (hlv : v.length < u.length) {g : Int} (hg0 : 0 ≤ g) (hg1 : g ≤ 4294967295) :
    ∃ (out : List Int) (c : Int), Ev (fun k => nat_take.f k u v g) (c == 1, out) ∧ out.length = u.length ∧ Dg.Dig 4294967296 out ∧ 0 ≤ c ∧ c ≤ 1 ∧ Dg.vl 4294967296 out = Dg.vl 4294967296 u - g * Dg.vl 4294967296 v + c * 4294967296 ^ u.length := by
  -- the result is told by the value alone: it is unique
  have huniq : ∀ (o1 o2 : List Int) (c1 c2 : Int), o1.length = u.length → o2.length = u.length → Dg.Dig 4294967296 o1 → Dg.Dig 4294967296 o2 → Dg.vl 4294967296 o1 = Dg.vl 4294967296 u - g * Dg.vl 4294967296 v + c1 * 4294967296 ^ u.length → Dg.vl 4294967296 o2 = Dg.vl 4294967296 u - g * Dg.vl 4294967296 v + c2 * 4294967296 ^ u.length → c1 = c2 ∧ o1 = o2 := by
    intro o1 o2 c1 c2 h1 h2 d1 d2 v1 v2
    have a1 := Dg.vl_nonneg d1 (by decide)
    have a2 := Dg.vl_nonneg d2 (by decide)
    have b1 := Dg.vl_lt d1 (by decide)
    have b2 := Dg.vl_lt d2 (by decide)
    rw [h1] at b1
    rw [h2] at b2
    generalize (4294967296 : Int) ^ u.length = P at *
    generalize Dg.vl 4294967296 u - g * Dg.vl 4294967296 v = S at *
    have hc : c1 = c2 := by
      rcases Int.lt_trichotomy c1 c2 with h | h | h
      · have : (c1 + 1) * P ≤ c2 * P := Int.mul_le_mul_of_nonneg_right (by omega) (by omega)
        rw [Int.add_mul] at this
        omega
      · exact h
      · have : (c2 + 1) * P ≤ c1 * P := Int.mul_le_mul_of_nonneg_right (by omega) (by omega)
        rw [Int.add_mul] at this
        omega
    subst hc
    refine ⟨rfl, Dg.dig_ext (by decide) d1 d2 (h1.trans h2.symm) (v1.trans v2.symm)⟩
  obtain ⟨o, c, ho, hd, hc0, hc1, hv1⟩ : ∃ (out : List Int) (c : Int), out.length = u.length ∧ Dg.Dig 4294967296 out ∧ 0 ≤ c ∧ c ≤ 1 ∧ Dg.vl 4294967296 out = Dg.vl 4294967296 u - g * Dg.vl 4294967296 v + c * 4294967296 ^ u.length := by
    have a1 := Dg.vl_nonneg hu (by decide)
    have a2 := Dg.vl_lt hu (by decide)
    have b1 := Dg.vl_nonneg hv (by decide)
    have b2 := Dg.vl_lt hv (by decide)
    have hgv : g * Dg.vl 4294967296 v < 4294967296 ^ u.length := by
      have e1 : (4294967296 : Int) ^ (v.length + 1) ≤ 4294967296 ^ u.length := Dg.pow_mono (by decide) (by omega)
      rw [Int.pow_succ, Int.mul_comm] at e1
      have e2 : g * Dg.vl 4294967296 v ≤ 4294967295 * Dg.vl 4294967296 v := Int.mul_le_mul_of_nonneg_right hg1 b1
      omega
    have hgv0 : 0 ≤ g * Dg.vl 4294967296 v := Int.mul_nonneg hg0 b1
    by_cases h : g * Dg.vl 4294967296 v ≤ Dg.vl 4294967296 u
    · obtain ⟨o, h1, h2, h3⟩ := Dg.dig_exists (B := 4294967296) (by decide) u.length (Dg.vl 4294967296 u - g * Dg.vl 4294967296 v) (by omega) (by omega)
      exact ⟨o, 0, h1, h2, by omega, by omega, by rw [h3]; omega⟩
    · obtain ⟨o, h1, h2, h3⟩ := Dg.dig_exists (B := 4294967296) (by decide) u.length (Dg.vl 4294967296 u - g * Dg.vl 4294967296 v + 4294967296 ^ u.length) (by omega) (by omega)
      exact ⟨o, 1, h1, h2, by omega, by omega, by rw [h3]; omega⟩
  refine ⟨o, c, ?_, ho, hd, hc0, hc1, hv1⟩
  unfold nat_take.f
  refine nat_take_l0 hu hv hl hlv hg0 hg1 (r := o) (b := c == 1) ?_ u.length 0 u 0 0 (by omega) rfl hu (by omega) (by omega) (by omega) (by omega) (by omega) (fun j _ => rfl) (by simp [Dg.vl])
  intro out c' h1 h2 h3 h4 h5
  obtain ⟨rfl, rfl⟩ := huniq out o c' c h1 ho h2 hd h5 hv1
  rfl
theorem nat_give_l0 {u v : List Int} (hu : Dg.Dig 4294967296 u) (hv : Dg.Dig 4294967296 v) (hl : u.length ≤ 35184372088832) {r : List Int}
    (hr : ∀ (out : List Int) (c : Int), out.length = u.length → Dg.Dig 4294967296 out → 0 ≤ c → c ≤ 1 → Dg.vl 4294967296 out + c * 4294967296 ^ u.length = Dg.vl 4294967296 u + Dg.vl 4294967296 (v.take u.length) → out = r) :
    ∀ (d i : Nat) (out : List Int) (c : Int), i + d = u.length → out.length = u.length → Dg.Dig 4294967296 out → 0 ≤ c → c ≤ 1 → (∀ j, i ≤ j → out.getD j 0 = u.getD j 0) →
    Dg.vl 4294967296 (out.take i) + c * 4294967296 ^ i = Dg.vl 4294967296 (u.take i) + Dg.vl 4294967296 (v.take i) →
    Ev (fun k => nat_give.l0 k out v c (u.length : Int) (i : Int)) r := by
  intro d
  induction d with
  | zero =>
    intro i out c hi ho hd hc0 hc1 hsame hval
    refine Ev.succ ?_
    simp (disch := omega) only [nat_give.l0, if_neg]
    refine Ev.eq (Ev.ret _) (hr out c ho hd hc0 hc1 ?_)
    rw [List.take_of_length_le (by omega), List.take_of_length_le (l := u) (by omega), show i = u.length by omega] at hval
    exact hval
  | succ d ih =>
    intro i out c hi ho hd hc0 hc1 hsame hval
    have gu := hu.getD (by decide) i
    have gv := hv.getD (by decide) i
    have hs := hsame i (Nat.le_refl _)
    refine Ev.succ ?_
    simp (disch := omega) only [nat_give.l0, if_pos, nat_limb_f, Option.bind_some, rd_nat, hs, u64w, and32, w64succ, Int.toNat_natCast]
    refine ih (i + 1) _ _ (by omega) (by rw [List.length_set]; exact ho) (hd.set _ (by omega) (by omega)) (by omega) (by omega) ?_ ?_
    · intro j hj
      rw [Dg.getD_set _ _ _ _ (by omega), if_neg (by omega)]
      exact hsame j (by omega)
    · rw [set_take _ (by omega), vl_snoc, List.length_take, Nat.min_eq_left (by omega), Dg.vl_take_succ, Dg.vl_take_succ, Int.pow_succ]
      have h1 := Int.mul_ediv_add_emod (c + (u.getD i 0 + v.getD i 0)) 4294967296
      grind
theorem knuth_gt {g U3 P Ul V2 Vl : Int} (hg : 0 ≤ g) (hP : 0 < P) (hUl : Ul < P) (hVl : 0 ≤ Vl) (h : U3 < g * V2) : U3 * P + Ul < g * (V2 * P + Vl) := by
  have h1 : (U3 + 1) * P ≤ g * V2 * P := Int.mul_le_mul_of_nonneg_right (by omega) (by omega)
  have h2 : 0 ≤ g * Vl := Int.mul_nonneg hg hVl
  grind
theorem knuth_le {g U3 P Ul V2 Vl B : Int} (hg : 1 ≤ g) (hgB : g ≤ B) (hP : 0 < P) (hUl : 0 ≤ Ul) (hVl0 : 0 ≤ Vl) (hVl : Vl < P) (hB : B ≤ V2) (h : g * V2 ≤ U3) : (g - 1) * (V2 * P + Vl) ≤ U3 * P + Ul := by
  have h1 : g * V2 * P ≤ U3 * P := Int.mul_le_mul_of_nonneg_right h (by omega)
  have h2 : (g - 1) * Vl ≤ (g - 1) * P := Int.mul_le_mul_of_nonneg_left (by omega) (by omega)
  have h3 : g * P ≤ V2 * P := Int.mul_le_mul_of_nonneg_right (by omega) (by omega)
  grind
theorem nat_digit_j2 {u v : List Int} (hu : Dg.Dig 4294967296 u) (hv : Dg.Dig 4294967296 v) {p : Nat} (hul : u.length = p + 3) (hvl : v.length = p + 2) (hl : u.length ≤ 35184372088832) {g q : Int} (hg0 : 0 ≤ g) (hg1 : g ≤ 4294967295) (hq0 : 0 ≤ q)
    (hq : 0 ≤ Dg.vl 4294967296 u - q * Dg.vl 4294967296 v) (hq2 : Dg.vl 4294967296 u - q * Dg.vl 4294967296 v < Dg.vl 4294967296 v) (hgq : g = q ∨ g = q + 1) :
    ∃ r : List Int, Ev (fun k => nat_digit.j2 k u v g) (q, r) ∧ r.length = u.length ∧ Dg.Dig 4294967296 r ∧ Dg.vl 4294967296 r = Dg.vl 4294967296 u - q * Dg.vl 4294967296 v := by
  obtain ⟨o, c, he, ho, hd, hc0, hc1, hval⟩ := nat_take_f hu hv hl (by omega) hg0 hg1
  have o0 := Dg.vl_nonneg hd (by decide)
  have o1 := Dg.vl_lt hd (by decide)
  rw [ho] at o1
  have v0 := Dg.vl_nonneg hv (by decide)
  have v1 := Dg.vl_lt hv (by decide)
  have v2 : (4294967296 : Int) ^ v.length ≤ 4294967296 ^ u.length := Dg.pow_mono (by decide) (by omega)
  rcases hgq with rfl | rfl
  · have hc : c = 0 := by
      rcases (show c = 0 ∨ c = 1 by omega) with h | h
      · exact h
      · subst h
        omega
    subst hc
    refine ⟨o, Ev.succ ?_, ho, hd, by omega⟩
    simp only [nat_digit.j2]
    refine Ev.bind he ?_
    exact Ev.ret _
  · have hc : c = 1 := by
      rcases (show c = 0 ∨ c = 1 by omega) with h | h
      · subst h
        rw [Int.add_mul] at hval
        omega
      · exact h
    subst hc
    rw [Int.add_mul, Int.one_mul, Int.one_mul] at hval
    obtain ⟨r, hr1, hr2, hr3⟩ := Dg.dig_exists (B := 4294967296) (by decide) u.length (Dg.vl 4294967296 u - q * Dg.vl 4294967296 v) hq (by omega)
    refine ⟨r, Ev.succ ?_, hr1, hr2, hr3⟩
    simp only [nat_digit.j2]
    refine Ev.bind he ?_
    simp only [beq_self_eq_true, if_true]
    have hgive : Ev (fun k => nat_give.f k o v) r := by
      unfold nat_give.f
      refine nat_give_l0 hd hv (by omega) (r := r) ?_ o.length 0 o 0 (by omega) rfl hd (by omega) (by omega) (fun j _ => rfl) (by simp [Dg.vl])
      intro out c' h1 h2 h3 h4 h5
      have a0 := Dg.vl_nonneg h2 (by decide)
      have a1 := Dg.vl_lt h2 (by decide)
      rw [h1, ho] at a1
      rw [List.take_of_length_le (by omega), hval, ho] at h5
      have : c' = 1 := by
        rcases (show c' = 0 ∨ c' = 1 by omega) with h | h
        · subst h
          omega
        · exact h
      subst this
      exact Dg.dig_ext (by decide) h2 hr2 (by omega) (by rw [hr3]; omega)
    refine Ev.bind hgive ?_
    refine Ev.eq (Ev.ret _) ?_
    rw [u64w (by omega) (by omega)]
    simp
theorem vl_three {l : List Int} {p : Nat} (h : l.length = p + 3) : Dg.vl 4294967296 l = (l.getD (p + 2) 0 * 4294967296 * 4294967296 + l.getD (p + 1) 0 * 4294967296 + l.getD p 0) * 4294967296 ^ p + Dg.vl 4294967296 (l.take p) := by
  have h1 : l.take (p + 3) = l := List.take_of_length_le (by omega)
  conv => lhs; rw [← h1]
  rw [Dg.vl_take_succ, Dg.vl_take_succ, Dg.vl_take_succ, Int.pow_succ, Int.pow_succ]
  grind
theorem vl_two {l : List Int} {p : Nat} (h : l.length = p + 2) : Dg.vl 4294967296 l = (l.getD (p + 1) 0 * 4294967296 + l.getD p 0) * 4294967296 ^ p + Dg.vl 4294967296 (l.take p) := by
  have h1 : l.take (p + 2) = l := List.take_of_length_le (by omega)
  conv => lhs; rw [← h1]
  rw [Dg.vl_take_succ, Dg.vl_take_succ, Int.pow_succ]
  grind
theorem nat_digit_f {u v : List Int} (hu : Dg.Dig 4294967296 u) (hv : Dg.Dig 4294967296 v) {p : Nat} (hul : u.length = p + 3) (hvl : v.length = p + 2) (hl : u.length ≤ 35184372088832) (hn : 2147483648 ≤ v.getD (p + 1) 0) {q : Int} (hq0 : 0 ≤ q) (hq1 : q ≤ 4294967295)
    (hq : 0 ≤ Dg.vl 4294967296 u - q * Dg.vl 4294967296 v) (hq2 : Dg.vl 4294967296 u - q * Dg.vl 4294967296 v < Dg.vl 4294967296 v) :
    ∃ r : List Int, Ev (fun k => nat_digit.f k u v) (q, r) ∧ r.length = u.length ∧ Dg.Dig 4294967296 r ∧ Dg.vl 4294967296 r = Dg.vl 4294967296 u - q * Dg.vl 4294967296 v := by
  have gu0 := hu.getD (by decide) p
  have gu1 := hu.getD (by decide) (p + 1)
  have gu2 := hu.getD (by decide) (p + 2)
  have gv0 := hv.getD (by decide) p
  have gv1 := hv.getD (by decide) (p + 1)
  have hU := vl_three hul
  have hV := vl_two hvl
  have l0 := Dg.vl_nonneg (hu.take p) (by decide)
  have l1 := Dg.vl_lt (hu.take p) (by decide)
  have m0 := Dg.vl_nonneg (hv.take p) (by decide)
  have m1 := Dg.vl_lt (hv.take p) (by decide)
  rw [List.length_take, Nat.min_eq_left (by omega)] at l1 m1
  have hP : 0 < (4294967296 : Int) ^ p := Int.pow_pos (by decide)
  -- what j2 gives for any guess that is q or one more
  obtain ⟨r, hrlen, hrd, hrv⟩ := Dg.dig_exists (B := 4294967296) (by decide) u.length (Dg.vl 4294967296 u - q * Dg.vl 4294967296 v) hq (by
    have v1 := Dg.vl_lt hv (by decide)
    have v2 : (4294967296 : Int) ^ v.length ≤ 4294967296 ^ u.length := Dg.pow_mono (by decide) (by omega)
    omega)
  have j2 : ∀ g : Int, 0 ≤ g → g ≤ 4294967295 → g = q ∨ g = q + 1 → Ev (fun k => nat_digit.j2 k u v g) (q, r) := by
    intro g h0 h1 h2
    obtain ⟨r', e1, e2, e3, e4⟩ := nat_digit_j2 hu hv hul hvl hl h0 h1 hq0 hq hq2 h2
    have : r' = r := Dg.dig_ext (by decide) e3 hrd (e2.trans hrlen.symm) (e4.trans hrv.symm)
    rwa [this] at e1
  refine ⟨r, ?_, hrlen, hrd, hrv⟩
  generalize h_u2 : u.getD (p + 2) 0 = u2 at *
  generalize h_u1 : u.getD (p + 1) 0 = u1 at *
  generalize h_u0 : u.getD p 0 = u0 at *
  generalize h_v1 : v.getD (p + 1) 0 = v1 at *
  generalize h_v0 : v.getD p 0 = v0 at *
  generalize h_UL : Dg.vl 4294967296 (u.take p) = UL at *
  generalize h_VL : Dg.vl 4294967296 (v.take p) = VL at *
  generalize h_P : (4294967296 : Int) ^ p = P at *
  -- the top limb is not above the divisor's
  have htop : u2 * 4294967296 + u1 ≤ v1 * 4294967296 + 4294967295 := by
    have hlt : Dg.vl 4294967296 u < 4294967296 * Dg.vl 4294967296 v := by
      have : (q + 1) * Dg.vl 4294967296 v ≤ 4294967296 * Dg.vl 4294967296 v := Int.mul_le_mul_of_nonneg_right (by omega) (by
        rw [hV]
        have : 0 ≤ (v1 * 4294967296 + v0) * P := Int.mul_nonneg (by omega) (by omega)
        omega)
      rw [Int.add_mul] at this
      omega
    rw [hU, hV] at hlt
    apply Classical.byContradiction
    intro hc
    have h1 : (v1 + 1) * 4294967296 ≤ u2 * 4294967296 + u1 := by omega
    have h2 : (v1 + 1) * 4294967296 * 4294967296 * P ≤ (u2 * 4294967296 * 4294967296 + u1 * 4294967296 + u0) * P := Int.mul_le_mul_of_nonneg_right (by omega) (by omega)
    have h3 : (v1 * 4294967296 + v0 + 1) * P ≤ (v1 + 1) * 4294967296 * P := Int.mul_le_mul_of_nonneg_right (by omega) (by omega)
    grind
  -- the loop
  have loop : ∀ (d : Nat) (g s : Int), g.toNat ≤ d → q ≤ g → g * v1 + s = u2 * 4294967296 + u1 → 0 ≤ s → s < 4294967296 → g ≤ 4294967297 → Ev (fun k => nat_digit.l0 k u v ((p + 2 : Nat) : Int) g s) (q, r) := by
    intro d
    induction d with
    | zero =>
      intro g s hd hqg hgs hs0 hs1 hg
      have hg0 : g = 0 := by omega
      subst hg0
      have e1 : wrap64 (((p + 2 : Nat) : Int) - 2) = (p : Int) := by rw [w64 (by omega) (by omega)]; omega
      have hor : Go.bits .or .u64 (IntKind.u64.wrap (s * 4294967296)) u0 = s * 4294967296 + u0 := by rw [u64w (by omega) (by omega), or32 (by omega) (by omega) (by omega) (by omega)]
      refine Ev.succ ?_
      simp (disch := omega) only [nat_digit.l0, if_neg, if_pos, e1, rd_nat, h_u0, h_v0, hor]
      have : decide (IntKind.u64.wrap (0 * v0) > s * 4294967296 + u0) = false := decide_eq_false (by rw [Int.zero_mul, u64w (by omega) (by omega)]; omega)
      rw [this]
      refine Ev.succ ?_
      simp only [nat_digit.j1, Bool.false_eq_true, if_false]
      exact j2 0 (by omega) (by omega) (.inl (by omega))
    | succ d ih =>
      intro g s hd hqg hgs hs0 hs1 hg
      have hg0 : 0 ≤ g := by omega
      have e1 : wrap64 (((p + 2 : Nat) : Int) - 2) = (p : Int) := by rw [w64 (by omega) (by omega)]; omega
      have e2 : wrap64 (((p + 2 : Nat) : Int) - 1) = ((p + 1 : Nat) : Int) := by rw [w64 (by omega) (by omega)]; omega
      have hor : Go.bits .or .u64 (IntKind.u64.wrap (s * 4294967296)) u0 = s * 4294967296 + u0 := by rw [u64w (by omega) (by omega), or32 (by omega) (by omega) (by omega) (by omega)]
      have hgv : 0 ≤ g * v0 ∧ g * v0 ≤ 4294967297 * 4294967295 :=
        ⟨Int.mul_nonneg hg0 (by omega), Int.le_trans (Int.mul_le_mul_of_nonneg_right hg (by omega)) (Int.mul_le_mul_of_nonneg_left (by omega) (by decide))⟩
      have hgv' : g * v0 ≤ 18446744073709551615 := Int.le_trans hgv.2 (by decide)
      have hw : IntKind.u64.wrap (g * v0) = g * v0 := u64w hgv.1 hgv'
      -- a guess that is too great goes down
      have down : q < g → Ev (fun k => nat_digit.j1 k u v ((p + 2 : Nat) : Int) g s true) (q, r) := by
        intro hlt
        have hw2 : IntKind.u64.wrap (s + v1) = s + v1 := u64w (by omega) (by omega)
        have hw3 : IntKind.u64.wrap (g - 1) = g - 1 := u64w (by omega) (by omega)
        have hgs2 : (g - 1) * v1 + (s + v1) = u2 * 4294967296 + u1 := by rw [← hgs]; grind
        refine Ev.succ ?_
        simp (disch := omega) only [nat_digit.j1, if_true, if_pos, e2, rd_nat, h_v1, hw2, hw3]
        by_cases hbr : s + v1 ≥ 4294967296
        · refine Ev.pos hbr ?_
          have hgB : g - 1 ≤ 4294967295 := by
            apply Classical.byContradiction
            intro hc
            have : 4294967296 * v1 ≤ (g - 1) * v1 := Int.mul_le_mul_of_nonneg_right (by omega) (by omega)
            omega
          refine j2 (g - 1) (by omega) hgB ?_
          -- (g - 1) * v0 is not above what is left
          have hle : (g - 1) * (v1 * 4294967296 + v0) ≤ u2 * 4294967296 * 4294967296 + u1 * 4294967296 + u0 := by
            have h1 : (g - 1) * v0 ≤ 4294967295 * 4294967295 := Int.le_trans (Int.mul_le_mul_of_nonneg_right hgB (by omega)) (Int.mul_le_mul_of_nonneg_left (by omega) (by decide))
            have h2 : (g - 1) * (v1 * 4294967296 + v0) = (g - 1) * v1 * 4294967296 + (g - 1) * v0 := by grind
            rw [h2]
            generalize (g - 1) * v1 = X at *
            generalize (g - 1) * v0 = Y at *
            omega
          rcases Int.lt_or_le 0 (g - 1) with h0 | h0
          · have h5 := knuth_le (g := g - 1) (U3 := u2 * 4294967296 * 4294967296 + u1 * 4294967296 + u0) (P := P) (Ul := UL) (V2 := v1 * 4294967296 + v0) (Vl := VL) (B := 4294967296) (by omega) (by omega) hP l0 m0 m1 (by omega) hle
            rw [← hU, ← hV] at h5
            rcases Int.lt_or_le (g - 1) (q + 2) with h6 | h6
            · omega
            · have : (q + 1) * Dg.vl 4294967296 v ≤ (g - 1 - 1) * Dg.vl 4294967296 v := Int.mul_le_mul_of_nonneg_right (by omega) (Dg.vl_nonneg hv (by decide))
              rw [Int.add_mul] at this
              omega
          · omega
        · refine Ev.neg hbr ?_
          exact ih (g - 1) (s + v1) (by omega) (by omega) hgs2 (by omega) (by omega) (by omega)
      refine Ev.succ ?_
      simp only [nat_digit.l0]
      by_cases hbig : g ≥ 4294967296
      · refine Ev.pos hbig (down (by omega))
      · refine Ev.neg hbig ?_
        simp (disch := omega) only [if_pos, e1, rd_nat, h_u0, h_v0, hor, hw]
        by_cases hgt : g * v0 > s * 4294967296 + u0
        · rw [decide_eq_true hgt]
          refine down ?_
          have h4 : u2 * 4294967296 * 4294967296 + u1 * 4294967296 + u0 < g * (v1 * 4294967296 + v0) := by
            have h2 : g * (v1 * 4294967296 + v0) = g * v1 * 4294967296 + g * v0 := by grind
            rw [h2]
            generalize g * v1 = X at *
            omega
          have h5 := knuth_gt (Ul := UL) (Vl := VL) hg0 hP l1 m0 h4
          rw [← hU, ← hV] at h5
          apply Classical.byContradiction
          intro hc
          have : g * Dg.vl 4294967296 v ≤ q * Dg.vl 4294967296 v := Int.mul_le_mul_of_nonneg_right (by omega) (Dg.vl_nonneg hv (by decide))
          omega
        · rw [decide_eq_false hgt]
          refine Ev.succ ?_
          simp only [nat_digit.j1, Bool.false_eq_true, if_false]
          refine j2 g hg0 (by omega) ?_
          have hle : g * (v1 * 4294967296 + v0) ≤ u2 * 4294967296 * 4294967296 + u1 * 4294967296 + u0 := by
            have h2 : g * (v1 * 4294967296 + v0) = g * v1 * 4294967296 + g * v0 := by grind
            rw [h2]
            generalize g * v1 = X at *
            omega
          rcases Int.lt_or_le 0 g with h0 | h0
          · have h5 := knuth_le (g := g) (U3 := u2 * 4294967296 * 4294967296 + u1 * 4294967296 + u0) (P := P) (Ul := UL) (V2 := v1 * 4294967296 + v0) (Vl := VL) (B := 4294967296) (by omega) (by omega) hP l0 m0 m1 (by omega) hle
            rw [← hU, ← hV] at h5
            rcases Int.lt_or_le g (q + 2) with h6 | h6
            · omega
            · have : (q + 1) * Dg.vl 4294967296 v ≤ (g - 1) * Dg.vl 4294967296 v := Int.mul_le_mul_of_nonneg_right (by omega) (Dg.vl_nonneg hv (by decide))
              rw [Int.add_mul] at this
              omega
          · omega
  unfold nat_digit.f
  have e0 : (v.length : Int) = ((p + 2 : Nat) : Int) := by omega
  have e0u : (u.length : Int) = ((p + 3 : Nat) : Int) := by omega
  have e2 : wrap64 (((p + 2 : Nat) : Int) - 1) = ((p + 1 : Nat) : Int) := by rw [w64 (by omega) (by omega)]; omega
  have hor : Go.bits .or .u64 (IntKind.u64.wrap (u2 * 4294967296)) u1 = u2 * 4294967296 + u1 := by rw [u64w (by omega) (by omega), or32 (by omega) (by omega) (by omega) (by omega)]
  have t0 : 0 ≤ u2 * 4294967296 + u1 := by omega
  have d0 : 0 ≤ (u2 * 4294967296 + u1) / v1 := Int.ediv_nonneg t0 (by omega)
  have r0 := Int.emod_nonneg (u2 * 4294967296 + u1) (show v1 ≠ 0 by omega)
  have r1 := Int.emod_lt_of_pos (u2 * 4294967296 + u1) (show 0 < v1 by omega)
  have hqr := Int.mul_ediv_add_emod (u2 * 4294967296 + u1) v1
  have d1 : (u2 * 4294967296 + u1) / v1 ≤ 4294967297 := by
    have : (u2 * 4294967296 + u1) / v1 < 4294967298 := by
      apply Int.ediv_lt_of_lt_mul (by omega)
      omega
    omega
  have d2 : (u2 * 4294967296 + u1) / v1 ≤ 18446744073709551615 := by omega
  simp only [e0, e0u]
  simp (disch := omega) only [if_pos, if_neg, e2, rd_nat, h_u2, h_u1, h_v1, or32, tdiv_pos, tmod_pos, u64w]
  refine loop _ _ _ (Nat.le_refl _) ?_ (by rw [Int.mul_comm]; exact hqr) r0 (by omega) d1
  -- the first guess is not too small
  apply Classical.byContradiction
  intro hc
  have h1 : ((u2 * 4294967296 + u1) / v1 + 1) * v1 ≤ q * v1 := Int.mul_le_mul_of_nonneg_right (by omega) (by omega)
  have h2 : u2 * 4294967296 + u1 + 1 ≤ q * v1 := by
    rw [Int.add_mul, Int.mul_comm _ v1] at h1
    omega
  have h3 : u2 * 4294967296 * 4294967296 + u1 * 4294967296 + u0 < q * (v1 * 4294967296 + v0) := by
    have h4 : 0 ≤ q * v0 := Int.mul_nonneg hq0 (by omega)
    have h5 : q * (v1 * 4294967296 + v0) = q * v1 * 4294967296 + q * v0 := by grind
    rw [h5]
    omega
  have h6 := knuth_gt (Ul := UL) (Vl := VL) hq0 hP l1 m0 h3
  rw [← hU, ← hV] at h6
  omega
end Go.Proofs.Ytfnhpojoaaegmaa.V
set_option linter.unusedVariables false
set_option linter.unusedSimpArgs false
namespace Go.Proofs.Ytfnhpojoaaegmaa.V
open Go.RowKit Go.Proofs.Ytfnhpojoaaegmaa.P Go.Proofs.YtfnhpojoaaegmaaW.PrintWords Go.Proofs.YtfnhpojoaaegmaaW.PrintMore
def LT : ByteArray := (⟨#[0, 1, 2, 2, 3, 3, 3, 3, 4, 4, 4, 4, 4, 4, 4, 4, 5, 5, 5, 5, 5, 5, 5, 5, 5, 5, 5, 5, 5, 5, 5, 5, 6, 6, 6, 6, 6, 6, 6, 6, 6, 6, 6, 6, 6, 6, 6, 6, 6, 6, 6, 6, 6, 6, 6, 6, 6, 6, 6, 6, 6, 6, 6, 6, 7, 7, 7, 7, 7, 7, 7, 7, 7, 7, 7, 7, 7, 7, 7, 7, 7, 7, 7, 7, 7, 7, 7, 7, 7, 7, 7, 7, 7, 7, 7, 7, 7, 7, 7, 7, 7, 7, 7, 7, 7, 7, 7, 7, 7, 7, 7, 7, 7, 7, 7, 7, 7, 7, 7, 7, 7, 7, 7, 7, 7, 7, 7, 7, 8, 8, 8, 8, 8, 8, 8, 8, 8, 8, 8, 8, 8, 8, 8, 8, 8, 8, 8, 8, 8, 8, 8, 8, 8, 8, 8, 8, 8, 8, 8, 8, 8, 8, 8, 8, 8, 8, 8, 8, 8, 8, 8, 8, 8, 8, 8, 8, 8, 8, 8, 8, 8, 8, 8, 8, 8, 8, 8, 8, 8, 8, 8, 8, 8, 8, 8, 8, 8, 8, 8, 8, 8, 8, 8, 8, 8, 8, 8, 8, 8, 8, 8, 8, 8, 8, 8, 8, 8, 8, 8, 8, 8, 8, 8, 8, 8, 8, 8, 8, 8, 8, 8, 8, 8, 8, 8, 8, 8, 8, 8, 8, 8, 8, 8, 8, 8, 8, 8, 8, 8, 8, 8, 8, 8, 8, 8, 8]⟩ : ByteArray)
theorem len32_eq (a0 : Int) : bits_Len32.f a0 = if a0 ≥ 65536 then (if (a0 / 65536) ≥ 256 then (if 0 ≤ (((a0 / 65536) / 256) % 256) then (if (((a0 / 65536) / 256) % 256) < 256 then (some (wrap64 ((16 + 8) + (wrap64 (bt LT (((a0 / 65536) / 256) % 256)))))) else (none)) else (none)) else (if 0 ≤ ((a0 / 65536) % 256) then (if ((a0 / 65536) % 256) < 256 then (some (wrap64 (16 + (wrap64 (bt LT ((a0 / 65536) % 256)))))) else (none)) else (none))) else (if a0 ≥ 256 then (if 0 ≤ ((a0 / 256) % 256) then (if ((a0 / 256) % 256) < 256 then (some (wrap64 ((0 + 8) + (wrap64 (bt LT ((a0 / 256) % 256)))))) else (none)) else (none)) else (if 0 ≤ ((a0) % 256) then (if ((a0) % 256) < 256 then (some (wrap64 (0 + (wrap64 (bt LT ((a0) % 256)))))) else (none)) else (none))) := rfl
theorem len8_all : ∀ i : Fin 256, i.val = 0 ∨ ((1 ≤ bt LT (i.val : Int) ∧ bt LT (i.val : Int) ≤ 8) ∧ 2 ^ ((bt LT (i.val : Int)).toNat - 1) ≤ i.val ∧ i.val < 2 ^ (bt LT (i.val : Int)).toNat) := by decide +kernel
theorem len8 {i : Int} (h0 : 0 < i) (h1 : i < 256) : ∃ m : Nat, bt LT i = (m : Int) ∧ 1 ≤ m ∧ m ≤ 8 ∧ ((2 ^ (m - 1) : Nat) : Int) ≤ i ∧ i < ((2 ^ m : Nat) : Int) := by
  obtain ⟨n, rfl⟩ := Int.eq_ofNat_of_zero_le (Int.le_of_lt h0)
  have h9 := len8_all ⟨n, by omega⟩
  simp only at h9
  generalize bt LT (n : Int) = b at *
  rcases h9 with h | ⟨⟨h2, h3⟩, h4, h5⟩
  · omega
  · exact ⟨b.toNat, by omega, by omega, by omega, Int.ofNat_le.2 h4, Int.ofNat_lt.2 h5⟩
attribute [irreducible] LT
theorem lz32 {x : Int} (h0 : 0 < x) (h1 : x < 4294967296) : ∃ s : Nat, s ≤ 31 ∧ bits_LeadingZeros32.f x = some (s : Int) ∧ 2147483648 ≤ x * 2 ^ s ∧ x * 2 ^ s < 4294967296 := by
  unfold bits_LeadingZeros32.f
  rw [len32_eq]
  by_cases c1 : x ≥ 65536
  · rw [if_pos c1]
    by_cases c2 : x / 65536 ≥ 256
    · rw [if_pos c2, if_pos (by omega), if_pos (by omega), show x / 65536 / 256 % 256 = x / 65536 / 256 by omega]
      obtain ⟨m, hm, m1, m8, hlo, hhi⟩ := len8 (i := x / 65536 / 256) (by omega) (by omega)
      rw [hm]
      clear hm
      refine ⟨8 - m, by omega, ?_, ?_⟩
      · simp only [Option.bind_some]
        rw [w64 (x := (m : Int)) (by omega) (by omega), w64 (x := 16 + 8 + (m : Int)) (by omega) (by omega), w64 (by omega) (by omega)]
        congr 1
        omega
      · rcases (show m = 1 ∨ m = 2 ∨ m = 3 ∨ m = 4 ∨ m = 5 ∨ m = 6 ∨ m = 7 ∨ m = 8 by omega) with rfl | rfl | rfl | rfl | rfl | rfl | rfl | rfl <;> simp only [Nat.reducePow, Nat.reduceSub, Int.reducePow] at * <;> omega
    · rw [if_neg c2, if_pos (by omega), if_pos (by omega), show x / 65536 % 256 = x / 65536 by omega]
      obtain ⟨m, hm, m1, m8, hlo, hhi⟩ := len8 (i := x / 65536) (by omega) (by omega)
      rw [hm]
      clear hm
      refine ⟨16 - m, by omega, ?_, ?_⟩
      · simp only [Option.bind_some]
        rw [w64 (x := (m : Int)) (by omega) (by omega), w64 (x := 16 + (m : Int)) (by omega) (by omega), w64 (by omega) (by omega)]
        congr 1
        omega
      · rcases (show m = 1 ∨ m = 2 ∨ m = 3 ∨ m = 4 ∨ m = 5 ∨ m = 6 ∨ m = 7 ∨ m = 8 by omega) with rfl | rfl | rfl | rfl | rfl | rfl | rfl | rfl <;> simp only [Nat.reducePow, Nat.reduceSub, Int.reducePow] at * <;> omega
  · rw [if_neg c1]
    by_cases c2 : x ≥ 256
    · rw [if_pos c2, if_pos (by omega), if_pos (by omega), show x / 256 % 256 = x / 256 by omega]
      obtain ⟨m, hm, m1, m8, hlo, hhi⟩ := len8 (i := x / 256) (by omega) (by omega)
      rw [hm]
      clear hm
      refine ⟨24 - m, by omega, ?_, ?_⟩
      · simp only [Option.bind_some]
        rw [w64 (x := (m : Int)) (by omega) (by omega), w64 (x := 0 + 8 + (m : Int)) (by omega) (by omega), w64 (by omega) (by omega)]
        congr 1
        omega
      · rcases (show m = 1 ∨ m = 2 ∨ m = 3 ∨ m = 4 ∨ m = 5 ∨ m = 6 ∨ m = 7 ∨ m = 8 by omega) with rfl | rfl | rfl | rfl | rfl | rfl | rfl | rfl <;> simp only [Nat.reducePow, Nat.reduceSub, Int.reducePow] at * <;> omega
    · rw [if_neg c2, if_pos (by omega), if_pos (by omega), show x % 256 = x by omega]
      obtain ⟨m, hm, m1, m8, hlo, hhi⟩ := len8 (i := x) (by omega) (by omega)
      rw [hm]
      clear hm
      refine ⟨32 - m, by omega, ?_, ?_⟩
      · simp only [Option.bind_some]
        rw [w64 (x := (m : Int)) (by omega) (by omega), w64 (x := 0 + (m : Int)) (by omega) (by omega), w64 (by omega) (by omega)]
        congr 1
        omega
      · rcases (show m = 1 ∨ m = 2 ∨ m = 3 ∨ m = 4 ∨ m = 5 ∨ m = 6 ∨ m = 7 ∨ m = 8 by omega) with rfl | rfl | rfl | rfl | rfl | rfl | rfl | rfl <;> simp only [Nat.reducePow, Nat.reduceSub, Int.reducePow] at * <;> omega
end Go.Proofs.Ytfnhpojoaaegmaa.V
set_option linter.unusedVariables false
set_option linter.unusedSimpArgs false
namespace Go.Proofs.Ytfnhpojoaaegmaa.V
open Go.RowKit Go.Proofs.Ytfnhpojoaaegmaa.P Go.Proofs.YtfnhpojoaaegmaaW.PrintWords Go.Proofs.YtfnhpojoaaegmaaW.PrintMore
theorem vl_all_zero {B : Int} {l : List Int} (h : ∀ j, l.getD j 0 = 0) : Dg.vl B l = 0 := by
  induction l with
  | nil => rfl
  | cons x r ih =>
    have h0 := h 0
    simp at h0
    rw [Dg.vl, h0, ih (fun j => by simpa using h (j + 1))]
    simp
theorem getD_drop (l : List Int) (c j : Nat) : (l.drop c).getD j 0 = l.getD (c + j) 0 := by rw [List.getD_eq_getElem?_getD, List.getElem?_drop, ← List.getD_eq_getElem?_getD]
theorem vl_zero_from {B : Int} {l : List Int} {c : Nat} (h : ∀ j, c ≤ j → l.getD j 0 = 0) : Dg.vl B (l.drop c) = 0 := vl_all_zero fun j => by rw [getD_drop]; exact h _ (by omega)
theorem vl_take_zero {B : Int} {l : List Int} {c : Nat} (h : ∀ j, c ≤ j → l.getD j 0 = 0) : Dg.vl B (l.take c) = Dg.vl B l := by
  rw [Dg.vl_take_drop B l c, vl_zero_from h]
  simp
theorem nat_long_l0 {v : List Int} (hv : Dg.Dig 4294967296 v) {p m s : Nat} (hvl : v.length = p + 2) (hn : 2147483648 ≤ v.getD (p + 1) 0) (hs : s ≤ 31) (hl : m + p + 2 ≤ 17592186044416) {Q R : Nat} (hR : (R * 2 ^ s : Nat) < Dg.vl 4294967296 v) :
    ∀ (t : Nat) (u q : List Int), t ≤ m → u.length = m + p + 2 → q.length = m → Dg.Dig 4294967296 u → Dg.Dig 4294967296 q → Dg.vl 4294967296 (u.drop t) < Dg.vl 4294967296 v → (∀ j, t + (p + 2) ≤ j → u.getD j 0 = 0) →
    Dg.vl 4294967296 (q.drop t) * Dg.vl 4294967296 v * 4294967296 ^ t + Dg.vl 4294967296 u = (Q : Int) * Dg.vl 4294967296 v + (R * 2 ^ s : Nat) →
    Ev (fun k => nat_long.l0 k (s : Int) v u ((p + 2 : Nat) : Int) q ((t : Int) - 1)) (D Q, D R) := by
  intro t
  have v0 := Dg.vl_nonneg hv (by decide)
  have v1 := Dg.vl_lt hv (by decide)
  induction t with
  | zero =>
    intro u q ht hul hql hu hq hlt hz hval
    rw [List.drop_zero] at hlt
    rw [List.drop_zero, Int.pow_zero, Int.mul_one] at hval
    have u0 := Dg.vl_nonneg hu (by decide)
    have hQ : Dg.vl 4294967296 q = Q := by
      rcases Int.lt_trichotomy (Dg.vl 4294967296 q) Q with h | h | h
      · have : (Dg.vl 4294967296 q + 1) * Dg.vl 4294967296 v ≤ Q * Dg.vl 4294967296 v := Int.mul_le_mul_of_nonneg_right (by omega) v0
        rw [Int.add_mul] at this
        omega
      · exact h
      · have : ((Q : Int) + 1) * Dg.vl 4294967296 v ≤ Dg.vl 4294967296 q * Dg.vl 4294967296 v := Int.mul_le_mul_of_nonneg_right (by omega) v0
        rw [Int.add_mul] at this
        omega
    rw [hQ] at hval
    refine Ev.succ ?_
    simp (disch := omega) only [nat_long.l0, if_neg]
    refine Ev.bind (nat_trim_f hq (by omega) hQ) ?_
    refine Ev.bind (nat_trim_f hu (by omega) (n := R * 2 ^ s) (by omega)) ?_
    refine Ev.bind (nat_shr_D ?_ (by omega)) ?_
    · have hLR : L (R * 2 ^ s) ≤ v.length := L_le (by
        have h1 : ((R * 2 ^ s : Nat) : Int) < 4294967296 ^ v.length := Int.lt_trans hR v1
        rw [show (4294967296 : Int) ^ v.length = ((4294967296 ^ v.length : Nat) : Int) by rw [Int.natCast_pow]; rfl] at h1
        exact Int.ofNat_lt.1 h1)
      omega
    · rw [Nat.mul_div_cancel _ (Nat.two_pow_pos s)]
      exact Ev.ret _
  | succ t ih =>
    intro u q ht hul hql hu hq hlt hz hval
    -- the window
    have e0 : ((t + 1 : Nat) : Int) - 1 = (t : Int) := by omega
    have hwl : ((u.take (t + (p + 2) + 1)).drop t).length = p + 3 := by rw [List.length_drop, List.length_take]; omega
    have hwd : Dg.Dig 4294967296 ((u.take (t + (p + 2) + 1)).drop t) := (hu.take _).drop _
    have hz' : ∀ j, t + (p + 2) + 1 ≤ j → u.getD j 0 = 0 := fun j hj => hz j (by omega)
    have hwv : Dg.vl 4294967296 ((u.take (t + (p + 2) + 1)).drop t) = Dg.vl 4294967296 (u.drop t) := by
      rw [List.drop_take]
      exact vl_take_zero fun j hj => by rw [getD_drop]; exact hz' _ (by omega)
    have hstep := Dg.vl_drop_succ 4294967296 u t
    have gu := hu.getD (by decide) t
    have d1 := Dg.vl_nonneg (hu.drop (t + 1)) (by decide)
    have hW0 : 0 ≤ Dg.vl 4294967296 (u.drop t) := Dg.vl_nonneg (hu.drop t) (by decide)
    have hWlt : Dg.vl 4294967296 (u.drop t) < 4294967296 * Dg.vl 4294967296 v := by omega
    have hvpos : 0 < Dg.vl 4294967296 v := by omega
    have q0 : 0 ≤ Dg.vl 4294967296 (u.drop t) / Dg.vl 4294967296 v := Int.ediv_nonneg hW0 v0
    have q1 : Dg.vl 4294967296 (u.drop t) / Dg.vl 4294967296 v < 4294967296 := Int.ediv_lt_of_lt_mul hvpos hWlt
    have r0 := Int.emod_nonneg (Dg.vl 4294967296 (u.drop t)) (show Dg.vl 4294967296 v ≠ 0 by omega)
    have r1 := Int.emod_lt_of_pos (Dg.vl 4294967296 (u.drop t)) hvpos
    have hqr := Int.mul_ediv_add_emod (Dg.vl 4294967296 (u.drop t)) (Dg.vl 4294967296 v)
    generalize hqd : Dg.vl 4294967296 (u.drop t) / Dg.vl 4294967296 v = qd at *
    have hcomm : qd * Dg.vl 4294967296 v = Dg.vl 4294967296 v * qd := Int.mul_comm _ _
    obtain ⟨r, hr1, hr2, hr3, hr4⟩ := nat_digit_f hwd hv hwl hvl (by omega) hn (q := qd) q0 (by omega) (by rw [hwv]; omega) (by rw [hwv]; omega)
    rw [hwv] at hr4
    have hdw : Ev (fun k => nat_digitw.f k (t : Int) ((t + (p + 2) + 1 : Nat) : Int) u v) (qd, u.take t ++ r ++ u.drop (t + (p + 2) + 1)) := by
      obtain ⟨K, hK⟩ := hr1
      refine ⟨K, fun k hk => ?_⟩
      unfold nat_digitw.f
      have h := hK k hk
      simp only at h
      simp only [Int.toNat_natCast]
      rw [h]
      rfl
    have hrl : r.length = p + 3 := by omega
    -- the new row
    have ht1 : (u.take t).length = t := by rw [List.length_take]; omega
    have hnl : (u.take t ++ r ++ u.drop (t + (p + 2) + 1)).length = m + p + 2 := by
      rw [List.length_append, List.length_append, ht1, List.length_drop]
      omega
    have hnd : (u.take t ++ r ++ u.drop (t + (p + 2) + 1)).drop t = r ++ u.drop (t + (p + 2) + 1) := by
      rw [List.append_assoc, List.drop_append_of_le_length (by omega), List.drop_of_length_le (by omega), List.nil_append]
    have hrv : Dg.vl 4294967296 (r ++ u.drop (t + (p + 2) + 1)) = Dg.vl 4294967296 r := by
      rw [Dg.vl_append, vl_zero_from hz']
      simp
    have hnv : Dg.vl 4294967296 (u.take t ++ r ++ u.drop (t + (p + 2) + 1)) = Dg.vl 4294967296 u - qd * Dg.vl 4294967296 v * 4294967296 ^ t := by
      rw [List.append_assoc, Dg.vl_append, hrv, ht1, hr4, Dg.vl_take_drop 4294967296 u t]
      grind
    refine Ev.succ ?_
    rw [e0]
    simp (disch := omega) only [nat_long.l0, w64add, w64succ, if_pos]
    refine Ev.bind hdw ?_
    simp (disch := omega) only [if_pos, Int.toNat_natCast, w64pred]
    refine ih _ _ (by omega) hnl (by rw [List.length_set]; exact hql) (((hu.take t).append hr3).append (hu.drop _)) (hq.set _ q0 q1) ?_ ?_ ?_
    · rw [hnd, hrv, hr4]
      omega
    · intro j hj
      rw [List.append_assoc, List.getD_eq_getElem?_getD, List.getElem?_append_right (by omega), ht1, ← List.getD_eq_getElem?_getD]
      by_cases hjt : j = t + (p + 2)
      · subst hjt
        rw [List.getD_eq_getElem?_getD, List.getElem?_append_left (by omega), ← List.getD_eq_getElem?_getD, show t + (p + 2) - t = p + 2 by omega]
        -- the rest is below the divisor, so its top limb is 0
        have g := hr3.getD (by decide) (p + 2)
        have h3 : r.take (p + 3) = r := List.take_of_length_le (by omega)
        have h4 := Dg.vl_take_succ 4294967296 r (p + 2)
        rw [h3] at h4
        have h5 := Dg.vl_nonneg (hr3.take (p + 2)) (by decide)
        rw [hvl] at v1
        apply Classical.byContradiction
        intro hc
        have h6 : 1 * 4294967296 ^ (p + 2) ≤ r.getD (p + 2) 0 * 4294967296 ^ (p + 2) := Int.mul_le_mul_of_nonneg_right (by omega) (Int.le_of_lt (Int.pow_pos (by decide)))
        omega
      · rw [List.getD_eq_getElem?_getD, List.getElem?_append_right (by omega), ← List.getD_eq_getElem?_getD, getD_drop]
        exact hz' _ (by omega)
    · rw [hnv, Dg.vl_drop_succ, Dg.vl_drop_set _ _ _ _ _ (Nat.lt_succ_self _), Dg.getD_set _ _ _ _ (by omega), if_pos rfl, ← hval, Int.pow_succ]
      grind
theorem getD_top {n p : Nat} (h : L n = p + 1) : (D n).getD p 0 = ((n / 4294967296 ^ p : Nat) : Int) := by
  have h1 := vl_drop_D n p
  rw [Dg.vl_drop_succ, List.drop_of_length_le (by show L n ≤ p + 1; omega)] at h1
  simpa [Dg.vl] using h1
theorem nat_long_D {a b : Nat} (hb : 4294967296 ≤ b) (hab : b ≤ a) (hl : L a ≤ 4398046511104) : Ev (fun k => nat_long.f k (D a) (D b)) (D (a / b), D (a % b)) := by
  obtain ⟨p, hp⟩ : ∃ p, L b = p + 2 := by
    refine ⟨L b - 2, ?_⟩
    have h1 := L_lt b
    have h2 : ¬ L b ≤ 1 := fun h => by
      have h3 : 4294967296 ^ L b ≤ 4294967296 ^ 1 := Nat.pow_le_pow_right (by decide) h
      rw [Nat.pow_one] at h3
      omega
    omega
  obtain ⟨m, hm⟩ : ∃ m, L a + 1 = m + p + 2 := ⟨L a + 1 - (p + 2), by have := L_mono hab; omega⟩
  have hbl := L_lt b
  have hal := L_lt a
  have hT := getD_top hp
  have hT1 := D_get b (p + 1)
  have hT2 : (D b).getD (p + 1) 0 ≠ 0 := by
    have := D_top b (by rw [Ne, D_nil]; omega)
    rwa [show (D b).length - 1 = p + 1 by show L b - 1 = p + 1; omega] at this
  obtain ⟨s, hs, hz, hlo, hhi⟩ := lz32 (x := (D b).getD (p + 1) 0) (by omega) (by omega)
  have hT3 : b / 4294967296 ^ (p + 1) * 2 ^ s < 4294967296 := by
    rw [hT] at hhi
    exact Int.ofNat_lt.1 (by rw [Int.natCast_mul, Int.natCast_pow]; exact hhi)
  have hT4 : 2147483648 ≤ b / 4294967296 ^ (p + 1) * 2 ^ s := by
    rw [hT] at hlo
    exact Int.ofNat_le.1 (by rw [Int.natCast_mul, Int.natCast_pow]; exact hlo)
  have hP : 0 < 4294967296 ^ (p + 1) := Nat.pow_pos (by decide)
  have h2s : 2 ^ s * 2 ^ (32 - s) = 4294967296 := by rw [← Nat.pow_add, show s + (32 - s) = 32 by omega]
  have h2p := Nat.two_pow_pos s
  -- the divisor, shifted: as long, its top bit set
  have hb1 : b * 2 ^ s < 4294967296 ^ (p + 2) := by
    have e1 : b / 4294967296 ^ (p + 1) < 2 ^ (32 - s) := by
      have h3 : b / 4294967296 ^ (p + 1) * 2 ^ s < 2 ^ (32 - s) * 2 ^ s := by rw [Nat.mul_comm (2 ^ (32 - s)), h2s]; exact hT3
      exact Nat.lt_of_mul_lt_mul_right h3
    have e2 : b < 2 ^ (32 - s) * 4294967296 ^ (p + 1) := (Nat.div_lt_iff_lt_mul hP).1 e1
    calc b * 2 ^ s < 2 ^ (32 - s) * 4294967296 ^ (p + 1) * 2 ^ s := Nat.mul_lt_mul_of_pos_right e2 h2p
      _ = (2 ^ s * 2 ^ (32 - s)) * 4294967296 ^ (p + 1) := by rw [Nat.mul_right_comm, Nat.mul_comm (2 ^ (32 - s))]
      _ = 4294967296 ^ (p + 2) := by rw [h2s, Nat.pow_succ _ (p + 1), Nat.mul_comm]
  have hbs : b ≤ b * 2 ^ s := Nat.le_mul_of_pos_right _ h2p
  have hvL : L (b * 2 ^ s) = p + 2 := by
    have := L_mono hbs
    have := L_le hb1
    omega
  have hvT : 2147483648 ≤ b * 2 ^ s / 4294967296 ^ (p + 1) := by
    rw [Nat.le_div_iff_mul_le hP]
    calc 2147483648 * 4294967296 ^ (p + 1) ≤ (b / 4294967296 ^ (p + 1) * 2 ^ s) * 4294967296 ^ (p + 1) := Nat.mul_le_mul_right _ hT4
      _ = (b / 4294967296 ^ (p + 1) * 4294967296 ^ (p + 1)) * 2 ^ s := Nat.mul_right_comm _ _ _
      _ ≤ b * 2 ^ s := Nat.mul_le_mul_right _ (Nat.div_mul_le_self _ _)
  have hvB : 2147483648 * 4294967296 ^ (p + 1) ≤ b * 2 ^ s := (Nat.le_div_iff_mul_le hP).1 hvT
  -- the dividend, shifted
  have has : a ≤ a * 2 ^ s := Nat.le_mul_of_pos_right _ h2p
  have h231 : 2 ^ s ≤ 2147483648 := Nat.pow_le_pow_right (by decide) hs
  have ha1 : a * 2 ^ s < 2147483648 * 4294967296 ^ L a := by
    calc a * 2 ^ s < 4294967296 ^ L a * 2 ^ s := Nat.mul_lt_mul_of_pos_right hal h2p
      _ ≤ 4294967296 ^ L a * 2147483648 := Nat.mul_le_mul_left _ h231
      _ = _ := Nat.mul_comm _ _
  have huL : L (a * 2 ^ s) ≤ L a + 1 := L_le (by
    rw [Nat.pow_succ, Nat.mul_comm (4294967296 ^ L a)]
    refine Nat.lt_of_lt_of_le ha1 ?_
    exact Nat.mul_le_mul_right _ (by decide))
  have huL2 := L_mono has
  have hul : ((D (a * 2 ^ s) ++ [0, 0]).take (L a + 1)).length = m + p + 2 := by
    rw [List.length_take, List.length_append]
    show min (L a + 1) (L (a * 2 ^ s) + 2) = _
    omega
  have hu0 : ∀ j, L a + 1 ≤ j → (D (a * 2 ^ s) ++ [0, 0]).getD j 0 = 0 := fun j hj => by
    rw [List.getD_eq_getElem?_getD, List.getElem?_append_right (by show L _ ≤ j; omega), ← List.getD_eq_getElem?_getD]
    exact getD_rep 2 _
  have hDz : Dg.Dig 4294967296 ([0, 0] : List Int) := Dg.Dig.replicate (by decide) 2
  have hud : Dg.Dig 4294967296 ((D (a * 2 ^ s) ++ [0, 0]).take (L a + 1)) := ((D_dig _).append hDz).take _
  have huv : Dg.vl 4294967296 ((D (a * 2 ^ s) ++ [0, 0]).take (L a + 1)) = ((a * 2 ^ s : Nat) : Int) := by
    rw [vl_take_zero hu0, Dg.vl_append, D_vl, show Dg.vl 4294967296 [0, 0] = 0 from rfl, Int.mul_zero, Int.add_zero]
  have hmt : Dg.vl 4294967296 (((D (a * 2 ^ s) ++ [0, 0]).take (L a + 1)).drop m) < ((b * 2 ^ s : Nat) : Int) := by
    have e1 := Dg.vl_take_drop 4294967296 ((D (a * 2 ^ s) ++ [0, 0]).take (L a + 1)) m
    have e2 := Dg.vl_nonneg (hud.take m) (by decide)
    rw [huv] at e1
    have e3 : a * 2 ^ s < b * 2 ^ s * 4294967296 ^ m := by
      refine Nat.lt_of_lt_of_le ha1 ?_
      rw [show L a = p + 1 + m by omega, Nat.pow_add, ← Nat.mul_assoc]
      exact Nat.mul_le_mul_right _ hvB
    have e4 : ((a * 2 ^ s : Nat) : Int) < ((b * 2 ^ s : Nat) : Int) * 4294967296 ^ m := by
      rw [show (4294967296 : Int) ^ m = ((4294967296 ^ m : Nat) : Int) by rw [Int.natCast_pow]; rfl, ← Int.natCast_mul]
      exact Int.ofNat_lt.2 e3
    apply Classical.byContradiction
    intro hc
    have hPm : (0 : Int) ≤ 4294967296 ^ m := Int.le_of_lt (Int.pow_pos (by decide))
    have e5 := Int.mul_le_mul_of_nonneg_right (Int.not_lt.1 hc) hPm
    rw [Int.mul_comm (4294967296 ^ m)] at e1
    generalize (4294967296 : Int) ^ m = Z at *
    omega
  have hR : (((a % b) * 2 ^ s : Nat) : Int) < ((b * 2 ^ s : Nat) : Int) := Int.ofNat_lt.2 (Nat.mul_lt_mul_of_pos_right (Nat.mod_lt _ (by omega)) h2p)
  have hmain := nat_long_l0 (D_dig (b * 2 ^ s)) (p := p) (m := m) (s := s) hvL (by rw [getD_top hvL]; exact Int.ofNat_le.2 hvT) hs (by omega) (Q := a / b) (R := a % b) (by rw [D_vl]; exact hR) m _ (List.replicate m 0) (Nat.le_refl _) hul List.length_replicate hud (Dg.Dig.replicate (by decide) m) (by rw [D_vl]; exact hmt)
    (fun j hj => getD_beyond (by rw [hul]; omega)) (by
      rw [List.drop_of_length_le (by rw [List.length_replicate]; exact Nat.le_refl _), huv, D_vl, Dg.vl_nil, Int.zero_mul, Int.zero_mul, Int.zero_add, ← Int.natCast_mul, ← Int.natCast_add]
      refine congrArg _ ?_
      rw [← Nat.mul_assoc, ← Nat.add_mul, Nat.mul_comm (a / b), Nat.div_add_mod])
  clear hb1 hbs hvT hvB has ha1 hR hmt huv hu0 hhi hlo hT3 hT4 hT h2s hal hbl hP hT2
  have hbL : (D b).length = p + 2 := hp
  have haL : (D a).length = m + p + 1 := by show L a = _; omega
  have hvl : (D (b * 2 ^ s)).length = p + 2 := hvL
  unfold nat_long.f
  rw [hbL, haL]
  have e1 : wrap64 (((p + 2 : Nat) : Int) - 1) = ((p + 1 : Nat) : Int) := by rw [w64pred (by omega)]; omega
  have e2 : wrap64 (((m + p + 1 : Nat) : Int) + 1) = ((m + p + 2 : Nat) : Int) := by rw [w64succ (by omega)]
  rw [e1, e2, rd_nat, Int.emod_eq_of_lt hT1.1 hT1.2]
  clear e1 e2 h2p h231 hT1
  refine Ev.pos (by omega) (Ev.pos (by omega) (Ev.bind1 hz ?_))
  refine Ev.bind (nat_shl_D (by omega) (by omega)) (Ev.bind (nat_shl_D (by omega) (by omega)) (Ev.bind (Ev.ret _) ?_))
  have hal : (D (a * 2 ^ s)).length = L (a * 2 ^ s) := rfl
  refine Ev.pos (by rw [hal, show ([0, 0] : List Int).length = 2 from rfl]; omega) (Ev.bind (Ev.ret _) ?_)
  refine Ev.pos (by omega) (Ev.pos (by rw [List.length_append, hal, show ([0, 0] : List Int).length = 2 from rfl]; omega) (Ev.bind (Ev.ret _) ?_))
  rw [Int.toNat_natCast, show m + p + 2 = L a + 1 by omega, hul, hvl, show wrap64 (((m + p + 2 : Nat) : Int) - ((p + 2 : Nat) : Int)) = (m : Int) by rw [w64 (by omega) (by omega)]; omega]
  refine Ev.pos (by omega) (Ev.pos (by rw [Int.toNat_natCast]; omega) (Ev.bind (Ev.ret _) ?_))
  rw [Int.toNat_natCast, List.length_replicate, w64pred (by omega)]
  exact hmain
theorem nat_DivMod_g {u v : List Int} (hu : U u) (hv : U v) {a b : Nat} (hwa : W u = a) (hwb : W v = b) (hla : u.length ≤ 4398046511104) (hlb : v.length ≤ 4398046511104) : Ev (fun k => nat_DivMod.f k u v) (if b = 0 then ([], [], 2) else (D (a / b), D (a % b), 0)) := by
  have h1 := nat_Clean_f hu (by omega)
  have h2 := nat_Clean_f hv (by omega)
  have hl := L_W u
  have hl2 := L_W v
  rw [hwa] at h1 hl
  rw [hwb] at h2 hl2
  unfold nat_DivMod.f
  refine Ev.bind h1 (Ev.bind h2 ?_)
  clear h1 h2 hwa hwb
  have hlen : (D b).length = L b := rfl
  rw [hlen]
  by_cases h0 : b = 0
  · rw [if_pos h0]
    refine Ev.pos ?_ (Ev.ret _)
    rw [h0]
    show ((D 0).length : Int) = 0
    rw [D_zero]
    rfl
  rw [if_neg h0]
  have hL0 : L b ≠ 0 := fun h => h0 (D_nil.1 (List.eq_nil_of_length_eq_zero h))
  refine Ev.neg (by omega) (Ev.bind (nat_order_D (by omega) (by omega)) ?_)
  by_cases hlt : a < b
  · refine Ev.pos (cmp_lt_iff.2 (by omega)) (Ev.eq (Ev.ret _) ?_)
    rw [Nat.div_eq_of_lt hlt, Nat.mod_eq_of_lt hlt, D_zero]
  refine Ev.neg (fun h => hlt (by have := cmp_lt_iff.1 h; omega)) ?_
  by_cases hs : b < 4294967296
  · have hb := D_small h0 hs
    have h1 : L b = 1 := by show (D b).length = 1; rw [hb]; rfl
    rw [h1]
    refine Ev.pos rfl (Ev.pos (by decide) ?_)
    have h2 : rd (D b) 0 = (b : Int) := by rw [hb]; rfl
    rw [h2]
    refine Ev.bind (nat_small_D (by omega) (by omega) (by omega)) ?_
    have := Nat.mod_lt a (show 0 < b by omega)
    exact Ev.bind (nat_Of_f (n := a % b) (by omega) (by omega) rfl) (Ev.ret _)
  · have h1 : L b ≠ 1 := fun h => by
      have := L_lt b
      rw [h, Nat.pow_one] at this
      omega
    refine Ev.neg (by omega) (Ev.bind (nat_long_D (by omega) (by omega) (by omega)) (Ev.ret _))
theorem nat_DivMod_f {a b : List Int} (ha : U a) (hb : U b) (hla : a.length ≤ 4398046511104) (hlb : b.length ≤ 4398046511104) : Ev (fun k => nat_DivMod.f k a b) (if W b = 0 then ([], [], 2) else (D (W a / W b), D (W a % W b), 0)) :=
  nat_DivMod_g ha hb rfl rfl hla hlb
end Go.Proofs.Ytfnhpojoaaegmaa.V
namespace Go.Proofs.Ytfnhpojoaaegmaa.V
open Go.RowKit Go.Proofs.Ytfnhpojoaaegmaa.P Go.Proofs.YtfnhpojoaaegmaaW.PrintWords
set_option maxRecDepth 100000 in
theorem awake_f : Ev (fun k => dendronlaw01_awake.f k) true := Ev.of (fun k => dendronlaw01_awake.mono k) (k := 100) (by decide +kernel)
theorem few_f (l : List Int) (n : Nat) : dendronlaw01_few.f l (n : Int) = some (l.take n) := by
  unfold dendronlaw01_few.f
  by_cases h : (l.length : Int) > (n : Int)
  · rw [if_pos h, if_pos (by omega), if_pos (by omega), Int.toNat_natCast]
  · rw [if_neg h, List.take_of_length_le (by omega)]
theorem U_take {l : List Int} (h : U l) (n : Nat) : U (l.take n) := fun x hx => h x (List.mem_of_mem_take hx)
theorem U_wf {l : List Int} (h : ∀ x ∈ l, (Lit.int .u64 x).wf = true) : U l := fun x hx => wf_u64 (h x hx)
theorem take_le (l : List Int) (n : Nat) : (l.take n).length ≤ n := by rw [List.length_take]; omega
end Go.Proofs.Ytfnhpojoaaegmaa.V
namespace Go.Proofs.Ytfnhpojoaaegmaa.Pure
open Go.RowKit Go.Proofs.Ytfnhpojoaaegmaa.P Go.Proofs.Ytfnhpojoaaegmaa.V Go.Proofs.YtfnhpojoaaegmaaW.PrintWords
theorem NatDivides : dendronlaw01_NatDivides.Pure := by
  intro l0 l1 _ _ h0 _ _ h1
  have ha := U_take (U_wf h0) 60
  have hb := U_take (U_wf h1) 60
  have la := take_le l0 60
  have lb := take_le l1 60
  apply Ev.ex
  unfold dendronlaw01_NatDivides.f
  refine Ev.bind1 (few_f l0 60) (Ev.bind1 (few_f l1 60) ?_)
  generalize l0.take 60 = a at *
  generalize l1.take 60 = b at *
  have La := L_W a
  have Lb := L_W b
  refine Ev.bind (nat_DivMod_f ha hb (by omega) (by omega)) ?_
  refine Ev.bind (nat_Zero_f hb (by omega)) ?_
  by_cases hz : W b = 0
  · rw [if_pos hz]
    refine Ev.pos (decide_eq_true hz) (Ev.pos rfl ?_)
    exact Ev.bind awake_f (Ev.ret _)
  · rw [if_neg hz]
    have hq : L (W a / W b) ≤ L (W a) := L_mono (Nat.div_le_self _ _)
    have hr : L (W a % W b) ≤ L (W b) := L_mono (Nat.le_of_lt (Nat.mod_lt _ (by omega)))
    have hlt := Nat.mod_lt (W a) (show 0 < W b by omega)
    have hdm := Nat.div_add_mod (W a) (W b)
    refine Ev.neg (by simpa using hz) (Ev.pos rfl ?_)
    refine Ev.bind (ref_Right_D (by omega)) (Ev.pos rfl ?_)
    refine Ev.bind (ref_Right_D (by omega)) (Ev.pos rfl ?_)
    have hc1 := nat_Cmp_f (a := D (W a % W b)) (b := b) (D_U _) hb (by show L _ ≤ _; omega) (by omega)
    rw [W_D] at hc1
    refine Ev.bind hc1 (Ev.pos (cmp_lt_iff.2 (by exact_mod_cast hlt)) ?_)
    have hm := nat_Mul_f (a := D (W a / W b)) (b := b) (D_U _) hb (by show L _ + _ ≤ _; omega)
    rw [W_D] at hm
    refine Ev.bind hm ?_
    have hlm : L (W a / W b * W b) ≤ L (W a) := L_mono (Nat.div_mul_le_self _ _)
    refine Ev.bind (nat_Add_D (by omega) (by omega)) ?_
    have he : W a / W b * W b + W a % W b = W a := by rw [Nat.mul_comm]; exact hdm
    rw [he]
    have hc2 := nat_Cmp_f (a := D (W a)) (b := a) (D_U _) ha (by show L _ ≤ _; omega) (by omega)
    rw [W_D] at hc2
    refine Ev.bind hc2 (Ev.pos (cmp_eq rfl) ?_)
    exact Ev.bind awake_f (Ev.ret _)
end Go.Proofs.Ytfnhpojoaaegmaa.Pure
namespace Go.Proofs.YtfnhpojoaaegmaaW.PrintWords
open Go.ChangeShapes Go.WideShapes
theorem sized_ints {H : Type} {enc : TypeId × Value → H} {P : Program} {W : World} {base : Nat} {spare : Nat → Bool} {held : Bool} {t e : TypeId} {k : IntKind} {a : Option Addr} {len cap : Nat} {d : DataW H} {ps : List MemPlace} {ts : List TypeId} {ds : List (DataW H)} {j : Nat}
    (hsz : (DataW.weightsEach P ts ds).all (· ≤ reachBytes) = true) (ht : ts[j]? = some t) (hd : ds[j]? = some d) (hu : P.underlying t = some (.slice e)) (he : P.underlying e = some (.int k)) (hc : P.cellsOf e = 1) {B : Nat} (hB : P.bytesOf e = B)
    (h : DataW.Trod enc P W base spare held t (.slice a len cap) d ps) : len * B ≤ 140737488351232 := by
  obtain ⟨fuel, hf⟩ := h
  rcases open_ints hu he hc hf with ⟨hcs, _⟩ | ⟨x, l, c, zs, hcs, _, hl, _, hz, hx, _, _⟩
  · simp [Value.cells] at hcs
    obtain ⟨rfl, rfl, rfl⟩ := hcs
    simp
  · simp [Value.cells] at hcs
    obtain ⟨rfl, rfl, rfl⟩ := hcs
    obtain ⟨hx, _⟩ := Prod.mk.inj hx
    subst hx
    have z := sized_slice hsz ht hd hu
    rw [hB] at z
    have hl2 : len ≤ zs.length := by
      rw [hz]
      split
      · exact hl
      · exact Nat.le_refl _
    have h1 : (lits (H := H) k (zs.take len)).length + (lits (H := H) k (zs.drop len)).length = zs.length := by
      simp [lits]
      omega
    rw [h1] at z
    exact Nat.le_trans (Nat.mul_le_mul_right _ hl2) z
end Go.Proofs.YtfnhpojoaaegmaaW.PrintWords
