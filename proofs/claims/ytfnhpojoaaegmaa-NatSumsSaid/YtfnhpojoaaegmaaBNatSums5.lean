/- Part 5 of the texts of NatSums: words, the machine's side of functions (written by a program), plain lemmas. -/
import Derived.Test.YtfnhpojoaaegmaaBNatSums4
import Derived.Laws.BitsLemmas
namespace Go.Proofs.Ytfnhpojoaaegmaa.P
open Go.RowKit Go.Proofs.YtfnhpojoaaegmaaW.PrintWords Go.Proofs.YtfnhpojoaaegmaaW.PrintLast Go.Proofs.YtfnhpojoaaegmaaW.PrintMore
set_option linter.unusedVariables false
set_option linter.unusedSimpArgs false
def nat_Add.l0 : Nat → List Int → List Int → List Int → Int → Int → Int → Option (List Int)
  | 0, _, _, _, _, _, _ => none
  | k + 1, x0, x1, x5, x6, x20, x21 => if x21 < x20 then ((nat_limb.f x0 x21).bind fun t604 => ((nat_limb.f x1 x21).bind fun t605 => (if 0 ≤ x21 then (if x21 < (x5.length : Int) then (nat_Add.l0 k x0 x1 (x5.set (x21 : Int).toNat (Go.bits .and .u64 (IntKind.u64.wrap (x6 + (IntKind.u64.wrap (t604 + t605)))) 4294967295)) ((IntKind.u64.wrap (x6 + (IntKind.u64.wrap (t604 + t605)))) / 4294967296) x20 (wrap64 (x21 + 1))) else (none)) else (none)))) else ((nat_trim.f k x5).bind fun t607 => (some t607))
def nat_Add.f (k : Nat) (l0 : List Int) (l1 : List Int) : Option (List Int) := (nat_Clean.f k l0).bind fun t595 => ((nat_Clean.f k l1).bind fun t598 => (if 0 ≤ (wrap64 ((mx (t595.length : Int) (t598.length : Int)) + 1)) then (if (wrap64 ((mx (t595.length : Int) (t598.length : Int)) + 1) : Int).toNat ≤ 35184372088832 then ((some (List.replicate (wrap64 ((mx (t595.length : Int) (t598.length : Int)) + 1) : Int).toNat 0 : List Int)).bind fun y601 => (nat_Add.l0 k t595 t598 y601 0 (y601.length : Int) 0)) else (none)) else (none)))
set_option maxHeartbeats 8000000 in
set_option maxRecDepth 100000 in
theorem nat_Add.calls (k : Nat) (A0 : Option Addr) (c0 : Nat) (l0 : List Int) (A1 : Option Addr) (c1 : Nat) (l1 : List Int) (r : List Int) (w : World) (hr0 : Kd.C (Kd.int .u64) w A0 l0.length l0) (hc0 : l0.length ≤ c0) (hr1 : Kd.C (Kd.int .u64) w A1 l1.length l1) (hc1 : l1.length ≤ c1) (h : nat_Add.f k l0 l1 = some r) :
    Calls Try.prog 52 #[.slice A0 l0.length c0, .slice A1 l1.length c1] w fun e w' => ∃ v0_ : Value, e = .returned (v0_) ∧ Kd.R (Kd.int .u64) 63 w' w.heap.size (fun _ => True) v0_ r ∧ Below w.heap.size w w' := by
  have HR0 := Aside0.mk hr0
  have HC0 := Aside0.mk hc0
  clear hr0 hc0
  have HR1 := Aside0.mk hr1
  have HC1 := Aside0.mk hc1
  clear hr1 hc1
  have HB := Aside0.mk (Below.refl w.heap.size w)
  have H : ((nat_Clean.f k l0).bind fun t595 => ((nat_Clean.f k l1).bind fun t598 => (if 0 ≤ (wrap64 ((mx (t595.length : Int) (t598.length : Int)) + 1)) then (if (wrap64 ((mx (t595.length : Int) (t598.length : Int)) + 1) : Int).toNat ≤ 35184372088832 then ((some (List.replicate (wrap64 ((mx (t595.length : Int) (t598.length : Int)) + 1) : Int).toNat 0 : List Int)).bind fun y601 => (nat_Add.l0 k t595 t598 y601 0 (y601.length : Int) 0)) else (none)) else (none)))) = some r := h
  clear h
  replace H := Option.bind_eq_some_iff.mp H
  obtain ⟨t595, A30, H⟩ := H
  replace H : ((nat_Clean.f k l1).bind fun t598 => (if 0 ≤ (wrap64 ((mx (t595.length : Int) (t598.length : Int)) + 1)) then (if (wrap64 ((mx (t595.length : Int) (t598.length : Int)) + 1) : Int).toNat ≤ 35184372088832 then ((some (List.replicate (wrap64 ((mx (t595.length : Int) (t598.length : Int)) + 1) : Int).toNat 0 : List Int)).bind fun y601 => (nat_Add.l0 k t595 t598 y601 0 (y601.length : Int) 0)) else (none)) else (none))) = some r := H
  have A3 := Aside0.mk A30
  clear A30
  replace H := Option.bind_eq_some_iff.mp H
  obtain ⟨t598, A40, H⟩ := H
  replace H : (if 0 ≤ (wrap64 ((mx (t595.length : Int) (t598.length : Int)) + 1)) then (if (wrap64 ((mx (t595.length : Int) (t598.length : Int)) + 1) : Int).toNat ≤ 35184372088832 then ((some (List.replicate (wrap64 ((mx (t595.length : Int) (t598.length : Int)) + 1) : Int).toNat 0 : List Int)).bind fun y601 => (nat_Add.l0 k t595 t598 y601 0 (y601.length : Int) 0)) else (none)) else (none)) = some r := H
  have A4 := Aside0.mk A40
  clear A40
  obtain ⟨ji5, hji5⟩ : ∃ j_ : Int, (mx (t595.length : Int) (t598.length : Int)) = j_ := ⟨_, rfl⟩
  replace H : (if 0 ≤ (wrap64 ((ji5) + 1)) then (if (wrap64 ((ji5) + 1) : Int).toNat ≤ 35184372088832 then ((some (List.replicate (wrap64 ((ji5) + 1) : Int).toNat 0 : List Int)).bind fun y601 => (nat_Add.l0 k t595 t598 y601 0 (y601.length : Int) 0)) else (none)) else (none)) = some r := by first | (rw [hji5] at H; exact H) | (simp only [hji5] at H ⊢; exact H)
  (try rw [hji5] at A3)
  (try rw [hji5] at A4)
  (try (have hji5l : 0 ≤ ji5 := by (rw [← hji5]; unfold mx; (repeat' split) <;> omega)))
  (try (have hji5m : 0 ≤ ji5 := by omega))
  have hji5_ : (if (t595.length : Int) < (t598.length : Int) then (t598.length : Int) else (t595.length : Int)) = ji5 := hji5
  have hji5n : (if t595.length < t598.length then (t598.length : Int) else (t595.length : Int)) = ji5 := by
    rw [← hji5_]
    (repeat' split) <;> first | rfl | omega
  obtain ⟨ji6, hji6⟩ : ∃ j_ : Int, (wrap64 ((ji5) + 1)) = j_ := ⟨_, rfl⟩
  replace H : (if 0 ≤ (ji6) then (if (ji6 : Int).toNat ≤ 35184372088832 then ((some (List.replicate (ji6 : Int).toNat 0 : List Int)).bind fun y601 => (nat_Add.l0 k t595 t598 y601 0 (y601.length : Int) 0)) else (none)) else (none)) = some r := by first | (rw [hji6] at H; exact H) | (simp only [hji6] at H ⊢; exact H)
  (try rw [hji6] at A3)
  (try rw [hji6] at A4)
  have hji6w : (IntKind.i64.wrap ((ji5) + 1)) = ji6 := (i64_w _).trans hji6
  by_cases c7 : 0 ≤ (ji6)
  · rw [if_pos c7] at H
    have c7b0 := eq_true c7
    have c7b1 : decide (0 ≤ (ji6)) = true := decide_eq_true c7
    clear c7
    by_cases c8 : (ji6 : Int).toNat ≤ 35184372088832
    · rw [if_pos c8] at H
      have c8b0 := eq_true c8
      have c8b1 : decide ((ji6 : Int).toNat ≤ 35184372088832) = true := decide_eq_true c8
      clear c8
      obtain ⟨y601, hy601⟩ : ∃ y_ : List Int, y_ = (List.replicate (ji6 : Int).toNat 0) := ⟨_, rfl⟩
      replace H : (nat_Add.l0 k t595 t598 y601 0 (y601.length : Int) 0) = some r := by first | (rw [hy601]; with_reducible exact H) | (have H2_ := (Option.bind_some _ _).symm.trans H; rw [hy601]; with_reducible exact H2_) | (have H2_ := (Option.bind_some _ _).symm.trans H; with_reducible exact H2_) | with_reducible exact H | (rw [hy601]; exact H) | exact H
      have Ny601 := Aside0.mk hy601
      clear hy601
      have H' := Aside0.mk H
      clear H
      go_enter Try.func52, Try.ntmps52
      go_wp2_with (first | ((with_reducible refine gate_callee (f := 58) rfl ?_); refine goesL_ (some 9) rfl rfl Try.func58 (by kernel_rfl) rfl #[.slice A0 l0.length c0] rfl (by (try simp only [List.map_toArray, List.map_cons, List.map_nil]); first | done | rfl | (simp only [List.length_drop, List.length_take]; rfl)) ?_; (with_reducible refine (nat_Clean.calls k _ _ l0 t595 _ ?side1 ?side2 A3.out).mono ?_); (case side1 => repeat (first | exact HR0.out | (with_reducible refine Kd.C_alloc ?_ _) | (with_reducible refine Kd.C_drewN ?_ _) | (with_reducible refine Kd.C_drew ?_))); (case side2 => exact HC0.out); rintro e w9 ⟨v596, rfl, ho0, hb⟩; refine ⟨_, rfl, ?_⟩; have n0_ := Aside0.mk (Kd.R_lower ho0 (below_size (by repeat (first | (with_reducible first | exact HB.out | apply below_alloc | apply pw_below_drewN | apply below_drew1) | exact HB.out)))); have n1_ := Aside0.mk (below_step (by repeat (first | (with_reducible first | exact HB.out | apply below_alloc | apply pw_below_drewN | apply below_drew1) | exact HB.out)) hb); clear HB; have HO597 := n0_; have HB := n1_; clear n0_ n1_; (try clear hb); (try clear hb2); (try clear hk); (try clear hi); (try clear ho0)) | ((with_reducible refine gate_callee (f := 58) rfl ?_); refine goesL_ (some 11) rfl rfl Try.func58 (by kernel_rfl) rfl #[.slice A1 l1.length c1] rfl (by (try simp only [List.map_toArray, List.map_cons, List.map_nil]); first | done | rfl | (simp only [List.length_drop, List.length_take]; rfl)) ?_; (with_reducible refine (nat_Clean.calls k _ _ l1 t598 _ ?side1 ?side2 A4.out).mono ?_); (case side1 => repeat (first | exact (Kd.C_below HR1.out HB.out) | (with_reducible refine Kd.C_alloc ?_ _) | (with_reducible refine Kd.C_drewN ?_ _) | (with_reducible refine Kd.C_drew ?_))); (case side2 => exact HC1.out); rintro e w10 ⟨v599, rfl, ho0, hb⟩; refine ⟨_, rfl, ?_⟩; have n0_ := Aside0.mk (Kd.R_elder' (by (with_reducible repeat (first | apply Kd.R_alloc | apply Kd.R_drewN | apply Kd.R_drew)); exact HO597.out) (Kd.R_base ho0) hb); have n1_ := Aside0.mk (Kd.R_lower (Kd.R_new' ho0 (Kd.R_lt (by (with_reducible repeat (first | apply Kd.R_alloc | apply Kd.R_drewN | apply Kd.R_drew)); exact HO597.out))) (below_size (by repeat (first | (with_reducible first | exact HB.out | apply below_alloc | apply pw_below_drewN | apply below_drew1) | exact HB.out)))); have n2_ := Aside0.mk (below_step (by repeat (first | (with_reducible first | exact HB.out | apply below_alloc | apply pw_below_drewN | apply below_drew1) | exact HB.out)) hb); clear HO597; clear HB; have HO597 := n0_; have HO600 := n1_; have HB := n2_; clear n0_ n1_ n2_; (try clear hb); (try clear hb2); (try clear hk); (try clear hi); (try clear ho0); obtain ⟨Ao11, co11, eo11⟩ := Kd.R_slice HO597.out; subst eo11; obtain ⟨Ao12, co12, eo12⟩ := Kd.R_slice HO600.out; subst eo12) | ((with_reducible refine gate_dst (N := 18) rfl ?_); refine Kd.R_make (Kd.int .u64) _ 63 rfl (N := 18) rfl 39 _ _ rfl ji6 rfl rfl Try.underlying39 (.int .u64 0) 8 info63 rfl (by decide) (by omega) 0 (ok := fun _ => True) (okp := fun _ => True) rfl (fun _ hk => hk) trivial (of_decide_eq_true (by first | (with_reducible assumption) | assumption)) (Nat.le_trans (Nat.mul_le_mul_right _ (of_decide_eq_true (by first | (with_reducible assumption) | assumption) : ji6.toNat ≤ 35184372088832)) (by omega)) (Below.refl _ _) (Nat.le_refl _) ?_; intro v602 w13 ho14 hb hg_ hnew_; clear hg_ hnew_; (first | rw [← Ny601.out] at ho14 | (simp only [Int.reduceToNat] at ho14; rw [← Ny601.out] at ho14)); have n0_ := Aside0.mk (Kd.R_elder' (by (with_reducible repeat (first | apply Kd.R_alloc | apply Kd.R_drewN | apply Kd.R_drew)); exact HO597.out) (Kd.R_base ho14) hb); have n1_ := Aside0.mk (Kd.R_elder' (by (with_reducible repeat (first | apply Kd.R_alloc | apply Kd.R_drewN | apply Kd.R_drew)); exact HO600.out) (Kd.R_base ho14) hb); have n2_ := Aside0.mk (Kd.R_lower (Kd.R_new' (Kd.R_new' ho14 (Kd.R_lt (by (with_reducible repeat (first | apply Kd.R_alloc | apply Kd.R_drewN | apply Kd.R_drew)); exact HO597.out))) (Kd.R_lt (by (with_reducible repeat (first | apply Kd.R_alloc | apply Kd.R_drewN | apply Kd.R_drew)); exact HO600.out))) (below_size (by repeat (first | (with_reducible first | exact HB.out | apply below_alloc | apply pw_below_drewN | apply below_drew1) | exact HB.out)))); have n3_ := Aside0.mk (below_step (by repeat (first | (with_reducible first | exact HB.out | apply below_alloc | apply pw_below_drewN | apply below_drew1) | exact HB.out)) hb); clear HO597; clear HO600; clear HB; have HO597 := n0_; have HO600 := n1_; have HO603 := n2_; have HB := n3_; clear n0_ n1_ n2_ n3_; clear hb ho14; obtain ⟨Ao15, co15, eo15⟩ := Kd.R_slice HO603.out; subst eo15))
      go_loopg [6, 21] k (fun kq v6 v21 w' => ∃ (x5_1 : List Int) (x6_1 : Int) (x21_1 : Int), v6 = .int .u64 x6_1 ∧ v21 = .int .i64 x21_1 ∧ Aside0 (nat_Add.l0 kq t595 t598 x5_1 x6_1 (y601.length : Int) x21_1 = some r) ∧ Aside0 (kq ≤ k) ∧ Aside0 (Kd.R (Kd.int .u64) 63 w' w.heap.size (fun k_ => some k_ ≠ ((.slice Ao12 t598.length co12) : Value).ownBlock ∧ some k_ ≠ ((.slice Ao15 y601.length co15) : Value).ownBlock) (.slice Ao11 t595.length co11) t595) ∧ Aside0 (Kd.R (Kd.int .u64) 63 w' w.heap.size (fun k_ => some k_ ≠ ((.slice Ao11 t595.length co11) : Value).ownBlock ∧ some k_ ≠ ((.slice Ao15 y601.length co15) : Value).ownBlock) (.slice Ao12 t598.length co12) t598) ∧ Aside0 (Kd.R (Kd.int .u64) 63 w' w.heap.size (fun k_ => some k_ ≠ ((.slice Ao11 t595.length co11) : Value).ownBlock ∧ some k_ ≠ ((.slice Ao12 t598.length co12) : Value).ownBlock) (.slice Ao15 y601.length co15) x5_1) ∧ Aside0 (Below w.heap.size w w'))
      case atStart => exact ⟨(y601), (0), (0), (by first | rfl | (simp; done) | (simp [*]; done)), (by first | rfl | (simp; done) | (simp [*]; done)), H', ⟨Nat.le_refl _⟩, ⟨by (with_reducible repeat (first | apply Kd.R_alloc | apply Kd.R_drewN | apply Kd.R_drew)); exact Kd.R_mono HO597.out (fun _ hk => ⟨hk.1.2, hk.2⟩)⟩, ⟨by (with_reducible repeat (first | apply Kd.R_alloc | apply Kd.R_drewN | apply Kd.R_drew)); exact Kd.R_mono HO600.out (fun _ hk => ⟨hk.1.2, hk.2⟩)⟩, ⟨by (with_reducible repeat (first | apply Kd.R_alloc | apply Kd.R_drewN | apply Kd.R_drew)); exact Kd.R_mono HO603.out (fun _ hk => ⟨hk.1.2, hk.2⟩)⟩, ⟨by repeat (first | (with_reducible first | exact HB.out | apply below_alloc | apply pw_below_drewN | apply below_drew1) | exact HB.out)⟩⟩
      case round =>
        clear H'
        try clear c1
        try clear p2
        try clear c5
        try clear p6
        try clear c7
        try clear c7b0
        try clear c7b1
        try clear c8
        try clear c8b0
        try clear c8b1
        obtain ⟨x5_1, x6_1, x21_1, rfl, rfl, HA, HK1, HO_0, HO_1, HO_5, HB⟩ := hrel
        have hl5_1 := (Kd.R_reads' HO_5.out).1
        rw [hl5_1] at HO_5
        (try simp only [hl5_1])
        (try simp only [hl5_1] at HO_0)
        (try simp only [hl5_1] at HO_1)
        cases gk with
        | zero => exact absurd HA.out (by simp [nat_Add.l0])
        | succ k1 =>
          have H := HA.out
          clear HA
          simp only [nat_Add.l0] at H
          by_cases c16 : x21_1 < (y601.length : Int)
          · rw [if_pos c16] at H
            have c16b0 : decide (x21_1 < (y601.length : Int)) = true := decide_eq_true c16
            (try (have c16b0_hl5_1 := c16b0; simp only [hl5_1] at c16b0_hl5_1))
            clear c16
            replace H := Option.bind_eq_some_iff.mp H
            obtain ⟨t604, A170, H⟩ := H
            replace H : ((nat_limb.f t598 x21_1).bind fun t605 => (if 0 ≤ x21_1 then (if x21_1 < (x5_1.length : Int) then (nat_Add.l0 k1 t595 t598 (x5_1.set (x21_1 : Int).toNat (Go.bits .and .u64 (IntKind.u64.wrap (x6_1 + (IntKind.u64.wrap (t604 + t605)))) 4294967295)) ((IntKind.u64.wrap (x6_1 + (IntKind.u64.wrap (t604 + t605)))) / 4294967296) (y601.length : Int) (wrap64 (x21_1 + 1))) else (none)) else (none))) = some r := H
            have A17 := Aside0.mk A170
            clear A170
            replace H := Option.bind_eq_some_iff.mp H
            obtain ⟨t605, A180, H⟩ := H
            replace H : (if 0 ≤ x21_1 then (if x21_1 < (x5_1.length : Int) then (nat_Add.l0 k1 t595 t598 (x5_1.set (x21_1 : Int).toNat (Go.bits .and .u64 (IntKind.u64.wrap (x6_1 + (IntKind.u64.wrap (t604 + t605)))) 4294967295)) ((IntKind.u64.wrap (x6_1 + (IntKind.u64.wrap (t604 + t605)))) / 4294967296) (y601.length : Int) (wrap64 (x21_1 + 1))) else (none)) else (none)) = some r := H
            have A18 := Aside0.mk A180
            clear A180
            by_cases c19 : 0 ≤ x21_1
            · rw [if_pos c19] at H
              have c19b0 : decide (0 ≤ x21_1) = true := decide_eq_true c19
              clear c19
              by_cases c20 : x21_1 < (x5_1.length : Int)
              · rw [if_pos c20] at H
                have c20b0 : decide (x21_1 < (x5_1.length : Int)) = true := decide_eq_true c20
                (try (have c20b0_hl5_1 := c20b0; simp only [hl5_1] at c20b0_hl5_1))
                clear c20
                obtain ⟨y606, hy606⟩ : ∃ y_ : List Int, y_ = (x5_1.set (x21_1 : Int).toNat (Go.bits .and .u64 (IntKind.u64.wrap (x6_1 + (IntKind.u64.wrap (t604 + t605)))) 4294967295)) := ⟨_, rfl⟩
                replace H : (nat_Add.l0 k1 t595 t598 y606 ((IntKind.u64.wrap (x6_1 + (IntKind.u64.wrap (t604 + t605)))) / 4294967296) (y601.length : Int) (wrap64 (x21_1 + 1))) = some r := by first | (rw [hy606]; with_reducible exact H) | (have H2_ := (Option.bind_some _ _).symm.trans H; rw [hy606]; with_reducible exact H2_) | (have H2_ := (Option.bind_some _ _).symm.trans H; with_reducible exact H2_) | with_reducible exact H | (rw [hy606]; exact H) | exact H
                have Ny606 := Aside0.mk hy606
                clear hy606
                have H' := Aside0.mk H
                clear H
                go_wp2_with (first | ((with_reducible refine gate_callee (f := 81) rfl ?_); refine goesL_ (some 27) rfl rfl Try.func81 (by kernel_rfl) rfl #[.slice Ao11 t595.length co11, .int .i64 x21_1] rfl (by (try simp only [List.map_toArray, List.map_cons, List.map_nil]); first | done | rfl | (simp only [List.length_drop, List.length_take]; rfl)) ?_; (with_reducible refine (nat_limb.calls _ _ t595 x21_1 t604 _ ?side1 ?side2 A17.out).mono ?_); (case side1 => repeat (first | exact (Kd.R_reads' HO_0.out).2.2 | (with_reducible refine Kd.C_alloc ?_ _) | (with_reducible refine Kd.C_drewN ?_ _) | (with_reducible refine Kd.C_drew ?_))); (case side2 => exact (Kd.R_reads' HO_0.out).2.1); rintro e w' ⟨rfl, ⟨nd, rfl⟩⟩; refine ⟨_, rfl, ?_⟩; (try (rw [drewN_self wr]; generalize hq_ : World.drewN wr _ = wr; have n0_ : Aside0 (Kd.R (Kd.int .u64) 63 wr w.heap.size (fun k_ => some k_ ≠ (.slice Ao12 t598.length co12 : Value).ownBlock ∧ some k_ ≠ (.slice Ao15 x5_1.length co15 : Value).ownBlock) (.slice Ao11 t595.length co11) t595) := ⟨by rw [← hq_]; exact (by (with_reducible repeat (first | apply Kd.R_alloc | apply Kd.R_drewN | apply Kd.R_drew)); exact HO_0.out)⟩; have n1_ : Aside0 (Kd.R (Kd.int .u64) 63 wr w.heap.size (fun k_ => some k_ ≠ (.slice Ao11 t595.length co11 : Value).ownBlock ∧ some k_ ≠ (.slice Ao15 x5_1.length co15 : Value).ownBlock) (.slice Ao12 t598.length co12) t598) := ⟨by rw [← hq_]; exact (by (with_reducible repeat (first | apply Kd.R_alloc | apply Kd.R_drewN | apply Kd.R_drew)); exact HO_1.out)⟩; have n2_ : Aside0 (Kd.R (Kd.int .u64) 63 wr w.heap.size (fun k_ => some k_ ≠ (.slice Ao11 t595.length co11 : Value).ownBlock ∧ some k_ ≠ (.slice Ao12 t598.length co12 : Value).ownBlock) (.slice Ao15 x5_1.length co15) x5_1) := ⟨by rw [← hq_]; exact (by (with_reducible repeat (first | apply Kd.R_alloc | apply Kd.R_drewN | apply Kd.R_drew)); exact HO_5.out)⟩; have n3_ : Aside0 (Below w.heap.size w wr) := ⟨by rw [← hq_]; exact (by repeat (first | (with_reducible first | exact HB.out | apply below_alloc | apply pw_below_drewN | apply below_drew1) | exact HB.out))⟩; clear HO_0 HO_1 HO_5 HB hq_; have HO_0 := n0_; have HO_1 := n1_; have HO_5 := n2_; have HB := n3_; clear n0_ n1_ n2_ n3_))) | ((with_reducible refine gate_callee (f := 81) rfl ?_); refine goesL_ (some 30) rfl rfl Try.func81 (by kernel_rfl) rfl #[.slice Ao12 t598.length co12, .int .i64 x21_1] rfl (by (try simp only [List.map_toArray, List.map_cons, List.map_nil]); first | done | rfl | (simp only [List.length_drop, List.length_take]; rfl)) ?_; (with_reducible refine (nat_limb.calls _ _ t598 x21_1 t605 _ ?side1 ?side2 A18.out).mono ?_); (case side1 => repeat (first | exact (Kd.R_reads' HO_1.out).2.2 | (with_reducible refine Kd.C_alloc ?_ _) | (with_reducible refine Kd.C_drewN ?_ _) | (with_reducible refine Kd.C_drew ?_))); (case side2 => exact (Kd.R_reads' HO_1.out).2.1); rintro e w' ⟨rfl, ⟨nd, rfl⟩⟩; refine ⟨_, rfl, ?_⟩; (try (rw [drewN_self wr]; generalize hq_ : World.drewN wr _ = wr; have n0_ : Aside0 (Kd.R (Kd.int .u64) 63 wr w.heap.size (fun k_ => some k_ ≠ (.slice Ao12 t598.length co12 : Value).ownBlock ∧ some k_ ≠ (.slice Ao15 x5_1.length co15 : Value).ownBlock) (.slice Ao11 t595.length co11) t595) := ⟨by rw [← hq_]; exact (by (with_reducible repeat (first | apply Kd.R_alloc | apply Kd.R_drewN | apply Kd.R_drew)); exact HO_0.out)⟩; have n1_ : Aside0 (Kd.R (Kd.int .u64) 63 wr w.heap.size (fun k_ => some k_ ≠ (.slice Ao11 t595.length co11 : Value).ownBlock ∧ some k_ ≠ (.slice Ao15 x5_1.length co15 : Value).ownBlock) (.slice Ao12 t598.length co12) t598) := ⟨by rw [← hq_]; exact (by (with_reducible repeat (first | apply Kd.R_alloc | apply Kd.R_drewN | apply Kd.R_drew)); exact HO_1.out)⟩; have n2_ : Aside0 (Kd.R (Kd.int .u64) 63 wr w.heap.size (fun k_ => some k_ ≠ (.slice Ao11 t595.length co11 : Value).ownBlock ∧ some k_ ≠ (.slice Ao12 t598.length co12 : Value).ownBlock) (.slice Ao15 x5_1.length co15) x5_1) := ⟨by rw [← hq_]; exact (by (with_reducible repeat (first | apply Kd.R_alloc | apply Kd.R_drewN | apply Kd.R_drew)); exact HO_5.out)⟩; have n3_ : Aside0 (Below w.heap.size w wr) := ⟨by rw [← hq_]; exact (by repeat (first | (with_reducible first | exact HB.out | apply below_alloc | apply pw_below_drewN | apply below_drew1) | exact HB.out))⟩; clear HO_0 HO_1 HO_5 HB hq_; have HO_0 := n0_; have HO_1 := n1_; have HO_5 := n2_; have HB := n3_; clear n0_ n1_ n2_ n3_)); have p21 : 0 ≤ (x21_1 : Int) := of_decide_eq_true (by first | (with_reducible assumption) | assumption); have q21 : (x21_1 : Int) < ((x5_1.length : Int) : Int) := of_decide_eq_true (by first | (with_reducible assumption) | assumption); obtain ⟨go21, co21, eo21, gb21, gl21, cl21, HG21⟩ := Kd.R_form HO_5.out (by omega); (first | cases eo21 | (injection eo21 with ea_ en_ ec_; (first | subst ea_ | (injection ea_ with ea_; subst ea_)); subst ec_; clear en_)); have GB21 := Aside0.mk gb21; have GG21 := Aside0.mk HG21; clear gb21 gl21 HG21; obtain ⟨hx21_0, hf21_0⟩ := Kd.R_celln 0 HO_5.out (x21_1 : Int) p21 q21; replace p21 := eq_true p21; replace q21 := eq_true q21; obtain ⟨hy22_, hz22_⟩ := Kd.R_celln 0 HO_5.out (x21_1 : Int) (of_decide_eq_true (by first | (with_reducible assumption) | assumption)) (of_decide_eq_true (by first | (with_reducible assumption) | assumption)); have HP22 := Kd.R_putg HO_5.out (x21_1 : Int) (Go.bits .and .u64 (IntKind.u64.wrap (x6_1 + (IntKind.u64.wrap (t604 + t605)))) 4294967295)) | ((with_reducible refine gate_store (t := 63) (p := 37) rfl ?_); refine store_event (t := 63) (p := 37) (v := ?vo_w23) (w1 := (wr.setCell ⟨go21, (x21_1 : Int).toNat, none⟩ (.int .u64 (Go.bits .and .u64 (IntKind.u64.wrap (x6_1 + (IntKind.u64.wrap (t604 + t605)))) 4294967295)))) ?hg ?ho ?hn ?hr ?_; (case ho => rfl); (case hg => rfl); (case hn => rfl); (case hr => first | (go_simp; done) | (go_simp; rfl)); intro w23 hw; have hg : wr.grownBy w23 (some go21) := (by rw [hw]; exact HP22.2); have hp_ : Kd.R (Kd.int .u64) 63 w23 w.heap.size (fun k_ => some k_ ≠ (.slice Ao11 t595.length co11 : Value).ownBlock ∧ some k_ ≠ (.slice Ao12 t598.length co12 : Value).ownBlock) (.slice (some ⟨go21, 0, none⟩) x5_1.length co15) y606 := (by rw [hw, Ny606.out]; exact HP22.1); clear HP22; have n0_ := Aside0.mk (Kd.R_after (v := (.slice (some ⟨go21, 0, none⟩) x5_1.length co15)) (v1 := (.slice (some ⟨go21, 0, none⟩) x5_1.length co15)) (ok := (fun k_ => some k_ ≠ (.slice Ao12 t598.length co12 : Value).ownBlock)) (by (with_reducible repeat (first | apply Kd.R_alloc | apply Kd.R_drewN | apply Kd.R_drew)); exact HO_0.out) hg (.inl rfl)); have n1_ := Aside0.mk (Kd.R_after (v := (.slice (some ⟨go21, 0, none⟩) x5_1.length co15)) (v1 := (.slice (some ⟨go21, 0, none⟩) x5_1.length co15)) (ok := (fun k_ => some k_ ≠ (.slice Ao11 t595.length co11 : Value).ownBlock)) (by (with_reducible repeat (first | apply Kd.R_alloc | apply Kd.R_drewN | apply Kd.R_drew)); exact HO_1.out) hg (.inl rfl)); have n2_ := Aside0.mk (hp_); have n3_ := Aside0.mk ((by rw [hw]; exact below_set (HB.out) GB21.out : Below w.heap.size w w23)); clear HO_0; clear HO_1; clear HO_5; clear HB; have HO_0 := n0_; have HO_1 := n1_; have HO_5 := n2_; have HB := n3_; clear n0_ n1_ n2_ n3_; clear hg hw hp_))
                (try simp only [← hl5_1])
                go_roundg k1
                case measure => have := HK1.out; omega
                case rel => exact ⟨(y606), ((IntKind.u64.wrap (x6_1 + (IntKind.u64.wrap (t604 + t605)))) / 4294967296), (wrap64 (x21_1 + 1)), (by first | rfl | (simp; done) | (simp [*]; done)), (by first | rfl | (simp; done) | (simp [*]; done)), (by first | exact H' | (rw [hji5]; exact H') | (rw [hji6]; exact H')), ⟨by have := HK1.out; omega⟩, ⟨by (try simp only [hl5_1]); (with_reducible repeat (first | apply Kd.R_alloc | apply Kd.R_drewN | apply Kd.R_drew)); exact HO_0.out⟩, ⟨by (try simp only [hl5_1]); (with_reducible repeat (first | apply Kd.R_alloc | apply Kd.R_drewN | apply Kd.R_drew)); exact HO_1.out⟩, ⟨by (try simp only [hl5_1]); (with_reducible repeat (first | apply Kd.R_alloc | apply Kd.R_drewN | apply Kd.R_drew)); exact HO_5.out⟩, ⟨by repeat (first | (with_reducible first | exact HB.out | apply below_alloc | apply pw_below_drewN | apply below_drew1) | exact HB.out)⟩⟩
              · rw [if_neg c20] at H
                exact absurd H (by simp)
            · rw [if_neg c19] at H
              exact absurd H (by simp)
          · rw [if_neg c16] at H
            have c16b0 : decide (x21_1 < (y601.length : Int)) = false := decide_eq_false c16
            (try (have c16b0_hl5_1 := c16b0; simp only [hl5_1] at c16b0_hl5_1))
            clear c16
            replace H := Option.bind_eq_some_iff.mp H
            obtain ⟨t607, A240, H⟩ := H
            replace H : (some t607) = some r := H
            have A24 := Aside0.mk A240
            clear A240
            obtain rfl := Option.some.inj H
            go_wp2_with (first | ((with_reducible refine gate_callee (f := 72) rfl ?_); refine goesL_ (some 42) rfl rfl Try.func72 (by kernel_rfl) rfl #[.slice Ao15 x5_1.length co15] rfl (by (try simp only [List.map_toArray, List.map_cons, List.map_nil]); first | done | rfl | (simp only [List.length_drop, List.length_take]; rfl)) ?_; (with_reducible refine (nat_trim.calls k1 (fun k_ => some k_ = (.slice Ao15 x5_1.length co15 : Value).ownBlock) (.slice Ao15 x5_1.length co15) x5_1 t607 w _ ?side1 ?side2 A24.out).mono ?_); (case side1 => repeat (first | (with_reducible first | exact HB.out | apply below_alloc | apply pw_below_drewN | apply below_drew1) | exact HB.out)); (case side2 => exact Kd.R_tight rfl HO_5.out); rintro e w25 ⟨v608, rfl, ho0, hb, hkp⟩; refine ⟨_, rfl, ?_⟩; have n0_ := Aside0.mk (Kd.R_mono (ok' := fun k_ => some k_ ≠ (.slice Ao12 t598.length co12 : Value).ownBlock ∧ some k_ ≠ (v608 : Value).ownBlock) (Kd.R_keptB (HO_0.out) hkp (fun k_ hk_ hs_ => (hk_.2) hs_)) (fun k_ hk_ => ⟨hk_.1.1, fun e_ => Or.elim (ho0.1 k_ e_.symm) (fun hs_ => hk_.2.1 hs_) (fun hn_ => Nat.not_le.2 hk_.2.2 hn_)⟩)); have n1_ := Aside0.mk (Kd.R_mono (ok' := fun k_ => some k_ ≠ (.slice Ao11 t595.length co11 : Value).ownBlock ∧ some k_ ≠ (v608 : Value).ownBlock) (Kd.R_keptB (HO_1.out) hkp (fun k_ hk_ hs_ => (hk_.2) hs_)) (fun k_ hk_ => ⟨hk_.1.1, fun e_ => Or.elim (ho0.1 k_ e_.symm) (fun hs_ => hk_.2.1 hs_) (fun hn_ => Nat.not_le.2 hk_.2.2 hn_)⟩)); have n2_ := Aside0.mk (Kd.R_mono (ok' := fun k_ => some k_ ≠ (.slice Ao11 t595.length co11 : Value).ownBlock ∧ some k_ ≠ (.slice Ao12 t598.length co12 : Value).ownBlock) ho0 (fun k_ hk_ => ⟨Or.elim hk_ (fun hs_ => fun e_ => (((HO_0.out).1 k_ e_.symm).2) hs_) (fun hn_ => (Kd.fresh' (Kd.R_lt (by (with_reducible repeat (first | apply Kd.R_alloc | apply Kd.R_drewN | apply Kd.R_drew)); exact HO_0.out)) k_ hn_)), Or.elim hk_ (fun hs_ => fun e_ => (((HO_1.out).1 k_ e_.symm).2) hs_) (fun hn_ => (Kd.fresh' (Kd.R_lt (by (with_reducible repeat (first | apply Kd.R_alloc | apply Kd.R_drewN | apply Kd.R_drew)); exact HO_1.out)) k_ hn_))⟩)); have n3_ := Aside0.mk (hb); clear HO_0; clear HO_1; clear HB; clear HO_5; have HO_0 := n0_; have HO_1 := n1_; have HO609 := n2_; have HB := n3_; clear n0_ n1_ n2_ n3_; (try clear hb); (try clear hkp); (try clear ho0)))
            go_ret
            exact ⟨_, by first | rfl | (simp [errW_none, errW_some] <;> rfl) | (simp only [← hji5, ← hji6]; first | rfl | (simp [errW_none, errW_some] <;> rfl)) | (simp [*, errW_none, errW_some] <;> rfl), by (with_reducible repeat (first | apply Kd.R_alloc | apply Kd.R_drewN | apply Kd.R_drew)); exact Kd.R_mono HO609.out (fun _ hk => trivial), by repeat (first | (with_reducible first | exact HB.out | apply below_alloc | apply pw_below_drewN | apply below_drew1) | exact HB.out)⟩
    · rw [if_neg c8] at H
      exact absurd H (by simp)
  · rw [if_neg c7] at H
    exact absurd H (by simp)
def nat_minus.l0 : Nat → List Int → List Int → List Int → Int → Int → Int → Option (List Int)
  | 0, _, _, _, _, _, _ => none
  | k + 1, x0, x1, x5, x6, x13, x14 => if x14 < x13 then (if 0 ≤ x14 then (if x14 < (x0.length : Int) then ((nat_limb.f x1 x14).bind fun t686 => (if x14 < (x5.length : Int) then (nat_minus.l0 k x0 x1 (x5.set (x14 : Int).toNat (Go.bits .and .u64 (IntKind.u64.wrap ((IntKind.u64.wrap ((IntKind.u64.wrap (4294967296 + (rd x0 x14))) - t686)) - x6)) 4294967295)) (IntKind.u64.wrap (1 - ((IntKind.u64.wrap ((IntKind.u64.wrap ((IntKind.u64.wrap (4294967296 + (rd x0 x14))) - t686)) - x6)) / 4294967296))) x13 (wrap64 (x14 + 1))) else (none))) else (none)) else (none)) else ((nat_trim.f k x5).bind fun t688 => (some t688))
def nat_minus.f (k : Nat) (l0 : List Int) (l1 : List Int) : Option (List Int) := if 0 ≤ (l0.length : Int) then (if ((l0.length : Int) : Int).toNat ≤ 35184372088832 then ((some (List.replicate ((l0.length : Int) : Int).toNat 0 : List Int)).bind fun y682 => (nat_minus.l0 k l0 l1 y682 0 (y682.length : Int) 0)) else (none)) else (none)
set_option maxHeartbeats 8000000 in
set_option maxRecDepth 100000 in
theorem nat_minus.calls (k : Nat) (A0 : Option Addr) (c0 : Nat) (l0 : List Int) (A1 : Option Addr) (c1 : Nat) (l1 : List Int) (r : List Int) (w : World) (hr0 : Kd.C (Kd.int .u64) w A0 l0.length l0) (hc0 : l0.length ≤ c0) (hr1 : Kd.C (Kd.int .u64) w A1 l1.length l1) (hc1 : l1.length ≤ c1) (h : nat_minus.f k l0 l1 = some r) :
    Calls Try.prog 82 #[.slice A0 l0.length c0, .slice A1 l1.length c1] w fun e w' => ∃ v0_ : Value, e = .returned (v0_) ∧ Kd.R (Kd.int .u64) 63 w' w.heap.size (fun _ => True) v0_ r ∧ Below w.heap.size w w' := by
  have HR0 := Aside0.mk hr0
  have HC0 := Aside0.mk hc0
  clear hr0 hc0
  have HR1 := Aside0.mk hr1
  have HC1 := Aside0.mk hc1
  clear hr1 hc1
  have HB := Aside0.mk (Below.refl w.heap.size w)
  have H : (if 0 ≤ (l0.length : Int) then (if ((l0.length : Int) : Int).toNat ≤ 35184372088832 then ((some (List.replicate ((l0.length : Int) : Int).toNat 0 : List Int)).bind fun y682 => (nat_minus.l0 k l0 l1 y682 0 (y682.length : Int) 0)) else (none)) else (none)) = some r := h
  clear h
  by_cases c3 : 0 ≤ (l0.length : Int)
  · rw [if_pos c3] at H
    have c3b0 := eq_true c3
    have c3b1 : decide (0 ≤ (l0.length : Int)) = true := decide_eq_true c3
    (try (have c3b1_hl5_1 := c3b1; simp only [hl5_1] at c3b1_hl5_1))
    clear c3
    by_cases c4 : ((l0.length : Int) : Int).toNat ≤ 35184372088832
    · rw [if_pos c4] at H
      have c4b0 := eq_true c4
      have c4b1 : decide (((l0.length : Int) : Int).toNat ≤ 35184372088832) = true := decide_eq_true c4
      (try (have c4b1_hl5_1 := c4b1; simp only [hl5_1] at c4b1_hl5_1))
      clear c4
      obtain ⟨y682, hy682⟩ : ∃ y_ : List Int, y_ = (List.replicate ((l0.length : Int) : Int).toNat 0) := ⟨_, rfl⟩
      replace H : (nat_minus.l0 k l0 l1 y682 0 (y682.length : Int) 0) = some r := by first | (rw [hy682]; with_reducible exact H) | (have H2_ := (Option.bind_some _ _).symm.trans H; rw [hy682]; with_reducible exact H2_) | (have H2_ := (Option.bind_some _ _).symm.trans H; with_reducible exact H2_) | with_reducible exact H | (rw [hy682]; exact H) | exact H
      have Ny682 := Aside0.mk hy682
      clear hy682
      have H' := Aside0.mk H
      clear H
      go_enter Try.func82, Try.ntmps82
      go_wp2_with (first | ((with_reducible refine gate_dst (N := 11) rfl ?_); refine Kd.R_make (Kd.int .u64) _ 63 rfl (N := 11) rfl 39 _ _ rfl (l0.length : Int) rfl rfl Try.underlying39 (.int .u64 0) 8 info63 rfl (by decide) (by omega) 0 (ok := fun _ => True) (okp := fun _ => True) rfl (fun _ hk => hk) trivial (of_decide_eq_true (by first | (with_reducible assumption) | assumption)) (Nat.le_trans (Nat.mul_le_mul_right _ (of_decide_eq_true (by first | (with_reducible assumption) | assumption) : (l0.length : Int).toNat ≤ 35184372088832)) (by omega)) (Below.refl _ _) (Nat.le_refl _) ?_; intro v683 w5 ho6 hb hg_ hnew_; clear hg_ hnew_; (first | rw [← Ny682.out] at ho6 | (simp only [Int.reduceToNat] at ho6; rw [← Ny682.out] at ho6)); have n0_ := Aside0.mk (Kd.R_lower ho6 (below_size (by repeat (first | (with_reducible first | exact HB.out | apply below_alloc | apply pw_below_drewN | apply below_drew1) | exact HB.out)))); have n1_ := Aside0.mk (below_step (by repeat (first | (with_reducible first | exact HB.out | apply below_alloc | apply pw_below_drewN | apply below_drew1) | exact HB.out)) hb); clear HB; have HO684 := n0_; have HB := n1_; clear n0_ n1_; clear hb ho6; obtain ⟨Ao7, co7, eo7⟩ := Kd.R_slice HO684.out; subst eo7))
      repeat (go_quiet (first | ((with_reducible refine gate_dst (N := 11) rfl ?_); refine Kd.R_make (Kd.int .u64) _ 63 rfl (N := 11) rfl 39 _ _ rfl (l0.length : Int) rfl rfl Try.underlying39 (.int .u64 0) 8 info63 rfl (by decide) (by omega) 0 (ok := fun _ => True) (okp := fun _ => True) rfl (fun _ hk => hk) trivial (of_decide_eq_true (by first | (with_reducible assumption) | assumption)) (Nat.le_trans (Nat.mul_le_mul_right _ (of_decide_eq_true (by first | (with_reducible assumption) | assumption) : (l0.length : Int).toNat ≤ 35184372088832)) (by omega)) (Below.refl _ _) (Nat.le_refl _) ?_; intro v683 w5 ho6 hb hg_ hnew_; clear hg_ hnew_; (first | rw [← Ny682.out] at ho6 | (simp only [Int.reduceToNat] at ho6; rw [← Ny682.out] at ho6)); have n0_ := Aside0.mk (Kd.R_lower ho6 (below_size (by repeat (first | (with_reducible first | exact HB.out | apply below_alloc | apply pw_below_drewN | apply below_drew1) | exact HB.out)))); have n1_ := Aside0.mk (below_step (by repeat (first | (with_reducible first | exact HB.out | apply below_alloc | apply pw_below_drewN | apply below_drew1) | exact HB.out)) hb); clear HB; have HO684 := n0_; have HB := n1_; clear n0_ n1_; clear hb ho6; obtain ⟨Ao7, co7, eo7⟩ := Kd.R_slice HO684.out; subst eo7)); try go_wp2_with (first | ((with_reducible refine gate_dst (N := 11) rfl ?_); refine Kd.R_make (Kd.int .u64) _ 63 rfl (N := 11) rfl 39 _ _ rfl (l0.length : Int) rfl rfl Try.underlying39 (.int .u64 0) 8 info63 rfl (by decide) (by omega) 0 (ok := fun _ => True) (okp := fun _ => True) rfl (fun _ hk => hk) trivial (of_decide_eq_true (by first | (with_reducible assumption) | assumption)) (Nat.le_trans (Nat.mul_le_mul_right _ (of_decide_eq_true (by first | (with_reducible assumption) | assumption) : (l0.length : Int).toNat ≤ 35184372088832)) (by omega)) (Below.refl _ _) (Nat.le_refl _) ?_; intro v683 w5 ho6 hb hg_ hnew_; clear hg_ hnew_; (first | rw [← Ny682.out] at ho6 | (simp only [Int.reduceToNat] at ho6; rw [← Ny682.out] at ho6)); have n0_ := Aside0.mk (Kd.R_lower ho6 (below_size (by repeat (first | (with_reducible first | exact HB.out | apply below_alloc | apply pw_below_drewN | apply below_drew1) | exact HB.out)))); have n1_ := Aside0.mk (below_step (by repeat (first | (with_reducible first | exact HB.out | apply below_alloc | apply pw_below_drewN | apply below_drew1) | exact HB.out)) hb); clear HB; have HO684 := n0_; have HB := n1_; clear n0_ n1_; clear hb ho6; obtain ⟨Ao7, co7, eo7⟩ := Kd.R_slice HO684.out; subst eo7)))
      go_loopg [6, 14] k (fun kq v6 v14 w' => ∃ (x5_1 : List Int) (x6_1 : Int) (x14_1 : Int), v6 = .int .u64 x6_1 ∧ v14 = .int .i64 x14_1 ∧ Aside0 (nat_minus.l0 kq l0 l1 x5_1 x6_1 (y682.length : Int) x14_1 = some r) ∧ Aside0 (kq ≤ k) ∧ Aside0 (Kd.R (Kd.int .u64) 63 w' w.heap.size (fun _ => True) (.slice Ao7 y682.length co7) x5_1) ∧ Aside0 (Below w.heap.size w w'))
      case atStart => exact ⟨(y682), (0), (0), (by first | rfl | (simp; done) | (simp [*]; done)), (by first | rfl | (simp; done) | (simp [*]; done)), H', ⟨Nat.le_refl _⟩, ⟨by (with_reducible repeat (first | apply Kd.R_alloc | apply Kd.R_drewN | apply Kd.R_drew)); exact HO684.out⟩, ⟨by repeat (first | (with_reducible first | exact HB.out | apply below_alloc | apply pw_below_drewN | apply below_drew1) | exact HB.out)⟩⟩
      case round =>
        clear H'
        try clear c1
        try clear p2
        try clear c3
        try clear c3b0
        try clear c3b1
        try clear c4
        try clear c4b0
        try clear c4b1
        obtain ⟨x5_1, x6_1, x14_1, rfl, rfl, HA, HK1, HO_5, HB⟩ := hrel
        have hl5_1 := (Kd.R_reads' HO_5.out).1
        rw [hl5_1] at HO_5
        (try simp only [hl5_1])
        cases gk with
        | zero => exact absurd HA.out (by simp [nat_minus.l0])
        | succ k1 =>
          have H := HA.out
          clear HA
          simp only [nat_minus.l0] at H
          by_cases c8 : x14_1 < (y682.length : Int)
          · rw [if_pos c8] at H
            have c8b0 : decide (x14_1 < (y682.length : Int)) = true := decide_eq_true c8
            (try (have c8b0_hl5_1 := c8b0; simp only [hl5_1] at c8b0_hl5_1))
            clear c8
            by_cases c9 : 0 ≤ x14_1
            · rw [if_pos c9] at H
              have c9b0 : decide (0 ≤ x14_1) = true := decide_eq_true c9
              clear c9
              by_cases c10 : x14_1 < (l0.length : Int)
              · rw [if_pos c10] at H
                have c10b0 : decide (x14_1 < (l0.length : Int)) = true := decide_eq_true c10
                (try (have c10b0_hl5_1 := c10b0; simp only [hl5_1] at c10b0_hl5_1))
                clear c10
                replace H := Option.bind_eq_some_iff.mp H
                obtain ⟨t686, A110, H⟩ := H
                replace H : (if x14_1 < (x5_1.length : Int) then (nat_minus.l0 k1 l0 l1 (x5_1.set (x14_1 : Int).toNat (Go.bits .and .u64 (IntKind.u64.wrap ((IntKind.u64.wrap ((IntKind.u64.wrap (4294967296 + (rd l0 x14_1))) - t686)) - x6_1)) 4294967295)) (IntKind.u64.wrap (1 - ((IntKind.u64.wrap ((IntKind.u64.wrap ((IntKind.u64.wrap (4294967296 + (rd l0 x14_1))) - t686)) - x6_1)) / 4294967296))) (y682.length : Int) (wrap64 (x14_1 + 1))) else (none)) = some r := H
                have A11 := Aside0.mk A110
                clear A110
                by_cases c12 : x14_1 < (x5_1.length : Int)
                · rw [if_pos c12] at H
                  have c12b0 : decide (x14_1 < (x5_1.length : Int)) = true := decide_eq_true c12
                  (try (have c12b0_hl5_1 := c12b0; simp only [hl5_1] at c12b0_hl5_1))
                  clear c12
                  obtain ⟨y687, hy687⟩ : ∃ y_ : List Int, y_ = (x5_1.set (x14_1 : Int).toNat (Go.bits .and .u64 (IntKind.u64.wrap ((IntKind.u64.wrap ((IntKind.u64.wrap (4294967296 + (rd l0 x14_1))) - t686)) - x6_1)) 4294967295)) := ⟨_, rfl⟩
                  replace H : (nat_minus.l0 k1 l0 l1 y687 (IntKind.u64.wrap (1 - ((IntKind.u64.wrap ((IntKind.u64.wrap ((IntKind.u64.wrap (4294967296 + (rd l0 x14_1))) - t686)) - x6_1)) / 4294967296))) (y682.length : Int) (wrap64 (x14_1 + 1))) = some r := by first | (rw [hy687]; with_reducible exact H) | (have H2_ := (Option.bind_some _ _).symm.trans H; rw [hy687]; with_reducible exact H2_) | (have H2_ := (Option.bind_some _ _).symm.trans H; with_reducible exact H2_) | with_reducible exact H | (rw [hy687]; exact H) | exact H
                  have Ny687 := Aside0.mk hy687
                  clear hy687
                  have H' := Aside0.mk H
                  clear H
                  have p685 : 0 ≤ (x14_1 : Int) := of_decide_eq_true (by first | (with_reducible assumption) | assumption)
                  have q685 : x14_1 < (l0.length : Int) := of_decide_eq_true (by first | (with_reducible assumption) | assumption)
                  obtain ⟨ad685, e685, hx685_0⟩ := Kd.at_int HR0.out x14_1 p685 q685
                  cases e685
                  replace hx685_0 := (HB.out.cell (World.block_lt_of_cell? w _ hx685_0)).trans hx685_0
                  replace p685 := eq_true p685
                  replace q685 := eq_true q685
                  go_wp2_with (first | (go_at_call 81; (with_reducible refine (nat_limb.calls _ _ l1 x14_1 t686 _ ?side1 ?side2 A11.out).mono ?_); (case side1 => repeat (first | exact (Kd.C_below HR1.out HB.out) | (with_reducible refine Kd.C_alloc ?_ _) | (with_reducible refine Kd.C_drewN ?_ _) | (with_reducible refine Kd.C_drew ?_))); (case side2 => exact HC1.out); rintro e w' ⟨rfl, ⟨nd, rfl⟩⟩; (try first | exact ⟨rfl, _, World.drewN_drewN _ _ _⟩ | exact ⟨rfl, _, Eq.trans (World.drewN_drewN _ _ _) (congrArg (World.drewN _) (Nat.add_assoc _ _ _))⟩); have p13 : 0 ≤ (x14_1 : Int) := of_decide_eq_true (by first | (with_reducible assumption) | assumption); have q13 : (x14_1 : Int) < ((x5_1.length : Int) : Int) := of_decide_eq_true (by first | (with_reducible assumption) | assumption); obtain ⟨go13, co13, eo13, gb13, gl13, cl13, HG13⟩ := Kd.R_form HO_5.out (by omega); (first | cases eo13 | (injection eo13 with ea_ en_ ec_; (first | subst ea_ | (injection ea_ with ea_; subst ea_)); subst ec_; clear en_)); have GB13 := Aside0.mk gb13; have GG13 := Aside0.mk HG13; clear gb13 gl13 HG13; obtain ⟨hx13_0, hf13_0⟩ := Kd.R_celln 0 HO_5.out (x14_1 : Int) p13 q13; replace p13 := eq_true p13; replace q13 := eq_true q13; obtain ⟨hy14_, hz14_⟩ := Kd.R_celln 0 HO_5.out (x14_1 : Int) (of_decide_eq_true (by first | (with_reducible assumption) | assumption)) (of_decide_eq_true (by first | (with_reducible assumption) | assumption)); have HP14 := Kd.R_putg HO_5.out (x14_1 : Int) (Go.bits .and .u64 (IntKind.u64.wrap ((IntKind.u64.wrap ((IntKind.u64.wrap (4294967296 + (rd l0 x14_1))) - t686)) - x6_1)) 4294967295)) | ((with_reducible refine gate_store (t := 63) (p := 32) rfl ?_); (try (rw [drewN_self wr]; generalize hq_ : World.drewN wr _ = wr; have n0_ := Aside0.mk (Kd.R_at hq_ HO_5.out); have n1_ := Aside0.mk (below_at hq_ HB.out); clear hq_ HO_5 HB; have HO_5 := n0_; have HB := n1_; clear n0_ n1_; (try (obtain ⟨hy14_, hz14_⟩ := Kd.R_celln 0 HO_5.out (x14_1 : Int) (of_decide_eq_true (by first | (with_reducible assumption) | assumption)) (of_decide_eq_true (by first | (with_reducible assumption) | assumption)))); (try (have HP14 := Kd.R_putg HO_5.out (x14_1 : Int) (Go.bits .and .u64 (IntKind.u64.wrap ((IntKind.u64.wrap ((IntKind.u64.wrap (4294967296 + (rd l0 x14_1))) - t686)) - x6_1)) 4294967295))))); refine store_event (t := 63) (p := 32) (v := ?vo_w15) (w1 := (wr.setCell ⟨go13, (x14_1 : Int).toNat, none⟩ (.int .u64 (Go.bits .and .u64 (IntKind.u64.wrap ((IntKind.u64.wrap ((IntKind.u64.wrap (4294967296 + (rd l0 x14_1))) - t686)) - x6_1)) 4294967295)))) ?hg ?ho ?hn ?hr ?_; (case ho => rfl); (case hg => rfl); (case hn => rfl); (case hr => first | (go_simp; done) | (go_simp; rfl)); intro w15 hw; have hg : wr.grownBy w15 (some go13) := (by rw [hw]; exact HP14.2); have hp_ : Kd.R (Kd.int .u64) 63 w15 w.heap.size (fun _ => True) (.slice (some ⟨go13, 0, none⟩) x5_1.length co7) y687 := (by rw [hw, Ny687.out]; exact HP14.1); clear HP14; have n0_ := Aside0.mk (hp_); have n1_ := Aside0.mk ((by rw [hw]; exact below_set (HB.out) GB13.out : Below w.heap.size w w15)); clear HO_5; clear HB; have HO_5 := n0_; have HB := n1_; clear n0_ n1_; clear hg hw hp_))
                  repeat (go_quiet (first | (go_at_call 81; (with_reducible refine (nat_limb.calls _ _ l1 x14_1 t686 _ ?side1 ?side2 A11.out).mono ?_); (case side1 => repeat (first | exact (Kd.C_below HR1.out HB.out) | (with_reducible refine Kd.C_alloc ?_ _) | (with_reducible refine Kd.C_drewN ?_ _) | (with_reducible refine Kd.C_drew ?_))); (case side2 => exact HC1.out); rintro e w' ⟨rfl, ⟨nd, rfl⟩⟩; (try first | exact ⟨rfl, _, World.drewN_drewN _ _ _⟩ | exact ⟨rfl, _, Eq.trans (World.drewN_drewN _ _ _) (congrArg (World.drewN _) (Nat.add_assoc _ _ _))⟩); have p13 : 0 ≤ (x14_1 : Int) := of_decide_eq_true (by first | (with_reducible assumption) | assumption); have q13 : (x14_1 : Int) < ((x5_1.length : Int) : Int) := of_decide_eq_true (by first | (with_reducible assumption) | assumption); obtain ⟨go13, co13, eo13, gb13, gl13, cl13, HG13⟩ := Kd.R_form HO_5.out (by omega); (first | cases eo13 | (injection eo13 with ea_ en_ ec_; (first | subst ea_ | (injection ea_ with ea_; subst ea_)); subst ec_; clear en_)); have GB13 := Aside0.mk gb13; have GG13 := Aside0.mk HG13; clear gb13 gl13 HG13; obtain ⟨hx13_0, hf13_0⟩ := Kd.R_celln 0 HO_5.out (x14_1 : Int) p13 q13; replace p13 := eq_true p13; replace q13 := eq_true q13; obtain ⟨hy14_, hz14_⟩ := Kd.R_celln 0 HO_5.out (x14_1 : Int) (of_decide_eq_true (by first | (with_reducible assumption) | assumption)) (of_decide_eq_true (by first | (with_reducible assumption) | assumption)); have HP14 := Kd.R_putg HO_5.out (x14_1 : Int) (Go.bits .and .u64 (IntKind.u64.wrap ((IntKind.u64.wrap ((IntKind.u64.wrap (4294967296 + (rd l0 x14_1))) - t686)) - x6_1)) 4294967295)) | ((with_reducible refine gate_store (t := 63) (p := 32) rfl ?_); (try (rw [drewN_self wr]; generalize hq_ : World.drewN wr _ = wr; have n0_ := Aside0.mk (Kd.R_at hq_ HO_5.out); have n1_ := Aside0.mk (below_at hq_ HB.out); clear hq_ HO_5 HB; have HO_5 := n0_; have HB := n1_; clear n0_ n1_; (try (obtain ⟨hy14_, hz14_⟩ := Kd.R_celln 0 HO_5.out (x14_1 : Int) (of_decide_eq_true (by first | (with_reducible assumption) | assumption)) (of_decide_eq_true (by first | (with_reducible assumption) | assumption)))); (try (have HP14 := Kd.R_putg HO_5.out (x14_1 : Int) (Go.bits .and .u64 (IntKind.u64.wrap ((IntKind.u64.wrap ((IntKind.u64.wrap (4294967296 + (rd l0 x14_1))) - t686)) - x6_1)) 4294967295))))); refine store_event (t := 63) (p := 32) (v := ?vo_w15) (w1 := (wr.setCell ⟨go13, (x14_1 : Int).toNat, none⟩ (.int .u64 (Go.bits .and .u64 (IntKind.u64.wrap ((IntKind.u64.wrap ((IntKind.u64.wrap (4294967296 + (rd l0 x14_1))) - t686)) - x6_1)) 4294967295)))) ?hg ?ho ?hn ?hr ?_; (case ho => rfl); (case hg => rfl); (case hn => rfl); (case hr => first | (go_simp; done) | (go_simp; rfl)); intro w15 hw; have hg : wr.grownBy w15 (some go13) := (by rw [hw]; exact HP14.2); have hp_ : Kd.R (Kd.int .u64) 63 w15 w.heap.size (fun _ => True) (.slice (some ⟨go13, 0, none⟩) x5_1.length co7) y687 := (by rw [hw, Ny687.out]; exact HP14.1); clear HP14; have n0_ := Aside0.mk (hp_); have n1_ := Aside0.mk ((by rw [hw]; exact below_set (HB.out) GB13.out : Below w.heap.size w w15)); clear HO_5; clear HB; have HO_5 := n0_; have HB := n1_; clear n0_ n1_; clear hg hw hp_)); try go_wp2_with (first | (go_at_call 81; (with_reducible refine (nat_limb.calls _ _ l1 x14_1 t686 _ ?side1 ?side2 A11.out).mono ?_); (case side1 => repeat (first | exact (Kd.C_below HR1.out HB.out) | (with_reducible refine Kd.C_alloc ?_ _) | (with_reducible refine Kd.C_drewN ?_ _) | (with_reducible refine Kd.C_drew ?_))); (case side2 => exact HC1.out); rintro e w' ⟨rfl, ⟨nd, rfl⟩⟩; (try first | exact ⟨rfl, _, World.drewN_drewN _ _ _⟩ | exact ⟨rfl, _, Eq.trans (World.drewN_drewN _ _ _) (congrArg (World.drewN _) (Nat.add_assoc _ _ _))⟩); have p13 : 0 ≤ (x14_1 : Int) := of_decide_eq_true (by first | (with_reducible assumption) | assumption); have q13 : (x14_1 : Int) < ((x5_1.length : Int) : Int) := of_decide_eq_true (by first | (with_reducible assumption) | assumption); obtain ⟨go13, co13, eo13, gb13, gl13, cl13, HG13⟩ := Kd.R_form HO_5.out (by omega); (first | cases eo13 | (injection eo13 with ea_ en_ ec_; (first | subst ea_ | (injection ea_ with ea_; subst ea_)); subst ec_; clear en_)); have GB13 := Aside0.mk gb13; have GG13 := Aside0.mk HG13; clear gb13 gl13 HG13; obtain ⟨hx13_0, hf13_0⟩ := Kd.R_celln 0 HO_5.out (x14_1 : Int) p13 q13; replace p13 := eq_true p13; replace q13 := eq_true q13; obtain ⟨hy14_, hz14_⟩ := Kd.R_celln 0 HO_5.out (x14_1 : Int) (of_decide_eq_true (by first | (with_reducible assumption) | assumption)) (of_decide_eq_true (by first | (with_reducible assumption) | assumption)); have HP14 := Kd.R_putg HO_5.out (x14_1 : Int) (Go.bits .and .u64 (IntKind.u64.wrap ((IntKind.u64.wrap ((IntKind.u64.wrap (4294967296 + (rd l0 x14_1))) - t686)) - x6_1)) 4294967295)) | ((with_reducible refine gate_store (t := 63) (p := 32) rfl ?_); (try (rw [drewN_self wr]; generalize hq_ : World.drewN wr _ = wr; have n0_ := Aside0.mk (Kd.R_at hq_ HO_5.out); have n1_ := Aside0.mk (below_at hq_ HB.out); clear hq_ HO_5 HB; have HO_5 := n0_; have HB := n1_; clear n0_ n1_; (try (obtain ⟨hy14_, hz14_⟩ := Kd.R_celln 0 HO_5.out (x14_1 : Int) (of_decide_eq_true (by first | (with_reducible assumption) | assumption)) (of_decide_eq_true (by first | (with_reducible assumption) | assumption)))); (try (have HP14 := Kd.R_putg HO_5.out (x14_1 : Int) (Go.bits .and .u64 (IntKind.u64.wrap ((IntKind.u64.wrap ((IntKind.u64.wrap (4294967296 + (rd l0 x14_1))) - t686)) - x6_1)) 4294967295))))); refine store_event (t := 63) (p := 32) (v := ?vo_w15) (w1 := (wr.setCell ⟨go13, (x14_1 : Int).toNat, none⟩ (.int .u64 (Go.bits .and .u64 (IntKind.u64.wrap ((IntKind.u64.wrap ((IntKind.u64.wrap (4294967296 + (rd l0 x14_1))) - t686)) - x6_1)) 4294967295)))) ?hg ?ho ?hn ?hr ?_; (case ho => rfl); (case hg => rfl); (case hn => rfl); (case hr => first | (go_simp; done) | (go_simp; rfl)); intro w15 hw; have hg : wr.grownBy w15 (some go13) := (by rw [hw]; exact HP14.2); have hp_ : Kd.R (Kd.int .u64) 63 w15 w.heap.size (fun _ => True) (.slice (some ⟨go13, 0, none⟩) x5_1.length co7) y687 := (by rw [hw, Ny687.out]; exact HP14.1); clear HP14; have n0_ := Aside0.mk (hp_); have n1_ := Aside0.mk ((by rw [hw]; exact below_set (HB.out) GB13.out : Below w.heap.size w w15)); clear HO_5; clear HB; have HO_5 := n0_; have HB := n1_; clear n0_ n1_; clear hg hw hp_)))
                  (try simp only [← hl5_1])
                  go_roundg k1
                  case measure => have := HK1.out; omega
                  case rel => exact ⟨(y687), (IntKind.u64.wrap (1 - ((IntKind.u64.wrap ((IntKind.u64.wrap ((IntKind.u64.wrap (4294967296 + (rd l0 x14_1))) - t686)) - x6_1)) / 4294967296))), (wrap64 (x14_1 + 1)), (by first | rfl | (simp; done) | (simp [*]; done)), (by first | rfl | (simp; done) | (simp [*]; done)), H', ⟨by have := HK1.out; omega⟩, ⟨by (try simp only [hl5_1]); (with_reducible repeat (first | apply Kd.R_alloc | apply Kd.R_drewN | apply Kd.R_drew)); exact HO_5.out⟩, ⟨by repeat (first | (with_reducible first | exact HB.out | apply below_alloc | apply pw_below_drewN | apply below_drew1) | exact HB.out)⟩⟩
                · rw [if_neg c12] at H
                  exact absurd H (by simp)
              · rw [if_neg c10] at H
                exact absurd H (by simp)
            · rw [if_neg c9] at H
              exact absurd H (by simp)
          · rw [if_neg c8] at H
            have c8b0 : decide (x14_1 < (y682.length : Int)) = false := decide_eq_false c8
            (try (have c8b0_hl5_1 := c8b0; simp only [hl5_1] at c8b0_hl5_1))
            clear c8
            replace H := Option.bind_eq_some_iff.mp H
            obtain ⟨t688, A160, H⟩ := H
            replace H : (some t688) = some r := H
            have A16 := Aside0.mk A160
            clear A160
            obtain rfl := Option.some.inj H
            go_wp2_with (first | (go_at_call 72; (with_reducible refine (nat_trim.calls k1 (fun k_ => some k_ = (.slice Ao7 x5_1.length co7 : Value).ownBlock) (.slice Ao7 x5_1.length co7) x5_1 t688 w _ ?side1 ?side2 A16.out).mono ?_); (case side1 => repeat (first | (with_reducible first | exact HB.out | apply below_alloc | apply pw_below_drewN | apply below_drew1) | exact HB.out)); (case side2 => exact Kd.R_tight rfl HO_5.out); rintro e w17 ⟨v689, rfl, ho0, hb, hkp⟩; have n0_ := Aside0.mk (Kd.R_mono (ok' := fun k_ => True) ho0 (fun k_ hk_ => trivial)); have n1_ := Aside0.mk (hb); clear HB; clear HO_5; have HO690 := n0_; have HB := n1_; clear n0_ n1_; (try clear hb); (try clear hkp); (try clear ho0)))
            repeat (go_quiet (first | (go_at_call 72; (with_reducible refine (nat_trim.calls k1 (fun k_ => some k_ = (.slice Ao7 x5_1.length co7 : Value).ownBlock) (.slice Ao7 x5_1.length co7) x5_1 t688 w _ ?side1 ?side2 A16.out).mono ?_); (case side1 => repeat (first | (with_reducible first | exact HB.out | apply below_alloc | apply pw_below_drewN | apply below_drew1) | exact HB.out)); (case side2 => exact Kd.R_tight rfl HO_5.out); rintro e w17 ⟨v689, rfl, ho0, hb, hkp⟩; have n0_ := Aside0.mk (Kd.R_mono (ok' := fun k_ => True) ho0 (fun k_ hk_ => trivial)); have n1_ := Aside0.mk (hb); clear HB; clear HO_5; have HO690 := n0_; have HB := n1_; clear n0_ n1_; (try clear hb); (try clear hkp); (try clear ho0))); try go_wp2_with (first | (go_at_call 72; (with_reducible refine (nat_trim.calls k1 (fun k_ => some k_ = (.slice Ao7 x5_1.length co7 : Value).ownBlock) (.slice Ao7 x5_1.length co7) x5_1 t688 w _ ?side1 ?side2 A16.out).mono ?_); (case side1 => repeat (first | (with_reducible first | exact HB.out | apply below_alloc | apply pw_below_drewN | apply below_drew1) | exact HB.out)); (case side2 => exact Kd.R_tight rfl HO_5.out); rintro e w17 ⟨v689, rfl, ho0, hb, hkp⟩; have n0_ := Aside0.mk (Kd.R_mono (ok' := fun k_ => True) ho0 (fun k_ hk_ => trivial)); have n1_ := Aside0.mk (hb); clear HB; clear HO_5; have HO690 := n0_; have HB := n1_; clear n0_ n1_; (try clear hb); (try clear hkp); (try clear ho0))))
            go_ret
            exact ⟨_, by first | rfl | (simp [errW_none, errW_some] <;> rfl) | (simp [*, errW_none, errW_some] <;> rfl), by (with_reducible repeat (first | apply Kd.R_alloc | apply Kd.R_drewN | apply Kd.R_drew)); exact HO690.out, by repeat (first | (with_reducible first | exact HB.out | apply below_alloc | apply pw_below_drewN | apply below_drew1) | exact HB.out)⟩
    · rw [if_neg c4] at H
      exact absurd H (by simp)
  · rw [if_neg c3] at H
    exact absurd H (by simp)
def nat_Sub.f (k : Nat) (l0 : List Int) (l1 : List Int) : Option (List Int × Int) := (nat_Clean.f k l0).bind fun t691 => ((nat_Clean.f k l1).bind fun t694 => ((nat_order.f k t691 t694).bind fun t697 => (if t697 < 0 then (some (([] : List Int), 3)) else ((nat_minus.f k t691 t694).bind fun t698 => (some (t698, 0))))))
set_option maxHeartbeats 8000000 in
set_option maxRecDepth 100000 in
theorem nat_Sub.calls (k : Nat) (A0 : Option Addr) (c0 : Nat) (l0 : List Int) (A1 : Option Addr) (c1 : Nat) (l1 : List Int) (r1 : List Int) (r2 : Int) (w : World) (hr0 : Kd.C (Kd.int .u64) w A0 l0.length l0) (hc0 : l0.length ≤ c0) (hr1 : Kd.C (Kd.int .u64) w A1 l1.length l1) (hc1 : l1.length ≤ c1) (h : nat_Sub.f k l0 l1 = some (r1, r2)) :
    Calls Try.prog 55 #[.slice A0 l0.length c0, .slice A1 l1.length c1] w fun e w' => ∃ v0_ : Value, e = .returned (.tuple #[v0_, .int .i64 r2]) ∧ Kd.R (Kd.int .u64) 63 w' w.heap.size (fun _ => True) v0_ r1 ∧ Below w.heap.size w w' := by
  have HR0 := Aside0.mk hr0
  have HC0 := Aside0.mk hc0
  clear hr0 hc0
  have HR1 := Aside0.mk hr1
  have HC1 := Aside0.mk hc1
  clear hr1 hc1
  have HB := Aside0.mk (Below.refl w.heap.size w)
  have H : ((nat_Clean.f k l0).bind fun t691 => ((nat_Clean.f k l1).bind fun t694 => ((nat_order.f k t691 t694).bind fun t697 => (if t697 < 0 then (some (([] : List Int), 3)) else ((nat_minus.f k t691 t694).bind fun t698 => (some (t698, 0))))))) = some (r1, r2) := h
  clear h
  replace H := Option.bind_eq_some_iff.mp H
  obtain ⟨t691, A30, H⟩ := H
  replace H : ((nat_Clean.f k l1).bind fun t694 => ((nat_order.f k t691 t694).bind fun t697 => (if t697 < 0 then (some (([] : List Int), 3)) else ((nat_minus.f k t691 t694).bind fun t698 => (some (t698, 0)))))) = some (r1, r2) := H
  have A3 := Aside0.mk A30
  clear A30
  replace H := Option.bind_eq_some_iff.mp H
  obtain ⟨t694, A40, H⟩ := H
  replace H : ((nat_order.f k t691 t694).bind fun t697 => (if t697 < 0 then (some (([] : List Int), 3)) else ((nat_minus.f k t691 t694).bind fun t698 => (some (t698, 0))))) = some (r1, r2) := H
  have A4 := Aside0.mk A40
  clear A40
  replace H := Option.bind_eq_some_iff.mp H
  obtain ⟨t697, A50, H⟩ := H
  replace H : (if t697 < 0 then (some (([] : List Int), 3)) else ((nat_minus.f k t691 t694).bind fun t698 => (some (t698, 0)))) = some (r1, r2) := H
  have A5 := Aside0.mk A50
  clear A50
  by_cases c6 : t697 < 0
  · rw [if_pos c6] at H
    have c6b0 : decide (t697 < 0) = true := decide_eq_true c6
    clear c6
    simp only [Option.some.injEq, Prod.mk.injEq] at H
    obtain ⟨rfl, rfl⟩ := H
    go_enter Try.func55, Try.ntmps55
    go_wp2_with (first | ((with_reducible refine gate_callee (f := 58) rfl ?_); refine goesL_ (some 7) rfl rfl Try.func58 (by kernel_rfl) rfl #[.slice A0 l0.length c0] rfl (by (try simp only [List.map_toArray, List.map_cons, List.map_nil]); first | done | rfl | (simp only [List.length_drop, List.length_take]; rfl)) ?_; (with_reducible refine (nat_Clean.calls k _ _ l0 t691 _ ?side1 ?side2 A3.out).mono ?_); (case side1 => repeat (first | exact HR0.out | (with_reducible refine Kd.C_alloc ?_ _) | (with_reducible refine Kd.C_drewN ?_ _) | (with_reducible refine Kd.C_drew ?_))); (case side2 => exact HC0.out); rintro e w7 ⟨v692, rfl, ho0, hb⟩; refine ⟨_, rfl, ?_⟩; have n0_ := Aside0.mk (Kd.R_lower ho0 (below_size (by repeat (first | (with_reducible first | exact HB.out | apply below_alloc | apply pw_below_drewN | apply below_drew1) | exact HB.out)))); have n1_ := Aside0.mk (below_step (by repeat (first | (with_reducible first | exact HB.out | apply below_alloc | apply pw_below_drewN | apply below_drew1) | exact HB.out)) hb); clear HB; have HO693 := n0_; have HB := n1_; clear n0_ n1_; (try clear hb); (try clear hb2); (try clear hk); (try clear hi); (try clear ho0)) | ((with_reducible refine gate_callee (f := 58) rfl ?_); refine goesL_ (some 9) rfl rfl Try.func58 (by kernel_rfl) rfl #[.slice A1 l1.length c1] rfl (by (try simp only [List.map_toArray, List.map_cons, List.map_nil]); first | done | rfl | (simp only [List.length_drop, List.length_take]; rfl)) ?_; (with_reducible refine (nat_Clean.calls k _ _ l1 t694 _ ?side1 ?side2 A4.out).mono ?_); (case side1 => repeat (first | exact (Kd.C_below HR1.out HB.out) | (with_reducible refine Kd.C_alloc ?_ _) | (with_reducible refine Kd.C_drewN ?_ _) | (with_reducible refine Kd.C_drew ?_))); (case side2 => exact HC1.out); rintro e w8 ⟨v695, rfl, ho0, hb⟩; refine ⟨_, rfl, ?_⟩; have n0_ := Aside0.mk (Kd.R_elder' (by (with_reducible repeat (first | apply Kd.R_alloc | apply Kd.R_drewN | apply Kd.R_drew)); exact HO693.out) (Kd.R_base ho0) hb); have n1_ := Aside0.mk (Kd.R_lower (Kd.R_new' ho0 (Kd.R_lt (by (with_reducible repeat (first | apply Kd.R_alloc | apply Kd.R_drewN | apply Kd.R_drew)); exact HO693.out))) (below_size (by repeat (first | (with_reducible first | exact HB.out | apply below_alloc | apply pw_below_drewN | apply below_drew1) | exact HB.out)))); have n2_ := Aside0.mk (below_step (by repeat (first | (with_reducible first | exact HB.out | apply below_alloc | apply pw_below_drewN | apply below_drew1) | exact HB.out)) hb); clear HO693; clear HB; have HO693 := n0_; have HO696 := n1_; have HB := n2_; clear n0_ n1_ n2_; (try clear hb); (try clear hb2); (try clear hk); (try clear hi); (try clear ho0); obtain ⟨Ao9, co9, eo9⟩ := Kd.R_slice HO693.out; subst eo9; obtain ⟨Ao10, co10, eo10⟩ := Kd.R_slice HO696.out; subst eo10) | ((with_reducible refine gate_callee (f := 74) rfl ?_); refine goesL_ (some 12) rfl rfl Try.func74 (by kernel_rfl) rfl #[.slice Ao9 t691.length co9, .slice Ao10 t694.length co10] rfl (by (try simp only [List.map_toArray, List.map_cons, List.map_nil]); first | done | rfl | (simp only [List.length_drop, List.length_take]; rfl)) ?_; (with_reducible refine (nat_order.calls k _ _ t691 _ _ t694 t697 _ ?side1 ?side2 ?side3 ?side4 A5.out).mono ?_); (case side1 => repeat (first | exact (Kd.R_reads' HO693.out).2.2 | (with_reducible refine Kd.C_alloc ?_ _) | (with_reducible refine Kd.C_drewN ?_ _) | (with_reducible refine Kd.C_drew ?_))); (case side2 => exact (Kd.R_reads' HO693.out).2.1); (case side3 => repeat (first | exact (Kd.R_reads' HO696.out).2.2 | (with_reducible refine Kd.C_alloc ?_ _) | (with_reducible refine Kd.C_drewN ?_ _) | (with_reducible refine Kd.C_drew ?_))); (case side4 => exact (Kd.R_reads' HO696.out).2.1); rintro e w' ⟨rfl, ⟨nd, rfl⟩⟩; refine ⟨_, rfl, ?_⟩))
    go_ret2
    exact ⟨_, by first | rfl | (simp [errW_none, errW_some] <;> rfl) | (simp [*, errW_none, errW_some] <;> rfl), by first | exact Kd.R_nil _ _ _ _ _ | exact Kd.N_nil _ _ _ _ _ | exact Kd.V_nil _ _ _ _ _ | exact Kd.Q_nil _ _ _ _ _ | exact Kd.S_nil _ _ _ _ _, by repeat (first | (with_reducible first | exact HB.out | apply below_alloc | apply pw_below_drewN | apply below_drew1) | exact HB.out)⟩
  · rw [if_neg c6] at H
    have c6b0 : decide (t697 < 0) = false := decide_eq_false c6
    clear c6
    replace H := Option.bind_eq_some_iff.mp H
    obtain ⟨t698, A110, H⟩ := H
    replace H : (some (t698, 0)) = some (r1, r2) := H
    have A11 := Aside0.mk A110
    clear A110
    simp only [Option.some.injEq, Prod.mk.injEq] at H
    obtain ⟨rfl, rfl⟩ := H
    go_enter Try.func55, Try.ntmps55
    go_wp2_with (first | ((with_reducible refine gate_callee (f := 58) rfl ?_); refine goesL_ (some 7) rfl rfl Try.func58 (by kernel_rfl) rfl #[.slice A0 l0.length c0] rfl (by (try simp only [List.map_toArray, List.map_cons, List.map_nil]); first | done | rfl | (simp only [List.length_drop, List.length_take]; rfl)) ?_; (with_reducible refine (nat_Clean.calls k _ _ l0 t691 _ ?side1 ?side2 A3.out).mono ?_); (case side1 => repeat (first | exact HR0.out | (with_reducible refine Kd.C_alloc ?_ _) | (with_reducible refine Kd.C_drewN ?_ _) | (with_reducible refine Kd.C_drew ?_))); (case side2 => exact HC0.out); rintro e w12 ⟨v692, rfl, ho0, hb⟩; refine ⟨_, rfl, ?_⟩; have n0_ := Aside0.mk (Kd.R_lower ho0 (below_size (by repeat (first | (with_reducible first | exact HB.out | apply below_alloc | apply pw_below_drewN | apply below_drew1) | exact HB.out)))); have n1_ := Aside0.mk (below_step (by repeat (first | (with_reducible first | exact HB.out | apply below_alloc | apply pw_below_drewN | apply below_drew1) | exact HB.out)) hb); clear HB; have HO693 := n0_; have HB := n1_; clear n0_ n1_; (try clear hb); (try clear hb2); (try clear hk); (try clear hi); (try clear ho0)) | ((with_reducible refine gate_callee (f := 58) rfl ?_); refine goesL_ (some 9) rfl rfl Try.func58 (by kernel_rfl) rfl #[.slice A1 l1.length c1] rfl (by (try simp only [List.map_toArray, List.map_cons, List.map_nil]); first | done | rfl | (simp only [List.length_drop, List.length_take]; rfl)) ?_; (with_reducible refine (nat_Clean.calls k _ _ l1 t694 _ ?side1 ?side2 A4.out).mono ?_); (case side1 => repeat (first | exact (Kd.C_below HR1.out HB.out) | (with_reducible refine Kd.C_alloc ?_ _) | (with_reducible refine Kd.C_drewN ?_ _) | (with_reducible refine Kd.C_drew ?_))); (case side2 => exact HC1.out); rintro e w13 ⟨v695, rfl, ho0, hb⟩; refine ⟨_, rfl, ?_⟩; have n0_ := Aside0.mk (Kd.R_elder' (by (with_reducible repeat (first | apply Kd.R_alloc | apply Kd.R_drewN | apply Kd.R_drew)); exact HO693.out) (Kd.R_base ho0) hb); have n1_ := Aside0.mk (Kd.R_lower (Kd.R_new' ho0 (Kd.R_lt (by (with_reducible repeat (first | apply Kd.R_alloc | apply Kd.R_drewN | apply Kd.R_drew)); exact HO693.out))) (below_size (by repeat (first | (with_reducible first | exact HB.out | apply below_alloc | apply pw_below_drewN | apply below_drew1) | exact HB.out)))); have n2_ := Aside0.mk (below_step (by repeat (first | (with_reducible first | exact HB.out | apply below_alloc | apply pw_below_drewN | apply below_drew1) | exact HB.out)) hb); clear HO693; clear HB; have HO693 := n0_; have HO696 := n1_; have HB := n2_; clear n0_ n1_ n2_; (try clear hb); (try clear hb2); (try clear hk); (try clear hi); (try clear ho0); obtain ⟨Ao14, co14, eo14⟩ := Kd.R_slice HO693.out; subst eo14; obtain ⟨Ao15, co15, eo15⟩ := Kd.R_slice HO696.out; subst eo15) | ((with_reducible refine gate_callee (f := 74) rfl ?_); refine goesL_ (some 12) rfl rfl Try.func74 (by kernel_rfl) rfl #[.slice Ao14 t691.length co14, .slice Ao15 t694.length co15] rfl (by (try simp only [List.map_toArray, List.map_cons, List.map_nil]); first | done | rfl | (simp only [List.length_drop, List.length_take]; rfl)) ?_; (with_reducible refine (nat_order.calls k _ _ t691 _ _ t694 t697 _ ?side1 ?side2 ?side3 ?side4 A5.out).mono ?_); (case side1 => repeat (first | exact (Kd.R_reads' HO693.out).2.2 | (with_reducible refine Kd.C_alloc ?_ _) | (with_reducible refine Kd.C_drewN ?_ _) | (with_reducible refine Kd.C_drew ?_))); (case side2 => exact (Kd.R_reads' HO693.out).2.1); (case side3 => repeat (first | exact (Kd.R_reads' HO696.out).2.2 | (with_reducible refine Kd.C_alloc ?_ _) | (with_reducible refine Kd.C_drewN ?_ _) | (with_reducible refine Kd.C_drew ?_))); (case side4 => exact (Kd.R_reads' HO696.out).2.1); rintro e w' ⟨rfl, ⟨nd, rfl⟩⟩; refine ⟨_, rfl, ?_⟩) | ((with_reducible refine gate_callee (f := 82) rfl ?_); refine goesL_ (some 16) rfl rfl Try.func82 (by kernel_rfl) rfl #[.slice Ao14 t691.length co14, .slice Ao15 t694.length co15] rfl (by (try simp only [List.map_toArray, List.map_cons, List.map_nil]); first | done | rfl | (simp only [List.length_drop, List.length_take]; rfl)) ?_; (with_reducible refine (nat_minus.calls k _ _ t691 _ _ t694 t698 _ ?side1 ?side2 ?side3 ?side4 A11.out).mono ?_); (case side1 => repeat (first | exact (Kd.R_reads' HO693.out).2.2 | (with_reducible refine Kd.C_alloc ?_ _) | (with_reducible refine Kd.C_drewN ?_ _) | (with_reducible refine Kd.C_drew ?_))); (case side2 => exact (Kd.R_reads' HO693.out).2.1); (case side3 => repeat (first | exact (Kd.R_reads' HO696.out).2.2 | (with_reducible refine Kd.C_alloc ?_ _) | (with_reducible refine Kd.C_drewN ?_ _) | (with_reducible refine Kd.C_drew ?_))); (case side4 => exact (Kd.R_reads' HO696.out).2.1); rintro e w16 ⟨v699, rfl, ho0, hb⟩; refine ⟨_, rfl, ?_⟩; have n0_ := Aside0.mk (Kd.R_elder' (by (with_reducible repeat (first | apply Kd.R_alloc | apply Kd.R_drewN | apply Kd.R_drew)); exact HO693.out) (Kd.R_base ho0) hb); have n1_ := Aside0.mk (Kd.R_elder' (by (with_reducible repeat (first | apply Kd.R_alloc | apply Kd.R_drewN | apply Kd.R_drew)); exact HO696.out) (Kd.R_base ho0) hb); have n2_ := Aside0.mk (Kd.R_lower (Kd.R_new' (Kd.R_new' ho0 (Kd.R_lt (by (with_reducible repeat (first | apply Kd.R_alloc | apply Kd.R_drewN | apply Kd.R_drew)); exact HO693.out))) (Kd.R_lt (by (with_reducible repeat (first | apply Kd.R_alloc | apply Kd.R_drewN | apply Kd.R_drew)); exact HO696.out))) (below_size (by repeat (first | (with_reducible first | exact HB.out | apply below_alloc | apply pw_below_drewN | apply below_drew1) | exact HB.out)))); have n3_ := Aside0.mk (below_step (by repeat (first | (with_reducible first | exact HB.out | apply below_alloc | apply pw_below_drewN | apply below_drew1) | exact HB.out)) hb); clear HO693; clear HO696; clear HB; have HO693 := n0_; have HO696 := n1_; have HO700 := n2_; have HB := n3_; clear n0_ n1_ n2_ n3_; (try clear hb); (try clear hb2); (try clear hk); (try clear hi); (try clear ho0)))
    go_ret2
    exact ⟨_, by first | rfl | (simp [errW_none, errW_some] <;> rfl) | (simp [*, errW_none, errW_some] <;> rfl), by (with_reducible repeat (first | apply Kd.R_alloc | apply Kd.R_drewN | apply Kd.R_drew)); exact Kd.R_mono HO700.out (fun _ hk => trivial), by repeat (first | (with_reducible first | exact HB.out | apply below_alloc | apply pw_below_drewN | apply below_drew1) | exact HB.out)⟩
end Go.Proofs.Ytfnhpojoaaegmaa.P
namespace Go.Proofs.Ytfnhpojoaaegmaa.P
open Go.RowKit Go.Proofs.YtfnhpojoaaegmaaW.PrintWords Go.Proofs.YtfnhpojoaaegmaaW.PrintLast Go.Proofs.YtfnhpojoaaegmaaW.PrintMore
set_option linter.unusedVariables false
set_option linter.unusedSimpArgs false
def dendronlaw01_NatSums.f (k : Nat) (l0 : List Int) (l1 : List Int) : Option (Bool) := (dendronlaw01_few.f l0 40).bind fun t701 => ((dendronlaw01_few.f l1 40).bind fun t704 => ((dendronref01_From.f k t701).bind fun t707 => ((dendronref01_From.f k t704).bind fun t710 => ((nat_Sub.f k t701 t704).bind fun bt713 => ((nat_Add.f k t701 t704).bind fun t717 => ((dendronref01_Plus.f k t707 t710).bind fun t720 => ((dendronref01_Is.f k t717 t720).bind fun t723 => (if t723 = true then ((dendronref01_Order.f k t707 t710).bind fun t724 => (if t724 < 0 then (if (bt713.1.length : Int) = 0 then (if bt713.2 = 3 then ((dendronlaw01_awake.f k).bind fun t725 => (some t725)) else (some false)) else (some false)) else (if bt713.2 = 0 then ((dendronref01_Minus.f k t707 t710).bind fun t726 => ((dendronref01_Is.f k bt713.1 t726).bind fun t729 => (if t729 = true then ((dendronlaw01_awake.f k).bind fun t730 => (some t730)) else (some false)))) else (some false)))) else (some false)))))))))
set_option maxHeartbeats 8000000 in
set_option maxRecDepth 100000 in
theorem dendronlaw01_NatSums.calls (k : Nat) (A0 : Option Addr) (c0 : Nat) (l0 : List Int) (A1 : Option Addr) (c1 : Nat) (l1 : List Int) (r : Bool) (w : World) (hr0 : Kd.C (Kd.int .u64) w A0 l0.length l0) (hc0 : l0.length ≤ c0) (hr1 : Kd.C (Kd.int .u64) w A1 l1.length l1) (hc1 : l1.length ≤ c1) (h : dendronlaw01_NatSums.f k l0 l1 = some r) :
    Calls Try.prog 16 #[.slice A0 l0.length c0, .slice A1 l1.length c1] w fun e w' => e = .returned (.bool r) ∧ Below w.heap.size w w' := by
  have HR0 := Aside0.mk hr0
  have HC0 := Aside0.mk hc0
  clear hr0 hc0
  have HR1 := Aside0.mk hr1
  have HC1 := Aside0.mk hc1
  clear hr1 hc1
  have HB := Aside0.mk (Below.refl w.heap.size w)
  have H : ((dendronlaw01_few.f l0 40).bind fun t701 => ((dendronlaw01_few.f l1 40).bind fun t704 => ((dendronref01_From.f k t701).bind fun t707 => ((dendronref01_From.f k t704).bind fun t710 => ((nat_Sub.f k t701 t704).bind fun bt713 => ((nat_Add.f k t701 t704).bind fun t717 => ((dendronref01_Plus.f k t707 t710).bind fun t720 => ((dendronref01_Is.f k t717 t720).bind fun t723 => (if t723 = true then ((dendronref01_Order.f k t707 t710).bind fun t724 => (if t724 < 0 then (if (bt713.1.length : Int) = 0 then (if bt713.2 = 3 then ((dendronlaw01_awake.f k).bind fun t725 => (some t725)) else (some false)) else (some false)) else (if bt713.2 = 0 then ((dendronref01_Minus.f k t707 t710).bind fun t726 => ((dendronref01_Is.f k bt713.1 t726).bind fun t729 => (if t729 = true then ((dendronlaw01_awake.f k).bind fun t730 => (some t730)) else (some false)))) else (some false)))) else (some false)))))))))) = some r := h
  clear h
  replace H := Option.bind_eq_some_iff.mp H
  obtain ⟨t701, A30, H⟩ := H
  replace H : ((dendronlaw01_few.f l1 40).bind fun t704 => ((dendronref01_From.f k t701).bind fun t707 => ((dendronref01_From.f k t704).bind fun t710 => ((nat_Sub.f k t701 t704).bind fun bt713 => ((nat_Add.f k t701 t704).bind fun t717 => ((dendronref01_Plus.f k t707 t710).bind fun t720 => ((dendronref01_Is.f k t717 t720).bind fun t723 => (if t723 = true then ((dendronref01_Order.f k t707 t710).bind fun t724 => (if t724 < 0 then (if (bt713.1.length : Int) = 0 then (if bt713.2 = 3 then ((dendronlaw01_awake.f k).bind fun t725 => (some t725)) else (some false)) else (some false)) else (if bt713.2 = 0 then ((dendronref01_Minus.f k t707 t710).bind fun t726 => ((dendronref01_Is.f k bt713.1 t726).bind fun t729 => (if t729 = true then ((dendronlaw01_awake.f k).bind fun t730 => (some t730)) else (some false)))) else (some false)))) else (some false))))))))) = some r := H
  have A3 := Aside0.mk A30
  clear A30
  replace H := Option.bind_eq_some_iff.mp H
  obtain ⟨t704, A40, H⟩ := H
  replace H : ((dendronref01_From.f k t701).bind fun t707 => ((dendronref01_From.f k t704).bind fun t710 => ((nat_Sub.f k t701 t704).bind fun bt713 => ((nat_Add.f k t701 t704).bind fun t717 => ((dendronref01_Plus.f k t707 t710).bind fun t720 => ((dendronref01_Is.f k t717 t720).bind fun t723 => (if t723 = true then ((dendronref01_Order.f k t707 t710).bind fun t724 => (if t724 < 0 then (if (bt713.1.length : Int) = 0 then (if bt713.2 = 3 then ((dendronlaw01_awake.f k).bind fun t725 => (some t725)) else (some false)) else (some false)) else (if bt713.2 = 0 then ((dendronref01_Minus.f k t707 t710).bind fun t726 => ((dendronref01_Is.f k bt713.1 t726).bind fun t729 => (if t729 = true then ((dendronlaw01_awake.f k).bind fun t730 => (some t730)) else (some false)))) else (some false)))) else (some false)))))))) = some r := H
  have A4 := Aside0.mk A40
  clear A40
  replace H := Option.bind_eq_some_iff.mp H
  obtain ⟨t707, A50, H⟩ := H
  replace H : ((dendronref01_From.f k t704).bind fun t710 => ((nat_Sub.f k t701 t704).bind fun bt713 => ((nat_Add.f k t701 t704).bind fun t717 => ((dendronref01_Plus.f k t707 t710).bind fun t720 => ((dendronref01_Is.f k t717 t720).bind fun t723 => (if t723 = true then ((dendronref01_Order.f k t707 t710).bind fun t724 => (if t724 < 0 then (if (bt713.1.length : Int) = 0 then (if bt713.2 = 3 then ((dendronlaw01_awake.f k).bind fun t725 => (some t725)) else (some false)) else (some false)) else (if bt713.2 = 0 then ((dendronref01_Minus.f k t707 t710).bind fun t726 => ((dendronref01_Is.f k bt713.1 t726).bind fun t729 => (if t729 = true then ((dendronlaw01_awake.f k).bind fun t730 => (some t730)) else (some false)))) else (some false)))) else (some false))))))) = some r := H
  have A5 := Aside0.mk A50
  clear A50
  replace H := Option.bind_eq_some_iff.mp H
  obtain ⟨t710, A60, H⟩ := H
  replace H : ((nat_Sub.f k t701 t704).bind fun bt713 => ((nat_Add.f k t701 t704).bind fun t717 => ((dendronref01_Plus.f k t707 t710).bind fun t720 => ((dendronref01_Is.f k t717 t720).bind fun t723 => (if t723 = true then ((dendronref01_Order.f k t707 t710).bind fun t724 => (if t724 < 0 then (if (bt713.1.length : Int) = 0 then (if bt713.2 = 3 then ((dendronlaw01_awake.f k).bind fun t725 => (some t725)) else (some false)) else (some false)) else (if bt713.2 = 0 then ((dendronref01_Minus.f k t707 t710).bind fun t726 => ((dendronref01_Is.f k bt713.1 t726).bind fun t729 => (if t729 = true then ((dendronlaw01_awake.f k).bind fun t730 => (some t730)) else (some false)))) else (some false)))) else (some false)))))) = some r := H
  have A6 := Aside0.mk A60
  clear A60
  replace H := Option.bind_eq_some_iff.mp H
  obtain ⟨⟨t713, t714⟩, A70, H⟩ := H
  replace H : ((nat_Add.f k t701 t704).bind fun t717 => ((dendronref01_Plus.f k t707 t710).bind fun t720 => ((dendronref01_Is.f k t717 t720).bind fun t723 => (if t723 = true then ((dendronref01_Order.f k t707 t710).bind fun t724 => (if t724 < 0 then (if (t713.length : Int) = 0 then (if t714 = 3 then ((dendronlaw01_awake.f k).bind fun t725 => (some t725)) else (some false)) else (some false)) else (if t714 = 0 then ((dendronref01_Minus.f k t707 t710).bind fun t726 => ((dendronref01_Is.f k t713 t726).bind fun t729 => (if t729 = true then ((dendronlaw01_awake.f k).bind fun t730 => (some t730)) else (some false)))) else (some false)))) else (some false))))) = some r := H
  have A7 := Aside0.mk A70
  clear A70
  replace H := Option.bind_eq_some_iff.mp H
  obtain ⟨t717, A80, H⟩ := H
  replace H : ((dendronref01_Plus.f k t707 t710).bind fun t720 => ((dendronref01_Is.f k t717 t720).bind fun t723 => (if t723 = true then ((dendronref01_Order.f k t707 t710).bind fun t724 => (if t724 < 0 then (if (t713.length : Int) = 0 then (if t714 = 3 then ((dendronlaw01_awake.f k).bind fun t725 => (some t725)) else (some false)) else (some false)) else (if t714 = 0 then ((dendronref01_Minus.f k t707 t710).bind fun t726 => ((dendronref01_Is.f k t713 t726).bind fun t729 => (if t729 = true then ((dendronlaw01_awake.f k).bind fun t730 => (some t730)) else (some false)))) else (some false)))) else (some false)))) = some r := H
  have A8 := Aside0.mk A80
  clear A80
  replace H := Option.bind_eq_some_iff.mp H
  obtain ⟨t720, A90, H⟩ := H
  replace H : ((dendronref01_Is.f k t717 t720).bind fun t723 => (if t723 = true then ((dendronref01_Order.f k t707 t710).bind fun t724 => (if t724 < 0 then (if (t713.length : Int) = 0 then (if t714 = 3 then ((dendronlaw01_awake.f k).bind fun t725 => (some t725)) else (some false)) else (some false)) else (if t714 = 0 then ((dendronref01_Minus.f k t707 t710).bind fun t726 => ((dendronref01_Is.f k t713 t726).bind fun t729 => (if t729 = true then ((dendronlaw01_awake.f k).bind fun t730 => (some t730)) else (some false)))) else (some false)))) else (some false))) = some r := H
  have A9 := Aside0.mk A90
  clear A90
  replace H := Option.bind_eq_some_iff.mp H
  obtain ⟨t723, A100, H⟩ := H
  replace H : (if t723 = true then ((dendronref01_Order.f k t707 t710).bind fun t724 => (if t724 < 0 then (if (t713.length : Int) = 0 then (if t714 = 3 then ((dendronlaw01_awake.f k).bind fun t725 => (some t725)) else (some false)) else (some false)) else (if t714 = 0 then ((dendronref01_Minus.f k t707 t710).bind fun t726 => ((dendronref01_Is.f k t713 t726).bind fun t729 => (if t729 = true then ((dendronlaw01_awake.f k).bind fun t730 => (some t730)) else (some false)))) else (some false)))) else (some false)) = some r := H
  have A10 := Aside0.mk A100
  clear A100
  by_cases c11 : t723 = true
  · subst c11
    have H1 : ((dendronref01_Order.f k t707 t710).bind fun t724 => (if t724 < 0 then (if (t713.length : Int) = 0 then (if t714 = 3 then ((dendronlaw01_awake.f k).bind fun t725 => (some t725)) else (some false)) else (some false)) else (if t714 = 0 then ((dendronref01_Minus.f k t707 t710).bind fun t726 => ((dendronref01_Is.f k t713 t726).bind fun t729 => (if t729 = true then ((dendronlaw01_awake.f k).bind fun t730 => (some t730)) else (some false)))) else (some false)))) = some r := by rw [if_pos rfl] at H; exact H
    clear H
    have H := H1
    clear H1
    replace H := Option.bind_eq_some_iff.mp H
    obtain ⟨t724, A120, H⟩ := H
    replace H : (if t724 < 0 then (if (t713.length : Int) = 0 then (if t714 = 3 then ((dendronlaw01_awake.f k).bind fun t725 => (some t725)) else (some false)) else (some false)) else (if t714 = 0 then ((dendronref01_Minus.f k t707 t710).bind fun t726 => ((dendronref01_Is.f k t713 t726).bind fun t729 => (if t729 = true then ((dendronlaw01_awake.f k).bind fun t730 => (some t730)) else (some false)))) else (some false))) = some r := H
    have A12 := Aside0.mk A120
    clear A120
    by_cases c13 : t724 < 0
    · rw [if_pos c13] at H
      have c13b0 : decide (t724 < 0) = true := decide_eq_true c13
      clear c13
      by_cases c14 : (t713.length : Int) = 0
      · rw [if_pos c14] at H
        have c14b0 : ((t713.length : Int) == 0) = true := beq_iff_eq.mpr c14
        have c14b1 : ((t713.length : Int) != 0) = false := bne_eq_false_iff_eq.mpr c14
        clear c14
        by_cases c15 : t714 = 3
        · rw [if_pos c15] at H
          have c15b0 : (t714 == 3) = true := beq_iff_eq.mpr c15
          have c15b1 : (t714 != 3) = false := bne_eq_false_iff_eq.mpr c15
          clear c15
          replace H := Option.bind_eq_some_iff.mp H
          obtain ⟨t725, A160, H⟩ := H
          replace H : (some t725) = some r := H
          have A16 := Aside0.mk A160
          clear A160
          obtain rfl := Option.some.inj H
          go_enter Try.func16, Try.ntmps16
          go_wp2_with (first | ((with_reducible refine gate_callee (f := 30) rfl ?_); refine goesL_ (some 10) rfl rfl Try.func30 (by kernel_rfl) rfl #[.slice A0 l0.length c0, .int .i64 40] rfl (by (try simp only [List.map_toArray, List.map_cons, List.map_nil]); first | done | rfl | (simp only [List.length_drop, List.length_take]; rfl)) ?_; (with_reducible refine (dendronlaw01_few.calls (fun k_ => k_ < w.heap.size) _ _ l0 40 t701 _ ?side1 A3.out).mono ?_); (case side1 => exact Kd.V_mk HC0.out (Kd.F_below (Kd.C_F (Kd.heap_int .u64) HR0.out) (by repeat (first | (with_reducible first | exact HB.out | apply below_alloc | apply pw_below_drewN | apply below_drew1) | exact HB.out)))); rintro e w17 ⟨v702, rfl, ho0, hb⟩; refine ⟨_, rfl, ?_⟩; have n0_ := Aside0.mk (Kd.V_lower (Kd.V_mono (ok' := fun k_ => True) ho0 (fun k_ hk_ => trivial)) (below_size (by repeat (first | (with_reducible first | exact HB.out | apply below_alloc | apply pw_below_drewN | apply below_drew1) | exact HB.out)))); have n1_ := Aside0.mk (below_step (by repeat (first | (with_reducible first | exact HB.out | apply below_alloc | apply pw_below_drewN | apply below_drew1) | exact HB.out)) hb); clear HB; have HO703 := n0_; have HB := n1_; clear n0_ n1_; (try clear hb); (try clear hb2); (try clear hk); (try clear hi); (try clear ho0)) | ((with_reducible refine gate_callee (f := 30) rfl ?_); refine goesL_ (some 12) rfl rfl Try.func30 (by kernel_rfl) rfl #[.slice A1 l1.length c1, .int .i64 40] rfl (by (try simp only [List.map_toArray, List.map_cons, List.map_nil]); first | done | rfl | (simp only [List.length_drop, List.length_take]; rfl)) ?_; (with_reducible refine (dendronlaw01_few.calls (fun k_ => k_ < w.heap.size) _ _ l1 40 t704 _ ?side1 A4.out).mono ?_); (case side1 => exact Kd.V_mk HC1.out (Kd.F_below (Kd.C_F (Kd.heap_int .u64) HR1.out) (by repeat (first | (with_reducible first | exact HB.out | apply below_alloc | apply pw_below_drewN | apply below_drew1) | exact HB.out)))); rintro e w18 ⟨v705, rfl, ho0, hb⟩; refine ⟨_, rfl, ?_⟩; have n0_ := Aside0.mk (Kd.V_below (by (with_reducible repeat (first | apply Kd.V_alloc | apply Kd.V_drewN | apply Kd.V_drew)); exact HO703.out) hb); have n1_ := Aside0.mk (Kd.V_lower (Kd.V_mono (ok' := fun k_ => True) ho0 (fun k_ hk_ => trivial)) (below_size (by repeat (first | (with_reducible first | exact HB.out | apply below_alloc | apply pw_below_drewN | apply below_drew1) | exact HB.out)))); have n2_ := Aside0.mk (below_step (by repeat (first | (with_reducible first | exact HB.out | apply below_alloc | apply pw_below_drewN | apply below_drew1) | exact HB.out)) hb); clear HO703; clear HB; have HO703 := n0_; have HO706 := n1_; have HB := n2_; clear n0_ n1_ n2_; (try clear hb); (try clear hb2); (try clear hk); (try clear hi); (try clear ho0); obtain ⟨Ao19, co19, eo19⟩ := Kd.V_slice HO703.out; subst eo19) | ((with_reducible refine gate_callee (f := 34) rfl ?_); refine goesL_ (some 14) rfl rfl Try.func34 (by kernel_rfl) rfl #[.slice Ao19 t701.length co19] rfl (by (try simp only [List.map_toArray, List.map_cons, List.map_nil]); first | done | rfl | (simp only [List.length_drop, List.length_take]; rfl)) ?_; (with_reducible refine (dendronref01_From.calls k _ _ t701 t707 _ ?side1 ?side2 A5.out).mono ?_); (case side1 => repeat (first | exact (Kd.V_reads' HO703.out).2.2 | (with_reducible refine Kd.C_alloc ?_ _) | (with_reducible refine Kd.C_drewN ?_ _) | (with_reducible refine Kd.C_drew ?_))); (case side2 => exact (Kd.V_reads' HO703.out).2.1); rintro e w20 ⟨v708, rfl, ho0, hb⟩; refine ⟨_, rfl, ?_⟩; have n0_ := Aside0.mk (Kd.V_elder' (by (with_reducible repeat (first | apply Kd.V_alloc | apply Kd.V_drewN | apply Kd.V_drew)); exact HO703.out) (Kd.R_base ho0) hb); have n1_ := Aside0.mk (Kd.V_elder' (by (with_reducible repeat (first | apply Kd.V_alloc | apply Kd.V_drewN | apply Kd.V_drew)); exact HO706.out) (Kd.R_base ho0) hb); have n2_ := Aside0.mk (Kd.R_lower ho0 (below_size (by repeat (first | (with_reducible first | exact HB.out | apply below_alloc | apply pw_below_drewN | apply below_drew1) | exact HB.out)))); have n3_ := Aside0.mk (below_step (by repeat (first | (with_reducible first | exact HB.out | apply below_alloc | apply pw_below_drewN | apply below_drew1) | exact HB.out)) hb); clear HO703; clear HO706; clear HB; have HO703 := n0_; have HO706 := n1_; have HO709 := n2_; have HB := n3_; clear n0_ n1_ n2_ n3_; (try clear hb); (try clear hb2); (try clear hk); (try clear hi); (try clear ho0); obtain ⟨Ao21, co21, eo21⟩ := Kd.V_slice HO706.out; subst eo21) | ((with_reducible refine gate_callee (f := 34) rfl ?_); refine goesL_ (some 16) rfl rfl Try.func34 (by kernel_rfl) rfl #[.slice Ao21 t704.length co21] rfl (by (try simp only [List.map_toArray, List.map_cons, List.map_nil]); first | done | rfl | (simp only [List.length_drop, List.length_take]; rfl)) ?_; (with_reducible refine (dendronref01_From.calls k _ _ t704 t710 _ ?side1 ?side2 A6.out).mono ?_); (case side1 => repeat (first | exact (Kd.V_reads' HO706.out).2.2 | (with_reducible refine Kd.C_alloc ?_ _) | (with_reducible refine Kd.C_drewN ?_ _) | (with_reducible refine Kd.C_drew ?_))); (case side2 => exact (Kd.V_reads' HO706.out).2.1); rintro e w22 ⟨v711, rfl, ho0, hb⟩; refine ⟨_, rfl, ?_⟩; have n0_ := Aside0.mk (Kd.V_elder' (by (with_reducible repeat (first | apply Kd.V_alloc | apply Kd.V_drewN | apply Kd.V_drew)); exact HO703.out) (Kd.R_base ho0) hb); have n1_ := Aside0.mk (Kd.V_elder' (by (with_reducible repeat (first | apply Kd.V_alloc | apply Kd.V_drewN | apply Kd.V_drew)); exact HO706.out) (Kd.R_base ho0) hb); have n2_ := Aside0.mk (Kd.R_elder' (by (with_reducible repeat (first | apply Kd.R_alloc | apply Kd.R_drewN | apply Kd.R_drew)); exact HO709.out) (Kd.R_base ho0) hb); have n3_ := Aside0.mk (Kd.R_lower (Kd.R_new' ho0 (Kd.R_lt (by (with_reducible repeat (first | apply Kd.R_alloc | apply Kd.R_drewN | apply Kd.R_drew)); exact HO709.out))) (below_size (by repeat (first | (with_reducible first | exact HB.out | apply below_alloc | apply pw_below_drewN | apply below_drew1) | exact HB.out)))); have n4_ := Aside0.mk (below_step (by repeat (first | (with_reducible first | exact HB.out | apply below_alloc | apply pw_below_drewN | apply below_drew1) | exact HB.out)) hb); clear HO703; clear HO706; clear HO709; clear HB; have HO703 := n0_; have HO706 := n1_; have HO709 := n2_; have HO712 := n3_; have HB := n4_; clear n0_ n1_ n2_ n3_ n4_; (try clear hb); (try clear hb2); (try clear hk); (try clear hi); (try clear ho0)) | ((with_reducible refine gate_callee (f := 55) rfl ?_); refine goesL_ (some 20) rfl rfl Try.func55 (by kernel_rfl) rfl #[.slice Ao19 t701.length co19, .slice Ao21 t704.length co21] rfl (by (try simp only [List.map_toArray, List.map_cons, List.map_nil]); first | done | rfl | (simp only [List.length_drop, List.length_take]; rfl)) ?_; (with_reducible refine (nat_Sub.calls k _ _ t701 _ _ t704 t713 t714 _ ?side1 ?side2 ?side3 ?side4 A7.out).mono ?_); (case side1 => repeat (first | exact (Kd.V_reads' HO703.out).2.2 | (with_reducible refine Kd.C_alloc ?_ _) | (with_reducible refine Kd.C_drewN ?_ _) | (with_reducible refine Kd.C_drew ?_))); (case side2 => exact (Kd.V_reads' HO703.out).2.1); (case side3 => repeat (first | exact (Kd.V_reads' HO706.out).2.2 | (with_reducible refine Kd.C_alloc ?_ _) | (with_reducible refine Kd.C_drewN ?_ _) | (with_reducible refine Kd.C_drew ?_))); (case side4 => exact (Kd.V_reads' HO706.out).2.1); rintro e w23 ⟨v715, rfl, ho0, hb⟩; refine ⟨_, rfl, ?_⟩; have n0_ := Aside0.mk (Kd.V_elder' (by (with_reducible repeat (first | apply Kd.V_alloc | apply Kd.V_drewN | apply Kd.V_drew)); exact HO703.out) (Kd.R_base ho0) hb); have n1_ := Aside0.mk (Kd.V_elder' (by (with_reducible repeat (first | apply Kd.V_alloc | apply Kd.V_drewN | apply Kd.V_drew)); exact HO706.out) (Kd.R_base ho0) hb); have n2_ := Aside0.mk (Kd.R_below (by (with_reducible repeat (first | apply Kd.R_alloc | apply Kd.R_drewN | apply Kd.R_drew)); exact HO709.out) hb); have n3_ := Aside0.mk (Kd.R_below (by (with_reducible repeat (first | apply Kd.R_alloc | apply Kd.R_drewN | apply Kd.R_drew)); exact HO712.out) hb); have n4_ := Aside0.mk (Kd.R_lower ho0 (below_size (by repeat (first | (with_reducible first | exact HB.out | apply below_alloc | apply pw_below_drewN | apply below_drew1) | exact HB.out)))); have n5_ := Aside0.mk (below_step (by repeat (first | (with_reducible first | exact HB.out | apply below_alloc | apply pw_below_drewN | apply below_drew1) | exact HB.out)) hb); clear HO703; clear HO706; clear HO709; clear HO712; clear HB; have HO703 := n0_; have HO706 := n1_; have HO709 := n2_; have HO712 := n3_; have HO716 := n4_; have HB := n5_; clear n0_ n1_ n2_ n3_ n4_ n5_; (try clear hb); (try clear hb2); (try clear hk); (try clear hi); (try clear ho0)) | ((with_reducible refine gate_callee (f := 52) rfl ?_); refine goesL_ (some 25) rfl rfl Try.func52 (by kernel_rfl) rfl #[.slice Ao19 t701.length co19, .slice Ao21 t704.length co21] rfl (by (try simp only [List.map_toArray, List.map_cons, List.map_nil]); first | done | rfl | (simp only [List.length_drop, List.length_take]; rfl)) ?_; (with_reducible refine (nat_Add.calls k _ _ t701 _ _ t704 t717 _ ?side1 ?side2 ?side3 ?side4 A8.out).mono ?_); (case side1 => repeat (first | exact (Kd.V_reads' HO703.out).2.2 | (with_reducible refine Kd.C_alloc ?_ _) | (with_reducible refine Kd.C_drewN ?_ _) | (with_reducible refine Kd.C_drew ?_))); (case side2 => exact (Kd.V_reads' HO703.out).2.1); (case side3 => repeat (first | exact (Kd.V_reads' HO706.out).2.2 | (with_reducible refine Kd.C_alloc ?_ _) | (with_reducible refine Kd.C_drewN ?_ _) | (with_reducible refine Kd.C_drew ?_))); (case side4 => exact (Kd.V_reads' HO706.out).2.1); rintro e w24 ⟨v718, rfl, ho0, hb⟩; refine ⟨_, rfl, ?_⟩; have n0_ := Aside0.mk (Kd.V_elder' (by (with_reducible repeat (first | apply Kd.V_alloc | apply Kd.V_drewN | apply Kd.V_drew)); exact HO703.out) (Kd.R_base ho0) hb); have n1_ := Aside0.mk (Kd.V_elder' (by (with_reducible repeat (first | apply Kd.V_alloc | apply Kd.V_drewN | apply Kd.V_drew)); exact HO706.out) (Kd.R_base ho0) hb); have n2_ := Aside0.mk (Kd.R_below (by (with_reducible repeat (first | apply Kd.R_alloc | apply Kd.R_drewN | apply Kd.R_drew)); exact HO709.out) hb); have n3_ := Aside0.mk (Kd.R_below (by (with_reducible repeat (first | apply Kd.R_alloc | apply Kd.R_drewN | apply Kd.R_drew)); exact HO712.out) hb); have n4_ := Aside0.mk (Kd.R_elder' (by (with_reducible repeat (first | apply Kd.R_alloc | apply Kd.R_drewN | apply Kd.R_drew)); exact HO716.out) (Kd.R_base ho0) hb); have n5_ := Aside0.mk (Kd.R_lower (Kd.R_new' ho0 (Kd.R_lt (by (with_reducible repeat (first | apply Kd.R_alloc | apply Kd.R_drewN | apply Kd.R_drew)); exact HO716.out))) (below_size (by repeat (first | (with_reducible first | exact HB.out | apply below_alloc | apply pw_below_drewN | apply below_drew1) | exact HB.out)))); have n6_ := Aside0.mk (below_step (by repeat (first | (with_reducible first | exact HB.out | apply below_alloc | apply pw_below_drewN | apply below_drew1) | exact HB.out)) hb); clear HO703; clear HO706; clear HO709; clear HO712; clear HO716; clear HB; have HO703 := n0_; have HO706 := n1_; have HO709 := n2_; have HO712 := n3_; have HO716 := n4_; have HO719 := n5_; have HB := n6_; clear n0_ n1_ n2_ n3_ n4_ n5_ n6_; (try clear hb); (try clear hb2); (try clear hk); (try clear hi); (try clear ho0); obtain ⟨Ao25, co25, eo25⟩ := Kd.R_slice HO709.out; subst eo25; obtain ⟨Ao26, co26, eo26⟩ := Kd.R_slice HO712.out; subst eo26) | ((with_reducible refine gate_callee (f := 56) rfl ?_); refine goesL_ (some 28) rfl rfl Try.func56 (by kernel_rfl) rfl #[.slice Ao25 t707.length co25, .slice Ao26 t710.length co26] rfl (by (try simp only [List.map_toArray, List.map_cons, List.map_nil]); first | done | rfl | (simp only [List.length_drop, List.length_take]; rfl)) ?_; (with_reducible refine (dendronref01_Plus.calls k _ _ t707 _ _ t710 t720 _ ?side1 ?side2 ?side3 ?side4 A9.out).mono ?_); (case side1 => repeat (first | exact (Kd.R_reads' HO709.out).2.2 | (with_reducible refine Kd.C_alloc ?_ _) | (with_reducible refine Kd.C_drewN ?_ _) | (with_reducible refine Kd.C_drew ?_))); (case side2 => exact (Kd.R_reads' HO709.out).2.1); (case side3 => repeat (first | exact (Kd.R_reads' HO712.out).2.2 | (with_reducible refine Kd.C_alloc ?_ _) | (with_reducible refine Kd.C_drewN ?_ _) | (with_reducible refine Kd.C_drew ?_))); (case side4 => exact (Kd.R_reads' HO712.out).2.1); rintro e w27 ⟨v721, rfl, ho0, hb⟩; refine ⟨_, rfl, ?_⟩; have n0_ := Aside0.mk (Kd.V_elder' (by (with_reducible repeat (first | apply Kd.V_alloc | apply Kd.V_drewN | apply Kd.V_drew)); exact HO703.out) (Kd.R_base ho0) hb); have n1_ := Aside0.mk (Kd.V_elder' (by (with_reducible repeat (first | apply Kd.V_alloc | apply Kd.V_drewN | apply Kd.V_drew)); exact HO706.out) (Kd.R_base ho0) hb); have n2_ := Aside0.mk (Kd.R_elder' (by (with_reducible repeat (first | apply Kd.R_alloc | apply Kd.R_drewN | apply Kd.R_drew)); exact HO709.out) (Kd.R_base ho0) hb); have n3_ := Aside0.mk (Kd.R_elder' (by (with_reducible repeat (first | apply Kd.R_alloc | apply Kd.R_drewN | apply Kd.R_drew)); exact HO712.out) (Kd.R_base ho0) hb); have n4_ := Aside0.mk (Kd.R_below (by (with_reducible repeat (first | apply Kd.R_alloc | apply Kd.R_drewN | apply Kd.R_drew)); exact HO716.out) hb); have n5_ := Aside0.mk (Kd.R_below (by (with_reducible repeat (first | apply Kd.R_alloc | apply Kd.R_drewN | apply Kd.R_drew)); exact HO719.out) hb); have n6_ := Aside0.mk (Kd.R_lower (Kd.R_new' (Kd.R_new' ho0 (Kd.R_lt (by (with_reducible repeat (first | apply Kd.R_alloc | apply Kd.R_drewN | apply Kd.R_drew)); exact HO709.out))) (Kd.R_lt (by (with_reducible repeat (first | apply Kd.R_alloc | apply Kd.R_drewN | apply Kd.R_drew)); exact HO712.out))) (below_size (by repeat (first | (with_reducible first | exact HB.out | apply below_alloc | apply pw_below_drewN | apply below_drew1) | exact HB.out)))); have n7_ := Aside0.mk (below_step (by repeat (first | (with_reducible first | exact HB.out | apply below_alloc | apply pw_below_drewN | apply below_drew1) | exact HB.out)) hb); clear HO703; clear HO706; clear HO709; clear HO712; clear HO716; clear HO719; clear HB; have HO703 := n0_; have HO706 := n1_; have HO709 := n2_; have HO712 := n3_; have HO716 := n4_; have HO719 := n5_; have HO722 := n6_; have HB := n7_; clear n0_ n1_ n2_ n3_ n4_ n5_ n6_ n7_; (try clear hb); (try clear hb2); (try clear hk); (try clear hi); (try clear ho0); obtain ⟨Ao28, co28, eo28⟩ := Kd.R_slice HO719.out; subst eo28; obtain ⟨Ao29, co29, eo29⟩ := Kd.R_slice HO722.out; subst eo29) | ((with_reducible refine gate_callee (f := 31) rfl ?_); refine goesL_ (some 29) rfl rfl Try.func31 (by kernel_rfl) rfl #[.slice Ao28 t717.length co28, .slice Ao29 t720.length co29] rfl (by (try simp only [List.map_toArray, List.map_cons, List.map_nil]); first | done | rfl | (simp only [List.length_drop, List.length_take]; rfl)) ?_; (with_reducible refine (dendronref01_Is.calls k _ _ t717 _ _ t720 true _ ?side1 ?side2 ?side3 ?side4 A10.out).mono ?_); (case side1 => repeat (first | exact (Kd.R_reads' HO719.out).2.2 | (with_reducible refine Kd.C_alloc ?_ _) | (with_reducible refine Kd.C_drewN ?_ _) | (with_reducible refine Kd.C_drew ?_))); (case side2 => exact (Kd.R_reads' HO719.out).2.1); (case side3 => repeat (first | exact (Kd.R_reads' HO722.out).2.2 | (with_reducible refine Kd.C_alloc ?_ _) | (with_reducible refine Kd.C_drewN ?_ _) | (with_reducible refine Kd.C_drew ?_))); (case side4 => exact (Kd.R_reads' HO722.out).2.1); rintro e w30 ⟨rfl, hb⟩; refine ⟨_, rfl, ?_⟩; have n0_ := Aside0.mk (Kd.V_below (by (with_reducible repeat (first | apply Kd.V_alloc | apply Kd.V_drewN | apply Kd.V_drew)); exact HO703.out) hb); have n1_ := Aside0.mk (Kd.V_below (by (with_reducible repeat (first | apply Kd.V_alloc | apply Kd.V_drewN | apply Kd.V_drew)); exact HO706.out) hb); have n2_ := Aside0.mk (Kd.R_below (by (with_reducible repeat (first | apply Kd.R_alloc | apply Kd.R_drewN | apply Kd.R_drew)); exact HO709.out) hb); have n3_ := Aside0.mk (Kd.R_below (by (with_reducible repeat (first | apply Kd.R_alloc | apply Kd.R_drewN | apply Kd.R_drew)); exact HO712.out) hb); have n4_ := Aside0.mk (Kd.R_below (by (with_reducible repeat (first | apply Kd.R_alloc | apply Kd.R_drewN | apply Kd.R_drew)); exact HO716.out) hb); have n5_ := Aside0.mk (Kd.R_below (by (with_reducible repeat (first | apply Kd.R_alloc | apply Kd.R_drewN | apply Kd.R_drew)); exact HO719.out) hb); have n6_ := Aside0.mk (Kd.R_below (by (with_reducible repeat (first | apply Kd.R_alloc | apply Kd.R_drewN | apply Kd.R_drew)); exact HO722.out) hb); have n7_ := Aside0.mk (below_step (by repeat (first | (with_reducible first | exact HB.out | apply below_alloc | apply pw_below_drewN | apply below_drew1) | exact HB.out)) hb); clear HO703; clear HO706; clear HO709; clear HO712; clear HO716; clear HO719; clear HO722; clear HB; have HO703 := n0_; have HO706 := n1_; have HO709 := n2_; have HO712 := n3_; have HO716 := n4_; have HO719 := n5_; have HO722 := n6_; have HB := n7_; clear n0_ n1_ n2_ n3_ n4_ n5_ n6_ n7_; (try clear hb); (try clear hb2); (try clear hk); (try clear hi)) | ((with_reducible refine gate_callee (f := 41) rfl ?_); refine goesL_ (some 33) rfl rfl Try.func41 (by kernel_rfl) rfl #[.slice Ao25 t707.length co25, .slice Ao26 t710.length co26] rfl (by (try simp only [List.map_toArray, List.map_cons, List.map_nil]); first | done | rfl | (simp only [List.length_drop, List.length_take]; rfl)) ?_; (with_reducible refine (dendronref01_Order.calls k _ _ t707 _ _ t710 t724 _ ?side1 ?side2 ?side3 ?side4 A12.out).mono ?_); (case side1 => repeat (first | exact (Kd.R_reads' HO709.out).2.2 | (with_reducible refine Kd.C_alloc ?_ _) | (with_reducible refine Kd.C_drewN ?_ _) | (with_reducible refine Kd.C_drew ?_))); (case side2 => exact (Kd.R_reads' HO709.out).2.1); (case side3 => repeat (first | exact (Kd.R_reads' HO712.out).2.2 | (with_reducible refine Kd.C_alloc ?_ _) | (with_reducible refine Kd.C_drewN ?_ _) | (with_reducible refine Kd.C_drew ?_))); (case side4 => exact (Kd.R_reads' HO712.out).2.1); rintro e w' ⟨rfl, ⟨nd, rfl⟩⟩; refine ⟨_, rfl, ?_⟩; obtain ⟨Ao31, co31, eo31⟩ := Kd.R_slice HO716.out; subst eo31) | (go_at_call 35; (with_reducible refine (dendronlaw01_awake.calls k  t725 _ A16.out).mono ?_); rintro e w32 ⟨rfl, hb⟩; have n0_ := Aside0.mk (Kd.V_below (by (with_reducible repeat (first | apply Kd.V_alloc | apply Kd.V_drewN | apply Kd.V_drew)); exact HO703.out) hb); have n1_ := Aside0.mk (Kd.V_below (by (with_reducible repeat (first | apply Kd.V_alloc | apply Kd.V_drewN | apply Kd.V_drew)); exact HO706.out) hb); have n2_ := Aside0.mk (Kd.R_below (by (with_reducible repeat (first | apply Kd.R_alloc | apply Kd.R_drewN | apply Kd.R_drew)); exact HO709.out) hb); have n3_ := Aside0.mk (Kd.R_below (by (with_reducible repeat (first | apply Kd.R_alloc | apply Kd.R_drewN | apply Kd.R_drew)); exact HO712.out) hb); have n4_ := Aside0.mk (Kd.R_below (by (with_reducible repeat (first | apply Kd.R_alloc | apply Kd.R_drewN | apply Kd.R_drew)); exact HO716.out) hb); have n5_ := Aside0.mk (Kd.R_below (by (with_reducible repeat (first | apply Kd.R_alloc | apply Kd.R_drewN | apply Kd.R_drew)); exact HO719.out) hb); have n6_ := Aside0.mk (Kd.R_below (by (with_reducible repeat (first | apply Kd.R_alloc | apply Kd.R_drewN | apply Kd.R_drew)); exact HO722.out) hb); have n7_ := Aside0.mk (below_step (by repeat (first | (with_reducible first | exact HB.out | apply below_alloc | apply pw_below_drewN | apply below_drew1) | exact HB.out)) hb); clear HO703; clear HO706; clear HO709; clear HO712; clear HO716; clear HO719; clear HO722; clear HB; have HO703 := n0_; have HO706 := n1_; have HO709 := n2_; have HO712 := n3_; have HO716 := n4_; have HO719 := n5_; have HO722 := n6_; have HB := n7_; clear n0_ n1_ n2_ n3_ n4_ n5_ n6_ n7_; (try clear hb); (try clear hb2); (try clear hk); (try clear hi)))
          go_ret
          exact ⟨by first | rfl | (simp [errW_none, errW_some] <;> rfl) | (simp [*, errW_none, errW_some] <;> rfl), by repeat (first | (with_reducible first | exact HB.out | apply below_alloc | apply pw_below_drewN | apply below_drew1) | exact HB.out)⟩
        · rw [if_neg c15] at H
          have c15b0 : (t714 == 3) = false := beq_eq_false_iff_ne.mpr c15
          have c15b1 : (t714 != 3) = true := bne_iff_ne.mpr c15
          obtain rfl := Option.some.inj H
          go_enter Try.func16, Try.ntmps16
          go_wp2_with (first | ((with_reducible refine gate_callee (f := 30) rfl ?_); refine goesL_ (some 10) rfl rfl Try.func30 (by kernel_rfl) rfl #[.slice A0 l0.length c0, .int .i64 40] rfl (by (try simp only [List.map_toArray, List.map_cons, List.map_nil]); first | done | rfl | (simp only [List.length_drop, List.length_take]; rfl)) ?_; (with_reducible refine (dendronlaw01_few.calls (fun k_ => k_ < w.heap.size) _ _ l0 40 t701 _ ?side1 A3.out).mono ?_); (case side1 => exact Kd.V_mk HC0.out (Kd.F_below (Kd.C_F (Kd.heap_int .u64) HR0.out) (by repeat (first | (with_reducible first | exact HB.out | apply below_alloc | apply pw_below_drewN | apply below_drew1) | exact HB.out)))); rintro e w33 ⟨v702, rfl, ho0, hb⟩; refine ⟨_, rfl, ?_⟩; have n0_ := Aside0.mk (Kd.V_lower (Kd.V_mono (ok' := fun k_ => True) ho0 (fun k_ hk_ => trivial)) (below_size (by repeat (first | (with_reducible first | exact HB.out | apply below_alloc | apply pw_below_drewN | apply below_drew1) | exact HB.out)))); have n1_ := Aside0.mk (below_step (by repeat (first | (with_reducible first | exact HB.out | apply below_alloc | apply pw_below_drewN | apply below_drew1) | exact HB.out)) hb); clear HB; have HO703 := n0_; have HB := n1_; clear n0_ n1_; (try clear hb); (try clear hb2); (try clear hk); (try clear hi); (try clear ho0)) | ((with_reducible refine gate_callee (f := 30) rfl ?_); refine goesL_ (some 12) rfl rfl Try.func30 (by kernel_rfl) rfl #[.slice A1 l1.length c1, .int .i64 40] rfl (by (try simp only [List.map_toArray, List.map_cons, List.map_nil]); first | done | rfl | (simp only [List.length_drop, List.length_take]; rfl)) ?_; (with_reducible refine (dendronlaw01_few.calls (fun k_ => k_ < w.heap.size) _ _ l1 40 t704 _ ?side1 A4.out).mono ?_); (case side1 => exact Kd.V_mk HC1.out (Kd.F_below (Kd.C_F (Kd.heap_int .u64) HR1.out) (by repeat (first | (with_reducible first | exact HB.out | apply below_alloc | apply pw_below_drewN | apply below_drew1) | exact HB.out)))); rintro e w34 ⟨v705, rfl, ho0, hb⟩; refine ⟨_, rfl, ?_⟩; have n0_ := Aside0.mk (Kd.V_below (by (with_reducible repeat (first | apply Kd.V_alloc | apply Kd.V_drewN | apply Kd.V_drew)); exact HO703.out) hb); have n1_ := Aside0.mk (Kd.V_lower (Kd.V_mono (ok' := fun k_ => True) ho0 (fun k_ hk_ => trivial)) (below_size (by repeat (first | (with_reducible first | exact HB.out | apply below_alloc | apply pw_below_drewN | apply below_drew1) | exact HB.out)))); have n2_ := Aside0.mk (below_step (by repeat (first | (with_reducible first | exact HB.out | apply below_alloc | apply pw_below_drewN | apply below_drew1) | exact HB.out)) hb); clear HO703; clear HB; have HO703 := n0_; have HO706 := n1_; have HB := n2_; clear n0_ n1_ n2_; (try clear hb); (try clear hb2); (try clear hk); (try clear hi); (try clear ho0); obtain ⟨Ao35, co35, eo35⟩ := Kd.V_slice HO703.out; subst eo35) | ((with_reducible refine gate_callee (f := 34) rfl ?_); refine goesL_ (some 14) rfl rfl Try.func34 (by kernel_rfl) rfl #[.slice Ao35 t701.length co35] rfl (by (try simp only [List.map_toArray, List.map_cons, List.map_nil]); first | done | rfl | (simp only [List.length_drop, List.length_take]; rfl)) ?_; (with_reducible refine (dendronref01_From.calls k _ _ t701 t707 _ ?side1 ?side2 A5.out).mono ?_); (case side1 => repeat (first | exact (Kd.V_reads' HO703.out).2.2 | (with_reducible refine Kd.C_alloc ?_ _) | (with_reducible refine Kd.C_drewN ?_ _) | (with_reducible refine Kd.C_drew ?_))); (case side2 => exact (Kd.V_reads' HO703.out).2.1); rintro e w36 ⟨v708, rfl, ho0, hb⟩; refine ⟨_, rfl, ?_⟩; have n0_ := Aside0.mk (Kd.V_elder' (by (with_reducible repeat (first | apply Kd.V_alloc | apply Kd.V_drewN | apply Kd.V_drew)); exact HO703.out) (Kd.R_base ho0) hb); have n1_ := Aside0.mk (Kd.V_elder' (by (with_reducible repeat (first | apply Kd.V_alloc | apply Kd.V_drewN | apply Kd.V_drew)); exact HO706.out) (Kd.R_base ho0) hb); have n2_ := Aside0.mk (Kd.R_lower ho0 (below_size (by repeat (first | (with_reducible first | exact HB.out | apply below_alloc | apply pw_below_drewN | apply below_drew1) | exact HB.out)))); have n3_ := Aside0.mk (below_step (by repeat (first | (with_reducible first | exact HB.out | apply below_alloc | apply pw_below_drewN | apply below_drew1) | exact HB.out)) hb); clear HO703; clear HO706; clear HB; have HO703 := n0_; have HO706 := n1_; have HO709 := n2_; have HB := n3_; clear n0_ n1_ n2_ n3_; (try clear hb); (try clear hb2); (try clear hk); (try clear hi); (try clear ho0); obtain ⟨Ao37, co37, eo37⟩ := Kd.V_slice HO706.out; subst eo37) | ((with_reducible refine gate_callee (f := 34) rfl ?_); refine goesL_ (some 16) rfl rfl Try.func34 (by kernel_rfl) rfl #[.slice Ao37 t704.length co37] rfl (by (try simp only [List.map_toArray, List.map_cons, List.map_nil]); first | done | rfl | (simp only [List.length_drop, List.length_take]; rfl)) ?_; (with_reducible refine (dendronref01_From.calls k _ _ t704 t710 _ ?side1 ?side2 A6.out).mono ?_); (case side1 => repeat (first | exact (Kd.V_reads' HO706.out).2.2 | (with_reducible refine Kd.C_alloc ?_ _) | (with_reducible refine Kd.C_drewN ?_ _) | (with_reducible refine Kd.C_drew ?_))); (case side2 => exact (Kd.V_reads' HO706.out).2.1); rintro e w38 ⟨v711, rfl, ho0, hb⟩; refine ⟨_, rfl, ?_⟩; have n0_ := Aside0.mk (Kd.V_elder' (by (with_reducible repeat (first | apply Kd.V_alloc | apply Kd.V_drewN | apply Kd.V_drew)); exact HO703.out) (Kd.R_base ho0) hb); have n1_ := Aside0.mk (Kd.V_elder' (by (with_reducible repeat (first | apply Kd.V_alloc | apply Kd.V_drewN | apply Kd.V_drew)); exact HO706.out) (Kd.R_base ho0) hb); have n2_ := Aside0.mk (Kd.R_elder' (by (with_reducible repeat (first | apply Kd.R_alloc | apply Kd.R_drewN | apply Kd.R_drew)); exact HO709.out) (Kd.R_base ho0) hb); have n3_ := Aside0.mk (Kd.R_lower (Kd.R_new' ho0 (Kd.R_lt (by (with_reducible repeat (first | apply Kd.R_alloc | apply Kd.R_drewN | apply Kd.R_drew)); exact HO709.out))) (below_size (by repeat (first | (with_reducible first | exact HB.out | apply below_alloc | apply pw_below_drewN | apply below_drew1) | exact HB.out)))); have n4_ := Aside0.mk (below_step (by repeat (first | (with_reducible first | exact HB.out | apply below_alloc | apply pw_below_drewN | apply below_drew1) | exact HB.out)) hb); clear HO703; clear HO706; clear HO709; clear HB; have HO703 := n0_; have HO706 := n1_; have HO709 := n2_; have HO712 := n3_; have HB := n4_; clear n0_ n1_ n2_ n3_ n4_; (try clear hb); (try clear hb2); (try clear hk); (try clear hi); (try clear ho0)) | ((with_reducible refine gate_callee (f := 55) rfl ?_); refine goesL_ (some 20) rfl rfl Try.func55 (by kernel_rfl) rfl #[.slice Ao35 t701.length co35, .slice Ao37 t704.length co37] rfl (by (try simp only [List.map_toArray, List.map_cons, List.map_nil]); first | done | rfl | (simp only [List.length_drop, List.length_take]; rfl)) ?_; (with_reducible refine (nat_Sub.calls k _ _ t701 _ _ t704 t713 t714 _ ?side1 ?side2 ?side3 ?side4 A7.out).mono ?_); (case side1 => repeat (first | exact (Kd.V_reads' HO703.out).2.2 | (with_reducible refine Kd.C_alloc ?_ _) | (with_reducible refine Kd.C_drewN ?_ _) | (with_reducible refine Kd.C_drew ?_))); (case side2 => exact (Kd.V_reads' HO703.out).2.1); (case side3 => repeat (first | exact (Kd.V_reads' HO706.out).2.2 | (with_reducible refine Kd.C_alloc ?_ _) | (with_reducible refine Kd.C_drewN ?_ _) | (with_reducible refine Kd.C_drew ?_))); (case side4 => exact (Kd.V_reads' HO706.out).2.1); rintro e w39 ⟨v715, rfl, ho0, hb⟩; refine ⟨_, rfl, ?_⟩; have n0_ := Aside0.mk (Kd.V_elder' (by (with_reducible repeat (first | apply Kd.V_alloc | apply Kd.V_drewN | apply Kd.V_drew)); exact HO703.out) (Kd.R_base ho0) hb); have n1_ := Aside0.mk (Kd.V_elder' (by (with_reducible repeat (first | apply Kd.V_alloc | apply Kd.V_drewN | apply Kd.V_drew)); exact HO706.out) (Kd.R_base ho0) hb); have n2_ := Aside0.mk (Kd.R_below (by (with_reducible repeat (first | apply Kd.R_alloc | apply Kd.R_drewN | apply Kd.R_drew)); exact HO709.out) hb); have n3_ := Aside0.mk (Kd.R_below (by (with_reducible repeat (first | apply Kd.R_alloc | apply Kd.R_drewN | apply Kd.R_drew)); exact HO712.out) hb); have n4_ := Aside0.mk (Kd.R_lower ho0 (below_size (by repeat (first | (with_reducible first | exact HB.out | apply below_alloc | apply pw_below_drewN | apply below_drew1) | exact HB.out)))); have n5_ := Aside0.mk (below_step (by repeat (first | (with_reducible first | exact HB.out | apply below_alloc | apply pw_below_drewN | apply below_drew1) | exact HB.out)) hb); clear HO703; clear HO706; clear HO709; clear HO712; clear HB; have HO703 := n0_; have HO706 := n1_; have HO709 := n2_; have HO712 := n3_; have HO716 := n4_; have HB := n5_; clear n0_ n1_ n2_ n3_ n4_ n5_; (try clear hb); (try clear hb2); (try clear hk); (try clear hi); (try clear ho0)) | ((with_reducible refine gate_callee (f := 52) rfl ?_); refine goesL_ (some 25) rfl rfl Try.func52 (by kernel_rfl) rfl #[.slice Ao35 t701.length co35, .slice Ao37 t704.length co37] rfl (by (try simp only [List.map_toArray, List.map_cons, List.map_nil]); first | done | rfl | (simp only [List.length_drop, List.length_take]; rfl)) ?_; (with_reducible refine (nat_Add.calls k _ _ t701 _ _ t704 t717 _ ?side1 ?side2 ?side3 ?side4 A8.out).mono ?_); (case side1 => repeat (first | exact (Kd.V_reads' HO703.out).2.2 | (with_reducible refine Kd.C_alloc ?_ _) | (with_reducible refine Kd.C_drewN ?_ _) | (with_reducible refine Kd.C_drew ?_))); (case side2 => exact (Kd.V_reads' HO703.out).2.1); (case side3 => repeat (first | exact (Kd.V_reads' HO706.out).2.2 | (with_reducible refine Kd.C_alloc ?_ _) | (with_reducible refine Kd.C_drewN ?_ _) | (with_reducible refine Kd.C_drew ?_))); (case side4 => exact (Kd.V_reads' HO706.out).2.1); rintro e w40 ⟨v718, rfl, ho0, hb⟩; refine ⟨_, rfl, ?_⟩; have n0_ := Aside0.mk (Kd.V_elder' (by (with_reducible repeat (first | apply Kd.V_alloc | apply Kd.V_drewN | apply Kd.V_drew)); exact HO703.out) (Kd.R_base ho0) hb); have n1_ := Aside0.mk (Kd.V_elder' (by (with_reducible repeat (first | apply Kd.V_alloc | apply Kd.V_drewN | apply Kd.V_drew)); exact HO706.out) (Kd.R_base ho0) hb); have n2_ := Aside0.mk (Kd.R_below (by (with_reducible repeat (first | apply Kd.R_alloc | apply Kd.R_drewN | apply Kd.R_drew)); exact HO709.out) hb); have n3_ := Aside0.mk (Kd.R_below (by (with_reducible repeat (first | apply Kd.R_alloc | apply Kd.R_drewN | apply Kd.R_drew)); exact HO712.out) hb); have n4_ := Aside0.mk (Kd.R_elder' (by (with_reducible repeat (first | apply Kd.R_alloc | apply Kd.R_drewN | apply Kd.R_drew)); exact HO716.out) (Kd.R_base ho0) hb); have n5_ := Aside0.mk (Kd.R_lower (Kd.R_new' ho0 (Kd.R_lt (by (with_reducible repeat (first | apply Kd.R_alloc | apply Kd.R_drewN | apply Kd.R_drew)); exact HO716.out))) (below_size (by repeat (first | (with_reducible first | exact HB.out | apply below_alloc | apply pw_below_drewN | apply below_drew1) | exact HB.out)))); have n6_ := Aside0.mk (below_step (by repeat (first | (with_reducible first | exact HB.out | apply below_alloc | apply pw_below_drewN | apply below_drew1) | exact HB.out)) hb); clear HO703; clear HO706; clear HO709; clear HO712; clear HO716; clear HB; have HO703 := n0_; have HO706 := n1_; have HO709 := n2_; have HO712 := n3_; have HO716 := n4_; have HO719 := n5_; have HB := n6_; clear n0_ n1_ n2_ n3_ n4_ n5_ n6_; (try clear hb); (try clear hb2); (try clear hk); (try clear hi); (try clear ho0); obtain ⟨Ao41, co41, eo41⟩ := Kd.R_slice HO709.out; subst eo41; obtain ⟨Ao42, co42, eo42⟩ := Kd.R_slice HO712.out; subst eo42) | ((with_reducible refine gate_callee (f := 56) rfl ?_); refine goesL_ (some 28) rfl rfl Try.func56 (by kernel_rfl) rfl #[.slice Ao41 t707.length co41, .slice Ao42 t710.length co42] rfl (by (try simp only [List.map_toArray, List.map_cons, List.map_nil]); first | done | rfl | (simp only [List.length_drop, List.length_take]; rfl)) ?_; (with_reducible refine (dendronref01_Plus.calls k _ _ t707 _ _ t710 t720 _ ?side1 ?side2 ?side3 ?side4 A9.out).mono ?_); (case side1 => repeat (first | exact (Kd.R_reads' HO709.out).2.2 | (with_reducible refine Kd.C_alloc ?_ _) | (with_reducible refine Kd.C_drewN ?_ _) | (with_reducible refine Kd.C_drew ?_))); (case side2 => exact (Kd.R_reads' HO709.out).2.1); (case side3 => repeat (first | exact (Kd.R_reads' HO712.out).2.2 | (with_reducible refine Kd.C_alloc ?_ _) | (with_reducible refine Kd.C_drewN ?_ _) | (with_reducible refine Kd.C_drew ?_))); (case side4 => exact (Kd.R_reads' HO712.out).2.1); rintro e w43 ⟨v721, rfl, ho0, hb⟩; refine ⟨_, rfl, ?_⟩; have n0_ := Aside0.mk (Kd.V_elder' (by (with_reducible repeat (first | apply Kd.V_alloc | apply Kd.V_drewN | apply Kd.V_drew)); exact HO703.out) (Kd.R_base ho0) hb); have n1_ := Aside0.mk (Kd.V_elder' (by (with_reducible repeat (first | apply Kd.V_alloc | apply Kd.V_drewN | apply Kd.V_drew)); exact HO706.out) (Kd.R_base ho0) hb); have n2_ := Aside0.mk (Kd.R_elder' (by (with_reducible repeat (first | apply Kd.R_alloc | apply Kd.R_drewN | apply Kd.R_drew)); exact HO709.out) (Kd.R_base ho0) hb); have n3_ := Aside0.mk (Kd.R_elder' (by (with_reducible repeat (first | apply Kd.R_alloc | apply Kd.R_drewN | apply Kd.R_drew)); exact HO712.out) (Kd.R_base ho0) hb); have n4_ := Aside0.mk (Kd.R_below (by (with_reducible repeat (first | apply Kd.R_alloc | apply Kd.R_drewN | apply Kd.R_drew)); exact HO716.out) hb); have n5_ := Aside0.mk (Kd.R_below (by (with_reducible repeat (first | apply Kd.R_alloc | apply Kd.R_drewN | apply Kd.R_drew)); exact HO719.out) hb); have n6_ := Aside0.mk (Kd.R_lower (Kd.R_new' (Kd.R_new' ho0 (Kd.R_lt (by (with_reducible repeat (first | apply Kd.R_alloc | apply Kd.R_drewN | apply Kd.R_drew)); exact HO709.out))) (Kd.R_lt (by (with_reducible repeat (first | apply Kd.R_alloc | apply Kd.R_drewN | apply Kd.R_drew)); exact HO712.out))) (below_size (by repeat (first | (with_reducible first | exact HB.out | apply below_alloc | apply pw_below_drewN | apply below_drew1) | exact HB.out)))); have n7_ := Aside0.mk (below_step (by repeat (first | (with_reducible first | exact HB.out | apply below_alloc | apply pw_below_drewN | apply below_drew1) | exact HB.out)) hb); clear HO703; clear HO706; clear HO709; clear HO712; clear HO716; clear HO719; clear HB; have HO703 := n0_; have HO706 := n1_; have HO709 := n2_; have HO712 := n3_; have HO716 := n4_; have HO719 := n5_; have HO722 := n6_; have HB := n7_; clear n0_ n1_ n2_ n3_ n4_ n5_ n6_ n7_; (try clear hb); (try clear hb2); (try clear hk); (try clear hi); (try clear ho0); obtain ⟨Ao44, co44, eo44⟩ := Kd.R_slice HO719.out; subst eo44; obtain ⟨Ao45, co45, eo45⟩ := Kd.R_slice HO722.out; subst eo45) | ((with_reducible refine gate_callee (f := 31) rfl ?_); refine goesL_ (some 29) rfl rfl Try.func31 (by kernel_rfl) rfl #[.slice Ao44 t717.length co44, .slice Ao45 t720.length co45] rfl (by (try simp only [List.map_toArray, List.map_cons, List.map_nil]); first | done | rfl | (simp only [List.length_drop, List.length_take]; rfl)) ?_; (with_reducible refine (dendronref01_Is.calls k _ _ t717 _ _ t720 true _ ?side1 ?side2 ?side3 ?side4 A10.out).mono ?_); (case side1 => repeat (first | exact (Kd.R_reads' HO719.out).2.2 | (with_reducible refine Kd.C_alloc ?_ _) | (with_reducible refine Kd.C_drewN ?_ _) | (with_reducible refine Kd.C_drew ?_))); (case side2 => exact (Kd.R_reads' HO719.out).2.1); (case side3 => repeat (first | exact (Kd.R_reads' HO722.out).2.2 | (with_reducible refine Kd.C_alloc ?_ _) | (with_reducible refine Kd.C_drewN ?_ _) | (with_reducible refine Kd.C_drew ?_))); (case side4 => exact (Kd.R_reads' HO722.out).2.1); rintro e w46 ⟨rfl, hb⟩; refine ⟨_, rfl, ?_⟩; have n0_ := Aside0.mk (Kd.V_below (by (with_reducible repeat (first | apply Kd.V_alloc | apply Kd.V_drewN | apply Kd.V_drew)); exact HO703.out) hb); have n1_ := Aside0.mk (Kd.V_below (by (with_reducible repeat (first | apply Kd.V_alloc | apply Kd.V_drewN | apply Kd.V_drew)); exact HO706.out) hb); have n2_ := Aside0.mk (Kd.R_below (by (with_reducible repeat (first | apply Kd.R_alloc | apply Kd.R_drewN | apply Kd.R_drew)); exact HO709.out) hb); have n3_ := Aside0.mk (Kd.R_below (by (with_reducible repeat (first | apply Kd.R_alloc | apply Kd.R_drewN | apply Kd.R_drew)); exact HO712.out) hb); have n4_ := Aside0.mk (Kd.R_below (by (with_reducible repeat (first | apply Kd.R_alloc | apply Kd.R_drewN | apply Kd.R_drew)); exact HO716.out) hb); have n5_ := Aside0.mk (Kd.R_below (by (with_reducible repeat (first | apply Kd.R_alloc | apply Kd.R_drewN | apply Kd.R_drew)); exact HO719.out) hb); have n6_ := Aside0.mk (Kd.R_below (by (with_reducible repeat (first | apply Kd.R_alloc | apply Kd.R_drewN | apply Kd.R_drew)); exact HO722.out) hb); have n7_ := Aside0.mk (below_step (by repeat (first | (with_reducible first | exact HB.out | apply below_alloc | apply pw_below_drewN | apply below_drew1) | exact HB.out)) hb); clear HO703; clear HO706; clear HO709; clear HO712; clear HO716; clear HO719; clear HO722; clear HB; have HO703 := n0_; have HO706 := n1_; have HO709 := n2_; have HO712 := n3_; have HO716 := n4_; have HO719 := n5_; have HO722 := n6_; have HB := n7_; clear n0_ n1_ n2_ n3_ n4_ n5_ n6_ n7_; (try clear hb); (try clear hb2); (try clear hk); (try clear hi)) | ((with_reducible refine gate_callee (f := 41) rfl ?_); refine goesL_ (some 33) rfl rfl Try.func41 (by kernel_rfl) rfl #[.slice Ao41 t707.length co41, .slice Ao42 t710.length co42] rfl (by (try simp only [List.map_toArray, List.map_cons, List.map_nil]); first | done | rfl | (simp only [List.length_drop, List.length_take]; rfl)) ?_; (with_reducible refine (dendronref01_Order.calls k _ _ t707 _ _ t710 t724 _ ?side1 ?side2 ?side3 ?side4 A12.out).mono ?_); (case side1 => repeat (first | exact (Kd.R_reads' HO709.out).2.2 | (with_reducible refine Kd.C_alloc ?_ _) | (with_reducible refine Kd.C_drewN ?_ _) | (with_reducible refine Kd.C_drew ?_))); (case side2 => exact (Kd.R_reads' HO709.out).2.1); (case side3 => repeat (first | exact (Kd.R_reads' HO712.out).2.2 | (with_reducible refine Kd.C_alloc ?_ _) | (with_reducible refine Kd.C_drewN ?_ _) | (with_reducible refine Kd.C_drew ?_))); (case side4 => exact (Kd.R_reads' HO712.out).2.1); rintro e w' ⟨rfl, ⟨nd, rfl⟩⟩; refine ⟨_, rfl, ?_⟩; obtain ⟨Ao47, co47, eo47⟩ := Kd.R_slice HO716.out; subst eo47))
          go_ret
          exact ⟨by first | rfl | (simp [errW_none, errW_some] <;> rfl) | (simp [*, errW_none, errW_some] <;> rfl), by repeat (first | (with_reducible first | exact HB.out | apply below_alloc | apply pw_below_drewN | apply below_drew1) | exact HB.out)⟩
      · rw [if_neg c14] at H
        have c14b0 : ((t713.length : Int) == 0) = false := beq_eq_false_iff_ne.mpr c14
        have c14b1 : ((t713.length : Int) != 0) = true := bne_iff_ne.mpr c14
        have c14b2 : ¬ (t713 = []) := fun h_ => c14 (by rw [h_]; rfl)
        obtain rfl := Option.some.inj H
        go_enter Try.func16, Try.ntmps16
        go_wp2_with (first | ((with_reducible refine gate_callee (f := 30) rfl ?_); refine goesL_ (some 10) rfl rfl Try.func30 (by kernel_rfl) rfl #[.slice A0 l0.length c0, .int .i64 40] rfl (by (try simp only [List.map_toArray, List.map_cons, List.map_nil]); first | done | rfl | (simp only [List.length_drop, List.length_take]; rfl)) ?_; (with_reducible refine (dendronlaw01_few.calls (fun k_ => k_ < w.heap.size) _ _ l0 40 t701 _ ?side1 A3.out).mono ?_); (case side1 => exact Kd.V_mk HC0.out (Kd.F_below (Kd.C_F (Kd.heap_int .u64) HR0.out) (by repeat (first | (with_reducible first | exact HB.out | apply below_alloc | apply pw_below_drewN | apply below_drew1) | exact HB.out)))); rintro e w48 ⟨v702, rfl, ho0, hb⟩; refine ⟨_, rfl, ?_⟩; have n0_ := Aside0.mk (Kd.V_lower (Kd.V_mono (ok' := fun k_ => True) ho0 (fun k_ hk_ => trivial)) (below_size (by repeat (first | (with_reducible first | exact HB.out | apply below_alloc | apply pw_below_drewN | apply below_drew1) | exact HB.out)))); have n1_ := Aside0.mk (below_step (by repeat (first | (with_reducible first | exact HB.out | apply below_alloc | apply pw_below_drewN | apply below_drew1) | exact HB.out)) hb); clear HB; have HO703 := n0_; have HB := n1_; clear n0_ n1_; (try clear hb); (try clear hb2); (try clear hk); (try clear hi); (try clear ho0)) | ((with_reducible refine gate_callee (f := 30) rfl ?_); refine goesL_ (some 12) rfl rfl Try.func30 (by kernel_rfl) rfl #[.slice A1 l1.length c1, .int .i64 40] rfl (by (try simp only [List.map_toArray, List.map_cons, List.map_nil]); first | done | rfl | (simp only [List.length_drop, List.length_take]; rfl)) ?_; (with_reducible refine (dendronlaw01_few.calls (fun k_ => k_ < w.heap.size) _ _ l1 40 t704 _ ?side1 A4.out).mono ?_); (case side1 => exact Kd.V_mk HC1.out (Kd.F_below (Kd.C_F (Kd.heap_int .u64) HR1.out) (by repeat (first | (with_reducible first | exact HB.out | apply below_alloc | apply pw_below_drewN | apply below_drew1) | exact HB.out)))); rintro e w49 ⟨v705, rfl, ho0, hb⟩; refine ⟨_, rfl, ?_⟩; have n0_ := Aside0.mk (Kd.V_below (by (with_reducible repeat (first | apply Kd.V_alloc | apply Kd.V_drewN | apply Kd.V_drew)); exact HO703.out) hb); have n1_ := Aside0.mk (Kd.V_lower (Kd.V_mono (ok' := fun k_ => True) ho0 (fun k_ hk_ => trivial)) (below_size (by repeat (first | (with_reducible first | exact HB.out | apply below_alloc | apply pw_below_drewN | apply below_drew1) | exact HB.out)))); have n2_ := Aside0.mk (below_step (by repeat (first | (with_reducible first | exact HB.out | apply below_alloc | apply pw_below_drewN | apply below_drew1) | exact HB.out)) hb); clear HO703; clear HB; have HO703 := n0_; have HO706 := n1_; have HB := n2_; clear n0_ n1_ n2_; (try clear hb); (try clear hb2); (try clear hk); (try clear hi); (try clear ho0); obtain ⟨Ao50, co50, eo50⟩ := Kd.V_slice HO703.out; subst eo50) | ((with_reducible refine gate_callee (f := 34) rfl ?_); refine goesL_ (some 14) rfl rfl Try.func34 (by kernel_rfl) rfl #[.slice Ao50 t701.length co50] rfl (by (try simp only [List.map_toArray, List.map_cons, List.map_nil]); first | done | rfl | (simp only [List.length_drop, List.length_take]; rfl)) ?_; (with_reducible refine (dendronref01_From.calls k _ _ t701 t707 _ ?side1 ?side2 A5.out).mono ?_); (case side1 => repeat (first | exact (Kd.V_reads' HO703.out).2.2 | (with_reducible refine Kd.C_alloc ?_ _) | (with_reducible refine Kd.C_drewN ?_ _) | (with_reducible refine Kd.C_drew ?_))); (case side2 => exact (Kd.V_reads' HO703.out).2.1); rintro e w51 ⟨v708, rfl, ho0, hb⟩; refine ⟨_, rfl, ?_⟩; have n0_ := Aside0.mk (Kd.V_elder' (by (with_reducible repeat (first | apply Kd.V_alloc | apply Kd.V_drewN | apply Kd.V_drew)); exact HO703.out) (Kd.R_base ho0) hb); have n1_ := Aside0.mk (Kd.V_elder' (by (with_reducible repeat (first | apply Kd.V_alloc | apply Kd.V_drewN | apply Kd.V_drew)); exact HO706.out) (Kd.R_base ho0) hb); have n2_ := Aside0.mk (Kd.R_lower ho0 (below_size (by repeat (first | (with_reducible first | exact HB.out | apply below_alloc | apply pw_below_drewN | apply below_drew1) | exact HB.out)))); have n3_ := Aside0.mk (below_step (by repeat (first | (with_reducible first | exact HB.out | apply below_alloc | apply pw_below_drewN | apply below_drew1) | exact HB.out)) hb); clear HO703; clear HO706; clear HB; have HO703 := n0_; have HO706 := n1_; have HO709 := n2_; have HB := n3_; clear n0_ n1_ n2_ n3_; (try clear hb); (try clear hb2); (try clear hk); (try clear hi); (try clear ho0); obtain ⟨Ao52, co52, eo52⟩ := Kd.V_slice HO706.out; subst eo52) | ((with_reducible refine gate_callee (f := 34) rfl ?_); refine goesL_ (some 16) rfl rfl Try.func34 (by kernel_rfl) rfl #[.slice Ao52 t704.length co52] rfl (by (try simp only [List.map_toArray, List.map_cons, List.map_nil]); first | done | rfl | (simp only [List.length_drop, List.length_take]; rfl)) ?_; (with_reducible refine (dendronref01_From.calls k _ _ t704 t710 _ ?side1 ?side2 A6.out).mono ?_); (case side1 => repeat (first | exact (Kd.V_reads' HO706.out).2.2 | (with_reducible refine Kd.C_alloc ?_ _) | (with_reducible refine Kd.C_drewN ?_ _) | (with_reducible refine Kd.C_drew ?_))); (case side2 => exact (Kd.V_reads' HO706.out).2.1); rintro e w53 ⟨v711, rfl, ho0, hb⟩; refine ⟨_, rfl, ?_⟩; have n0_ := Aside0.mk (Kd.V_elder' (by (with_reducible repeat (first | apply Kd.V_alloc | apply Kd.V_drewN | apply Kd.V_drew)); exact HO703.out) (Kd.R_base ho0) hb); have n1_ := Aside0.mk (Kd.V_elder' (by (with_reducible repeat (first | apply Kd.V_alloc | apply Kd.V_drewN | apply Kd.V_drew)); exact HO706.out) (Kd.R_base ho0) hb); have n2_ := Aside0.mk (Kd.R_elder' (by (with_reducible repeat (first | apply Kd.R_alloc | apply Kd.R_drewN | apply Kd.R_drew)); exact HO709.out) (Kd.R_base ho0) hb); have n3_ := Aside0.mk (Kd.R_lower (Kd.R_new' ho0 (Kd.R_lt (by (with_reducible repeat (first | apply Kd.R_alloc | apply Kd.R_drewN | apply Kd.R_drew)); exact HO709.out))) (below_size (by repeat (first | (with_reducible first | exact HB.out | apply below_alloc | apply pw_below_drewN | apply below_drew1) | exact HB.out)))); have n4_ := Aside0.mk (below_step (by repeat (first | (with_reducible first | exact HB.out | apply below_alloc | apply pw_below_drewN | apply below_drew1) | exact HB.out)) hb); clear HO703; clear HO706; clear HO709; clear HB; have HO703 := n0_; have HO706 := n1_; have HO709 := n2_; have HO712 := n3_; have HB := n4_; clear n0_ n1_ n2_ n3_ n4_; (try clear hb); (try clear hb2); (try clear hk); (try clear hi); (try clear ho0)) | ((with_reducible refine gate_callee (f := 55) rfl ?_); refine goesL_ (some 20) rfl rfl Try.func55 (by kernel_rfl) rfl #[.slice Ao50 t701.length co50, .slice Ao52 t704.length co52] rfl (by (try simp only [List.map_toArray, List.map_cons, List.map_nil]); first | done | rfl | (simp only [List.length_drop, List.length_take]; rfl)) ?_; (with_reducible refine (nat_Sub.calls k _ _ t701 _ _ t704 t713 t714 _ ?side1 ?side2 ?side3 ?side4 A7.out).mono ?_); (case side1 => repeat (first | exact (Kd.V_reads' HO703.out).2.2 | (with_reducible refine Kd.C_alloc ?_ _) | (with_reducible refine Kd.C_drewN ?_ _) | (with_reducible refine Kd.C_drew ?_))); (case side2 => exact (Kd.V_reads' HO703.out).2.1); (case side3 => repeat (first | exact (Kd.V_reads' HO706.out).2.2 | (with_reducible refine Kd.C_alloc ?_ _) | (with_reducible refine Kd.C_drewN ?_ _) | (with_reducible refine Kd.C_drew ?_))); (case side4 => exact (Kd.V_reads' HO706.out).2.1); rintro e w54 ⟨v715, rfl, ho0, hb⟩; refine ⟨_, rfl, ?_⟩; have n0_ := Aside0.mk (Kd.V_elder' (by (with_reducible repeat (first | apply Kd.V_alloc | apply Kd.V_drewN | apply Kd.V_drew)); exact HO703.out) (Kd.R_base ho0) hb); have n1_ := Aside0.mk (Kd.V_elder' (by (with_reducible repeat (first | apply Kd.V_alloc | apply Kd.V_drewN | apply Kd.V_drew)); exact HO706.out) (Kd.R_base ho0) hb); have n2_ := Aside0.mk (Kd.R_below (by (with_reducible repeat (first | apply Kd.R_alloc | apply Kd.R_drewN | apply Kd.R_drew)); exact HO709.out) hb); have n3_ := Aside0.mk (Kd.R_below (by (with_reducible repeat (first | apply Kd.R_alloc | apply Kd.R_drewN | apply Kd.R_drew)); exact HO712.out) hb); have n4_ := Aside0.mk (Kd.R_lower ho0 (below_size (by repeat (first | (with_reducible first | exact HB.out | apply below_alloc | apply pw_below_drewN | apply below_drew1) | exact HB.out)))); have n5_ := Aside0.mk (below_step (by repeat (first | (with_reducible first | exact HB.out | apply below_alloc | apply pw_below_drewN | apply below_drew1) | exact HB.out)) hb); clear HO703; clear HO706; clear HO709; clear HO712; clear HB; have HO703 := n0_; have HO706 := n1_; have HO709 := n2_; have HO712 := n3_; have HO716 := n4_; have HB := n5_; clear n0_ n1_ n2_ n3_ n4_ n5_; (try clear hb); (try clear hb2); (try clear hk); (try clear hi); (try clear ho0)) | ((with_reducible refine gate_callee (f := 52) rfl ?_); refine goesL_ (some 25) rfl rfl Try.func52 (by kernel_rfl) rfl #[.slice Ao50 t701.length co50, .slice Ao52 t704.length co52] rfl (by (try simp only [List.map_toArray, List.map_cons, List.map_nil]); first | done | rfl | (simp only [List.length_drop, List.length_take]; rfl)) ?_; (with_reducible refine (nat_Add.calls k _ _ t701 _ _ t704 t717 _ ?side1 ?side2 ?side3 ?side4 A8.out).mono ?_); (case side1 => repeat (first | exact (Kd.V_reads' HO703.out).2.2 | (with_reducible refine Kd.C_alloc ?_ _) | (with_reducible refine Kd.C_drewN ?_ _) | (with_reducible refine Kd.C_drew ?_))); (case side2 => exact (Kd.V_reads' HO703.out).2.1); (case side3 => repeat (first | exact (Kd.V_reads' HO706.out).2.2 | (with_reducible refine Kd.C_alloc ?_ _) | (with_reducible refine Kd.C_drewN ?_ _) | (with_reducible refine Kd.C_drew ?_))); (case side4 => exact (Kd.V_reads' HO706.out).2.1); rintro e w55 ⟨v718, rfl, ho0, hb⟩; refine ⟨_, rfl, ?_⟩; have n0_ := Aside0.mk (Kd.V_elder' (by (with_reducible repeat (first | apply Kd.V_alloc | apply Kd.V_drewN | apply Kd.V_drew)); exact HO703.out) (Kd.R_base ho0) hb); have n1_ := Aside0.mk (Kd.V_elder' (by (with_reducible repeat (first | apply Kd.V_alloc | apply Kd.V_drewN | apply Kd.V_drew)); exact HO706.out) (Kd.R_base ho0) hb); have n2_ := Aside0.mk (Kd.R_below (by (with_reducible repeat (first | apply Kd.R_alloc | apply Kd.R_drewN | apply Kd.R_drew)); exact HO709.out) hb); have n3_ := Aside0.mk (Kd.R_below (by (with_reducible repeat (first | apply Kd.R_alloc | apply Kd.R_drewN | apply Kd.R_drew)); exact HO712.out) hb); have n4_ := Aside0.mk (Kd.R_elder' (by (with_reducible repeat (first | apply Kd.R_alloc | apply Kd.R_drewN | apply Kd.R_drew)); exact HO716.out) (Kd.R_base ho0) hb); have n5_ := Aside0.mk (Kd.R_lower (Kd.R_new' ho0 (Kd.R_lt (by (with_reducible repeat (first | apply Kd.R_alloc | apply Kd.R_drewN | apply Kd.R_drew)); exact HO716.out))) (below_size (by repeat (first | (with_reducible first | exact HB.out | apply below_alloc | apply pw_below_drewN | apply below_drew1) | exact HB.out)))); have n6_ := Aside0.mk (below_step (by repeat (first | (with_reducible first | exact HB.out | apply below_alloc | apply pw_below_drewN | apply below_drew1) | exact HB.out)) hb); clear HO703; clear HO706; clear HO709; clear HO712; clear HO716; clear HB; have HO703 := n0_; have HO706 := n1_; have HO709 := n2_; have HO712 := n3_; have HO716 := n4_; have HO719 := n5_; have HB := n6_; clear n0_ n1_ n2_ n3_ n4_ n5_ n6_; (try clear hb); (try clear hb2); (try clear hk); (try clear hi); (try clear ho0); obtain ⟨Ao56, co56, eo56⟩ := Kd.R_slice HO709.out; subst eo56; obtain ⟨Ao57, co57, eo57⟩ := Kd.R_slice HO712.out; subst eo57) | ((with_reducible refine gate_callee (f := 56) rfl ?_); refine goesL_ (some 28) rfl rfl Try.func56 (by kernel_rfl) rfl #[.slice Ao56 t707.length co56, .slice Ao57 t710.length co57] rfl (by (try simp only [List.map_toArray, List.map_cons, List.map_nil]); first | done | rfl | (simp only [List.length_drop, List.length_take]; rfl)) ?_; (with_reducible refine (dendronref01_Plus.calls k _ _ t707 _ _ t710 t720 _ ?side1 ?side2 ?side3 ?side4 A9.out).mono ?_); (case side1 => repeat (first | exact (Kd.R_reads' HO709.out).2.2 | (with_reducible refine Kd.C_alloc ?_ _) | (with_reducible refine Kd.C_drewN ?_ _) | (with_reducible refine Kd.C_drew ?_))); (case side2 => exact (Kd.R_reads' HO709.out).2.1); (case side3 => repeat (first | exact (Kd.R_reads' HO712.out).2.2 | (with_reducible refine Kd.C_alloc ?_ _) | (with_reducible refine Kd.C_drewN ?_ _) | (with_reducible refine Kd.C_drew ?_))); (case side4 => exact (Kd.R_reads' HO712.out).2.1); rintro e w58 ⟨v721, rfl, ho0, hb⟩; refine ⟨_, rfl, ?_⟩; have n0_ := Aside0.mk (Kd.V_elder' (by (with_reducible repeat (first | apply Kd.V_alloc | apply Kd.V_drewN | apply Kd.V_drew)); exact HO703.out) (Kd.R_base ho0) hb); have n1_ := Aside0.mk (Kd.V_elder' (by (with_reducible repeat (first | apply Kd.V_alloc | apply Kd.V_drewN | apply Kd.V_drew)); exact HO706.out) (Kd.R_base ho0) hb); have n2_ := Aside0.mk (Kd.R_elder' (by (with_reducible repeat (first | apply Kd.R_alloc | apply Kd.R_drewN | apply Kd.R_drew)); exact HO709.out) (Kd.R_base ho0) hb); have n3_ := Aside0.mk (Kd.R_elder' (by (with_reducible repeat (first | apply Kd.R_alloc | apply Kd.R_drewN | apply Kd.R_drew)); exact HO712.out) (Kd.R_base ho0) hb); have n4_ := Aside0.mk (Kd.R_below (by (with_reducible repeat (first | apply Kd.R_alloc | apply Kd.R_drewN | apply Kd.R_drew)); exact HO716.out) hb); have n5_ := Aside0.mk (Kd.R_below (by (with_reducible repeat (first | apply Kd.R_alloc | apply Kd.R_drewN | apply Kd.R_drew)); exact HO719.out) hb); have n6_ := Aside0.mk (Kd.R_lower (Kd.R_new' (Kd.R_new' ho0 (Kd.R_lt (by (with_reducible repeat (first | apply Kd.R_alloc | apply Kd.R_drewN | apply Kd.R_drew)); exact HO709.out))) (Kd.R_lt (by (with_reducible repeat (first | apply Kd.R_alloc | apply Kd.R_drewN | apply Kd.R_drew)); exact HO712.out))) (below_size (by repeat (first | (with_reducible first | exact HB.out | apply below_alloc | apply pw_below_drewN | apply below_drew1) | exact HB.out)))); have n7_ := Aside0.mk (below_step (by repeat (first | (with_reducible first | exact HB.out | apply below_alloc | apply pw_below_drewN | apply below_drew1) | exact HB.out)) hb); clear HO703; clear HO706; clear HO709; clear HO712; clear HO716; clear HO719; clear HB; have HO703 := n0_; have HO706 := n1_; have HO709 := n2_; have HO712 := n3_; have HO716 := n4_; have HO719 := n5_; have HO722 := n6_; have HB := n7_; clear n0_ n1_ n2_ n3_ n4_ n5_ n6_ n7_; (try clear hb); (try clear hb2); (try clear hk); (try clear hi); (try clear ho0); obtain ⟨Ao59, co59, eo59⟩ := Kd.R_slice HO719.out; subst eo59; obtain ⟨Ao60, co60, eo60⟩ := Kd.R_slice HO722.out; subst eo60) | ((with_reducible refine gate_callee (f := 31) rfl ?_); refine goesL_ (some 29) rfl rfl Try.func31 (by kernel_rfl) rfl #[.slice Ao59 t717.length co59, .slice Ao60 t720.length co60] rfl (by (try simp only [List.map_toArray, List.map_cons, List.map_nil]); first | done | rfl | (simp only [List.length_drop, List.length_take]; rfl)) ?_; (with_reducible refine (dendronref01_Is.calls k _ _ t717 _ _ t720 true _ ?side1 ?side2 ?side3 ?side4 A10.out).mono ?_); (case side1 => repeat (first | exact (Kd.R_reads' HO719.out).2.2 | (with_reducible refine Kd.C_alloc ?_ _) | (with_reducible refine Kd.C_drewN ?_ _) | (with_reducible refine Kd.C_drew ?_))); (case side2 => exact (Kd.R_reads' HO719.out).2.1); (case side3 => repeat (first | exact (Kd.R_reads' HO722.out).2.2 | (with_reducible refine Kd.C_alloc ?_ _) | (with_reducible refine Kd.C_drewN ?_ _) | (with_reducible refine Kd.C_drew ?_))); (case side4 => exact (Kd.R_reads' HO722.out).2.1); rintro e w61 ⟨rfl, hb⟩; refine ⟨_, rfl, ?_⟩; have n0_ := Aside0.mk (Kd.V_below (by (with_reducible repeat (first | apply Kd.V_alloc | apply Kd.V_drewN | apply Kd.V_drew)); exact HO703.out) hb); have n1_ := Aside0.mk (Kd.V_below (by (with_reducible repeat (first | apply Kd.V_alloc | apply Kd.V_drewN | apply Kd.V_drew)); exact HO706.out) hb); have n2_ := Aside0.mk (Kd.R_below (by (with_reducible repeat (first | apply Kd.R_alloc | apply Kd.R_drewN | apply Kd.R_drew)); exact HO709.out) hb); have n3_ := Aside0.mk (Kd.R_below (by (with_reducible repeat (first | apply Kd.R_alloc | apply Kd.R_drewN | apply Kd.R_drew)); exact HO712.out) hb); have n4_ := Aside0.mk (Kd.R_below (by (with_reducible repeat (first | apply Kd.R_alloc | apply Kd.R_drewN | apply Kd.R_drew)); exact HO716.out) hb); have n5_ := Aside0.mk (Kd.R_below (by (with_reducible repeat (first | apply Kd.R_alloc | apply Kd.R_drewN | apply Kd.R_drew)); exact HO719.out) hb); have n6_ := Aside0.mk (Kd.R_below (by (with_reducible repeat (first | apply Kd.R_alloc | apply Kd.R_drewN | apply Kd.R_drew)); exact HO722.out) hb); have n7_ := Aside0.mk (below_step (by repeat (first | (with_reducible first | exact HB.out | apply below_alloc | apply pw_below_drewN | apply below_drew1) | exact HB.out)) hb); clear HO703; clear HO706; clear HO709; clear HO712; clear HO716; clear HO719; clear HO722; clear HB; have HO703 := n0_; have HO706 := n1_; have HO709 := n2_; have HO712 := n3_; have HO716 := n4_; have HO719 := n5_; have HO722 := n6_; have HB := n7_; clear n0_ n1_ n2_ n3_ n4_ n5_ n6_ n7_; (try clear hb); (try clear hb2); (try clear hk); (try clear hi)) | ((with_reducible refine gate_callee (f := 41) rfl ?_); refine goesL_ (some 33) rfl rfl Try.func41 (by kernel_rfl) rfl #[.slice Ao56 t707.length co56, .slice Ao57 t710.length co57] rfl (by (try simp only [List.map_toArray, List.map_cons, List.map_nil]); first | done | rfl | (simp only [List.length_drop, List.length_take]; rfl)) ?_; (with_reducible refine (dendronref01_Order.calls k _ _ t707 _ _ t710 t724 _ ?side1 ?side2 ?side3 ?side4 A12.out).mono ?_); (case side1 => repeat (first | exact (Kd.R_reads' HO709.out).2.2 | (with_reducible refine Kd.C_alloc ?_ _) | (with_reducible refine Kd.C_drewN ?_ _) | (with_reducible refine Kd.C_drew ?_))); (case side2 => exact (Kd.R_reads' HO709.out).2.1); (case side3 => repeat (first | exact (Kd.R_reads' HO712.out).2.2 | (with_reducible refine Kd.C_alloc ?_ _) | (with_reducible refine Kd.C_drewN ?_ _) | (with_reducible refine Kd.C_drew ?_))); (case side4 => exact (Kd.R_reads' HO712.out).2.1); rintro e w' ⟨rfl, ⟨nd, rfl⟩⟩; refine ⟨_, rfl, ?_⟩; obtain ⟨Ao62, co62, eo62⟩ := Kd.R_slice HO716.out; subst eo62))
        go_ret
        exact ⟨by first | rfl | (simp [errW_none, errW_some] <;> rfl) | (simp [*, errW_none, errW_some] <;> rfl), by repeat (first | (with_reducible first | exact HB.out | apply below_alloc | apply pw_below_drewN | apply below_drew1) | exact HB.out)⟩
    · rw [if_neg c13] at H
      have c13b0 : decide (t724 < 0) = false := decide_eq_false c13
      clear c13
      by_cases c63 : t714 = 0
      · rw [if_pos c63] at H
        have c63b0 : (t714 == 0) = true := beq_iff_eq.mpr c63
        have c63b1 : (t714 != 0) = false := bne_eq_false_iff_eq.mpr c63
        clear c63
        replace H := Option.bind_eq_some_iff.mp H
        obtain ⟨t726, A640, H⟩ := H
        replace H : ((dendronref01_Is.f k t713 t726).bind fun t729 => (if t729 = true then ((dendronlaw01_awake.f k).bind fun t730 => (some t730)) else (some false))) = some r := H
        have A64 := Aside0.mk A640
        clear A640
        replace H := Option.bind_eq_some_iff.mp H
        obtain ⟨t729, A650, H⟩ := H
        replace H : (if t729 = true then ((dendronlaw01_awake.f k).bind fun t730 => (some t730)) else (some false)) = some r := H
        have A65 := Aside0.mk A650
        clear A650
        by_cases c66 : t729 = true
        · subst c66
          have H1 : ((dendronlaw01_awake.f k).bind fun t730 => (some t730)) = some r := by rw [if_pos rfl] at H; exact H
          clear H
          have H := H1
          clear H1
          replace H := Option.bind_eq_some_iff.mp H
          obtain ⟨t730, A670, H⟩ := H
          replace H : (some t730) = some r := H
          have A67 := Aside0.mk A670
          clear A670
          obtain rfl := Option.some.inj H
          go_enter Try.func16, Try.ntmps16
          go_wp2_with (first | ((with_reducible refine gate_callee (f := 30) rfl ?_); refine goesL_ (some 10) rfl rfl Try.func30 (by kernel_rfl) rfl #[.slice A0 l0.length c0, .int .i64 40] rfl (by (try simp only [List.map_toArray, List.map_cons, List.map_nil]); first | done | rfl | (simp only [List.length_drop, List.length_take]; rfl)) ?_; (with_reducible refine (dendronlaw01_few.calls (fun k_ => k_ < w.heap.size) _ _ l0 40 t701 _ ?side1 A3.out).mono ?_); (case side1 => exact Kd.V_mk HC0.out (Kd.F_below (Kd.C_F (Kd.heap_int .u64) HR0.out) (by repeat (first | (with_reducible first | exact HB.out | apply below_alloc | apply pw_below_drewN | apply below_drew1) | exact HB.out)))); rintro e w68 ⟨v702, rfl, ho0, hb⟩; refine ⟨_, rfl, ?_⟩; have n0_ := Aside0.mk (Kd.V_lower (Kd.V_mono (ok' := fun k_ => True) ho0 (fun k_ hk_ => trivial)) (below_size (by repeat (first | (with_reducible first | exact HB.out | apply below_alloc | apply pw_below_drewN | apply below_drew1) | exact HB.out)))); have n1_ := Aside0.mk (below_step (by repeat (first | (with_reducible first | exact HB.out | apply below_alloc | apply pw_below_drewN | apply below_drew1) | exact HB.out)) hb); clear HB; have HO703 := n0_; have HB := n1_; clear n0_ n1_; (try clear hb); (try clear hb2); (try clear hk); (try clear hi); (try clear ho0)) | ((with_reducible refine gate_callee (f := 30) rfl ?_); refine goesL_ (some 12) rfl rfl Try.func30 (by kernel_rfl) rfl #[.slice A1 l1.length c1, .int .i64 40] rfl (by (try simp only [List.map_toArray, List.map_cons, List.map_nil]); first | done | rfl | (simp only [List.length_drop, List.length_take]; rfl)) ?_; (with_reducible refine (dendronlaw01_few.calls (fun k_ => k_ < w.heap.size) _ _ l1 40 t704 _ ?side1 A4.out).mono ?_); (case side1 => exact Kd.V_mk HC1.out (Kd.F_below (Kd.C_F (Kd.heap_int .u64) HR1.out) (by repeat (first | (with_reducible first | exact HB.out | apply below_alloc | apply pw_below_drewN | apply below_drew1) | exact HB.out)))); rintro e w69 ⟨v705, rfl, ho0, hb⟩; refine ⟨_, rfl, ?_⟩; have n0_ := Aside0.mk (Kd.V_below (by (with_reducible repeat (first | apply Kd.V_alloc | apply Kd.V_drewN | apply Kd.V_drew)); exact HO703.out) hb); have n1_ := Aside0.mk (Kd.V_lower (Kd.V_mono (ok' := fun k_ => True) ho0 (fun k_ hk_ => trivial)) (below_size (by repeat (first | (with_reducible first | exact HB.out | apply below_alloc | apply pw_below_drewN | apply below_drew1) | exact HB.out)))); have n2_ := Aside0.mk (below_step (by repeat (first | (with_reducible first | exact HB.out | apply below_alloc | apply pw_below_drewN | apply below_drew1) | exact HB.out)) hb); clear HO703; clear HB; have HO703 := n0_; have HO706 := n1_; have HB := n2_; clear n0_ n1_ n2_; (try clear hb); (try clear hb2); (try clear hk); (try clear hi); (try clear ho0); obtain ⟨Ao70, co70, eo70⟩ := Kd.V_slice HO703.out; subst eo70) | ((with_reducible refine gate_callee (f := 34) rfl ?_); refine goesL_ (some 14) rfl rfl Try.func34 (by kernel_rfl) rfl #[.slice Ao70 t701.length co70] rfl (by (try simp only [List.map_toArray, List.map_cons, List.map_nil]); first | done | rfl | (simp only [List.length_drop, List.length_take]; rfl)) ?_; (with_reducible refine (dendronref01_From.calls k _ _ t701 t707 _ ?side1 ?side2 A5.out).mono ?_); (case side1 => repeat (first | exact (Kd.V_reads' HO703.out).2.2 | (with_reducible refine Kd.C_alloc ?_ _) | (with_reducible refine Kd.C_drewN ?_ _) | (with_reducible refine Kd.C_drew ?_))); (case side2 => exact (Kd.V_reads' HO703.out).2.1); rintro e w71 ⟨v708, rfl, ho0, hb⟩; refine ⟨_, rfl, ?_⟩; have n0_ := Aside0.mk (Kd.V_elder' (by (with_reducible repeat (first | apply Kd.V_alloc | apply Kd.V_drewN | apply Kd.V_drew)); exact HO703.out) (Kd.R_base ho0) hb); have n1_ := Aside0.mk (Kd.V_elder' (by (with_reducible repeat (first | apply Kd.V_alloc | apply Kd.V_drewN | apply Kd.V_drew)); exact HO706.out) (Kd.R_base ho0) hb); have n2_ := Aside0.mk (Kd.R_lower ho0 (below_size (by repeat (first | (with_reducible first | exact HB.out | apply below_alloc | apply pw_below_drewN | apply below_drew1) | exact HB.out)))); have n3_ := Aside0.mk (below_step (by repeat (first | (with_reducible first | exact HB.out | apply below_alloc | apply pw_below_drewN | apply below_drew1) | exact HB.out)) hb); clear HO703; clear HO706; clear HB; have HO703 := n0_; have HO706 := n1_; have HO709 := n2_; have HB := n3_; clear n0_ n1_ n2_ n3_; (try clear hb); (try clear hb2); (try clear hk); (try clear hi); (try clear ho0); obtain ⟨Ao72, co72, eo72⟩ := Kd.V_slice HO706.out; subst eo72) | ((with_reducible refine gate_callee (f := 34) rfl ?_); refine goesL_ (some 16) rfl rfl Try.func34 (by kernel_rfl) rfl #[.slice Ao72 t704.length co72] rfl (by (try simp only [List.map_toArray, List.map_cons, List.map_nil]); first | done | rfl | (simp only [List.length_drop, List.length_take]; rfl)) ?_; (with_reducible refine (dendronref01_From.calls k _ _ t704 t710 _ ?side1 ?side2 A6.out).mono ?_); (case side1 => repeat (first | exact (Kd.V_reads' HO706.out).2.2 | (with_reducible refine Kd.C_alloc ?_ _) | (with_reducible refine Kd.C_drewN ?_ _) | (with_reducible refine Kd.C_drew ?_))); (case side2 => exact (Kd.V_reads' HO706.out).2.1); rintro e w73 ⟨v711, rfl, ho0, hb⟩; refine ⟨_, rfl, ?_⟩; have n0_ := Aside0.mk (Kd.V_elder' (by (with_reducible repeat (first | apply Kd.V_alloc | apply Kd.V_drewN | apply Kd.V_drew)); exact HO703.out) (Kd.R_base ho0) hb); have n1_ := Aside0.mk (Kd.V_elder' (by (with_reducible repeat (first | apply Kd.V_alloc | apply Kd.V_drewN | apply Kd.V_drew)); exact HO706.out) (Kd.R_base ho0) hb); have n2_ := Aside0.mk (Kd.R_elder' (by (with_reducible repeat (first | apply Kd.R_alloc | apply Kd.R_drewN | apply Kd.R_drew)); exact HO709.out) (Kd.R_base ho0) hb); have n3_ := Aside0.mk (Kd.R_lower (Kd.R_new' ho0 (Kd.R_lt (by (with_reducible repeat (first | apply Kd.R_alloc | apply Kd.R_drewN | apply Kd.R_drew)); exact HO709.out))) (below_size (by repeat (first | (with_reducible first | exact HB.out | apply below_alloc | apply pw_below_drewN | apply below_drew1) | exact HB.out)))); have n4_ := Aside0.mk (below_step (by repeat (first | (with_reducible first | exact HB.out | apply below_alloc | apply pw_below_drewN | apply below_drew1) | exact HB.out)) hb); clear HO703; clear HO706; clear HO709; clear HB; have HO703 := n0_; have HO706 := n1_; have HO709 := n2_; have HO712 := n3_; have HB := n4_; clear n0_ n1_ n2_ n3_ n4_; (try clear hb); (try clear hb2); (try clear hk); (try clear hi); (try clear ho0)) | ((with_reducible refine gate_callee (f := 55) rfl ?_); refine goesL_ (some 20) rfl rfl Try.func55 (by kernel_rfl) rfl #[.slice Ao70 t701.length co70, .slice Ao72 t704.length co72] rfl (by (try simp only [List.map_toArray, List.map_cons, List.map_nil]); first | done | rfl | (simp only [List.length_drop, List.length_take]; rfl)) ?_; (with_reducible refine (nat_Sub.calls k _ _ t701 _ _ t704 t713 t714 _ ?side1 ?side2 ?side3 ?side4 A7.out).mono ?_); (case side1 => repeat (first | exact (Kd.V_reads' HO703.out).2.2 | (with_reducible refine Kd.C_alloc ?_ _) | (with_reducible refine Kd.C_drewN ?_ _) | (with_reducible refine Kd.C_drew ?_))); (case side2 => exact (Kd.V_reads' HO703.out).2.1); (case side3 => repeat (first | exact (Kd.V_reads' HO706.out).2.2 | (with_reducible refine Kd.C_alloc ?_ _) | (with_reducible refine Kd.C_drewN ?_ _) | (with_reducible refine Kd.C_drew ?_))); (case side4 => exact (Kd.V_reads' HO706.out).2.1); rintro e w74 ⟨v715, rfl, ho0, hb⟩; refine ⟨_, rfl, ?_⟩; have n0_ := Aside0.mk (Kd.V_elder' (by (with_reducible repeat (first | apply Kd.V_alloc | apply Kd.V_drewN | apply Kd.V_drew)); exact HO703.out) (Kd.R_base ho0) hb); have n1_ := Aside0.mk (Kd.V_elder' (by (with_reducible repeat (first | apply Kd.V_alloc | apply Kd.V_drewN | apply Kd.V_drew)); exact HO706.out) (Kd.R_base ho0) hb); have n2_ := Aside0.mk (Kd.R_below (by (with_reducible repeat (first | apply Kd.R_alloc | apply Kd.R_drewN | apply Kd.R_drew)); exact HO709.out) hb); have n3_ := Aside0.mk (Kd.R_below (by (with_reducible repeat (first | apply Kd.R_alloc | apply Kd.R_drewN | apply Kd.R_drew)); exact HO712.out) hb); have n4_ := Aside0.mk (Kd.R_lower ho0 (below_size (by repeat (first | (with_reducible first | exact HB.out | apply below_alloc | apply pw_below_drewN | apply below_drew1) | exact HB.out)))); have n5_ := Aside0.mk (below_step (by repeat (first | (with_reducible first | exact HB.out | apply below_alloc | apply pw_below_drewN | apply below_drew1) | exact HB.out)) hb); clear HO703; clear HO706; clear HO709; clear HO712; clear HB; have HO703 := n0_; have HO706 := n1_; have HO709 := n2_; have HO712 := n3_; have HO716 := n4_; have HB := n5_; clear n0_ n1_ n2_ n3_ n4_ n5_; (try clear hb); (try clear hb2); (try clear hk); (try clear hi); (try clear ho0)) | ((with_reducible refine gate_callee (f := 52) rfl ?_); refine goesL_ (some 25) rfl rfl Try.func52 (by kernel_rfl) rfl #[.slice Ao70 t701.length co70, .slice Ao72 t704.length co72] rfl (by (try simp only [List.map_toArray, List.map_cons, List.map_nil]); first | done | rfl | (simp only [List.length_drop, List.length_take]; rfl)) ?_; (with_reducible refine (nat_Add.calls k _ _ t701 _ _ t704 t717 _ ?side1 ?side2 ?side3 ?side4 A8.out).mono ?_); (case side1 => repeat (first | exact (Kd.V_reads' HO703.out).2.2 | (with_reducible refine Kd.C_alloc ?_ _) | (with_reducible refine Kd.C_drewN ?_ _) | (with_reducible refine Kd.C_drew ?_))); (case side2 => exact (Kd.V_reads' HO703.out).2.1); (case side3 => repeat (first | exact (Kd.V_reads' HO706.out).2.2 | (with_reducible refine Kd.C_alloc ?_ _) | (with_reducible refine Kd.C_drewN ?_ _) | (with_reducible refine Kd.C_drew ?_))); (case side4 => exact (Kd.V_reads' HO706.out).2.1); rintro e w75 ⟨v718, rfl, ho0, hb⟩; refine ⟨_, rfl, ?_⟩; have n0_ := Aside0.mk (Kd.V_elder' (by (with_reducible repeat (first | apply Kd.V_alloc | apply Kd.V_drewN | apply Kd.V_drew)); exact HO703.out) (Kd.R_base ho0) hb); have n1_ := Aside0.mk (Kd.V_elder' (by (with_reducible repeat (first | apply Kd.V_alloc | apply Kd.V_drewN | apply Kd.V_drew)); exact HO706.out) (Kd.R_base ho0) hb); have n2_ := Aside0.mk (Kd.R_below (by (with_reducible repeat (first | apply Kd.R_alloc | apply Kd.R_drewN | apply Kd.R_drew)); exact HO709.out) hb); have n3_ := Aside0.mk (Kd.R_below (by (with_reducible repeat (first | apply Kd.R_alloc | apply Kd.R_drewN | apply Kd.R_drew)); exact HO712.out) hb); have n4_ := Aside0.mk (Kd.R_elder' (by (with_reducible repeat (first | apply Kd.R_alloc | apply Kd.R_drewN | apply Kd.R_drew)); exact HO716.out) (Kd.R_base ho0) hb); have n5_ := Aside0.mk (Kd.R_lower (Kd.R_new' ho0 (Kd.R_lt (by (with_reducible repeat (first | apply Kd.R_alloc | apply Kd.R_drewN | apply Kd.R_drew)); exact HO716.out))) (below_size (by repeat (first | (with_reducible first | exact HB.out | apply below_alloc | apply pw_below_drewN | apply below_drew1) | exact HB.out)))); have n6_ := Aside0.mk (below_step (by repeat (first | (with_reducible first | exact HB.out | apply below_alloc | apply pw_below_drewN | apply below_drew1) | exact HB.out)) hb); clear HO703; clear HO706; clear HO709; clear HO712; clear HO716; clear HB; have HO703 := n0_; have HO706 := n1_; have HO709 := n2_; have HO712 := n3_; have HO716 := n4_; have HO719 := n5_; have HB := n6_; clear n0_ n1_ n2_ n3_ n4_ n5_ n6_; (try clear hb); (try clear hb2); (try clear hk); (try clear hi); (try clear ho0); obtain ⟨Ao76, co76, eo76⟩ := Kd.R_slice HO709.out; subst eo76; obtain ⟨Ao77, co77, eo77⟩ := Kd.R_slice HO712.out; subst eo77) | ((with_reducible refine gate_callee (f := 56) rfl ?_); refine goesL_ (some 28) rfl rfl Try.func56 (by kernel_rfl) rfl #[.slice Ao76 t707.length co76, .slice Ao77 t710.length co77] rfl (by (try simp only [List.map_toArray, List.map_cons, List.map_nil]); first | done | rfl | (simp only [List.length_drop, List.length_take]; rfl)) ?_; (with_reducible refine (dendronref01_Plus.calls k _ _ t707 _ _ t710 t720 _ ?side1 ?side2 ?side3 ?side4 A9.out).mono ?_); (case side1 => repeat (first | exact (Kd.R_reads' HO709.out).2.2 | (with_reducible refine Kd.C_alloc ?_ _) | (with_reducible refine Kd.C_drewN ?_ _) | (with_reducible refine Kd.C_drew ?_))); (case side2 => exact (Kd.R_reads' HO709.out).2.1); (case side3 => repeat (first | exact (Kd.R_reads' HO712.out).2.2 | (with_reducible refine Kd.C_alloc ?_ _) | (with_reducible refine Kd.C_drewN ?_ _) | (with_reducible refine Kd.C_drew ?_))); (case side4 => exact (Kd.R_reads' HO712.out).2.1); rintro e w78 ⟨v721, rfl, ho0, hb⟩; refine ⟨_, rfl, ?_⟩; have n0_ := Aside0.mk (Kd.V_elder' (by (with_reducible repeat (first | apply Kd.V_alloc | apply Kd.V_drewN | apply Kd.V_drew)); exact HO703.out) (Kd.R_base ho0) hb); have n1_ := Aside0.mk (Kd.V_elder' (by (with_reducible repeat (first | apply Kd.V_alloc | apply Kd.V_drewN | apply Kd.V_drew)); exact HO706.out) (Kd.R_base ho0) hb); have n2_ := Aside0.mk (Kd.R_elder' (by (with_reducible repeat (first | apply Kd.R_alloc | apply Kd.R_drewN | apply Kd.R_drew)); exact HO709.out) (Kd.R_base ho0) hb); have n3_ := Aside0.mk (Kd.R_elder' (by (with_reducible repeat (first | apply Kd.R_alloc | apply Kd.R_drewN | apply Kd.R_drew)); exact HO712.out) (Kd.R_base ho0) hb); have n4_ := Aside0.mk (Kd.R_below (by (with_reducible repeat (first | apply Kd.R_alloc | apply Kd.R_drewN | apply Kd.R_drew)); exact HO716.out) hb); have n5_ := Aside0.mk (Kd.R_below (by (with_reducible repeat (first | apply Kd.R_alloc | apply Kd.R_drewN | apply Kd.R_drew)); exact HO719.out) hb); have n6_ := Aside0.mk (Kd.R_lower (Kd.R_new' (Kd.R_new' ho0 (Kd.R_lt (by (with_reducible repeat (first | apply Kd.R_alloc | apply Kd.R_drewN | apply Kd.R_drew)); exact HO709.out))) (Kd.R_lt (by (with_reducible repeat (first | apply Kd.R_alloc | apply Kd.R_drewN | apply Kd.R_drew)); exact HO712.out))) (below_size (by repeat (first | (with_reducible first | exact HB.out | apply below_alloc | apply pw_below_drewN | apply below_drew1) | exact HB.out)))); have n7_ := Aside0.mk (below_step (by repeat (first | (with_reducible first | exact HB.out | apply below_alloc | apply pw_below_drewN | apply below_drew1) | exact HB.out)) hb); clear HO703; clear HO706; clear HO709; clear HO712; clear HO716; clear HO719; clear HB; have HO703 := n0_; have HO706 := n1_; have HO709 := n2_; have HO712 := n3_; have HO716 := n4_; have HO719 := n5_; have HO722 := n6_; have HB := n7_; clear n0_ n1_ n2_ n3_ n4_ n5_ n6_ n7_; (try clear hb); (try clear hb2); (try clear hk); (try clear hi); (try clear ho0); obtain ⟨Ao79, co79, eo79⟩ := Kd.R_slice HO719.out; subst eo79; obtain ⟨Ao80, co80, eo80⟩ := Kd.R_slice HO722.out; subst eo80) | ((with_reducible refine gate_callee (f := 31) rfl ?_); refine goesL_ (some 29) rfl rfl Try.func31 (by kernel_rfl) rfl #[.slice Ao79 t717.length co79, .slice Ao80 t720.length co80] rfl (by (try simp only [List.map_toArray, List.map_cons, List.map_nil]); first | done | rfl | (simp only [List.length_drop, List.length_take]; rfl)) ?_; (with_reducible refine (dendronref01_Is.calls k _ _ t717 _ _ t720 true _ ?side1 ?side2 ?side3 ?side4 A10.out).mono ?_); (case side1 => repeat (first | exact (Kd.R_reads' HO719.out).2.2 | (with_reducible refine Kd.C_alloc ?_ _) | (with_reducible refine Kd.C_drewN ?_ _) | (with_reducible refine Kd.C_drew ?_))); (case side2 => exact (Kd.R_reads' HO719.out).2.1); (case side3 => repeat (first | exact (Kd.R_reads' HO722.out).2.2 | (with_reducible refine Kd.C_alloc ?_ _) | (with_reducible refine Kd.C_drewN ?_ _) | (with_reducible refine Kd.C_drew ?_))); (case side4 => exact (Kd.R_reads' HO722.out).2.1); rintro e w81 ⟨rfl, hb⟩; refine ⟨_, rfl, ?_⟩; have n0_ := Aside0.mk (Kd.V_below (by (with_reducible repeat (first | apply Kd.V_alloc | apply Kd.V_drewN | apply Kd.V_drew)); exact HO703.out) hb); have n1_ := Aside0.mk (Kd.V_below (by (with_reducible repeat (first | apply Kd.V_alloc | apply Kd.V_drewN | apply Kd.V_drew)); exact HO706.out) hb); have n2_ := Aside0.mk (Kd.R_below (by (with_reducible repeat (first | apply Kd.R_alloc | apply Kd.R_drewN | apply Kd.R_drew)); exact HO709.out) hb); have n3_ := Aside0.mk (Kd.R_below (by (with_reducible repeat (first | apply Kd.R_alloc | apply Kd.R_drewN | apply Kd.R_drew)); exact HO712.out) hb); have n4_ := Aside0.mk (Kd.R_below (by (with_reducible repeat (first | apply Kd.R_alloc | apply Kd.R_drewN | apply Kd.R_drew)); exact HO716.out) hb); have n5_ := Aside0.mk (Kd.R_below (by (with_reducible repeat (first | apply Kd.R_alloc | apply Kd.R_drewN | apply Kd.R_drew)); exact HO719.out) hb); have n6_ := Aside0.mk (Kd.R_below (by (with_reducible repeat (first | apply Kd.R_alloc | apply Kd.R_drewN | apply Kd.R_drew)); exact HO722.out) hb); have n7_ := Aside0.mk (below_step (by repeat (first | (with_reducible first | exact HB.out | apply below_alloc | apply pw_below_drewN | apply below_drew1) | exact HB.out)) hb); clear HO703; clear HO706; clear HO709; clear HO712; clear HO716; clear HO719; clear HO722; clear HB; have HO703 := n0_; have HO706 := n1_; have HO709 := n2_; have HO712 := n3_; have HO716 := n4_; have HO719 := n5_; have HO722 := n6_; have HB := n7_; clear n0_ n1_ n2_ n3_ n4_ n5_ n6_ n7_; (try clear hb); (try clear hb2); (try clear hk); (try clear hi)) | ((with_reducible refine gate_callee (f := 41) rfl ?_); refine goesL_ (some 33) rfl rfl Try.func41 (by kernel_rfl) rfl #[.slice Ao76 t707.length co76, .slice Ao77 t710.length co77] rfl (by (try simp only [List.map_toArray, List.map_cons, List.map_nil]); first | done | rfl | (simp only [List.length_drop, List.length_take]; rfl)) ?_; (with_reducible refine (dendronref01_Order.calls k _ _ t707 _ _ t710 t724 _ ?side1 ?side2 ?side3 ?side4 A12.out).mono ?_); (case side1 => repeat (first | exact (Kd.R_reads' HO709.out).2.2 | (with_reducible refine Kd.C_alloc ?_ _) | (with_reducible refine Kd.C_drewN ?_ _) | (with_reducible refine Kd.C_drew ?_))); (case side2 => exact (Kd.R_reads' HO709.out).2.1); (case side3 => repeat (first | exact (Kd.R_reads' HO712.out).2.2 | (with_reducible refine Kd.C_alloc ?_ _) | (with_reducible refine Kd.C_drewN ?_ _) | (with_reducible refine Kd.C_drew ?_))); (case side4 => exact (Kd.R_reads' HO712.out).2.1); rintro e w' ⟨rfl, ⟨nd, rfl⟩⟩; refine ⟨_, rfl, ?_⟩) | (go_at_call 57; (with_reducible refine (dendronref01_Minus.calls k _ _ t707 _ _ t710 t726 _ ?side1 ?side2 ?side3 ?side4 A64.out).mono ?_); (case side1 => repeat (first | exact (Kd.R_reads' HO709.out).2.2 | (with_reducible refine Kd.C_alloc ?_ _) | (with_reducible refine Kd.C_drewN ?_ _) | (with_reducible refine Kd.C_drew ?_))); (case side2 => exact (Kd.R_reads' HO709.out).2.1); (case side3 => repeat (first | exact (Kd.R_reads' HO712.out).2.2 | (with_reducible refine Kd.C_alloc ?_ _) | (with_reducible refine Kd.C_drewN ?_ _) | (with_reducible refine Kd.C_drew ?_))); (case side4 => exact (Kd.R_reads' HO712.out).2.1); rintro e w82 ⟨v727, rfl, ho0, hb⟩; have n0_ := Aside0.mk (Kd.V_elder' (by (with_reducible repeat (first | apply Kd.V_alloc | apply Kd.V_drewN | apply Kd.V_drew)); exact HO703.out) (Kd.R_base ho0) hb); have n1_ := Aside0.mk (Kd.V_elder' (by (with_reducible repeat (first | apply Kd.V_alloc | apply Kd.V_drewN | apply Kd.V_drew)); exact HO706.out) (Kd.R_base ho0) hb); have n2_ := Aside0.mk (Kd.R_elder' (by (with_reducible repeat (first | apply Kd.R_alloc | apply Kd.R_drewN | apply Kd.R_drew)); exact HO709.out) (Kd.R_base ho0) hb); have n3_ := Aside0.mk (Kd.R_elder' (by (with_reducible repeat (first | apply Kd.R_alloc | apply Kd.R_drewN | apply Kd.R_drew)); exact HO712.out) (Kd.R_base ho0) hb); have n4_ := Aside0.mk (Kd.R_below (by (with_reducible repeat (first | apply Kd.R_alloc | apply Kd.R_drewN | apply Kd.R_drew)); exact HO716.out) hb); have n5_ := Aside0.mk (Kd.R_below (by (with_reducible repeat (first | apply Kd.R_alloc | apply Kd.R_drewN | apply Kd.R_drew)); exact HO719.out) hb); have n6_ := Aside0.mk (Kd.R_elder' (by (with_reducible repeat (first | apply Kd.R_alloc | apply Kd.R_drewN | apply Kd.R_drew)); exact HO722.out) (Kd.R_base ho0) hb); have n7_ := Aside0.mk (Kd.R_lower (Kd.R_new' (Kd.R_new' (Kd.R_new' ho0 (Kd.R_lt (by (with_reducible repeat (first | apply Kd.R_alloc | apply Kd.R_drewN | apply Kd.R_drew)); exact HO709.out))) (Kd.R_lt (by (with_reducible repeat (first | apply Kd.R_alloc | apply Kd.R_drewN | apply Kd.R_drew)); exact HO712.out))) (Kd.R_lt (by (with_reducible repeat (first | apply Kd.R_alloc | apply Kd.R_drewN | apply Kd.R_drew)); exact HO722.out))) (below_size (by repeat (first | (with_reducible first | exact HB.out | apply below_alloc | apply pw_below_drewN | apply below_drew1) | exact HB.out)))); have n8_ := Aside0.mk (below_step (by repeat (first | (with_reducible first | exact HB.out | apply below_alloc | apply pw_below_drewN | apply below_drew1) | exact HB.out)) hb); clear HO703; clear HO706; clear HO709; clear HO712; clear HO716; clear HO719; clear HO722; clear HB; have HO703 := n0_; have HO706 := n1_; have HO709 := n2_; have HO712 := n3_; have HO716 := n4_; have HO719 := n5_; have HO722 := n6_; have HO728 := n7_; have HB := n8_; clear n0_ n1_ n2_ n3_ n4_ n5_ n6_ n7_ n8_; (try clear hb); (try clear hb2); (try clear hk); (try clear hi); (try clear ho0); obtain ⟨Ao83, co83, eo83⟩ := Kd.R_slice HO716.out; subst eo83; obtain ⟨Ao84, co84, eo84⟩ := Kd.R_slice HO728.out; subst eo84) | (go_at_call 31; (with_reducible refine (dendronref01_Is.calls k _ _ t713 _ _ t726 true _ ?side1 ?side2 ?side3 ?side4 A65.out).mono ?_); (case side1 => repeat (first | exact (Kd.R_reads' HO716.out).2.2 | (with_reducible refine Kd.C_alloc ?_ _) | (with_reducible refine Kd.C_drewN ?_ _) | (with_reducible refine Kd.C_drew ?_))); (case side2 => exact (Kd.R_reads' HO716.out).2.1); (case side3 => repeat (first | exact (Kd.R_reads' HO728.out).2.2 | (with_reducible refine Kd.C_alloc ?_ _) | (with_reducible refine Kd.C_drewN ?_ _) | (with_reducible refine Kd.C_drew ?_))); (case side4 => exact (Kd.R_reads' HO728.out).2.1); rintro e w85 ⟨rfl, hb⟩; have n0_ := Aside0.mk (Kd.V_below (by (with_reducible repeat (first | apply Kd.V_alloc | apply Kd.V_drewN | apply Kd.V_drew)); exact HO703.out) hb); have n1_ := Aside0.mk (Kd.V_below (by (with_reducible repeat (first | apply Kd.V_alloc | apply Kd.V_drewN | apply Kd.V_drew)); exact HO706.out) hb); have n2_ := Aside0.mk (Kd.R_below (by (with_reducible repeat (first | apply Kd.R_alloc | apply Kd.R_drewN | apply Kd.R_drew)); exact HO709.out) hb); have n3_ := Aside0.mk (Kd.R_below (by (with_reducible repeat (first | apply Kd.R_alloc | apply Kd.R_drewN | apply Kd.R_drew)); exact HO712.out) hb); have n4_ := Aside0.mk (Kd.R_below (by (with_reducible repeat (first | apply Kd.R_alloc | apply Kd.R_drewN | apply Kd.R_drew)); exact HO716.out) hb); have n5_ := Aside0.mk (Kd.R_below (by (with_reducible repeat (first | apply Kd.R_alloc | apply Kd.R_drewN | apply Kd.R_drew)); exact HO719.out) hb); have n6_ := Aside0.mk (Kd.R_below (by (with_reducible repeat (first | apply Kd.R_alloc | apply Kd.R_drewN | apply Kd.R_drew)); exact HO722.out) hb); have n7_ := Aside0.mk (Kd.R_below (by (with_reducible repeat (first | apply Kd.R_alloc | apply Kd.R_drewN | apply Kd.R_drew)); exact HO728.out) hb); have n8_ := Aside0.mk (below_step (by repeat (first | (with_reducible first | exact HB.out | apply below_alloc | apply pw_below_drewN | apply below_drew1) | exact HB.out)) hb); clear HO703; clear HO706; clear HO709; clear HO712; clear HO716; clear HO719; clear HO722; clear HO728; clear HB; have HO703 := n0_; have HO706 := n1_; have HO709 := n2_; have HO712 := n3_; have HO716 := n4_; have HO719 := n5_; have HO722 := n6_; have HO728 := n7_; have HB := n8_; clear n0_ n1_ n2_ n3_ n4_ n5_ n6_ n7_ n8_; (try clear hb); (try clear hb2); (try clear hk); (try clear hi)) | (go_at_call 35; (with_reducible refine (dendronlaw01_awake.calls k  t730 _ A67.out).mono ?_); rintro e w86 ⟨rfl, hb⟩; have n0_ := Aside0.mk (Kd.V_below (by (with_reducible repeat (first | apply Kd.V_alloc | apply Kd.V_drewN | apply Kd.V_drew)); exact HO703.out) hb); have n1_ := Aside0.mk (Kd.V_below (by (with_reducible repeat (first | apply Kd.V_alloc | apply Kd.V_drewN | apply Kd.V_drew)); exact HO706.out) hb); have n2_ := Aside0.mk (Kd.R_below (by (with_reducible repeat (first | apply Kd.R_alloc | apply Kd.R_drewN | apply Kd.R_drew)); exact HO709.out) hb); have n3_ := Aside0.mk (Kd.R_below (by (with_reducible repeat (first | apply Kd.R_alloc | apply Kd.R_drewN | apply Kd.R_drew)); exact HO712.out) hb); have n4_ := Aside0.mk (Kd.R_below (by (with_reducible repeat (first | apply Kd.R_alloc | apply Kd.R_drewN | apply Kd.R_drew)); exact HO716.out) hb); have n5_ := Aside0.mk (Kd.R_below (by (with_reducible repeat (first | apply Kd.R_alloc | apply Kd.R_drewN | apply Kd.R_drew)); exact HO719.out) hb); have n6_ := Aside0.mk (Kd.R_below (by (with_reducible repeat (first | apply Kd.R_alloc | apply Kd.R_drewN | apply Kd.R_drew)); exact HO722.out) hb); have n7_ := Aside0.mk (Kd.R_below (by (with_reducible repeat (first | apply Kd.R_alloc | apply Kd.R_drewN | apply Kd.R_drew)); exact HO728.out) hb); have n8_ := Aside0.mk (below_step (by repeat (first | (with_reducible first | exact HB.out | apply below_alloc | apply pw_below_drewN | apply below_drew1) | exact HB.out)) hb); clear HO703; clear HO706; clear HO709; clear HO712; clear HO716; clear HO719; clear HO722; clear HO728; clear HB; have HO703 := n0_; have HO706 := n1_; have HO709 := n2_; have HO712 := n3_; have HO716 := n4_; have HO719 := n5_; have HO722 := n6_; have HO728 := n7_; have HB := n8_; clear n0_ n1_ n2_ n3_ n4_ n5_ n6_ n7_ n8_; (try clear hb); (try clear hb2); (try clear hk); (try clear hi)))
          go_ret
          exact ⟨by first | rfl | (simp [errW_none, errW_some] <;> rfl) | (simp [*, errW_none, errW_some] <;> rfl), by repeat (first | (with_reducible first | exact HB.out | apply below_alloc | apply pw_below_drewN | apply below_drew1) | exact HB.out)⟩
        · replace c66 := Bool.eq_false_iff.mpr c66
          subst c66
          have H1 : (some false) = some r := by rw [if_neg (show ¬ (false = true) by decide)] at H; exact H
          clear H
          have H := H1
          clear H1
          obtain rfl := Option.some.inj H
          go_enter Try.func16, Try.ntmps16
          go_wp2_with (first | ((with_reducible refine gate_callee (f := 30) rfl ?_); refine goesL_ (some 10) rfl rfl Try.func30 (by kernel_rfl) rfl #[.slice A0 l0.length c0, .int .i64 40] rfl (by (try simp only [List.map_toArray, List.map_cons, List.map_nil]); first | done | rfl | (simp only [List.length_drop, List.length_take]; rfl)) ?_; (with_reducible refine (dendronlaw01_few.calls (fun k_ => k_ < w.heap.size) _ _ l0 40 t701 _ ?side1 A3.out).mono ?_); (case side1 => exact Kd.V_mk HC0.out (Kd.F_below (Kd.C_F (Kd.heap_int .u64) HR0.out) (by repeat (first | (with_reducible first | exact HB.out | apply below_alloc | apply pw_below_drewN | apply below_drew1) | exact HB.out)))); rintro e w87 ⟨v702, rfl, ho0, hb⟩; refine ⟨_, rfl, ?_⟩; have n0_ := Aside0.mk (Kd.V_lower (Kd.V_mono (ok' := fun k_ => True) ho0 (fun k_ hk_ => trivial)) (below_size (by repeat (first | (with_reducible first | exact HB.out | apply below_alloc | apply pw_below_drewN | apply below_drew1) | exact HB.out)))); have n1_ := Aside0.mk (below_step (by repeat (first | (with_reducible first | exact HB.out | apply below_alloc | apply pw_below_drewN | apply below_drew1) | exact HB.out)) hb); clear HB; have HO703 := n0_; have HB := n1_; clear n0_ n1_; (try clear hb); (try clear hb2); (try clear hk); (try clear hi); (try clear ho0)) | ((with_reducible refine gate_callee (f := 30) rfl ?_); refine goesL_ (some 12) rfl rfl Try.func30 (by kernel_rfl) rfl #[.slice A1 l1.length c1, .int .i64 40] rfl (by (try simp only [List.map_toArray, List.map_cons, List.map_nil]); first | done | rfl | (simp only [List.length_drop, List.length_take]; rfl)) ?_; (with_reducible refine (dendronlaw01_few.calls (fun k_ => k_ < w.heap.size) _ _ l1 40 t704 _ ?side1 A4.out).mono ?_); (case side1 => exact Kd.V_mk HC1.out (Kd.F_below (Kd.C_F (Kd.heap_int .u64) HR1.out) (by repeat (first | (with_reducible first | exact HB.out | apply below_alloc | apply pw_below_drewN | apply below_drew1) | exact HB.out)))); rintro e w88 ⟨v705, rfl, ho0, hb⟩; refine ⟨_, rfl, ?_⟩; have n0_ := Aside0.mk (Kd.V_below (by (with_reducible repeat (first | apply Kd.V_alloc | apply Kd.V_drewN | apply Kd.V_drew)); exact HO703.out) hb); have n1_ := Aside0.mk (Kd.V_lower (Kd.V_mono (ok' := fun k_ => True) ho0 (fun k_ hk_ => trivial)) (below_size (by repeat (first | (with_reducible first | exact HB.out | apply below_alloc | apply pw_below_drewN | apply below_drew1) | exact HB.out)))); have n2_ := Aside0.mk (below_step (by repeat (first | (with_reducible first | exact HB.out | apply below_alloc | apply pw_below_drewN | apply below_drew1) | exact HB.out)) hb); clear HO703; clear HB; have HO703 := n0_; have HO706 := n1_; have HB := n2_; clear n0_ n1_ n2_; (try clear hb); (try clear hb2); (try clear hk); (try clear hi); (try clear ho0); obtain ⟨Ao89, co89, eo89⟩ := Kd.V_slice HO703.out; subst eo89) | ((with_reducible refine gate_callee (f := 34) rfl ?_); refine goesL_ (some 14) rfl rfl Try.func34 (by kernel_rfl) rfl #[.slice Ao89 t701.length co89] rfl (by (try simp only [List.map_toArray, List.map_cons, List.map_nil]); first | done | rfl | (simp only [List.length_drop, List.length_take]; rfl)) ?_; (with_reducible refine (dendronref01_From.calls k _ _ t701 t707 _ ?side1 ?side2 A5.out).mono ?_); (case side1 => repeat (first | exact (Kd.V_reads' HO703.out).2.2 | (with_reducible refine Kd.C_alloc ?_ _) | (with_reducible refine Kd.C_drewN ?_ _) | (with_reducible refine Kd.C_drew ?_))); (case side2 => exact (Kd.V_reads' HO703.out).2.1); rintro e w90 ⟨v708, rfl, ho0, hb⟩; refine ⟨_, rfl, ?_⟩; have n0_ := Aside0.mk (Kd.V_elder' (by (with_reducible repeat (first | apply Kd.V_alloc | apply Kd.V_drewN | apply Kd.V_drew)); exact HO703.out) (Kd.R_base ho0) hb); have n1_ := Aside0.mk (Kd.V_elder' (by (with_reducible repeat (first | apply Kd.V_alloc | apply Kd.V_drewN | apply Kd.V_drew)); exact HO706.out) (Kd.R_base ho0) hb); have n2_ := Aside0.mk (Kd.R_lower ho0 (below_size (by repeat (first | (with_reducible first | exact HB.out | apply below_alloc | apply pw_below_drewN | apply below_drew1) | exact HB.out)))); have n3_ := Aside0.mk (below_step (by repeat (first | (with_reducible first | exact HB.out | apply below_alloc | apply pw_below_drewN | apply below_drew1) | exact HB.out)) hb); clear HO703; clear HO706; clear HB; have HO703 := n0_; have HO706 := n1_; have HO709 := n2_; have HB := n3_; clear n0_ n1_ n2_ n3_; (try clear hb); (try clear hb2); (try clear hk); (try clear hi); (try clear ho0); obtain ⟨Ao91, co91, eo91⟩ := Kd.V_slice HO706.out; subst eo91) | ((with_reducible refine gate_callee (f := 34) rfl ?_); refine goesL_ (some 16) rfl rfl Try.func34 (by kernel_rfl) rfl #[.slice Ao91 t704.length co91] rfl (by (try simp only [List.map_toArray, List.map_cons, List.map_nil]); first | done | rfl | (simp only [List.length_drop, List.length_take]; rfl)) ?_; (with_reducible refine (dendronref01_From.calls k _ _ t704 t710 _ ?side1 ?side2 A6.out).mono ?_); (case side1 => repeat (first | exact (Kd.V_reads' HO706.out).2.2 | (with_reducible refine Kd.C_alloc ?_ _) | (with_reducible refine Kd.C_drewN ?_ _) | (with_reducible refine Kd.C_drew ?_))); (case side2 => exact (Kd.V_reads' HO706.out).2.1); rintro e w92 ⟨v711, rfl, ho0, hb⟩; refine ⟨_, rfl, ?_⟩; have n0_ := Aside0.mk (Kd.V_elder' (by (with_reducible repeat (first | apply Kd.V_alloc | apply Kd.V_drewN | apply Kd.V_drew)); exact HO703.out) (Kd.R_base ho0) hb); have n1_ := Aside0.mk (Kd.V_elder' (by (with_reducible repeat (first | apply Kd.V_alloc | apply Kd.V_drewN | apply Kd.V_drew)); exact HO706.out) (Kd.R_base ho0) hb); have n2_ := Aside0.mk (Kd.R_elder' (by (with_reducible repeat (first | apply Kd.R_alloc | apply Kd.R_drewN | apply Kd.R_drew)); exact HO709.out) (Kd.R_base ho0) hb); have n3_ := Aside0.mk (Kd.R_lower (Kd.R_new' ho0 (Kd.R_lt (by (with_reducible repeat (first | apply Kd.R_alloc | apply Kd.R_drewN | apply Kd.R_drew)); exact HO709.out))) (below_size (by repeat (first | (with_reducible first | exact HB.out | apply below_alloc | apply pw_below_drewN | apply below_drew1) | exact HB.out)))); have n4_ := Aside0.mk (below_step (by repeat (first | (with_reducible first | exact HB.out | apply below_alloc | apply pw_below_drewN | apply below_drew1) | exact HB.out)) hb); clear HO703; clear HO706; clear HO709; clear HB; have HO703 := n0_; have HO706 := n1_; have HO709 := n2_; have HO712 := n3_; have HB := n4_; clear n0_ n1_ n2_ n3_ n4_; (try clear hb); (try clear hb2); (try clear hk); (try clear hi); (try clear ho0)) | ((with_reducible refine gate_callee (f := 55) rfl ?_); refine goesL_ (some 20) rfl rfl Try.func55 (by kernel_rfl) rfl #[.slice Ao89 t701.length co89, .slice Ao91 t704.length co91] rfl (by (try simp only [List.map_toArray, List.map_cons, List.map_nil]); first | done | rfl | (simp only [List.length_drop, List.length_take]; rfl)) ?_; (with_reducible refine (nat_Sub.calls k _ _ t701 _ _ t704 t713 t714 _ ?side1 ?side2 ?side3 ?side4 A7.out).mono ?_); (case side1 => repeat (first | exact (Kd.V_reads' HO703.out).2.2 | (with_reducible refine Kd.C_alloc ?_ _) | (with_reducible refine Kd.C_drewN ?_ _) | (with_reducible refine Kd.C_drew ?_))); (case side2 => exact (Kd.V_reads' HO703.out).2.1); (case side3 => repeat (first | exact (Kd.V_reads' HO706.out).2.2 | (with_reducible refine Kd.C_alloc ?_ _) | (with_reducible refine Kd.C_drewN ?_ _) | (with_reducible refine Kd.C_drew ?_))); (case side4 => exact (Kd.V_reads' HO706.out).2.1); rintro e w93 ⟨v715, rfl, ho0, hb⟩; refine ⟨_, rfl, ?_⟩; have n0_ := Aside0.mk (Kd.V_elder' (by (with_reducible repeat (first | apply Kd.V_alloc | apply Kd.V_drewN | apply Kd.V_drew)); exact HO703.out) (Kd.R_base ho0) hb); have n1_ := Aside0.mk (Kd.V_elder' (by (with_reducible repeat (first | apply Kd.V_alloc | apply Kd.V_drewN | apply Kd.V_drew)); exact HO706.out) (Kd.R_base ho0) hb); have n2_ := Aside0.mk (Kd.R_below (by (with_reducible repeat (first | apply Kd.R_alloc | apply Kd.R_drewN | apply Kd.R_drew)); exact HO709.out) hb); have n3_ := Aside0.mk (Kd.R_below (by (with_reducible repeat (first | apply Kd.R_alloc | apply Kd.R_drewN | apply Kd.R_drew)); exact HO712.out) hb); have n4_ := Aside0.mk (Kd.R_lower ho0 (below_size (by repeat (first | (with_reducible first | exact HB.out | apply below_alloc | apply pw_below_drewN | apply below_drew1) | exact HB.out)))); have n5_ := Aside0.mk (below_step (by repeat (first | (with_reducible first | exact HB.out | apply below_alloc | apply pw_below_drewN | apply below_drew1) | exact HB.out)) hb); clear HO703; clear HO706; clear HO709; clear HO712; clear HB; have HO703 := n0_; have HO706 := n1_; have HO709 := n2_; have HO712 := n3_; have HO716 := n4_; have HB := n5_; clear n0_ n1_ n2_ n3_ n4_ n5_; (try clear hb); (try clear hb2); (try clear hk); (try clear hi); (try clear ho0)) | ((with_reducible refine gate_callee (f := 52) rfl ?_); refine goesL_ (some 25) rfl rfl Try.func52 (by kernel_rfl) rfl #[.slice Ao89 t701.length co89, .slice Ao91 t704.length co91] rfl (by (try simp only [List.map_toArray, List.map_cons, List.map_nil]); first | done | rfl | (simp only [List.length_drop, List.length_take]; rfl)) ?_; (with_reducible refine (nat_Add.calls k _ _ t701 _ _ t704 t717 _ ?side1 ?side2 ?side3 ?side4 A8.out).mono ?_); (case side1 => repeat (first | exact (Kd.V_reads' HO703.out).2.2 | (with_reducible refine Kd.C_alloc ?_ _) | (with_reducible refine Kd.C_drewN ?_ _) | (with_reducible refine Kd.C_drew ?_))); (case side2 => exact (Kd.V_reads' HO703.out).2.1); (case side3 => repeat (first | exact (Kd.V_reads' HO706.out).2.2 | (with_reducible refine Kd.C_alloc ?_ _) | (with_reducible refine Kd.C_drewN ?_ _) | (with_reducible refine Kd.C_drew ?_))); (case side4 => exact (Kd.V_reads' HO706.out).2.1); rintro e w94 ⟨v718, rfl, ho0, hb⟩; refine ⟨_, rfl, ?_⟩; have n0_ := Aside0.mk (Kd.V_elder' (by (with_reducible repeat (first | apply Kd.V_alloc | apply Kd.V_drewN | apply Kd.V_drew)); exact HO703.out) (Kd.R_base ho0) hb); have n1_ := Aside0.mk (Kd.V_elder' (by (with_reducible repeat (first | apply Kd.V_alloc | apply Kd.V_drewN | apply Kd.V_drew)); exact HO706.out) (Kd.R_base ho0) hb); have n2_ := Aside0.mk (Kd.R_below (by (with_reducible repeat (first | apply Kd.R_alloc | apply Kd.R_drewN | apply Kd.R_drew)); exact HO709.out) hb); have n3_ := Aside0.mk (Kd.R_below (by (with_reducible repeat (first | apply Kd.R_alloc | apply Kd.R_drewN | apply Kd.R_drew)); exact HO712.out) hb); have n4_ := Aside0.mk (Kd.R_elder' (by (with_reducible repeat (first | apply Kd.R_alloc | apply Kd.R_drewN | apply Kd.R_drew)); exact HO716.out) (Kd.R_base ho0) hb); have n5_ := Aside0.mk (Kd.R_lower (Kd.R_new' ho0 (Kd.R_lt (by (with_reducible repeat (first | apply Kd.R_alloc | apply Kd.R_drewN | apply Kd.R_drew)); exact HO716.out))) (below_size (by repeat (first | (with_reducible first | exact HB.out | apply below_alloc | apply pw_below_drewN | apply below_drew1) | exact HB.out)))); have n6_ := Aside0.mk (below_step (by repeat (first | (with_reducible first | exact HB.out | apply below_alloc | apply pw_below_drewN | apply below_drew1) | exact HB.out)) hb); clear HO703; clear HO706; clear HO709; clear HO712; clear HO716; clear HB; have HO703 := n0_; have HO706 := n1_; have HO709 := n2_; have HO712 := n3_; have HO716 := n4_; have HO719 := n5_; have HB := n6_; clear n0_ n1_ n2_ n3_ n4_ n5_ n6_; (try clear hb); (try clear hb2); (try clear hk); (try clear hi); (try clear ho0); obtain ⟨Ao95, co95, eo95⟩ := Kd.R_slice HO709.out; subst eo95; obtain ⟨Ao96, co96, eo96⟩ := Kd.R_slice HO712.out; subst eo96) | ((with_reducible refine gate_callee (f := 56) rfl ?_); refine goesL_ (some 28) rfl rfl Try.func56 (by kernel_rfl) rfl #[.slice Ao95 t707.length co95, .slice Ao96 t710.length co96] rfl (by (try simp only [List.map_toArray, List.map_cons, List.map_nil]); first | done | rfl | (simp only [List.length_drop, List.length_take]; rfl)) ?_; (with_reducible refine (dendronref01_Plus.calls k _ _ t707 _ _ t710 t720 _ ?side1 ?side2 ?side3 ?side4 A9.out).mono ?_); (case side1 => repeat (first | exact (Kd.R_reads' HO709.out).2.2 | (with_reducible refine Kd.C_alloc ?_ _) | (with_reducible refine Kd.C_drewN ?_ _) | (with_reducible refine Kd.C_drew ?_))); (case side2 => exact (Kd.R_reads' HO709.out).2.1); (case side3 => repeat (first | exact (Kd.R_reads' HO712.out).2.2 | (with_reducible refine Kd.C_alloc ?_ _) | (with_reducible refine Kd.C_drewN ?_ _) | (with_reducible refine Kd.C_drew ?_))); (case side4 => exact (Kd.R_reads' HO712.out).2.1); rintro e w97 ⟨v721, rfl, ho0, hb⟩; refine ⟨_, rfl, ?_⟩; have n0_ := Aside0.mk (Kd.V_elder' (by (with_reducible repeat (first | apply Kd.V_alloc | apply Kd.V_drewN | apply Kd.V_drew)); exact HO703.out) (Kd.R_base ho0) hb); have n1_ := Aside0.mk (Kd.V_elder' (by (with_reducible repeat (first | apply Kd.V_alloc | apply Kd.V_drewN | apply Kd.V_drew)); exact HO706.out) (Kd.R_base ho0) hb); have n2_ := Aside0.mk (Kd.R_elder' (by (with_reducible repeat (first | apply Kd.R_alloc | apply Kd.R_drewN | apply Kd.R_drew)); exact HO709.out) (Kd.R_base ho0) hb); have n3_ := Aside0.mk (Kd.R_elder' (by (with_reducible repeat (first | apply Kd.R_alloc | apply Kd.R_drewN | apply Kd.R_drew)); exact HO712.out) (Kd.R_base ho0) hb); have n4_ := Aside0.mk (Kd.R_below (by (with_reducible repeat (first | apply Kd.R_alloc | apply Kd.R_drewN | apply Kd.R_drew)); exact HO716.out) hb); have n5_ := Aside0.mk (Kd.R_below (by (with_reducible repeat (first | apply Kd.R_alloc | apply Kd.R_drewN | apply Kd.R_drew)); exact HO719.out) hb); have n6_ := Aside0.mk (Kd.R_lower (Kd.R_new' (Kd.R_new' ho0 (Kd.R_lt (by (with_reducible repeat (first | apply Kd.R_alloc | apply Kd.R_drewN | apply Kd.R_drew)); exact HO709.out))) (Kd.R_lt (by (with_reducible repeat (first | apply Kd.R_alloc | apply Kd.R_drewN | apply Kd.R_drew)); exact HO712.out))) (below_size (by repeat (first | (with_reducible first | exact HB.out | apply below_alloc | apply pw_below_drewN | apply below_drew1) | exact HB.out)))); have n7_ := Aside0.mk (below_step (by repeat (first | (with_reducible first | exact HB.out | apply below_alloc | apply pw_below_drewN | apply below_drew1) | exact HB.out)) hb); clear HO703; clear HO706; clear HO709; clear HO712; clear HO716; clear HO719; clear HB; have HO703 := n0_; have HO706 := n1_; have HO709 := n2_; have HO712 := n3_; have HO716 := n4_; have HO719 := n5_; have HO722 := n6_; have HB := n7_; clear n0_ n1_ n2_ n3_ n4_ n5_ n6_ n7_; (try clear hb); (try clear hb2); (try clear hk); (try clear hi); (try clear ho0); obtain ⟨Ao98, co98, eo98⟩ := Kd.R_slice HO719.out; subst eo98; obtain ⟨Ao99, co99, eo99⟩ := Kd.R_slice HO722.out; subst eo99) | ((with_reducible refine gate_callee (f := 31) rfl ?_); refine goesL_ (some 29) rfl rfl Try.func31 (by kernel_rfl) rfl #[.slice Ao98 t717.length co98, .slice Ao99 t720.length co99] rfl (by (try simp only [List.map_toArray, List.map_cons, List.map_nil]); first | done | rfl | (simp only [List.length_drop, List.length_take]; rfl)) ?_; (with_reducible refine (dendronref01_Is.calls k _ _ t717 _ _ t720 true _ ?side1 ?side2 ?side3 ?side4 A10.out).mono ?_); (case side1 => repeat (first | exact (Kd.R_reads' HO719.out).2.2 | (with_reducible refine Kd.C_alloc ?_ _) | (with_reducible refine Kd.C_drewN ?_ _) | (with_reducible refine Kd.C_drew ?_))); (case side2 => exact (Kd.R_reads' HO719.out).2.1); (case side3 => repeat (first | exact (Kd.R_reads' HO722.out).2.2 | (with_reducible refine Kd.C_alloc ?_ _) | (with_reducible refine Kd.C_drewN ?_ _) | (with_reducible refine Kd.C_drew ?_))); (case side4 => exact (Kd.R_reads' HO722.out).2.1); rintro e w100 ⟨rfl, hb⟩; refine ⟨_, rfl, ?_⟩; have n0_ := Aside0.mk (Kd.V_below (by (with_reducible repeat (first | apply Kd.V_alloc | apply Kd.V_drewN | apply Kd.V_drew)); exact HO703.out) hb); have n1_ := Aside0.mk (Kd.V_below (by (with_reducible repeat (first | apply Kd.V_alloc | apply Kd.V_drewN | apply Kd.V_drew)); exact HO706.out) hb); have n2_ := Aside0.mk (Kd.R_below (by (with_reducible repeat (first | apply Kd.R_alloc | apply Kd.R_drewN | apply Kd.R_drew)); exact HO709.out) hb); have n3_ := Aside0.mk (Kd.R_below (by (with_reducible repeat (first | apply Kd.R_alloc | apply Kd.R_drewN | apply Kd.R_drew)); exact HO712.out) hb); have n4_ := Aside0.mk (Kd.R_below (by (with_reducible repeat (first | apply Kd.R_alloc | apply Kd.R_drewN | apply Kd.R_drew)); exact HO716.out) hb); have n5_ := Aside0.mk (Kd.R_below (by (with_reducible repeat (first | apply Kd.R_alloc | apply Kd.R_drewN | apply Kd.R_drew)); exact HO719.out) hb); have n6_ := Aside0.mk (Kd.R_below (by (with_reducible repeat (first | apply Kd.R_alloc | apply Kd.R_drewN | apply Kd.R_drew)); exact HO722.out) hb); have n7_ := Aside0.mk (below_step (by repeat (first | (with_reducible first | exact HB.out | apply below_alloc | apply pw_below_drewN | apply below_drew1) | exact HB.out)) hb); clear HO703; clear HO706; clear HO709; clear HO712; clear HO716; clear HO719; clear HO722; clear HB; have HO703 := n0_; have HO706 := n1_; have HO709 := n2_; have HO712 := n3_; have HO716 := n4_; have HO719 := n5_; have HO722 := n6_; have HB := n7_; clear n0_ n1_ n2_ n3_ n4_ n5_ n6_ n7_; (try clear hb); (try clear hb2); (try clear hk); (try clear hi)) | ((with_reducible refine gate_callee (f := 41) rfl ?_); refine goesL_ (some 33) rfl rfl Try.func41 (by kernel_rfl) rfl #[.slice Ao95 t707.length co95, .slice Ao96 t710.length co96] rfl (by (try simp only [List.map_toArray, List.map_cons, List.map_nil]); first | done | rfl | (simp only [List.length_drop, List.length_take]; rfl)) ?_; (with_reducible refine (dendronref01_Order.calls k _ _ t707 _ _ t710 t724 _ ?side1 ?side2 ?side3 ?side4 A12.out).mono ?_); (case side1 => repeat (first | exact (Kd.R_reads' HO709.out).2.2 | (with_reducible refine Kd.C_alloc ?_ _) | (with_reducible refine Kd.C_drewN ?_ _) | (with_reducible refine Kd.C_drew ?_))); (case side2 => exact (Kd.R_reads' HO709.out).2.1); (case side3 => repeat (first | exact (Kd.R_reads' HO712.out).2.2 | (with_reducible refine Kd.C_alloc ?_ _) | (with_reducible refine Kd.C_drewN ?_ _) | (with_reducible refine Kd.C_drew ?_))); (case side4 => exact (Kd.R_reads' HO712.out).2.1); rintro e w' ⟨rfl, ⟨nd, rfl⟩⟩; refine ⟨_, rfl, ?_⟩) | (go_at_call 57; (with_reducible refine (dendronref01_Minus.calls k _ _ t707 _ _ t710 t726 _ ?side1 ?side2 ?side3 ?side4 A64.out).mono ?_); (case side1 => repeat (first | exact (Kd.R_reads' HO709.out).2.2 | (with_reducible refine Kd.C_alloc ?_ _) | (with_reducible refine Kd.C_drewN ?_ _) | (with_reducible refine Kd.C_drew ?_))); (case side2 => exact (Kd.R_reads' HO709.out).2.1); (case side3 => repeat (first | exact (Kd.R_reads' HO712.out).2.2 | (with_reducible refine Kd.C_alloc ?_ _) | (with_reducible refine Kd.C_drewN ?_ _) | (with_reducible refine Kd.C_drew ?_))); (case side4 => exact (Kd.R_reads' HO712.out).2.1); rintro e w101 ⟨v727, rfl, ho0, hb⟩; have n0_ := Aside0.mk (Kd.V_elder' (by (with_reducible repeat (first | apply Kd.V_alloc | apply Kd.V_drewN | apply Kd.V_drew)); exact HO703.out) (Kd.R_base ho0) hb); have n1_ := Aside0.mk (Kd.V_elder' (by (with_reducible repeat (first | apply Kd.V_alloc | apply Kd.V_drewN | apply Kd.V_drew)); exact HO706.out) (Kd.R_base ho0) hb); have n2_ := Aside0.mk (Kd.R_elder' (by (with_reducible repeat (first | apply Kd.R_alloc | apply Kd.R_drewN | apply Kd.R_drew)); exact HO709.out) (Kd.R_base ho0) hb); have n3_ := Aside0.mk (Kd.R_elder' (by (with_reducible repeat (first | apply Kd.R_alloc | apply Kd.R_drewN | apply Kd.R_drew)); exact HO712.out) (Kd.R_base ho0) hb); have n4_ := Aside0.mk (Kd.R_below (by (with_reducible repeat (first | apply Kd.R_alloc | apply Kd.R_drewN | apply Kd.R_drew)); exact HO716.out) hb); have n5_ := Aside0.mk (Kd.R_below (by (with_reducible repeat (first | apply Kd.R_alloc | apply Kd.R_drewN | apply Kd.R_drew)); exact HO719.out) hb); have n6_ := Aside0.mk (Kd.R_elder' (by (with_reducible repeat (first | apply Kd.R_alloc | apply Kd.R_drewN | apply Kd.R_drew)); exact HO722.out) (Kd.R_base ho0) hb); have n7_ := Aside0.mk (Kd.R_lower (Kd.R_new' (Kd.R_new' (Kd.R_new' ho0 (Kd.R_lt (by (with_reducible repeat (first | apply Kd.R_alloc | apply Kd.R_drewN | apply Kd.R_drew)); exact HO709.out))) (Kd.R_lt (by (with_reducible repeat (first | apply Kd.R_alloc | apply Kd.R_drewN | apply Kd.R_drew)); exact HO712.out))) (Kd.R_lt (by (with_reducible repeat (first | apply Kd.R_alloc | apply Kd.R_drewN | apply Kd.R_drew)); exact HO722.out))) (below_size (by repeat (first | (with_reducible first | exact HB.out | apply below_alloc | apply pw_below_drewN | apply below_drew1) | exact HB.out)))); have n8_ := Aside0.mk (below_step (by repeat (first | (with_reducible first | exact HB.out | apply below_alloc | apply pw_below_drewN | apply below_drew1) | exact HB.out)) hb); clear HO703; clear HO706; clear HO709; clear HO712; clear HO716; clear HO719; clear HO722; clear HB; have HO703 := n0_; have HO706 := n1_; have HO709 := n2_; have HO712 := n3_; have HO716 := n4_; have HO719 := n5_; have HO722 := n6_; have HO728 := n7_; have HB := n8_; clear n0_ n1_ n2_ n3_ n4_ n5_ n6_ n7_ n8_; (try clear hb); (try clear hb2); (try clear hk); (try clear hi); (try clear ho0); obtain ⟨Ao102, co102, eo102⟩ := Kd.R_slice HO716.out; subst eo102; obtain ⟨Ao103, co103, eo103⟩ := Kd.R_slice HO728.out; subst eo103) | (go_at_call 31; (with_reducible refine (dendronref01_Is.calls k _ _ t713 _ _ t726 false _ ?side1 ?side2 ?side3 ?side4 A65.out).mono ?_); (case side1 => repeat (first | exact (Kd.R_reads' HO716.out).2.2 | (with_reducible refine Kd.C_alloc ?_ _) | (with_reducible refine Kd.C_drewN ?_ _) | (with_reducible refine Kd.C_drew ?_))); (case side2 => exact (Kd.R_reads' HO716.out).2.1); (case side3 => repeat (first | exact (Kd.R_reads' HO728.out).2.2 | (with_reducible refine Kd.C_alloc ?_ _) | (with_reducible refine Kd.C_drewN ?_ _) | (with_reducible refine Kd.C_drew ?_))); (case side4 => exact (Kd.R_reads' HO728.out).2.1); rintro e w104 ⟨rfl, hb⟩; have n0_ := Aside0.mk (Kd.V_below (by (with_reducible repeat (first | apply Kd.V_alloc | apply Kd.V_drewN | apply Kd.V_drew)); exact HO703.out) hb); have n1_ := Aside0.mk (Kd.V_below (by (with_reducible repeat (first | apply Kd.V_alloc | apply Kd.V_drewN | apply Kd.V_drew)); exact HO706.out) hb); have n2_ := Aside0.mk (Kd.R_below (by (with_reducible repeat (first | apply Kd.R_alloc | apply Kd.R_drewN | apply Kd.R_drew)); exact HO709.out) hb); have n3_ := Aside0.mk (Kd.R_below (by (with_reducible repeat (first | apply Kd.R_alloc | apply Kd.R_drewN | apply Kd.R_drew)); exact HO712.out) hb); have n4_ := Aside0.mk (Kd.R_below (by (with_reducible repeat (first | apply Kd.R_alloc | apply Kd.R_drewN | apply Kd.R_drew)); exact HO716.out) hb); have n5_ := Aside0.mk (Kd.R_below (by (with_reducible repeat (first | apply Kd.R_alloc | apply Kd.R_drewN | apply Kd.R_drew)); exact HO719.out) hb); have n6_ := Aside0.mk (Kd.R_below (by (with_reducible repeat (first | apply Kd.R_alloc | apply Kd.R_drewN | apply Kd.R_drew)); exact HO722.out) hb); have n7_ := Aside0.mk (Kd.R_below (by (with_reducible repeat (first | apply Kd.R_alloc | apply Kd.R_drewN | apply Kd.R_drew)); exact HO728.out) hb); have n8_ := Aside0.mk (below_step (by repeat (first | (with_reducible first | exact HB.out | apply below_alloc | apply pw_below_drewN | apply below_drew1) | exact HB.out)) hb); clear HO703; clear HO706; clear HO709; clear HO712; clear HO716; clear HO719; clear HO722; clear HO728; clear HB; have HO703 := n0_; have HO706 := n1_; have HO709 := n2_; have HO712 := n3_; have HO716 := n4_; have HO719 := n5_; have HO722 := n6_; have HO728 := n7_; have HB := n8_; clear n0_ n1_ n2_ n3_ n4_ n5_ n6_ n7_ n8_; (try clear hb); (try clear hb2); (try clear hk); (try clear hi)))
          go_ret
          exact ⟨by first | rfl | (simp [errW_none, errW_some] <;> rfl) | (simp [*, errW_none, errW_some] <;> rfl), by repeat (first | (with_reducible first | exact HB.out | apply below_alloc | apply pw_below_drewN | apply below_drew1) | exact HB.out)⟩
      · rw [if_neg c63] at H
        have c63b0 : (t714 == 0) = false := beq_eq_false_iff_ne.mpr c63
        have c63b1 : (t714 != 0) = true := bne_iff_ne.mpr c63
        obtain rfl := Option.some.inj H
        go_enter Try.func16, Try.ntmps16
        go_wp2_with (first | ((with_reducible refine gate_callee (f := 30) rfl ?_); refine goesL_ (some 10) rfl rfl Try.func30 (by kernel_rfl) rfl #[.slice A0 l0.length c0, .int .i64 40] rfl (by (try simp only [List.map_toArray, List.map_cons, List.map_nil]); first | done | rfl | (simp only [List.length_drop, List.length_take]; rfl)) ?_; (with_reducible refine (dendronlaw01_few.calls (fun k_ => k_ < w.heap.size) _ _ l0 40 t701 _ ?side1 A3.out).mono ?_); (case side1 => exact Kd.V_mk HC0.out (Kd.F_below (Kd.C_F (Kd.heap_int .u64) HR0.out) (by repeat (first | (with_reducible first | exact HB.out | apply below_alloc | apply pw_below_drewN | apply below_drew1) | exact HB.out)))); rintro e w105 ⟨v702, rfl, ho0, hb⟩; refine ⟨_, rfl, ?_⟩; have n0_ := Aside0.mk (Kd.V_lower (Kd.V_mono (ok' := fun k_ => True) ho0 (fun k_ hk_ => trivial)) (below_size (by repeat (first | (with_reducible first | exact HB.out | apply below_alloc | apply pw_below_drewN | apply below_drew1) | exact HB.out)))); have n1_ := Aside0.mk (below_step (by repeat (first | (with_reducible first | exact HB.out | apply below_alloc | apply pw_below_drewN | apply below_drew1) | exact HB.out)) hb); clear HB; have HO703 := n0_; have HB := n1_; clear n0_ n1_; (try clear hb); (try clear hb2); (try clear hk); (try clear hi); (try clear ho0)) | ((with_reducible refine gate_callee (f := 30) rfl ?_); refine goesL_ (some 12) rfl rfl Try.func30 (by kernel_rfl) rfl #[.slice A1 l1.length c1, .int .i64 40] rfl (by (try simp only [List.map_toArray, List.map_cons, List.map_nil]); first | done | rfl | (simp only [List.length_drop, List.length_take]; rfl)) ?_; (with_reducible refine (dendronlaw01_few.calls (fun k_ => k_ < w.heap.size) _ _ l1 40 t704 _ ?side1 A4.out).mono ?_); (case side1 => exact Kd.V_mk HC1.out (Kd.F_below (Kd.C_F (Kd.heap_int .u64) HR1.out) (by repeat (first | (with_reducible first | exact HB.out | apply below_alloc | apply pw_below_drewN | apply below_drew1) | exact HB.out)))); rintro e w106 ⟨v705, rfl, ho0, hb⟩; refine ⟨_, rfl, ?_⟩; have n0_ := Aside0.mk (Kd.V_below (by (with_reducible repeat (first | apply Kd.V_alloc | apply Kd.V_drewN | apply Kd.V_drew)); exact HO703.out) hb); have n1_ := Aside0.mk (Kd.V_lower (Kd.V_mono (ok' := fun k_ => True) ho0 (fun k_ hk_ => trivial)) (below_size (by repeat (first | (with_reducible first | exact HB.out | apply below_alloc | apply pw_below_drewN | apply below_drew1) | exact HB.out)))); have n2_ := Aside0.mk (below_step (by repeat (first | (with_reducible first | exact HB.out | apply below_alloc | apply pw_below_drewN | apply below_drew1) | exact HB.out)) hb); clear HO703; clear HB; have HO703 := n0_; have HO706 := n1_; have HB := n2_; clear n0_ n1_ n2_; (try clear hb); (try clear hb2); (try clear hk); (try clear hi); (try clear ho0); obtain ⟨Ao107, co107, eo107⟩ := Kd.V_slice HO703.out; subst eo107) | ((with_reducible refine gate_callee (f := 34) rfl ?_); refine goesL_ (some 14) rfl rfl Try.func34 (by kernel_rfl) rfl #[.slice Ao107 t701.length co107] rfl (by (try simp only [List.map_toArray, List.map_cons, List.map_nil]); first | done | rfl | (simp only [List.length_drop, List.length_take]; rfl)) ?_; (with_reducible refine (dendronref01_From.calls k _ _ t701 t707 _ ?side1 ?side2 A5.out).mono ?_); (case side1 => repeat (first | exact (Kd.V_reads' HO703.out).2.2 | (with_reducible refine Kd.C_alloc ?_ _) | (with_reducible refine Kd.C_drewN ?_ _) | (with_reducible refine Kd.C_drew ?_))); (case side2 => exact (Kd.V_reads' HO703.out).2.1); rintro e w108 ⟨v708, rfl, ho0, hb⟩; refine ⟨_, rfl, ?_⟩; have n0_ := Aside0.mk (Kd.V_elder' (by (with_reducible repeat (first | apply Kd.V_alloc | apply Kd.V_drewN | apply Kd.V_drew)); exact HO703.out) (Kd.R_base ho0) hb); have n1_ := Aside0.mk (Kd.V_elder' (by (with_reducible repeat (first | apply Kd.V_alloc | apply Kd.V_drewN | apply Kd.V_drew)); exact HO706.out) (Kd.R_base ho0) hb); have n2_ := Aside0.mk (Kd.R_lower ho0 (below_size (by repeat (first | (with_reducible first | exact HB.out | apply below_alloc | apply pw_below_drewN | apply below_drew1) | exact HB.out)))); have n3_ := Aside0.mk (below_step (by repeat (first | (with_reducible first | exact HB.out | apply below_alloc | apply pw_below_drewN | apply below_drew1) | exact HB.out)) hb); clear HO703; clear HO706; clear HB; have HO703 := n0_; have HO706 := n1_; have HO709 := n2_; have HB := n3_; clear n0_ n1_ n2_ n3_; (try clear hb); (try clear hb2); (try clear hk); (try clear hi); (try clear ho0); obtain ⟨Ao109, co109, eo109⟩ := Kd.V_slice HO706.out; subst eo109) | ((with_reducible refine gate_callee (f := 34) rfl ?_); refine goesL_ (some 16) rfl rfl Try.func34 (by kernel_rfl) rfl #[.slice Ao109 t704.length co109] rfl (by (try simp only [List.map_toArray, List.map_cons, List.map_nil]); first | done | rfl | (simp only [List.length_drop, List.length_take]; rfl)) ?_; (with_reducible refine (dendronref01_From.calls k _ _ t704 t710 _ ?side1 ?side2 A6.out).mono ?_); (case side1 => repeat (first | exact (Kd.V_reads' HO706.out).2.2 | (with_reducible refine Kd.C_alloc ?_ _) | (with_reducible refine Kd.C_drewN ?_ _) | (with_reducible refine Kd.C_drew ?_))); (case side2 => exact (Kd.V_reads' HO706.out).2.1); rintro e w110 ⟨v711, rfl, ho0, hb⟩; refine ⟨_, rfl, ?_⟩; have n0_ := Aside0.mk (Kd.V_elder' (by (with_reducible repeat (first | apply Kd.V_alloc | apply Kd.V_drewN | apply Kd.V_drew)); exact HO703.out) (Kd.R_base ho0) hb); have n1_ := Aside0.mk (Kd.V_elder' (by (with_reducible repeat (first | apply Kd.V_alloc | apply Kd.V_drewN | apply Kd.V_drew)); exact HO706.out) (Kd.R_base ho0) hb); have n2_ := Aside0.mk (Kd.R_elder' (by (with_reducible repeat (first | apply Kd.R_alloc | apply Kd.R_drewN | apply Kd.R_drew)); exact HO709.out) (Kd.R_base ho0) hb); have n3_ := Aside0.mk (Kd.R_lower (Kd.R_new' ho0 (Kd.R_lt (by (with_reducible repeat (first | apply Kd.R_alloc | apply Kd.R_drewN | apply Kd.R_drew)); exact HO709.out))) (below_size (by repeat (first | (with_reducible first | exact HB.out | apply below_alloc | apply pw_below_drewN | apply below_drew1) | exact HB.out)))); have n4_ := Aside0.mk (below_step (by repeat (first | (with_reducible first | exact HB.out | apply below_alloc | apply pw_below_drewN | apply below_drew1) | exact HB.out)) hb); clear HO703; clear HO706; clear HO709; clear HB; have HO703 := n0_; have HO706 := n1_; have HO709 := n2_; have HO712 := n3_; have HB := n4_; clear n0_ n1_ n2_ n3_ n4_; (try clear hb); (try clear hb2); (try clear hk); (try clear hi); (try clear ho0)) | ((with_reducible refine gate_callee (f := 55) rfl ?_); refine goesL_ (some 20) rfl rfl Try.func55 (by kernel_rfl) rfl #[.slice Ao107 t701.length co107, .slice Ao109 t704.length co109] rfl (by (try simp only [List.map_toArray, List.map_cons, List.map_nil]); first | done | rfl | (simp only [List.length_drop, List.length_take]; rfl)) ?_; (with_reducible refine (nat_Sub.calls k _ _ t701 _ _ t704 t713 t714 _ ?side1 ?side2 ?side3 ?side4 A7.out).mono ?_); (case side1 => repeat (first | exact (Kd.V_reads' HO703.out).2.2 | (with_reducible refine Kd.C_alloc ?_ _) | (with_reducible refine Kd.C_drewN ?_ _) | (with_reducible refine Kd.C_drew ?_))); (case side2 => exact (Kd.V_reads' HO703.out).2.1); (case side3 => repeat (first | exact (Kd.V_reads' HO706.out).2.2 | (with_reducible refine Kd.C_alloc ?_ _) | (with_reducible refine Kd.C_drewN ?_ _) | (with_reducible refine Kd.C_drew ?_))); (case side4 => exact (Kd.V_reads' HO706.out).2.1); rintro e w111 ⟨v715, rfl, ho0, hb⟩; refine ⟨_, rfl, ?_⟩; have n0_ := Aside0.mk (Kd.V_elder' (by (with_reducible repeat (first | apply Kd.V_alloc | apply Kd.V_drewN | apply Kd.V_drew)); exact HO703.out) (Kd.R_base ho0) hb); have n1_ := Aside0.mk (Kd.V_elder' (by (with_reducible repeat (first | apply Kd.V_alloc | apply Kd.V_drewN | apply Kd.V_drew)); exact HO706.out) (Kd.R_base ho0) hb); have n2_ := Aside0.mk (Kd.R_below (by (with_reducible repeat (first | apply Kd.R_alloc | apply Kd.R_drewN | apply Kd.R_drew)); exact HO709.out) hb); have n3_ := Aside0.mk (Kd.R_below (by (with_reducible repeat (first | apply Kd.R_alloc | apply Kd.R_drewN | apply Kd.R_drew)); exact HO712.out) hb); have n4_ := Aside0.mk (Kd.R_lower ho0 (below_size (by repeat (first | (with_reducible first | exact HB.out | apply below_alloc | apply pw_below_drewN | apply below_drew1) | exact HB.out)))); have n5_ := Aside0.mk (below_step (by repeat (first | (with_reducible first | exact HB.out | apply below_alloc | apply pw_below_drewN | apply below_drew1) | exact HB.out)) hb); clear HO703; clear HO706; clear HO709; clear HO712; clear HB; have HO703 := n0_; have HO706 := n1_; have HO709 := n2_; have HO712 := n3_; have HO716 := n4_; have HB := n5_; clear n0_ n1_ n2_ n3_ n4_ n5_; (try clear hb); (try clear hb2); (try clear hk); (try clear hi); (try clear ho0)) | ((with_reducible refine gate_callee (f := 52) rfl ?_); refine goesL_ (some 25) rfl rfl Try.func52 (by kernel_rfl) rfl #[.slice Ao107 t701.length co107, .slice Ao109 t704.length co109] rfl (by (try simp only [List.map_toArray, List.map_cons, List.map_nil]); first | done | rfl | (simp only [List.length_drop, List.length_take]; rfl)) ?_; (with_reducible refine (nat_Add.calls k _ _ t701 _ _ t704 t717 _ ?side1 ?side2 ?side3 ?side4 A8.out).mono ?_); (case side1 => repeat (first | exact (Kd.V_reads' HO703.out).2.2 | (with_reducible refine Kd.C_alloc ?_ _) | (with_reducible refine Kd.C_drewN ?_ _) | (with_reducible refine Kd.C_drew ?_))); (case side2 => exact (Kd.V_reads' HO703.out).2.1); (case side3 => repeat (first | exact (Kd.V_reads' HO706.out).2.2 | (with_reducible refine Kd.C_alloc ?_ _) | (with_reducible refine Kd.C_drewN ?_ _) | (with_reducible refine Kd.C_drew ?_))); (case side4 => exact (Kd.V_reads' HO706.out).2.1); rintro e w112 ⟨v718, rfl, ho0, hb⟩; refine ⟨_, rfl, ?_⟩; have n0_ := Aside0.mk (Kd.V_elder' (by (with_reducible repeat (first | apply Kd.V_alloc | apply Kd.V_drewN | apply Kd.V_drew)); exact HO703.out) (Kd.R_base ho0) hb); have n1_ := Aside0.mk (Kd.V_elder' (by (with_reducible repeat (first | apply Kd.V_alloc | apply Kd.V_drewN | apply Kd.V_drew)); exact HO706.out) (Kd.R_base ho0) hb); have n2_ := Aside0.mk (Kd.R_below (by (with_reducible repeat (first | apply Kd.R_alloc | apply Kd.R_drewN | apply Kd.R_drew)); exact HO709.out) hb); have n3_ := Aside0.mk (Kd.R_below (by (with_reducible repeat (first | apply Kd.R_alloc | apply Kd.R_drewN | apply Kd.R_drew)); exact HO712.out) hb); have n4_ := Aside0.mk (Kd.R_elder' (by (with_reducible repeat (first | apply Kd.R_alloc | apply Kd.R_drewN | apply Kd.R_drew)); exact HO716.out) (Kd.R_base ho0) hb); have n5_ := Aside0.mk (Kd.R_lower (Kd.R_new' ho0 (Kd.R_lt (by (with_reducible repeat (first | apply Kd.R_alloc | apply Kd.R_drewN | apply Kd.R_drew)); exact HO716.out))) (below_size (by repeat (first | (with_reducible first | exact HB.out | apply below_alloc | apply pw_below_drewN | apply below_drew1) | exact HB.out)))); have n6_ := Aside0.mk (below_step (by repeat (first | (with_reducible first | exact HB.out | apply below_alloc | apply pw_below_drewN | apply below_drew1) | exact HB.out)) hb); clear HO703; clear HO706; clear HO709; clear HO712; clear HO716; clear HB; have HO703 := n0_; have HO706 := n1_; have HO709 := n2_; have HO712 := n3_; have HO716 := n4_; have HO719 := n5_; have HB := n6_; clear n0_ n1_ n2_ n3_ n4_ n5_ n6_; (try clear hb); (try clear hb2); (try clear hk); (try clear hi); (try clear ho0); obtain ⟨Ao113, co113, eo113⟩ := Kd.R_slice HO709.out; subst eo113; obtain ⟨Ao114, co114, eo114⟩ := Kd.R_slice HO712.out; subst eo114) | ((with_reducible refine gate_callee (f := 56) rfl ?_); refine goesL_ (some 28) rfl rfl Try.func56 (by kernel_rfl) rfl #[.slice Ao113 t707.length co113, .slice Ao114 t710.length co114] rfl (by (try simp only [List.map_toArray, List.map_cons, List.map_nil]); first | done | rfl | (simp only [List.length_drop, List.length_take]; rfl)) ?_; (with_reducible refine (dendronref01_Plus.calls k _ _ t707 _ _ t710 t720 _ ?side1 ?side2 ?side3 ?side4 A9.out).mono ?_); (case side1 => repeat (first | exact (Kd.R_reads' HO709.out).2.2 | (with_reducible refine Kd.C_alloc ?_ _) | (with_reducible refine Kd.C_drewN ?_ _) | (with_reducible refine Kd.C_drew ?_))); (case side2 => exact (Kd.R_reads' HO709.out).2.1); (case side3 => repeat (first | exact (Kd.R_reads' HO712.out).2.2 | (with_reducible refine Kd.C_alloc ?_ _) | (with_reducible refine Kd.C_drewN ?_ _) | (with_reducible refine Kd.C_drew ?_))); (case side4 => exact (Kd.R_reads' HO712.out).2.1); rintro e w115 ⟨v721, rfl, ho0, hb⟩; refine ⟨_, rfl, ?_⟩; have n0_ := Aside0.mk (Kd.V_elder' (by (with_reducible repeat (first | apply Kd.V_alloc | apply Kd.V_drewN | apply Kd.V_drew)); exact HO703.out) (Kd.R_base ho0) hb); have n1_ := Aside0.mk (Kd.V_elder' (by (with_reducible repeat (first | apply Kd.V_alloc | apply Kd.V_drewN | apply Kd.V_drew)); exact HO706.out) (Kd.R_base ho0) hb); have n2_ := Aside0.mk (Kd.R_elder' (by (with_reducible repeat (first | apply Kd.R_alloc | apply Kd.R_drewN | apply Kd.R_drew)); exact HO709.out) (Kd.R_base ho0) hb); have n3_ := Aside0.mk (Kd.R_elder' (by (with_reducible repeat (first | apply Kd.R_alloc | apply Kd.R_drewN | apply Kd.R_drew)); exact HO712.out) (Kd.R_base ho0) hb); have n4_ := Aside0.mk (Kd.R_below (by (with_reducible repeat (first | apply Kd.R_alloc | apply Kd.R_drewN | apply Kd.R_drew)); exact HO716.out) hb); have n5_ := Aside0.mk (Kd.R_below (by (with_reducible repeat (first | apply Kd.R_alloc | apply Kd.R_drewN | apply Kd.R_drew)); exact HO719.out) hb); have n6_ := Aside0.mk (Kd.R_lower (Kd.R_new' (Kd.R_new' ho0 (Kd.R_lt (by (with_reducible repeat (first | apply Kd.R_alloc | apply Kd.R_drewN | apply Kd.R_drew)); exact HO709.out))) (Kd.R_lt (by (with_reducible repeat (first | apply Kd.R_alloc | apply Kd.R_drewN | apply Kd.R_drew)); exact HO712.out))) (below_size (by repeat (first | (with_reducible first | exact HB.out | apply below_alloc | apply pw_below_drewN | apply below_drew1) | exact HB.out)))); have n7_ := Aside0.mk (below_step (by repeat (first | (with_reducible first | exact HB.out | apply below_alloc | apply pw_below_drewN | apply below_drew1) | exact HB.out)) hb); clear HO703; clear HO706; clear HO709; clear HO712; clear HO716; clear HO719; clear HB; have HO703 := n0_; have HO706 := n1_; have HO709 := n2_; have HO712 := n3_; have HO716 := n4_; have HO719 := n5_; have HO722 := n6_; have HB := n7_; clear n0_ n1_ n2_ n3_ n4_ n5_ n6_ n7_; (try clear hb); (try clear hb2); (try clear hk); (try clear hi); (try clear ho0); obtain ⟨Ao116, co116, eo116⟩ := Kd.R_slice HO719.out; subst eo116; obtain ⟨Ao117, co117, eo117⟩ := Kd.R_slice HO722.out; subst eo117) | ((with_reducible refine gate_callee (f := 31) rfl ?_); refine goesL_ (some 29) rfl rfl Try.func31 (by kernel_rfl) rfl #[.slice Ao116 t717.length co116, .slice Ao117 t720.length co117] rfl (by (try simp only [List.map_toArray, List.map_cons, List.map_nil]); first | done | rfl | (simp only [List.length_drop, List.length_take]; rfl)) ?_; (with_reducible refine (dendronref01_Is.calls k _ _ t717 _ _ t720 true _ ?side1 ?side2 ?side3 ?side4 A10.out).mono ?_); (case side1 => repeat (first | exact (Kd.R_reads' HO719.out).2.2 | (with_reducible refine Kd.C_alloc ?_ _) | (with_reducible refine Kd.C_drewN ?_ _) | (with_reducible refine Kd.C_drew ?_))); (case side2 => exact (Kd.R_reads' HO719.out).2.1); (case side3 => repeat (first | exact (Kd.R_reads' HO722.out).2.2 | (with_reducible refine Kd.C_alloc ?_ _) | (with_reducible refine Kd.C_drewN ?_ _) | (with_reducible refine Kd.C_drew ?_))); (case side4 => exact (Kd.R_reads' HO722.out).2.1); rintro e w118 ⟨rfl, hb⟩; refine ⟨_, rfl, ?_⟩; have n0_ := Aside0.mk (Kd.V_below (by (with_reducible repeat (first | apply Kd.V_alloc | apply Kd.V_drewN | apply Kd.V_drew)); exact HO703.out) hb); have n1_ := Aside0.mk (Kd.V_below (by (with_reducible repeat (first | apply Kd.V_alloc | apply Kd.V_drewN | apply Kd.V_drew)); exact HO706.out) hb); have n2_ := Aside0.mk (Kd.R_below (by (with_reducible repeat (first | apply Kd.R_alloc | apply Kd.R_drewN | apply Kd.R_drew)); exact HO709.out) hb); have n3_ := Aside0.mk (Kd.R_below (by (with_reducible repeat (first | apply Kd.R_alloc | apply Kd.R_drewN | apply Kd.R_drew)); exact HO712.out) hb); have n4_ := Aside0.mk (Kd.R_below (by (with_reducible repeat (first | apply Kd.R_alloc | apply Kd.R_drewN | apply Kd.R_drew)); exact HO716.out) hb); have n5_ := Aside0.mk (Kd.R_below (by (with_reducible repeat (first | apply Kd.R_alloc | apply Kd.R_drewN | apply Kd.R_drew)); exact HO719.out) hb); have n6_ := Aside0.mk (Kd.R_below (by (with_reducible repeat (first | apply Kd.R_alloc | apply Kd.R_drewN | apply Kd.R_drew)); exact HO722.out) hb); have n7_ := Aside0.mk (below_step (by repeat (first | (with_reducible first | exact HB.out | apply below_alloc | apply pw_below_drewN | apply below_drew1) | exact HB.out)) hb); clear HO703; clear HO706; clear HO709; clear HO712; clear HO716; clear HO719; clear HO722; clear HB; have HO703 := n0_; have HO706 := n1_; have HO709 := n2_; have HO712 := n3_; have HO716 := n4_; have HO719 := n5_; have HO722 := n6_; have HB := n7_; clear n0_ n1_ n2_ n3_ n4_ n5_ n6_ n7_; (try clear hb); (try clear hb2); (try clear hk); (try clear hi)) | ((with_reducible refine gate_callee (f := 41) rfl ?_); refine goesL_ (some 33) rfl rfl Try.func41 (by kernel_rfl) rfl #[.slice Ao113 t707.length co113, .slice Ao114 t710.length co114] rfl (by (try simp only [List.map_toArray, List.map_cons, List.map_nil]); first | done | rfl | (simp only [List.length_drop, List.length_take]; rfl)) ?_; (with_reducible refine (dendronref01_Order.calls k _ _ t707 _ _ t710 t724 _ ?side1 ?side2 ?side3 ?side4 A12.out).mono ?_); (case side1 => repeat (first | exact (Kd.R_reads' HO709.out).2.2 | (with_reducible refine Kd.C_alloc ?_ _) | (with_reducible refine Kd.C_drewN ?_ _) | (with_reducible refine Kd.C_drew ?_))); (case side2 => exact (Kd.R_reads' HO709.out).2.1); (case side3 => repeat (first | exact (Kd.R_reads' HO712.out).2.2 | (with_reducible refine Kd.C_alloc ?_ _) | (with_reducible refine Kd.C_drewN ?_ _) | (with_reducible refine Kd.C_drew ?_))); (case side4 => exact (Kd.R_reads' HO712.out).2.1); rintro e w' ⟨rfl, ⟨nd, rfl⟩⟩; refine ⟨_, rfl, ?_⟩))
        go_ret
        exact ⟨by first | rfl | (simp [errW_none, errW_some] <;> rfl) | (simp [*, errW_none, errW_some] <;> rfl), by repeat (first | (with_reducible first | exact HB.out | apply below_alloc | apply pw_below_drewN | apply below_drew1) | exact HB.out)⟩
  · replace c11 := Bool.eq_false_iff.mpr c11
    subst c11
    have H1 : (some false) = some r := by rw [if_neg (show ¬ (false = true) by decide)] at H; exact H
    clear H
    have H := H1
    clear H1
    obtain rfl := Option.some.inj H
    go_enter Try.func16, Try.ntmps16
    go_wp2_with (first | ((with_reducible refine gate_callee (f := 30) rfl ?_); refine goesL_ (some 10) rfl rfl Try.func30 (by kernel_rfl) rfl #[.slice A0 l0.length c0, .int .i64 40] rfl (by (try simp only [List.map_toArray, List.map_cons, List.map_nil]); first | done | rfl | (simp only [List.length_drop, List.length_take]; rfl)) ?_; (with_reducible refine (dendronlaw01_few.calls (fun k_ => k_ < w.heap.size) _ _ l0 40 t701 _ ?side1 A3.out).mono ?_); (case side1 => exact Kd.V_mk HC0.out (Kd.F_below (Kd.C_F (Kd.heap_int .u64) HR0.out) (by repeat (first | (with_reducible first | exact HB.out | apply below_alloc | apply pw_below_drewN | apply below_drew1) | exact HB.out)))); rintro e w119 ⟨v702, rfl, ho0, hb⟩; refine ⟨_, rfl, ?_⟩; have n0_ := Aside0.mk (Kd.V_lower (Kd.V_mono (ok' := fun k_ => True) ho0 (fun k_ hk_ => trivial)) (below_size (by repeat (first | (with_reducible first | exact HB.out | apply below_alloc | apply pw_below_drewN | apply below_drew1) | exact HB.out)))); have n1_ := Aside0.mk (below_step (by repeat (first | (with_reducible first | exact HB.out | apply below_alloc | apply pw_below_drewN | apply below_drew1) | exact HB.out)) hb); clear HB; have HO703 := n0_; have HB := n1_; clear n0_ n1_; (try clear hb); (try clear hb2); (try clear hk); (try clear hi); (try clear ho0)) | ((with_reducible refine gate_callee (f := 30) rfl ?_); refine goesL_ (some 12) rfl rfl Try.func30 (by kernel_rfl) rfl #[.slice A1 l1.length c1, .int .i64 40] rfl (by (try simp only [List.map_toArray, List.map_cons, List.map_nil]); first | done | rfl | (simp only [List.length_drop, List.length_take]; rfl)) ?_; (with_reducible refine (dendronlaw01_few.calls (fun k_ => k_ < w.heap.size) _ _ l1 40 t704 _ ?side1 A4.out).mono ?_); (case side1 => exact Kd.V_mk HC1.out (Kd.F_below (Kd.C_F (Kd.heap_int .u64) HR1.out) (by repeat (first | (with_reducible first | exact HB.out | apply below_alloc | apply pw_below_drewN | apply below_drew1) | exact HB.out)))); rintro e w120 ⟨v705, rfl, ho0, hb⟩; refine ⟨_, rfl, ?_⟩; have n0_ := Aside0.mk (Kd.V_below (by (with_reducible repeat (first | apply Kd.V_alloc | apply Kd.V_drewN | apply Kd.V_drew)); exact HO703.out) hb); have n1_ := Aside0.mk (Kd.V_lower (Kd.V_mono (ok' := fun k_ => True) ho0 (fun k_ hk_ => trivial)) (below_size (by repeat (first | (with_reducible first | exact HB.out | apply below_alloc | apply pw_below_drewN | apply below_drew1) | exact HB.out)))); have n2_ := Aside0.mk (below_step (by repeat (first | (with_reducible first | exact HB.out | apply below_alloc | apply pw_below_drewN | apply below_drew1) | exact HB.out)) hb); clear HO703; clear HB; have HO703 := n0_; have HO706 := n1_; have HB := n2_; clear n0_ n1_ n2_; (try clear hb); (try clear hb2); (try clear hk); (try clear hi); (try clear ho0); obtain ⟨Ao121, co121, eo121⟩ := Kd.V_slice HO703.out; subst eo121) | ((with_reducible refine gate_callee (f := 34) rfl ?_); refine goesL_ (some 14) rfl rfl Try.func34 (by kernel_rfl) rfl #[.slice Ao121 t701.length co121] rfl (by (try simp only [List.map_toArray, List.map_cons, List.map_nil]); first | done | rfl | (simp only [List.length_drop, List.length_take]; rfl)) ?_; (with_reducible refine (dendronref01_From.calls k _ _ t701 t707 _ ?side1 ?side2 A5.out).mono ?_); (case side1 => repeat (first | exact (Kd.V_reads' HO703.out).2.2 | (with_reducible refine Kd.C_alloc ?_ _) | (with_reducible refine Kd.C_drewN ?_ _) | (with_reducible refine Kd.C_drew ?_))); (case side2 => exact (Kd.V_reads' HO703.out).2.1); rintro e w122 ⟨v708, rfl, ho0, hb⟩; refine ⟨_, rfl, ?_⟩; have n0_ := Aside0.mk (Kd.V_elder' (by (with_reducible repeat (first | apply Kd.V_alloc | apply Kd.V_drewN | apply Kd.V_drew)); exact HO703.out) (Kd.R_base ho0) hb); have n1_ := Aside0.mk (Kd.V_elder' (by (with_reducible repeat (first | apply Kd.V_alloc | apply Kd.V_drewN | apply Kd.V_drew)); exact HO706.out) (Kd.R_base ho0) hb); have n2_ := Aside0.mk (Kd.R_lower ho0 (below_size (by repeat (first | (with_reducible first | exact HB.out | apply below_alloc | apply pw_below_drewN | apply below_drew1) | exact HB.out)))); have n3_ := Aside0.mk (below_step (by repeat (first | (with_reducible first | exact HB.out | apply below_alloc | apply pw_below_drewN | apply below_drew1) | exact HB.out)) hb); clear HO703; clear HO706; clear HB; have HO703 := n0_; have HO706 := n1_; have HO709 := n2_; have HB := n3_; clear n0_ n1_ n2_ n3_; (try clear hb); (try clear hb2); (try clear hk); (try clear hi); (try clear ho0); obtain ⟨Ao123, co123, eo123⟩ := Kd.V_slice HO706.out; subst eo123) | ((with_reducible refine gate_callee (f := 34) rfl ?_); refine goesL_ (some 16) rfl rfl Try.func34 (by kernel_rfl) rfl #[.slice Ao123 t704.length co123] rfl (by (try simp only [List.map_toArray, List.map_cons, List.map_nil]); first | done | rfl | (simp only [List.length_drop, List.length_take]; rfl)) ?_; (with_reducible refine (dendronref01_From.calls k _ _ t704 t710 _ ?side1 ?side2 A6.out).mono ?_); (case side1 => repeat (first | exact (Kd.V_reads' HO706.out).2.2 | (with_reducible refine Kd.C_alloc ?_ _) | (with_reducible refine Kd.C_drewN ?_ _) | (with_reducible refine Kd.C_drew ?_))); (case side2 => exact (Kd.V_reads' HO706.out).2.1); rintro e w124 ⟨v711, rfl, ho0, hb⟩; refine ⟨_, rfl, ?_⟩; have n0_ := Aside0.mk (Kd.V_elder' (by (with_reducible repeat (first | apply Kd.V_alloc | apply Kd.V_drewN | apply Kd.V_drew)); exact HO703.out) (Kd.R_base ho0) hb); have n1_ := Aside0.mk (Kd.V_elder' (by (with_reducible repeat (first | apply Kd.V_alloc | apply Kd.V_drewN | apply Kd.V_drew)); exact HO706.out) (Kd.R_base ho0) hb); have n2_ := Aside0.mk (Kd.R_elder' (by (with_reducible repeat (first | apply Kd.R_alloc | apply Kd.R_drewN | apply Kd.R_drew)); exact HO709.out) (Kd.R_base ho0) hb); have n3_ := Aside0.mk (Kd.R_lower (Kd.R_new' ho0 (Kd.R_lt (by (with_reducible repeat (first | apply Kd.R_alloc | apply Kd.R_drewN | apply Kd.R_drew)); exact HO709.out))) (below_size (by repeat (first | (with_reducible first | exact HB.out | apply below_alloc | apply pw_below_drewN | apply below_drew1) | exact HB.out)))); have n4_ := Aside0.mk (below_step (by repeat (first | (with_reducible first | exact HB.out | apply below_alloc | apply pw_below_drewN | apply below_drew1) | exact HB.out)) hb); clear HO703; clear HO706; clear HO709; clear HB; have HO703 := n0_; have HO706 := n1_; have HO709 := n2_; have HO712 := n3_; have HB := n4_; clear n0_ n1_ n2_ n3_ n4_; (try clear hb); (try clear hb2); (try clear hk); (try clear hi); (try clear ho0)) | ((with_reducible refine gate_callee (f := 55) rfl ?_); refine goesL_ (some 20) rfl rfl Try.func55 (by kernel_rfl) rfl #[.slice Ao121 t701.length co121, .slice Ao123 t704.length co123] rfl (by (try simp only [List.map_toArray, List.map_cons, List.map_nil]); first | done | rfl | (simp only [List.length_drop, List.length_take]; rfl)) ?_; (with_reducible refine (nat_Sub.calls k _ _ t701 _ _ t704 t713 t714 _ ?side1 ?side2 ?side3 ?side4 A7.out).mono ?_); (case side1 => repeat (first | exact (Kd.V_reads' HO703.out).2.2 | (with_reducible refine Kd.C_alloc ?_ _) | (with_reducible refine Kd.C_drewN ?_ _) | (with_reducible refine Kd.C_drew ?_))); (case side2 => exact (Kd.V_reads' HO703.out).2.1); (case side3 => repeat (first | exact (Kd.V_reads' HO706.out).2.2 | (with_reducible refine Kd.C_alloc ?_ _) | (with_reducible refine Kd.C_drewN ?_ _) | (with_reducible refine Kd.C_drew ?_))); (case side4 => exact (Kd.V_reads' HO706.out).2.1); rintro e w125 ⟨v715, rfl, ho0, hb⟩; refine ⟨_, rfl, ?_⟩; have n0_ := Aside0.mk (Kd.V_elder' (by (with_reducible repeat (first | apply Kd.V_alloc | apply Kd.V_drewN | apply Kd.V_drew)); exact HO703.out) (Kd.R_base ho0) hb); have n1_ := Aside0.mk (Kd.V_elder' (by (with_reducible repeat (first | apply Kd.V_alloc | apply Kd.V_drewN | apply Kd.V_drew)); exact HO706.out) (Kd.R_base ho0) hb); have n2_ := Aside0.mk (Kd.R_below (by (with_reducible repeat (first | apply Kd.R_alloc | apply Kd.R_drewN | apply Kd.R_drew)); exact HO709.out) hb); have n3_ := Aside0.mk (Kd.R_below (by (with_reducible repeat (first | apply Kd.R_alloc | apply Kd.R_drewN | apply Kd.R_drew)); exact HO712.out) hb); have n4_ := Aside0.mk (Kd.R_lower ho0 (below_size (by repeat (first | (with_reducible first | exact HB.out | apply below_alloc | apply pw_below_drewN | apply below_drew1) | exact HB.out)))); have n5_ := Aside0.mk (below_step (by repeat (first | (with_reducible first | exact HB.out | apply below_alloc | apply pw_below_drewN | apply below_drew1) | exact HB.out)) hb); clear HO703; clear HO706; clear HO709; clear HO712; clear HB; have HO703 := n0_; have HO706 := n1_; have HO709 := n2_; have HO712 := n3_; have HO716 := n4_; have HB := n5_; clear n0_ n1_ n2_ n3_ n4_ n5_; (try clear hb); (try clear hb2); (try clear hk); (try clear hi); (try clear ho0)) | ((with_reducible refine gate_callee (f := 52) rfl ?_); refine goesL_ (some 25) rfl rfl Try.func52 (by kernel_rfl) rfl #[.slice Ao121 t701.length co121, .slice Ao123 t704.length co123] rfl (by (try simp only [List.map_toArray, List.map_cons, List.map_nil]); first | done | rfl | (simp only [List.length_drop, List.length_take]; rfl)) ?_; (with_reducible refine (nat_Add.calls k _ _ t701 _ _ t704 t717 _ ?side1 ?side2 ?side3 ?side4 A8.out).mono ?_); (case side1 => repeat (first | exact (Kd.V_reads' HO703.out).2.2 | (with_reducible refine Kd.C_alloc ?_ _) | (with_reducible refine Kd.C_drewN ?_ _) | (with_reducible refine Kd.C_drew ?_))); (case side2 => exact (Kd.V_reads' HO703.out).2.1); (case side3 => repeat (first | exact (Kd.V_reads' HO706.out).2.2 | (with_reducible refine Kd.C_alloc ?_ _) | (with_reducible refine Kd.C_drewN ?_ _) | (with_reducible refine Kd.C_drew ?_))); (case side4 => exact (Kd.V_reads' HO706.out).2.1); rintro e w126 ⟨v718, rfl, ho0, hb⟩; refine ⟨_, rfl, ?_⟩; have n0_ := Aside0.mk (Kd.V_elder' (by (with_reducible repeat (first | apply Kd.V_alloc | apply Kd.V_drewN | apply Kd.V_drew)); exact HO703.out) (Kd.R_base ho0) hb); have n1_ := Aside0.mk (Kd.V_elder' (by (with_reducible repeat (first | apply Kd.V_alloc | apply Kd.V_drewN | apply Kd.V_drew)); exact HO706.out) (Kd.R_base ho0) hb); have n2_ := Aside0.mk (Kd.R_below (by (with_reducible repeat (first | apply Kd.R_alloc | apply Kd.R_drewN | apply Kd.R_drew)); exact HO709.out) hb); have n3_ := Aside0.mk (Kd.R_below (by (with_reducible repeat (first | apply Kd.R_alloc | apply Kd.R_drewN | apply Kd.R_drew)); exact HO712.out) hb); have n4_ := Aside0.mk (Kd.R_elder' (by (with_reducible repeat (first | apply Kd.R_alloc | apply Kd.R_drewN | apply Kd.R_drew)); exact HO716.out) (Kd.R_base ho0) hb); have n5_ := Aside0.mk (Kd.R_lower (Kd.R_new' ho0 (Kd.R_lt (by (with_reducible repeat (first | apply Kd.R_alloc | apply Kd.R_drewN | apply Kd.R_drew)); exact HO716.out))) (below_size (by repeat (first | (with_reducible first | exact HB.out | apply below_alloc | apply pw_below_drewN | apply below_drew1) | exact HB.out)))); have n6_ := Aside0.mk (below_step (by repeat (first | (with_reducible first | exact HB.out | apply below_alloc | apply pw_below_drewN | apply below_drew1) | exact HB.out)) hb); clear HO703; clear HO706; clear HO709; clear HO712; clear HO716; clear HB; have HO703 := n0_; have HO706 := n1_; have HO709 := n2_; have HO712 := n3_; have HO716 := n4_; have HO719 := n5_; have HB := n6_; clear n0_ n1_ n2_ n3_ n4_ n5_ n6_; (try clear hb); (try clear hb2); (try clear hk); (try clear hi); (try clear ho0); obtain ⟨Ao127, co127, eo127⟩ := Kd.R_slice HO709.out; subst eo127; obtain ⟨Ao128, co128, eo128⟩ := Kd.R_slice HO712.out; subst eo128) | ((with_reducible refine gate_callee (f := 56) rfl ?_); refine goesL_ (some 28) rfl rfl Try.func56 (by kernel_rfl) rfl #[.slice Ao127 t707.length co127, .slice Ao128 t710.length co128] rfl (by (try simp only [List.map_toArray, List.map_cons, List.map_nil]); first | done | rfl | (simp only [List.length_drop, List.length_take]; rfl)) ?_; (with_reducible refine (dendronref01_Plus.calls k _ _ t707 _ _ t710 t720 _ ?side1 ?side2 ?side3 ?side4 A9.out).mono ?_); (case side1 => repeat (first | exact (Kd.R_reads' HO709.out).2.2 | (with_reducible refine Kd.C_alloc ?_ _) | (with_reducible refine Kd.C_drewN ?_ _) | (with_reducible refine Kd.C_drew ?_))); (case side2 => exact (Kd.R_reads' HO709.out).2.1); (case side3 => repeat (first | exact (Kd.R_reads' HO712.out).2.2 | (with_reducible refine Kd.C_alloc ?_ _) | (with_reducible refine Kd.C_drewN ?_ _) | (with_reducible refine Kd.C_drew ?_))); (case side4 => exact (Kd.R_reads' HO712.out).2.1); rintro e w129 ⟨v721, rfl, ho0, hb⟩; refine ⟨_, rfl, ?_⟩; have n0_ := Aside0.mk (Kd.V_elder' (by (with_reducible repeat (first | apply Kd.V_alloc | apply Kd.V_drewN | apply Kd.V_drew)); exact HO703.out) (Kd.R_base ho0) hb); have n1_ := Aside0.mk (Kd.V_elder' (by (with_reducible repeat (first | apply Kd.V_alloc | apply Kd.V_drewN | apply Kd.V_drew)); exact HO706.out) (Kd.R_base ho0) hb); have n2_ := Aside0.mk (Kd.R_elder' (by (with_reducible repeat (first | apply Kd.R_alloc | apply Kd.R_drewN | apply Kd.R_drew)); exact HO709.out) (Kd.R_base ho0) hb); have n3_ := Aside0.mk (Kd.R_elder' (by (with_reducible repeat (first | apply Kd.R_alloc | apply Kd.R_drewN | apply Kd.R_drew)); exact HO712.out) (Kd.R_base ho0) hb); have n4_ := Aside0.mk (Kd.R_below (by (with_reducible repeat (first | apply Kd.R_alloc | apply Kd.R_drewN | apply Kd.R_drew)); exact HO716.out) hb); have n5_ := Aside0.mk (Kd.R_below (by (with_reducible repeat (first | apply Kd.R_alloc | apply Kd.R_drewN | apply Kd.R_drew)); exact HO719.out) hb); have n6_ := Aside0.mk (Kd.R_lower (Kd.R_new' (Kd.R_new' ho0 (Kd.R_lt (by (with_reducible repeat (first | apply Kd.R_alloc | apply Kd.R_drewN | apply Kd.R_drew)); exact HO709.out))) (Kd.R_lt (by (with_reducible repeat (first | apply Kd.R_alloc | apply Kd.R_drewN | apply Kd.R_drew)); exact HO712.out))) (below_size (by repeat (first | (with_reducible first | exact HB.out | apply below_alloc | apply pw_below_drewN | apply below_drew1) | exact HB.out)))); have n7_ := Aside0.mk (below_step (by repeat (first | (with_reducible first | exact HB.out | apply below_alloc | apply pw_below_drewN | apply below_drew1) | exact HB.out)) hb); clear HO703; clear HO706; clear HO709; clear HO712; clear HO716; clear HO719; clear HB; have HO703 := n0_; have HO706 := n1_; have HO709 := n2_; have HO712 := n3_; have HO716 := n4_; have HO719 := n5_; have HO722 := n6_; have HB := n7_; clear n0_ n1_ n2_ n3_ n4_ n5_ n6_ n7_; (try clear hb); (try clear hb2); (try clear hk); (try clear hi); (try clear ho0); obtain ⟨Ao130, co130, eo130⟩ := Kd.R_slice HO719.out; subst eo130; obtain ⟨Ao131, co131, eo131⟩ := Kd.R_slice HO722.out; subst eo131) | ((with_reducible refine gate_callee (f := 31) rfl ?_); refine goesL_ (some 29) rfl rfl Try.func31 (by kernel_rfl) rfl #[.slice Ao130 t717.length co130, .slice Ao131 t720.length co131] rfl (by (try simp only [List.map_toArray, List.map_cons, List.map_nil]); first | done | rfl | (simp only [List.length_drop, List.length_take]; rfl)) ?_; (with_reducible refine (dendronref01_Is.calls k _ _ t717 _ _ t720 false _ ?side1 ?side2 ?side3 ?side4 A10.out).mono ?_); (case side1 => repeat (first | exact (Kd.R_reads' HO719.out).2.2 | (with_reducible refine Kd.C_alloc ?_ _) | (with_reducible refine Kd.C_drewN ?_ _) | (with_reducible refine Kd.C_drew ?_))); (case side2 => exact (Kd.R_reads' HO719.out).2.1); (case side3 => repeat (first | exact (Kd.R_reads' HO722.out).2.2 | (with_reducible refine Kd.C_alloc ?_ _) | (with_reducible refine Kd.C_drewN ?_ _) | (with_reducible refine Kd.C_drew ?_))); (case side4 => exact (Kd.R_reads' HO722.out).2.1); rintro e w132 ⟨rfl, hb⟩; refine ⟨_, rfl, ?_⟩; have n0_ := Aside0.mk (Kd.V_below (by (with_reducible repeat (first | apply Kd.V_alloc | apply Kd.V_drewN | apply Kd.V_drew)); exact HO703.out) hb); have n1_ := Aside0.mk (Kd.V_below (by (with_reducible repeat (first | apply Kd.V_alloc | apply Kd.V_drewN | apply Kd.V_drew)); exact HO706.out) hb); have n2_ := Aside0.mk (Kd.R_below (by (with_reducible repeat (first | apply Kd.R_alloc | apply Kd.R_drewN | apply Kd.R_drew)); exact HO709.out) hb); have n3_ := Aside0.mk (Kd.R_below (by (with_reducible repeat (first | apply Kd.R_alloc | apply Kd.R_drewN | apply Kd.R_drew)); exact HO712.out) hb); have n4_ := Aside0.mk (Kd.R_below (by (with_reducible repeat (first | apply Kd.R_alloc | apply Kd.R_drewN | apply Kd.R_drew)); exact HO716.out) hb); have n5_ := Aside0.mk (Kd.R_below (by (with_reducible repeat (first | apply Kd.R_alloc | apply Kd.R_drewN | apply Kd.R_drew)); exact HO719.out) hb); have n6_ := Aside0.mk (Kd.R_below (by (with_reducible repeat (first | apply Kd.R_alloc | apply Kd.R_drewN | apply Kd.R_drew)); exact HO722.out) hb); have n7_ := Aside0.mk (below_step (by repeat (first | (with_reducible first | exact HB.out | apply below_alloc | apply pw_below_drewN | apply below_drew1) | exact HB.out)) hb); clear HO703; clear HO706; clear HO709; clear HO712; clear HO716; clear HO719; clear HO722; clear HB; have HO703 := n0_; have HO706 := n1_; have HO709 := n2_; have HO712 := n3_; have HO716 := n4_; have HO719 := n5_; have HO722 := n6_; have HB := n7_; clear n0_ n1_ n2_ n3_ n4_ n5_ n6_ n7_; (try clear hb); (try clear hb2); (try clear hk); (try clear hi)))
    go_ret
    exact ⟨by first | rfl | (simp [errW_none, errW_some] <;> rfl) | (simp [*, errW_none, errW_some] <;> rfl), by repeat (first | (with_reducible first | exact HB.out | apply below_alloc | apply pw_below_drewN | apply below_drew1) | exact HB.out)⟩
def dendronlaw01_NatSums.Pure : Prop := ∀ (l0 : List Int) (l1 : List Int), l0.length ≤ maxLen → l0.length * 8 ≤ 140737488351232 → (∀ x ∈ l0, (Lit.int .u64 x).wf = true) → l1.length ≤ maxLen → l1.length * 8 ≤ 140737488351232 → (∀ x ∈ l1, (Lit.int .u64 x).wf = true) → ∃ k, dendronlaw01_NatSums.f k l0 l1 = some true
theorem dendronlaw01_NatSums.walk (P : dendronlaw01_NatSums.Pure) (a0 : Option Addr) (len0 cap0 : Nat) (z0 : List Int) (a1 : Option Addr) (len1 cap1 : Nat) (z1 : List Int) (w : World) (w0 : (a0 = none ∧ len0 = 0 ∧ cap0 = 0 ∧ z0 = []) ∨ ∃ x, a0 = some x ∧ len0 ≤ cap0 ∧ cap0 ≤ maxLen ∧ z0.length = cap0 ∧ (∀ i, i < z0.length → w.cell? (x.add i) = some (.int .u64 (z0.getD i 0))) ∧ ∀ n ∈ z0, (Lit.int .u64 n).wf = true) (y0 : len0 * 8 ≤ 140737488351232) (w1 : (a1 = none ∧ len1 = 0 ∧ cap1 = 0 ∧ z1 = []) ∨ ∃ x, a1 = some x ∧ len1 ≤ cap1 ∧ cap1 ≤ maxLen ∧ z1.length = cap1 ∧ (∀ i, i < z1.length → w.cell? (x.add i) = some (.int .u64 (z1.getD i 0))) ∧ ∀ n ∈ z1, (Lit.int .u64 n).wf = true) (y1 : len1 * 8 ≤ 140737488351232) :
    Calls Try.prog 16 #[.slice a0 len0 cap0, .slice a1 len1 cap1] w fun e w' => e = .returned (.bool true) ∧ Below w.heap.size w w' := by
  obtain ⟨l0, rfl, hr0, hm0, hw0, hc0⟩ := ReadsInt.ofRowC w0
  obtain ⟨l1, rfl, hr1, hm1, hw1, hc1⟩ := ReadsInt.ofRowC w1
  obtain ⟨k, h⟩ := P l0 l1 hm0 y0 hw0 hm1 y1 hw1
  refine (dendronlaw01_NatSums.calls k _ _ l0 _ _ l1 true w (Kd.C_of_reads (d := (0 : Int)) (h1 := fun _ => rfl) hr0) hc0 (Kd.C_of_reads (d := (0 : Int)) (h1 := fun _ => rfl) hr1) hc1 h).mono ?_
  rintro e w' ⟨rfl, hd⟩
  exact ⟨rfl, hd⟩
end Go.Proofs.Ytfnhpojoaaegmaa.P
set_option linter.unusedVariables false
set_option linter.unusedSimpArgs false
namespace Dg
def vl (B : Int) : List Int → Int
  | [] => 0
  | x :: r => x + B * vl B r
def Dig (B : Int) (l : List Int) : Prop := ∀ x, x ∈ l → 0 ≤ x ∧ x < B
def dg (B : Nat) (n : Nat) : List Int :=
  if h : n = 0 ∨ B < 2 then [] else ((n % B : Nat) : Int) :: dg B (n / B)
termination_by n
decreasing_by exact Nat.div_lt_self (by omega) (by omega)
theorem dg_zero (B : Nat) : dg B 0 = [] := by unfold dg; simp
theorem dg_succ {B n : Nat} (hB : 2 ≤ B) (hn : n ≠ 0) : dg B n = ((n % B : Nat) : Int) :: dg B (n / B) := by
  conv => lhs; unfold dg
  rw [dif_neg (by omega)]
theorem vl_append (B : Int) (l m : List Int) : vl B (l ++ m) = vl B l + B ^ l.length * vl B m := by
  induction l with
  | nil => simp [vl]
  | cons x r ih => simp only [List.cons_append, vl, ih, List.length_cons, Int.pow_succ]; grind
theorem vl_take_succ (B : Int) (l : List Int) (n : Nat) : vl B (l.take (n + 1)) = vl B (l.take n) + l.getD n 0 * B ^ n := by
  induction l generalizing n with
  | nil => simp [vl]
  | cons x r ih =>
    cases n with
    | zero => simp [vl]
    | succ n => simp only [List.take_succ_cons, vl, ih, List.getD_cons_succ, Int.pow_succ]; grind
theorem vl_drop_succ (B : Int) (l : List Int) (n : Nat) : vl B (l.drop n) = l.getD n 0 + B * vl B (l.drop (n + 1)) := by
  induction l generalizing n with
  | nil => simp [vl]
  | cons x r ih =>
    cases n with
    | zero => simp [vl]
    | succ n => simpa using ih n
theorem vl_take_drop (B : Int) (l : List Int) (n : Nat) : vl B l = vl B (l.take n) + B ^ n * vl B (l.drop n) := by
  induction n with
  | zero => simp [vl]
  | succ n ih => rw [vl_take_succ, ih, vl_drop_succ B l n, Int.pow_succ]; grind
theorem vl_take_set (B : Int) (l : List Int) (i n : Nat) (v : Int) (h : n ≤ i) : vl B ((l.set i v).take n) = vl B (l.take n) := by
  rw [List.take_set_of_le h]
theorem getD_set (l : List Int) (i j : Nat) (v : Int) (h : i < l.length) : (l.set i v).getD j 0 = if i = j then v else l.getD j 0 := by
  simp only [List.getD_eq_getElem?_getD, List.getElem?_set]
  split
  · rename_i h1; subst h1; simp
  · rfl
theorem vl_drop_set (B : Int) (l : List Int) (i n : Nat) (v : Int) (h : i < n) : vl B ((l.set i v).drop n) = vl B (l.drop n) := by
  rw [List.drop_set_of_lt h]
theorem vl_set (B : Int) (l : List Int) (i : Nat) (v : Int) (h : i < l.length) : vl B (l.set i v) = vl B l + (v - l.getD i 0) * B ^ i := by
  rw [vl_take_drop B (l.set i v) i, vl_take_drop B l i, vl_take_set _ _ _ _ _ (Nat.le_refl _), vl_drop_succ, vl_drop_succ B l i, vl_drop_set _ _ _ _ _ (Nat.lt_succ_self _), getD_set _ _ _ _ h]
  grind
theorem Dig.getD {B : Int} {l : List Int} (h : Dig B l) (hB : 0 < B) (n : Nat) : 0 ≤ l.getD n 0 ∧ l.getD n 0 < B := by
  rw [List.getD_eq_getElem?_getD]
  rcases Nat.lt_or_ge n l.length with hn | hn
  · rw [List.getElem?_eq_getElem hn]; exact h _ (List.getElem_mem hn)
  · rw [List.getElem?_eq_none hn]; simp; exact hB
theorem Dig.take {B : Int} {l : List Int} (h : Dig B l) (n : Nat) : Dig B (l.take n) := fun x hx => h x (List.mem_of_mem_take hx)
theorem Dig.drop {B : Int} {l : List Int} (h : Dig B l) (n : Nat) : Dig B (l.drop n) := fun x hx => h x (List.mem_of_mem_drop hx)
theorem Dig.set {B : Int} {l : List Int} (h : Dig B l) (n : Nat) {v : Int} (h0 : 0 ≤ v) (h1 : v < B) : Dig B (l.set n v) := by
  intro x hx
  rcases List.mem_or_eq_of_mem_set hx with hx | rfl
  · exact h x hx
  · exact ⟨h0, h1⟩
theorem Dig.nil {B : Int} : Dig B [] := fun x hx => by simp at hx
theorem Dig.cons {B x : Int} {r : List Int} (h0 : 0 ≤ x) (h1 : x < B) (h : Dig B r) : Dig B (x :: r) := by
  intro y hy
  rcases List.mem_cons.1 hy with rfl | hy
  · exact ⟨h0, h1⟩
  · exact h y hy
theorem Dig.append {B : Int} {l m : List Int} (h : Dig B l) (k : Dig B m) : Dig B (l ++ m) := by
  intro y hy
  rcases List.mem_append.1 hy with hy | hy
  · exact h y hy
  · exact k y hy
theorem Dig.replicate {B : Int} (hB : 0 < B) (n : Nat) : Dig B (List.replicate n 0) := by
  intro y hy
  rw [List.mem_replicate] at hy
  omega
theorem vl_nonneg {B : Int} {l : List Int} (h : Dig B l) (hB : 0 < B) : 0 ≤ vl B l := by
  induction l with
  | nil => simp [vl]
  | cons x r ih =>
    have h1 := h x (by simp)
    have h2 := ih (fun y hy => h y (by simp [hy]))
    have := Int.mul_nonneg (Int.le_of_lt hB) h2
    simp only [vl]; omega
theorem vl_lt {B : Int} {l : List Int} (h : Dig B l) (hB : 0 < B) : vl B l < B ^ l.length := by
  induction l with
  | nil => simp [vl]
  | cons x r ih =>
    have h1 := h x (by simp)
    have h2 := ih (fun y hy => h y (by simp [hy]))
    have h3 : B * (vl B r + 1) ≤ B * B ^ r.length := Int.mul_le_mul_of_nonneg_left (by omega) (by omega)
    rw [List.length_cons, Int.pow_succ, Int.mul_comm _ B]
    simp only [vl]
    have h4 : B * (vl B r + 1) = B * vl B r + B := by grind
    omega
theorem vl_replicate_zero (B : Int) (n : Nat) : vl B (List.replicate n 0) = 0 := by
  induction n with
  | zero => rfl
  | succ n ih => rw [List.replicate_succ, vl, ih]; simp
theorem dg_dig {B : Nat} (hB : 2 ≤ B) (n : Nat) : Dig B (dg B n) := by
  induction n using Nat.strongRecOn with
  | _ n ih =>
    by_cases hn : n = 0
    · subst hn; rw [dg_zero]; exact Dig.nil
    · rw [dg_succ hB hn]
      have := Nat.mod_lt n (show 0 < B by omega)
      exact Dig.cons (by omega) (by omega) (ih _ (Nat.div_lt_self (by omega) (by omega)))
theorem vl_dg {B : Nat} (hB : 2 ≤ B) (n : Nat) : vl B (dg B n) = n := by
  induction n using Nat.strongRecOn with
  | _ n ih =>
    by_cases hn : n = 0
    · subst hn; rw [dg_zero]; rfl
    · rw [dg_succ hB hn, vl, ih _ (Nat.div_lt_self (by omega) (by omega))]
      have := Nat.mod_add_div n B
      exact_mod_cast this
def Top (l : List Int) : Prop := l ≠ [] → l.getD (l.length - 1) 0 ≠ 0
theorem Top.nil : Top [] := fun h => absurd rfl h
theorem Top.tail {x y : Int} {r : List Int} (h : Top (x :: y :: r)) : Top (y :: r) := by
  intro _
  have := h (by simp)
  simpa using this
theorem dg_vl {B : Nat} (hB : 2 ≤ B) {l : List Int} (hd : Dig B l) (ht : Top l) : dg B (vl B l).toNat = l := by
  induction l with
  | nil => simp [vl, dg_zero]
  | cons x r ih =>
    have h1 := hd x (by simp)
    have hr : Dig B r := fun y hy => hd y (by simp [hy])
    have hn := vl_nonneg hr (by omega)
    obtain ⟨v, hv⟩ := Int.eq_ofNat_of_zero_le hn
    obtain ⟨y, rfl⟩ := Int.eq_ofNat_of_zero_le h1.1
    have hyB : y < B := by omega
    have htr : Top r := by
      cases r with
      | nil => exact Top.nil
      | cons z r => exact ht.tail
    have ih := ih hr htr
    rw [hv] at ih
    have hval : (vl B ((y : Int) :: r)).toNat = y + B * v := by
      rw [vl, hv]; norm_cast
    rw [hval]
    have hne : y + B * v ≠ 0 := by
      cases r with
      | nil =>
        have := ht (by simp)
        simp at this
        omega
      | cons z r =>
        intro h0
        have hv0 : v = 0 := by
          have : B * v = 0 := by omega
          rcases Nat.mul_eq_zero.1 this with h | h <;> omega
        subst hv0
        simp [dg_zero] at ih
    have hm : (y + B * v) % B = y := by rw [Nat.add_mul_mod_self_left, Nat.mod_eq_of_lt hyB]
    have hq : (y + B * v) / B = v := by rw [Nat.add_mul_div_left _ _ (by omega), Nat.div_eq_of_lt hyB, Nat.zero_add]
    rw [dg_succ hB hne, hm, hq]
    have : (v : Int).toNat = v := by simp
    rw [this] at ih
    rw [ih]
theorem dg_top {B : Nat} (hB : 2 ≤ B) (n : Nat) : Top (dg B n) := by
  induction n using Nat.strongRecOn with
  | _ n ih =>
    by_cases hn : n = 0
    · subst hn; rw [dg_zero]; exact Top.nil
    · rw [dg_succ hB hn]
      intro _
      have hlt := Nat.div_lt_self (n := n) (k := B) (by omega) (by omega)
      by_cases h0 : n / B = 0
      · rw [h0, dg_zero]
        simp
        have := Nat.mod_add_div n B
        rw [h0] at this
        omega
      · have h2 := ih _ hlt
        rw [dg_succ hB h0] at h2 ⊢
        have := h2 (by simp)
        simpa using this
theorem top_unique {B : Nat} (hB : 2 ≤ B) {l m : List Int} (hl : Dig B l) (hm : Dig B m) (tl : Top l) (tm : Top m) (h : vl B l = vl B m) : l = m := by
  rw [← dg_vl hB hl tl, ← dg_vl hB hm tm, h]
end Dg
namespace Go.Proofs.Ytfnhpojoaaegmaa.V
open Go.RowKit Go.Proofs.YtfnhpojoaaegmaaW.PrintWords
section
variable {α β : Type} {r : α}
theorem Ev.succ {g : Nat → Option α} (h : Ev (fun k => g (k + 1)) r) : Ev g r := Ev.step (fun _ => rfl) h
theorem Ev.pos {c : Prop} [Decidable c] {A B : Nat → Option α} (h : c) (hA : Ev A r) : Ev (fun k => if c then A k else B k) r := by simpa only [if_pos h] using hA
theorem Ev.neg {c : Prop} [Decidable c] {A B : Nat → Option α} (h : ¬ c) (hB : Ev B r) : Ev (fun k => if c then A k else B k) r := by simpa only [if_neg h] using hB
theorem Ev.ret (r : α) : Ev (fun _ => some r) r := Ev.now r
theorem Ev.bind1 {β : Type} {q : β} {g : Option α} {f : Nat → α → Option β} (h : g = some r) (k : Ev (fun n => f n r) q) : Ev (fun n => g.bind (f n)) q := by subst h; exact k
theorem Ev.ex {g : Nat → Option α} (h : Ev g r) : ∃ k, g k = some r := Ev.rounds h
theorem Ev.eq {g : Nat → Option α} {q : α} (h : Ev g r) (e : r = q) : Ev g q := e ▸ h
end
theorem w64 {x : Int} (h0 : -9223372036854775808 ≤ x) (h1 : x ≤ 9223372036854775807) : wrap64 x = x := by unfold wrap64; omega
theorem w64add {i m : Nat} (h : i + m ≤ 9223372036854775807) : wrap64 ((i : Int) + (m : Int)) = ((i + m : Nat) : Int) := by rw [w64 (by omega) (by omega)]; omega
theorem w64succ {i : Nat} (h : i + 1 ≤ 9223372036854775807) : wrap64 ((i : Int) + 1) = ((i + 1 : Nat) : Int) := by rw [w64 (by omega) (by omega)]; omega
theorem w64pred {i : Nat} (h : i ≤ 9223372036854775807) : wrap64 ((i : Int) - 1) = (i : Int) - 1 := w64 (by omega) (by omega)
theorem u64w {x : Int} (h0 : 0 ≤ x) (h1 : x ≤ 18446744073709551615) : IntKind.u64.wrap x = x := by
  have : IntKind.u64.wrap x = x % 18446744073709551616 := by simp [IntKind.wrap, IntKind.bits, IntKind.signed]
  rw [this]; omega
theorem u64m (x : Int) : IntKind.u64.wrap x = x % 18446744073709551616 := by simp [IntKind.wrap, IntKind.bits, IntKind.signed]
theorem u64_id (n : Int) (h₀ : 0 ≤ n) (h₁ : n < 2 ^ 64) : IntKind.u64.wrap n = n := by rw [u64m]; omega
theorem and32 {x : Int} (h0 : 0 ≤ x) (h1 : x ≤ 18446744073709551615) : Go.bits .and .u64 x 4294967295 = x % 4294967296 :=
  bits_mask .u64 64 (by decide) u64_id 32 (by decide) x h0 (by omega)
theorem wf_u64 {x : Int} (h : (Lit.int .u64 x).wf = true) : 0 ≤ x ∧ x ≤ 18446744073709551615 := by
  simp [Lit.wf, IntKind.min, IntKind.max, IntKind.signed, IntKind.bits] at h
  omega
theorem rd_nat (l : List Int) (n : Nat) : rd l (n : Int) = l.getD n 0 := by unfold rd; rw [Int.toNat_natCast]
theorem rd_add (l : List Int) (i m : Nat) : rd l ((i : Int) + (m : Int)) = l.getD (i + m) 0 := by rw [← Int.natCast_add]; exact rd_nat _ _
theorem tn_add (i m : Nat) : ((i : Int) + (m : Int)).toNat = i + m := by omega
def D (n : Nat) : List Int := Dg.dg 4294967296 n
def E (n : Nat) : List Int := Dg.dg 10000 n
def W (l : List Int) : Nat := (Dg.vl 4294967296 (l.map (· % 4294967296))).toNat
def U (l : List Int) : Prop := ∀ x, x ∈ l → 0 ≤ x ∧ x ≤ 18446744073709551615
theorem D_dig (n : Nat) : Dg.Dig 4294967296 (D n) := Dg.dg_dig (by decide) n
theorem E_dig (n : Nat) : Dg.Dig 10000 (E n) := Dg.dg_dig (by decide) n
theorem D_top (n : Nat) : Dg.Top (D n) := Dg.dg_top (by decide) n
theorem E_top (n : Nat) : Dg.Top (E n) := Dg.dg_top (by decide) n
theorem D_vl (n : Nat) : Dg.vl 4294967296 (D n) = n := Dg.vl_dg (by decide) n
theorem E_vl (n : Nat) : Dg.vl 10000 (E n) = n := Dg.vl_dg (by decide) n
theorem D_U (n : Nat) : U (D n) := fun x hx => by have := D_dig n x hx; omega
theorem D_zero : D 0 = [] := Dg.dg_zero _
theorem E_zero : E 0 = [] := Dg.dg_zero _
theorem map_mod_dig {l : List Int} (h : Dg.Dig 4294967296 l) : l.map (· % 4294967296) = l := by
  conv => rhs; rw [← List.map_id l]
  apply List.map_congr_left
  intro x hx
  have := h x hx
  simp only [id]
  omega
theorem W_dig {l : List Int} (h : Dg.Dig 4294967296 l) : (W l : Int) = Dg.vl 4294967296 l := by
  unfold W
  rw [map_mod_dig h]
  have := Dg.vl_nonneg h (by decide)
  omega
theorem W_D (n : Nat) : W (D n) = n := by
  have := W_dig (D_dig n)
  rw [D_vl] at this
  omega
theorem map_dig (l : List Int) : Dg.Dig 4294967296 (l.map (· % 4294967296)) := by
  intro x hx
  obtain ⟨y, _, rfl⟩ := List.mem_map.1 hx
  omega
theorem W_map (l : List Int) : (W l : Int) = Dg.vl 4294967296 (l.map (· % 4294967296)) := by
  unfold W
  have := Dg.vl_nonneg (map_dig l) (by decide)
  omega
theorem W_nil : W [] = 0 := by simp [W, Dg.vl]
theorem D_of {l : List Int} (hd : Dg.Dig 4294967296 l) (ht : Dg.Top l) {n : Nat} (hv : Dg.vl 4294967296 l = n) : l = D n :=
  Dg.top_unique (B := 4294967296) (by decide) hd (D_dig n) ht (D_top n) (hv.trans (D_vl n).symm)
theorem E_of {l : List Int} (hd : Dg.Dig 10000 l) (ht : Dg.Top l) {n : Nat} (hv : Dg.vl 10000 l = n) : l = E n :=
  Dg.top_unique (B := 10000) (by decide) hd (E_dig n) ht (E_top n) (hv.trans (E_vl n).symm)
theorem len_lt (B : Nat) (hB : 2 ≤ B) (n : Nat) : n < B ^ (Dg.dg B n).length := by
  have h := Dg.vl_lt (Dg.dg_dig hB n) (by omega)
  rw [Dg.vl_dg hB] at h
  exact_mod_cast h
theorem len_le_of_lt (B : Nat) (hB : 2 ≤ B) {n k : Nat} (h : n < B ^ k) : (Dg.dg B n).length ≤ k := by
  induction k generalizing n with
  | zero =>
    have : n = 0 := by simpa using h
    subst this
    rw [Dg.dg_zero]
    simp
  | succ k ih =>
    by_cases hn : n = 0
    · subst hn
      rw [Dg.dg_zero]
      simp
    · rw [Dg.dg_succ hB hn, List.length_cons]
      have : n / B < B ^ k := by
        rw [Nat.div_lt_iff_lt_mul (by omega)]
        rw [Nat.pow_succ] at h
        exact h
      have := ih this
      omega
theorem len_mono (B : Nat) (hB : 2 ≤ B) {m n : Nat} (h : m ≤ n) : (Dg.dg B m).length ≤ (Dg.dg B n).length :=
  len_le_of_lt B hB (Nat.lt_of_le_of_lt h (len_lt B hB n))
theorem len_lt_imp (B : Nat) (hB : 2 ≤ B) {m n : Nat} (h : (Dg.dg B m).length < (Dg.dg B n).length) : m < n := by
  apply Classical.byContradiction
  intro hc
  have := len_mono B hB (Nat.le_of_not_lt hc)
  omega
def L (n : Nat) : Nat := (D n).length
def LE (n : Nat) : Nat := (E n).length
theorem L_lt (n : Nat) : n < 4294967296 ^ L n := len_lt _ (by decide) n
theorem L_le {n k : Nat} (h : n < 4294967296 ^ k) : L n ≤ k := len_le_of_lt _ (by decide) h
theorem L_mono {m n : Nat} (h : m ≤ n) : L m ≤ L n := len_mono _ (by decide) h
theorem LE_lt (n : Nat) : n < 10000 ^ LE n := len_lt _ (by decide) n
theorem LE_le {n k : Nat} (h : n < 10000 ^ k) : LE n ≤ k := len_le_of_lt _ (by decide) h
theorem LE_mono {m n : Nat} (h : m ≤ n) : LE m ≤ LE n := len_mono _ (by decide) h
theorem add_lt_pow (B : Nat) (hB : 2 ≤ B) {a b i j : Nat} (ha : a < B ^ i) (hb : b < B ^ j) : a + b < B ^ (max i j + 1) := by
  have h1 : B ^ i ≤ B ^ max i j := Nat.pow_le_pow_right (by omega) (Nat.le_max_left _ _)
  have h2 : B ^ j ≤ B ^ max i j := Nat.pow_le_pow_right (by omega) (Nat.le_max_right _ _)
  rw [Nat.pow_succ]
  have h3 : B ^ max i j * 2 ≤ B ^ max i j * B := Nat.mul_le_mul_left _ hB
  omega
theorem mul_lt_pow (B : Nat) (hB : 2 ≤ B) {a b i j : Nat} (ha : a < B ^ i) (hb : b < B ^ j) : a * b < B ^ (i + j) := by
  rw [Nat.pow_add]
  rcases Nat.eq_zero_or_pos b with h | h
  · subst h
    rw [Nat.mul_zero]
    exact Nat.mul_pos (Nat.pow_pos (by omega)) (Nat.pow_pos (by omega))
  · exact Nat.lt_of_lt_of_le ((Nat.mul_lt_mul_right h).2 ha) (Nat.mul_le_mul_left _ (Nat.le_of_lt hb))
theorem L_add (a b : Nat) : L (a + b) ≤ max (L a) (L b) + 1 := L_le (add_lt_pow _ (by decide) (L_lt a) (L_lt b))
theorem LE_mul (a b : Nat) : LE (a * b) ≤ LE a + LE b := LE_le (mul_lt_pow _ (by decide) (LE_lt a) (LE_lt b))
theorem L_W (l : List Int) : L (W l) ≤ l.length := by
  apply L_le
  have := Dg.vl_lt (map_dig l) (by decide)
  rw [← W_map, List.length_map, show (4294967296 : Int) = ((4294967296 : Nat) : Int) from rfl, ← Int.natCast_pow] at this
  exact Int.ofNat_lt.1 this
def cmp (a b : Int) : Int := if a < b then -1 else if b < a then 1 else 0
theorem cmp_lt {a b : Int} (h : a < b) : cmp a b = -1 := by unfold cmp; rw [if_pos h]
theorem cmp_gt {a b : Int} (h : b < a) : cmp a b = 1 := by unfold cmp; rw [if_neg (by omega), if_pos h]
theorem cmp_lt_iff {a b : Int} : cmp a b < 0 ↔ a < b := by unfold cmp; split <;> (try split) <;> omega
theorem cmp_eq_iff {a b : Int} : cmp a b = 0 ↔ a = b := by unfold cmp; split <;> (try split) <;> omega
theorem cmp_top {B : Nat} {a b x y P : Int} (ha0 : 0 ≤ a) (ha : a < P) (hb0 : 0 ≤ b) (hb : b < P) (h : x < y) : a + x * P < b + y * P := by
  have : (x + 1) * P ≤ y * P := Int.mul_le_mul_of_nonneg_right (by omega) (by omega)
  rw [Int.add_mul] at this
  omega
end Go.Proofs.Ytfnhpojoaaegmaa.V
set_option linter.unusedVariables false
set_option linter.unusedSimpArgs false
namespace Go.Proofs.Ytfnhpojoaaegmaa.V
open Go.RowKit Go.Proofs.Ytfnhpojoaaegmaa.P Go.Proofs.YtfnhpojoaaegmaaW.PrintWords
theorem top_take {l : List Int} {n : Nat} (hn : n < l.length) (h : l.getD n 0 ≠ 0) : Dg.Top (l.take (n + 1)) := by
  intro _
  have hl : (l.take (n + 1)).length = n + 1 := by rw [List.length_take]; omega
  rw [hl, Nat.add_sub_cancel]
  rw [List.getD_eq_getElem?_getD, List.getElem?_take_of_lt (by omega), ← List.getD_eq_getElem?_getD]
  exact h
theorem nat_trim_l0 {l : List Int} (hd : Dg.Dig 4294967296 l) (hl : l.length ≤ 35184372088832) : ∀ n : Nat, n ≤ l.length →
    Ev (fun k => nat_trim.l0 k l (n : Int)) (D (Dg.vl 4294967296 (l.take n)).toNat) := by
  intro n
  induction n with
  | zero =>
    intro _
    refine Ev.succ ?_
    simp (disch := omega) only [nat_trim.l0, if_pos, if_neg]
    simp only [List.take_zero, Dg.vl, Int.toNat_zero, D_zero]
    exact Ev.ret _
  | succ n ih =>
    intro hn
    have e : wrap64 (((n + 1 : Nat) : Int) - 1) = (n : Int) := by rw [w64 (by omega) (by omega)]; omega
    refine Ev.succ ?_
    simp (disch := omega) only [nat_trim.l0, e, if_pos, if_neg, rd_nat]
    by_cases h : l.getD n 0 = 0
    · simp only [h, if_true]
      refine Ev.eq (ih (by omega)) ?_
      rw [Dg.vl_take_succ, h]
      simp
    · simp only [h, if_false]
      refine Ev.eq (Ev.ret _) ?_
      rw [Int.toNat_natCast]
      have hdd := hd.take (n + 1)
      refine D_of hdd (top_take (by omega) h) ?_
      have := Dg.vl_nonneg hdd (by decide)
      omega
theorem nat_trim_f {l : List Int} (hd : Dg.Dig 4294967296 l) (hl : l.length ≤ 35184372088832) {n : Nat} (hv : Dg.vl 4294967296 l = n) : Ev (fun k => nat_trim.f k l) (D n) := by
  have := nat_trim_l0 hd hl l.length (Nat.le_refl _)
  rw [List.take_length, hv, Int.toNat_natCast] at this
  exact this
theorem ref_Trim_l0 {l : List Int} (hd : Dg.Dig 10000 l) (hl : l.length ≤ 35184372088832) : ∀ n : Nat, n ≤ l.length →
    Ev (fun k => dendronref01_Trim.l0 k l (n : Int)) (E (Dg.vl 10000 (l.take n)).toNat) := by
  intro n
  induction n with
  | zero =>
    intro _
    refine Ev.succ ?_
    simp (disch := omega) only [dendronref01_Trim.l0, if_pos, if_neg]
    refine Ev.eq (Ev.ret _) ?_
    simp only [List.take_zero, Dg.vl, Int.toNat_zero, E_zero, Int.ofNat_zero, Int.toNat_natCast]
  | succ n ih =>
    intro hn
    have e : wrap64 (((n + 1 : Nat) : Int) - 1) = (n : Int) := by rw [w64 (by omega) (by omega)]; omega
    refine Ev.succ ?_
    simp (disch := omega) only [dendronref01_Trim.l0, e, if_pos, if_neg, rd_nat]
    by_cases h : l.getD n 0 = 0
    · simp only [h, if_true]
      refine Ev.eq (ih (by omega)) ?_
      rw [Dg.vl_take_succ, h]
      simp
    · simp only [h, if_false]
      refine Ev.eq (Ev.ret _) ?_
      rw [Int.toNat_natCast]
      have hdd := hd.take (n + 1)
      refine E_of hdd (top_take (by omega) h) ?_
      have := Dg.vl_nonneg hdd (by decide)
      omega
theorem ref_Trim_f {l : List Int} (hd : Dg.Dig 10000 l) (hl : l.length ≤ 35184372088832) {n : Nat} (hv : Dg.vl 10000 l = n) : Ev (fun k => dendronref01_Trim.f k l) (E n) := by
  have := ref_Trim_l0 hd hl l.length (Nat.le_refl _)
  rw [List.take_length, hv, Int.toNat_natCast] at this
  exact this
theorem set_take {l : List Int} {n : Nat} (v : Int) (h : n < l.length) : (l.set n v).take (n + 1) = l.take n ++ [v] := by
  have h2 : n < (l.set n v).length := by rw [List.length_set]; exact h
  rw [List.take_succ_eq_append_getElem h2, List.getElem_set_self, List.take_set_of_le (Nat.le_refl _)]
theorem map_take_succ {l : List Int} {n : Nat} (f : Int → Int) (h : n < l.length) : (l.map f).take (n + 1) = (l.map f).take n ++ [f (l.getD n 0)] := by
  have h2 : n < (l.map f).length := by rw [List.length_map]; exact h
  rw [List.take_succ_eq_append_getElem h2, List.getElem_map, List.getD_eq_getElem?_getD, List.getElem?_eq_getElem h, Option.getD_some]
theorem U_get {l : List Int} (h : U l) (n : Nat) : 0 ≤ l.getD n 0 ∧ l.getD n 0 ≤ 18446744073709551615 := by
  rw [List.getD_eq_getElem?_getD]
  rcases Nat.lt_or_ge n l.length with hn | hn
  · rw [List.getElem?_eq_getElem hn]; exact h _ (List.getElem_mem hn)
  · rw [List.getElem?_eq_none hn]; simp
theorem nat_Clean_l0 {l : List Int} (hu : U l) (hl : l.length ≤ 35184372088832) : ∀ (d i : Nat) (out : List Int), i + d = l.length → out.length = l.length → out.take i = (l.map (· % 4294967296)).take i →
    Ev (fun k => nat_Clean.l0 k out l (l.length : Int) (i : Int)) (D (W l)) := by
  intro d
  induction d with
  | zero =>
    intro i out hi ho ht
    have e : out = l.map (· % 4294967296) := by
      rw [List.take_of_length_le (by omega), List.take_of_length_le (by rw [List.length_map]; omega)] at ht
      exact ht
    refine Ev.succ ?_
    simp (disch := omega) only [nat_Clean.l0, if_pos, if_neg]
    rw [e]
    refine Ev.bind (nat_trim_f (map_dig l) (by rw [List.length_map]; exact hl) (W_map l).symm) ?_
    exact Ev.ret _
  | succ d ih =>
    intro i out hi ho ht
    have hg := U_get hu i
    have e : wrap64 ((i : Int) + 1) = ((i + 1 : Nat) : Int) := by rw [w64 (by omega) (by omega)]; omega
    refine Ev.succ ?_
    simp (disch := omega) only [nat_Clean.l0, if_pos, if_neg, rd_nat, e, and32, Int.toNat_natCast]
    refine ih (i + 1) _ (by omega) (by rw [List.length_set]; exact ho) ?_
    rw [set_take _ (by omega), map_take_succ _ (by omega), ht]
theorem nat_Clean_f {l : List Int} (hu : U l) (hl : l.length ≤ 35184372088832) : Ev (fun k => nat_Clean.f k l) (D (W l)) := by
  unfold nat_Clean.f
  simp (disch := omega) only [if_pos, Int.toNat_natCast]
  exact nat_Clean_l0 hu hl l.length 0 _ (by omega) (by rw [List.length_replicate]) (by simp)
theorem nat_order_l0 {a b : List Int} (ha : Dg.Dig 4294967296 a) (hb : Dg.Dig 4294967296 b) (hl : a.length = b.length) (hs : a.length ≤ 35184372088832) : ∀ n : Nat, n ≤ a.length →
    Ev (fun k => nat_order.l0 k a b ((n : Int) - 1)) (cmp (Dg.vl 4294967296 (a.take n)) (Dg.vl 4294967296 (b.take n))) := by
  intro n
  induction n with
  | zero =>
    intro _
    refine Ev.succ ?_
    simp (disch := omega) only [nat_order.l0, if_neg]
    exact Ev.ret _
  | succ n ih =>
    intro hn
    have e0 : ((n + 1 : Nat) : Int) - 1 = (n : Int) := by omega
    have e : wrap64 ((n : Int) - 1) = (n : Int) - 1 := w64 (by omega) (by omega)
    have ga := ha.getD (by decide) n
    have gb := hb.getD (by decide) n
    have a0 := Dg.vl_nonneg (ha.take n) (by decide)
    have b0 := Dg.vl_nonneg (hb.take n) (by decide)
    have a1 := Dg.vl_lt (ha.take n) (by decide)
    have b1 := Dg.vl_lt (hb.take n) (by decide)
    have hla : (a.take n).length = n := by rw [List.length_take]; omega
    have hlb : (b.take n).length = n := by rw [List.length_take]; omega
    rw [hla] at a1
    rw [hlb] at b1
    rw [e0]
    refine Ev.succ ?_
    simp (disch := omega) only [nat_order.l0, if_pos, rd_nat, e]
    rw [Dg.vl_take_succ, Dg.vl_take_succ]
    by_cases h1 : a.getD n 0 < b.getD n 0
    · refine Ev.pos h1 (Ev.eq (Ev.ret _) (cmp_lt (cmp_top (B := 0) a0 a1 b0 b1 h1)).symm)
    · refine Ev.neg h1 ?_
      by_cases h2 : b.getD n 0 < a.getD n 0
      · exact Ev.pos h2 (Ev.eq (Ev.ret _) (cmp_gt (cmp_top (B := 0) b0 b1 a0 a1 h2)).symm)
      · refine Ev.neg h2 (Ev.eq (ih (by omega)) ?_)
        have : a.getD n 0 = b.getD n 0 := by omega
        rw [this]
        unfold cmp
        split <;> split <;> (try split) <;> (try split) <;> first | rfl | omega
theorem nat_order_D {m n : Nat} (hm : L m ≤ 35184372088832) (hn : L n ≤ 35184372088832) : Ev (fun k => nat_order.f k (D m) (D n)) (cmp m n) := by
  unfold nat_order.f
  have hm' : (D m).length ≤ 35184372088832 := hm
  have hn' : (D n).length ≤ 35184372088832 := hn
  by_cases h1 : ((D m).length : Int) < ((D n).length : Int)
  · exact Ev.pos h1 (Ev.eq (Ev.ret _) (cmp_lt (by have := len_lt_imp _ (by decide) (show (D m).length < (D n).length by omega); omega)).symm)
  · refine Ev.neg h1 ?_
    by_cases h2 : ((D n).length : Int) < ((D m).length : Int)
    · exact Ev.pos h2 (Ev.eq (Ev.ret _) (cmp_gt (by have := len_lt_imp _ (by decide) (show (D n).length < (D m).length by omega); omega)).symm)
    · refine Ev.neg h2 ?_
      have e : wrap64 (((D m).length : Int) - 1) = ((D m).length : Int) - 1 := w64 (by omega) (by omega)
      simp only [e]
      refine Ev.eq (nat_order_l0 (D_dig m) (D_dig n) (by omega) hm' _ (Nat.le_refl _)) ?_
      rw [List.take_length, show (D m).length = (D n).length by omega, List.take_length, D_vl, D_vl]
theorem nat_limb_f (l : List Int) (i : Nat) : nat_limb.f l (i : Int) = some (l.getD i 0) := by
  unfold nat_limb.f
  by_cases h : (i : Int) < (l.length : Int)
  · rw [if_pos h, if_pos (by omega), rd_nat]
  · rw [if_neg h, List.getD_eq_getElem?_getD, List.getElem?_eq_none (by omega)]
    rfl
def Rt (l : List Int) : Prop := Dg.Dig 4294967296 l ∧ Dg.Top l
theorem Rt_D (n : Nat) : Rt (D n) := ⟨D_dig n, D_top n⟩
theorem ref_Right_l0 {l : List Int} (hu : U l) (hl : l.length ≤ 35184372088832) : ∀ (d i : Nat), i + d = l.length → (∀ j, j < i → l.getD j 0 < 4294967296) →
    ∃ b, Ev (fun k => dendronref01_Right.l0 k l (i : Int)) b ∧ (b = true ↔ Rt l) := by
  intro d
  induction d with
  | zero =>
    intro i hi hj
    have hd : Dg.Dig 4294967296 l := by
      intro x hx
      obtain ⟨n, hn, e⟩ := List.mem_iff_getElem.1 hx
      have h1 := hj n (by omega)
      have h2 := U_get hu n
      rw [List.getD_eq_getElem?_getD, List.getElem?_eq_getElem hn, Option.getD_some, e] at h1 h2
      exact ⟨h2.1, h1⟩
    by_cases h0 : l.length = 0
    · refine ⟨true, Ev.succ ?_, ?_⟩
      · simp (disch := omega) only [dendronref01_Right.l0, if_neg, if_pos]
        exact Ev.ret _
      · simp only [true_iff]
        have : l = [] := List.length_eq_zero_iff.1 h0
        subst this
        exact ⟨hd, Dg.Top.nil⟩
    · refine ⟨l.getD (l.length - 1) 0 != 0, Ev.succ ?_, ?_⟩
      · have e : wrap64 ((l.length : Int) - 1) = ((l.length - 1 : Nat) : Int) := by rw [w64 (by omega) (by omega)]; omega
        simp (disch := omega) only [dendronref01_Right.l0, if_neg, if_pos, e, rd_nat]
        exact Ev.ret _
      · rw [bne_iff_ne]
        constructor
        · intro h
          exact ⟨hd, fun _ => h⟩
        · intro h
          exact h.2 (fun e => h0 (by rw [e]; rfl))
  | succ d ih =>
    intro i hi hj
    have e : wrap64 ((i : Int) + 1) = ((i + 1 : Nat) : Int) := by rw [w64 (by omega) (by omega)]; omega
    by_cases h : l.getD i 0 > 4294967295
    · refine ⟨false, Ev.succ ?_, ?_⟩
      · simp (disch := omega) only [dendronref01_Right.l0, if_pos, rd_nat]
        exact Ev.ret _
      · simp only [Bool.false_eq_true, false_iff]
        intro hr
        have := hr.1.getD (by decide) i
        omega
    · obtain ⟨b, hb, hr⟩ := ih (i + 1) (by omega) (fun j hj2 => by
        rcases Nat.lt_or_ge j i with h3 | h3
        · exact hj j h3
        · have : j = i := by omega
          subst this
          omega)
      refine ⟨b, Ev.succ ?_, hr⟩
      simp (disch := omega) only [dendronref01_Right.l0, if_pos, rd_nat, e, h, if_false]
      exact hb
theorem ref_Right_f {l : List Int} (hu : U l) (hl : l.length ≤ 35184372088832) : ∃ b, Ev (fun k => dendronref01_Right.f k l) b ∧ (b = true ↔ Rt l) :=
  ref_Right_l0 hu hl l.length 0 (by omega) (fun j h => absurd h (by omega))
theorem ref_Right_D {n : Nat} (hl : L n ≤ 35184372088832) : Ev (fun k => dendronref01_Right.f k (D n)) true := by
  obtain ⟨b, hb, h⟩ := ref_Right_f (D_U n) hl
  rwa [h.2 (Rt_D n)] at hb
end Go.Proofs.Ytfnhpojoaaegmaa.V
set_option linter.unusedVariables false
set_option linter.unusedSimpArgs false
namespace Go.Proofs.Ytfnhpojoaaegmaa.V
open Go.RowKit Go.Proofs.Ytfnhpojoaaegmaa.P Go.Proofs.YtfnhpojoaaegmaaW.PrintWords
theorem mul_bound {x y M : Int} (hx0 : 0 ≤ x) (hx : x ≤ M) (hy0 : 0 ≤ y) (hy : y ≤ M) : 0 ≤ x * y ∧ x * y ≤ M * M :=
  ⟨Int.mul_nonneg hx0 hy0, Int.le_trans (Int.mul_le_mul_of_nonneg_right hx hy0) (Int.mul_le_mul_of_nonneg_left hy (by omega))⟩
theorem tdiv_pos {x y : Int} (h : 0 ≤ x) : Int.tdiv x y = x / y := Int.tdiv_eq_ediv_of_nonneg h
theorem tmod_pos {x y : Int} (h : 0 ≤ x) : Int.tmod x y = x % y := Int.tmod_eq_emod_of_nonneg h
theorem mul_step {B : Int} {out : List Int} {p : Nat} {c x S t : Int} (hlt : p < out.length) (hv : Dg.vl B out + c * B ^ p = S) (ht : t = c + out.getD p 0 + x) :
    Dg.vl B (out.set p (t % B)) + (t / B) * B ^ (p + 1) = S + x * B ^ p := by
  rw [Dg.vl_set _ _ _ _ hlt, Int.pow_succ]
  have h := Int.mul_ediv_add_emod t B
  have e : (t % B - out.getD p 0) * B ^ p + t / B * (B ^ p * B) = (t - out.getD p 0) * B ^ p := by
    have : t % B = t - B * (t / B) := by omega
    rw [this]
    grind
  rw [Int.add_assoc, e, ht, ← hv]
  grind
theorem zero_set {out : List Int} {p q : Nat} (v : Int) (h : p < q) (hz : ∀ j, q ≤ j → out.getD j 0 = 0) : ∀ j, q ≤ j → (out.set p v).getD j 0 = 0 := by
  intro j hj
  rw [List.getD_eq_getElem?_getD, List.getElem?_set_ne (by omega), ← List.getD_eq_getElem?_getD]
  exact hz j hj
theorem ref_Times_l0 {a b : List Int} (ha : Dg.Dig 10000 a) (hb : Dg.Dig 10000 b) (hl : a.length + b.length ≤ 35184372088832) {n : Nat} (hn : Dg.vl 10000 a * Dg.vl 10000 b = n) :
    ∀ (d i : Nat) (out : List Int), i + d = a.length → out.length = a.length + b.length → Dg.Dig 10000 out → Dg.vl 10000 out = Dg.vl 10000 (a.take i) * Dg.vl 10000 b → (∀ j, i + b.length ≤ j → out.getD j 0 = 0) →
    Ev (fun k => dendronref01_Times.l0 k a b out (i : Int)) (E n) := by
  intro d
  induction d with
  | zero =>
    intro i out hi ho hd hv hz
    refine Ev.succ ?_
    simp (disch := omega) only [dendronref01_Times.l0, if_neg]
    refine Ev.bind (ref_Trim_f hd (by omega) (n := n) ?_) (Ev.ret _)
    rw [hv, List.take_of_length_le (by omega), hn]
  | succ d ih =>
    intro i out hi ho hd hv hz
    refine Ev.succ ?_
    simp (disch := omega) only [dendronref01_Times.l0, if_pos]
    have gi := ha.getD (by decide) i
    have inner : ∀ (e m : Nat) (o : List Int) (c : Int), m + e = b.length → o.length = a.length + b.length → Dg.Dig 10000 o → 0 ≤ c → c ≤ 9999 → (∀ j, i + b.length ≤ j → o.getD j 0 = 0) →
        Dg.vl 10000 o + c * 10000 ^ (i + m) = Dg.vl 10000 out + a.getD i 0 * Dg.vl 10000 (b.take m) * 10000 ^ i → Ev (fun k => dendronref01_Times.l1 k a b o (i : Int) c (m : Int)) (E n) := by
      intro e
      induction e with
      | zero =>
        intro m o c hm ho2 hd2 hc0 hc1 hz2 hv2
        refine Ev.succ ?_
        simp (disch := omega) only [dendronref01_Times.l1, if_neg, if_pos, w64add, w64succ, Int.toNat_natCast]
        refine ih (i + 1) _ (by omega) (by rw [List.length_set]; exact ho2) (hd2.set _ hc0 (by omega)) ?_ ?_
        · have hmb : m = b.length := by omega
          subst hmb
          rw [Dg.vl_set _ _ _ _ (by omega), hz2 _ (Nat.le_refl _), Int.sub_zero, hv2, List.take_length, hv, Dg.vl_take_succ]
          grind
        · intro j hj
          exact zero_set c (q := i + b.length + 1) (by omega) (fun j hj => hz2 j (by omega)) j (by omega)
      | succ e ih2 =>
        intro m o c hm ho2 hd2 hc0 hc1 hz2 hv2
        have gm := hb.getD (by decide) m
        have go := hd2.getD (by decide) (i + m)
        have hx := mul_bound gi.1 (show a.getD i 0 ≤ 9999 by omega) gm.1 (show b.getD m 0 ≤ 9999 by omega)
        refine Ev.succ ?_
        simp (disch := omega) only [dendronref01_Times.l1, if_pos, rd_add, tn_add, rd_nat, w64, tdiv_pos, tmod_pos, Int.toNat_natCast]
        refine ih2 (m + 1) _ _ (by omega) (by rw [List.length_set]; exact ho2) (hd2.set _ (by omega) (by omega)) (by omega) (by omega) ?_ ?_
        · exact zero_set _ (by omega) hz2
        · have := mul_step (B := 10000) (x := a.getD i 0 * b.getD m 0) (show i + m < o.length by omega) hv2 (t := c + o.getD (i + m) 0 + a.getD i 0 * b.getD m 0) rfl
          rw [show i + (m + 1) = i + m + 1 by omega, this, Dg.vl_take_succ, Int.pow_add]
          grind
    refine inner b.length 0 out 0 (by omega) ho hd (by omega) (by omega) hz ?_
    simp [Dg.vl]
theorem ref_Times_f {x y : Nat} (hl : LE x + LE y ≤ 35184372088832) : Ev (fun k => dendronref01_Times.f k (E x) (E y)) (E (x * y)) := by
  have hl' : (E x).length + (E y).length ≤ 35184372088832 := hl
  unfold dendronref01_Times.f
  simp (disch := omega) only [w64add, if_pos, Int.toNat_natCast]
  refine ref_Times_l0 (E_dig x) (E_dig y) hl' (n := x * y) ?_ (E x).length 0 _ (by omega) (by rw [List.length_replicate]) (Dg.Dig.replicate (by decide) _) ?_ ?_
  · rw [E_vl, E_vl]; exact (Int.natCast_mul x y).symm
  · rw [Dg.vl_replicate_zero]; simp [Dg.vl]
  · intro j hj
    rw [List.getD_eq_getElem?_getD]
    by_cases h : j < (E x).length + (E y).length
    · simp [List.getElem?_replicate, h]
    · simp [List.getElem?_replicate, h]
theorem ref_digit_f (l : List Int) (i : Nat) : dendronref01_digit.f l (i : Int) = some (l.getD i 0) := by
  unfold dendronref01_digit.f
  by_cases h : (i : Int) < (l.length : Int)
  · rw [if_pos h, if_pos (by omega), rd_nat]
  · rw [if_neg h, List.getD_eq_getElem?_getD, List.getElem?_eq_none (by omega)]
    rfl
theorem getD_beyond {l : List Int} {i : Nat} (h : l.length ≤ i) : l.getD i 0 = 0 := by rw [List.getD_eq_getElem?_getD, List.getElem?_eq_none h]; rfl
theorem getD_snoc {l : List Int} {i : Nat} (x : Int) (h : l.length = i) : (l ++ [x]).getD i 0 = x := by
  subst h
  rw [List.getD_eq_getElem?_getD, List.getElem?_append_right (Nat.le_refl _), Nat.sub_self]
  rfl
theorem vl_snoc (B : Int) (l : List Int) (x : Int) : Dg.vl B (l ++ [x]) = Dg.vl B l + x * B ^ l.length := by
  rw [Dg.vl_append]
  simp [Dg.vl]
  exact Int.mul_comm _ _
theorem ref_Plus_l0 {a b : List Int} (ha : Dg.Dig 10000 a) (hb : Dg.Dig 10000 b) (ta : Dg.Top a) (tb : Dg.Top b) (hla : a.length ≤ 4398046511104) (hlb : b.length ≤ 4398046511104) {n : Nat} (hn : Dg.vl 10000 a + Dg.vl 10000 b = n) :
    ∀ (d i : Nat) (out : List Int) (c : Int), max a.length b.length + 1 ≤ i + d → i ≤ max a.length b.length + 1 → (i = max a.length b.length + 1 → c = 0) → out.length = i → Dg.Dig 10000 out → 0 ≤ c → c ≤ 1 → Dg.vl 10000 out + c * 10000 ^ i = Dg.vl 10000 (a.take i) + Dg.vl 10000 (b.take i) →
    (i = 0 ∨ i < max a.length b.length ∨ c ≠ 0 ∨ out.getD (i - 1) 0 ≠ 0) → Ev (fun k => dendronref01_Plus.l0 k a b out c (i : Int)) (E n) := by
  intro d
  induction d with
  | zero =>
    intro i out c hid hi2 hc9 ho hd hc0 hc1 hv ht
    have hi : i = max a.length b.length + 1 := by omega
    have hc := hc9 hi
    subst hc
    refine Ev.succ ?_
    simp (disch := omega) only [dendronref01_Plus.l0, if_neg]
    refine Ev.succ ?_
    simp (disch := omega) only [dendronref01_Plus.j1]
    refine Ev.eq (Ev.ret _) (E_of hd ?_ ?_)
    · intro _
      rw [ho]
      rcases ht with h | h | h | h
      · omega
      · omega
      · exact absurd rfl h
      · exact h
    · rw [List.take_of_length_le (by omega), List.take_of_length_le (by omega), hn] at hv
      simpa using hv
  | succ d ih =>
    intro i out c hid hi2 hc9 ho hd hc0 hc1 hv ht
    by_cases hgo : i < a.length ∨ i < b.length ∨ 0 < c
    · have ga := ha.getD (by decide) i
      have gb := hb.getD (by decide) i
      have hig : i ≤ max a.length b.length := by
        rcases Nat.lt_or_ge (max a.length b.length) i with h | h
        · have := hc9 (by omega); omega
        · exact h
      have step : Ev (fun k => dendronref01_Plus.j1 k a b out c (i : Int) true) (E n) := by
        refine Ev.succ ?_
        simp (disch := omega) only [dendronref01_Plus.j1, ref_digit_f, Option.bind_some, if_true, w64, tdiv_pos, tmod_pos, w64succ, if_pos]
        refine ih (i + 1) _ _ (by omega) (by omega) ?_ (by simp [ho]) (hd.append (Dg.Dig.cons (by omega) (by omega) Dg.Dig.nil)) (by omega) (by omega) ?_ ?_
        · intro h9
          have h1 := getD_beyond (l := a) (i := i) (by omega)
          have h2 := getD_beyond (l := b) (i := i) (by omega)
          rw [h1, h2]
          omega
        · rw [vl_snoc, ho, Dg.vl_take_succ, Dg.vl_take_succ, Int.pow_succ]
          have h := Int.mul_ediv_add_emod (c + a.getD i 0 + b.getD i 0) 10000
          grind
        · by_cases h9 : i + 1 < max a.length b.length
          · exact .inr (.inl h9)
          · refine .inr (.inr ?_)
            rw [Nat.add_sub_cancel, getD_snoc _ ho]
            have hs : 0 < c + a.getD i 0 + b.getD i 0 := by
              rcases Nat.lt_or_ge i (max a.length b.length) with h | h
              · by_cases hab : a.length = max a.length b.length
                · have := ta (fun e => by have h0 : a.length = 0 := (by rw [e]; rfl); omega)
                  rw [show a.length - 1 = i by omega] at this
                  omega
                · have := tb (fun e => by have h0 : b.length = 0 := (by rw [e]; rfl); omega)
                  rw [show b.length - 1 = i by omega] at this
                  omega
              · omega
            by_cases hq : (c + a.getD i 0 + b.getD i 0) / 10000 = 0
            · right; omega
            · left; exact hq
      refine Ev.succ ?_
      simp only [dendronref01_Plus.l0]
      by_cases h1 : (i : Int) < (a.length : Int)
      · exact Ev.pos h1 step
      · refine Ev.neg h1 ?_
        by_cases h2 : (i : Int) < (b.length : Int)
        · exact Ev.pos h2 step
        · refine Ev.neg h2 ?_
          have : decide (c > 0) = true := decide_eq_true (by omega)
          rw [this]
          exact step
    · have hc : c = 0 := by omega
      subst hc
      refine Ev.succ ?_
      simp (disch := omega) only [dendronref01_Plus.l0, if_neg]
      refine Ev.succ ?_
      simp (disch := omega) only [dendronref01_Plus.j1]
      refine Ev.eq (Ev.ret _) (E_of hd ?_ ?_)
      · intro hne
        rw [ho]
        rcases ht with h | h | h | h
        · subst h
          exact absurd (List.length_eq_zero_iff.1 ho) hne
        · omega
        · exact absurd rfl h
        · exact h
      · rw [List.take_of_length_le (by omega), List.take_of_length_le (by omega), hn] at hv
        simpa using hv
theorem ref_Plus_f {x y : Nat} (hx : LE x ≤ 4398046511104) (hy : LE y ≤ 4398046511104) : Ev (fun k => dendronref01_Plus.f k (E x) (E y)) (E (x + y)) := by
  unfold dendronref01_Plus.f
  refine ref_Plus_l0 (E_dig x) (E_dig y) (E_top x) (E_top y) hx hy (n := x + y) (by rw [E_vl, E_vl]; omega) (max (E x).length (E y).length + 1) 0 [] 0 (by omega) (by omega) (by omega) rfl Dg.Dig.nil (by omega) (by omega) (by simp [Dg.vl]) (.inl rfl)
theorem ref_Minus_l0 {a b : List Int} (ha : Dg.Dig 10000 a) (hb : Dg.Dig 10000 b) (hla : a.length ≤ 4398046511104) (hlb : b.length ≤ a.length) {n : Nat} (hn : Dg.vl 10000 a - Dg.vl 10000 b = n) :
    ∀ (d i : Nat) (out : List Int) (c : Int), i + d = a.length → out.length = i → Dg.Dig 10000 out → 0 ≤ c → c ≤ 1 → Dg.vl 10000 out - c * 10000 ^ i = Dg.vl 10000 (a.take i) - Dg.vl 10000 (b.take i) → Ev (fun k => dendronref01_Minus.l0 k a b out c (i : Int)) (E n) := by
  intro d
  induction d with
  | zero =>
    intro i out c hi ho hd hc0 hc1 hv
    refine Ev.succ ?_
    simp (disch := omega) only [dendronref01_Minus.l0, if_neg]
    refine Ev.bind (ref_Trim_f hd (by omega) (n := n) ?_) (Ev.ret _)
    rw [List.take_of_length_le (by omega), List.take_of_length_le (by omega), hn] at hv
    have h1 := Dg.vl_lt hd (by decide)
    rw [ho] at h1
    rcases (show c = 0 ∨ c = 1 by omega) with h | h
    · subst h
      simpa using hv
    · subst h
      omega
  | succ d ih =>
    intro i out c hi ho hd hc0 hc1 hv
    have ga := ha.getD (by decide) i
    have gb := hb.getD (by decide) i
    refine Ev.succ ?_
    simp (disch := omega) only [dendronref01_Minus.l0, if_pos, ref_digit_f, Option.bind_some, w64, w64succ, rd_nat]
    by_cases h : a.getD i 0 - b.getD i 0 - c < 0
    · refine Ev.pos h ?_
      refine ih (i + 1) _ _ (by omega) (by simp [ho]) (hd.append (Dg.Dig.cons (by omega) (by omega) Dg.Dig.nil)) (by omega) (by omega) ?_
      rw [vl_snoc, ho, Dg.vl_take_succ, Dg.vl_take_succ, Int.pow_succ]
      grind
    · refine Ev.neg h ?_
      refine ih (i + 1) _ _ (by omega) (by simp [ho]) (hd.append (Dg.Dig.cons (by omega) (by omega) Dg.Dig.nil)) (by omega) (by omega) ?_
      rw [vl_snoc, ho, Dg.vl_take_succ, Dg.vl_take_succ, Int.pow_succ]
      grind
theorem ref_Minus_f {x y : Nat} (h : y ≤ x) (hx : LE x ≤ 4398046511104) : Ev (fun k => dendronref01_Minus.f k (E x) (E y)) (E (x - y)) := by
  unfold dendronref01_Minus.f
  refine ref_Minus_l0 (E_dig x) (E_dig y) hx (LE_mono h) (n := x - y) (by rw [E_vl, E_vl]; omega) (E x).length 0 [] 0 (by omega) rfl Dg.Dig.nil (by omega) (by omega) (by simp [Dg.vl])
theorem ref_Small_l0 (out : List Int) : ∀ (n : Nat), out.length + LE n ≤ 4398046511104 → n ≤ 9223372036854775807 → Ev (fun k => dendronref01_Small.l0 k (n : Int) out) (out ++ E n) := by
  intro n
  induction n using Nat.strongRecOn generalizing out with
  | _ n ih =>
    intro hl hn
    refine Ev.succ ?_
    by_cases h0 : n = 0
    · subst h0
      simp (disch := omega) only [dendronref01_Small.l0, if_neg]
      rw [E_zero, List.append_nil]
      exact Ev.ret _
    · have hE : E n = ((n % 10000 : Nat) : Int) :: E (n / 10000) := Dg.dg_succ (by decide) h0
      have hLE : LE n = LE (n / 10000) + 1 := by unfold LE; rw [hE]; rfl
      simp (disch := omega) only [dendronref01_Small.l0, if_pos, tdiv_pos, tmod_pos, w64]
      have := ih (n / 10000) (Nat.div_lt_self (by omega) (by omega)) (out ++ [((n % 10000 : Nat) : Int)]) (by rw [List.length_append, List.length_singleton]; omega) (by omega)
      rw [hE]
      have e1 : ((n / 10000 : Nat) : Int) = (n : Int) / 10000 := by omega
      have e2 : ((n % 10000 : Nat) : Int) = (n : Int) % 10000 := by omega
      rw [e1, e2] at this
      rw [e2]
      rw [List.append_assoc] at this
      exact this
theorem LE_u64 {n : Nat} (h : n ≤ 18446744073709551615) : LE n ≤ 5 := LE_le (by omega)
theorem ref_Small_f {x : Int} {n : Nat} (h : x = n) (hn : n ≤ 9223372036854775807) : Ev (fun k => dendronref01_Small.f k x) (E n) := by
  subst h
  unfold dendronref01_Small.f
  have := LE_u64 (n := n) (by omega)
  exact ref_Small_l0 [] n (by simp; omega) hn
theorem ref_Order_l0 {a b : List Int} (ha : Dg.Dig 10000 a) (hb : Dg.Dig 10000 b) (hl : a.length = b.length) (hs : a.length ≤ 35184372088832) : ∀ n : Nat, n ≤ a.length →
    Ev (fun k => dendronref01_Order.l0 k a b ((n : Int) - 1)) (cmp (Dg.vl 10000 (a.take n)) (Dg.vl 10000 (b.take n))) := by
  intro n
  induction n with
  | zero =>
    intro _
    refine Ev.succ ?_
    simp (disch := omega) only [dendronref01_Order.l0, if_neg]
    exact Ev.ret _
  | succ n ih =>
    intro hn
    have e0 : ((n + 1 : Nat) : Int) - 1 = (n : Int) := by omega
    have a0 := Dg.vl_nonneg (ha.take n) (by decide)
    have b0 := Dg.vl_nonneg (hb.take n) (by decide)
    have a1 := Dg.vl_lt (ha.take n) (by decide)
    have b1 := Dg.vl_lt (hb.take n) (by decide)
    have hla : (a.take n).length = n := by rw [List.length_take]; omega
    have hlb : (b.take n).length = n := by rw [List.length_take]; omega
    rw [hla] at a1
    rw [hlb] at b1
    rw [e0]
    refine Ev.succ ?_
    simp (disch := omega) only [dendronref01_Order.l0, if_pos, rd_nat, w64pred]
    rw [Dg.vl_take_succ, Dg.vl_take_succ]
    by_cases h1 : a.getD n 0 < b.getD n 0
    · refine Ev.pos h1 (Ev.eq (Ev.ret _) (cmp_lt (cmp_top (B := 0) a0 a1 b0 b1 h1)).symm)
    · refine Ev.neg h1 ?_
      by_cases h2 : b.getD n 0 < a.getD n 0
      · exact Ev.pos h2 (Ev.eq (Ev.ret _) (cmp_gt (cmp_top (B := 0) b0 b1 a0 a1 h2)).symm)
      · refine Ev.neg h2 (Ev.eq (ih (by omega)) ?_)
        have : a.getD n 0 = b.getD n 0 := by omega
        rw [this]
        unfold cmp
        split <;> split <;> (try split) <;> (try split) <;> first | rfl | omega
theorem ref_Order_f {m n : Nat} (hm : LE m ≤ 35184372088832) (hn : LE n ≤ 35184372088832) : Ev (fun k => dendronref01_Order.f k (E m) (E n)) (cmp m n) := by
  unfold dendronref01_Order.f
  have hm' : (E m).length ≤ 35184372088832 := hm
  have hn' : (E n).length ≤ 35184372088832 := hn
  by_cases h0 : ((E m).length : Int) = ((E n).length : Int)
  · refine Ev.pos h0 ?_
    simp (disch := omega) only [w64pred]
    refine Ev.eq (ref_Order_l0 (E_dig m) (E_dig n) (by omega) hm' _ (Nat.le_refl _)) ?_
    rw [List.take_length, show (E m).length = (E n).length by omega, List.take_length, E_vl, E_vl]
  · refine Ev.neg h0 ?_
    by_cases h1 : ((E m).length : Int) < ((E n).length : Int)
    · exact Ev.pos h1 (Ev.eq (Ev.ret _) (cmp_lt (by have := len_lt_imp 10000 (by decide) (show (E m).length < (E n).length by omega); omega)).symm)
    · exact Ev.neg h1 (Ev.eq (Ev.ret _) (cmp_gt (by have := len_lt_imp 10000 (by decide) (show (E n).length < (E m).length by omega); omega)).symm)
theorem LE_L (n : Nat) : LE n ≤ 3 * L n := by
  apply LE_le
  refine Nat.lt_of_lt_of_le (L_lt n) ?_
  rw [Nat.pow_mul]
  exact Nat.pow_le_pow_left (by decide) _
theorem W_drop_succ (l : List Int) (n : Nat) (h : n < l.length) : W (l.drop n) = (l.getD n 0 % 4294967296).toNat + 4294967296 * W (l.drop (n + 1)) := by
  have h1 := W_map (l.drop n)
  have h2 := W_map (l.drop (n + 1))
  rw [List.map_drop, Dg.vl_drop_succ, ← List.map_drop] at h1
  rw [← h2] at h1
  have h3 : (l.map (· % 4294967296)).getD n 0 = l.getD n 0 % 4294967296 := by
    rw [List.getD_eq_getElem?_getD, List.getD_eq_getElem?_getD, List.getElem?_map, List.getElem?_eq_getElem h]
    rfl
  rw [h3] at h1
  omega
theorem ref_From_l0 {l : List Int} (hu : U l) (hl : l.length ≤ 1000000000000) : ∀ n : Nat, n ≤ l.length → Ev (fun k => dendronref01_From.l0 k l (E (W (l.drop n))) (E 4294967296) ((n : Int) - 1)) (E (W l)) := by
  intro n
  induction n with
  | zero =>
    intro _
    refine Ev.succ ?_
    simp (disch := omega) only [dendronref01_From.l0, if_neg, List.drop_zero]
    exact Ev.ret _
  | succ n ih =>
    intro hn
    have e0 : ((n + 1 : Nat) : Int) - 1 = (n : Int) := by omega
    have hg := U_get hu n
    have hL1 : LE (W (l.drop (n + 1))) ≤ 3 * l.length := Nat.le_trans (LE_L _) (Nat.mul_le_mul_left _ (Nat.le_trans (L_W _) (by rw [List.length_drop]; omega)))
    have h5 : LE 4294967296 ≤ 5 := LE_u64 (by omega)
    have hL2 := LE_mul (W (l.drop (n + 1))) 4294967296
    have hv := W_drop_succ l n (by omega)
    have hs : LE (l.getD n 0 % 4294967296).toNat ≤ 5 := LE_u64 (by omega)
    rw [e0]
    refine Ev.succ ?_
    simp (disch := omega) only [dendronref01_From.l0, if_pos, rd_nat, w64pred, and32, w64]
    refine Ev.bind (ref_Times_f (by omega)) ?_
    refine Ev.bind (ref_Small_f (n := (l.getD n 0 % 4294967296).toNat) (by omega) (by omega)) ?_
    refine Ev.bind (ref_Plus_f (by omega) (by omega)) ?_
    have : W (l.drop (n + 1)) * 4294967296 + (l.getD n 0 % 4294967296).toNat = W (l.drop n) := by omega
    rw [this]
    exact ih (by omega)
theorem ref_From_f {l : List Int} (hu : U l) (hl : l.length ≤ 1000000000000) : Ev (fun k => dendronref01_From.f k l) (E (W l)) := by
  unfold dendronref01_From.f
  refine Ev.bind (ref_Small_f (n := 4294967296) rfl (by omega)) ?_
  simp (disch := omega) only [w64pred]
  have := ref_From_l0 hu hl l.length (Nat.le_refl _)
  rw [List.drop_length, W_nil, E_zero] at this
  exact this
theorem ref_From_D {n : Nat} (hl : L n ≤ 1000000000000) : Ev (fun k => dendronref01_From.f k (D n)) (E n) := by
  have := ref_From_f (D_U n) hl
  rwa [W_D] at this
theorem ref_Is_D {m n : Nat} (hm : L m ≤ 1000000000000) (hn : LE n ≤ 35184372088832) : Ev (fun k => dendronref01_Is.f k (D m) (E n)) (decide (m = n)) := by
  unfold dendronref01_Is.f
  refine Ev.bind (ref_Right_D (by omega)) ?_
  simp only [if_true]
  refine Ev.bind (ref_From_D hm) ?_
  have := LE_L m
  refine Ev.bind (ref_Order_f (by omega) hn) ?_
  refine Ev.eq (Ev.ret _) ?_
  have h := cmp_eq_iff (a := (m : Int)) (b := n)
  by_cases h1 : m = n
  · rw [decide_eq_true h1, beq_iff_eq]
    exact h.2 (by omega)
  · rw [decide_eq_false h1, beq_eq_false_iff_ne]
    intro h2
    have := h.1 h2
    omega
theorem ref_Is_true {m n : Nat} (h : m = n) (hm : L m ≤ 1000000000000) : Ev (fun k => dendronref01_Is.f k (D m) (E n)) true := by
  subst h
  have := LE_L m
  exact Ev.eq (ref_Is_D hm (by omega)) (decide_eq_true rfl)
end Go.Proofs.Ytfnhpojoaaegmaa.V
set_option linter.unusedVariables false
set_option linter.unusedSimpArgs false
namespace Go.Proofs.Ytfnhpojoaaegmaa.V
open Go.RowKit Go.Proofs.Ytfnhpojoaaegmaa.P Go.Proofs.YtfnhpojoaaegmaaW.PrintWords
theorem nat_Add_l0 {a b : List Int} (ha : Dg.Dig 4294967296 a) (hb : Dg.Dig 4294967296 b) (hl : max a.length b.length + 1 ≤ 35184372088832) {n : Nat} (hn : Dg.vl 4294967296 a + Dg.vl 4294967296 b = n) :
    ∀ (d i : Nat) (out : List Int) (c : Int), i + d = max a.length b.length + 1 → out.length = max a.length b.length + 1 → Dg.Dig 4294967296 out → 0 ≤ c → c ≤ 1 → (i = max a.length b.length + 1 → c = 0) → Dg.vl 4294967296 (out.take i) + c * 4294967296 ^ i = Dg.vl 4294967296 (a.take i) + Dg.vl 4294967296 (b.take i) →
    Ev (fun k => nat_Add.l0 k a b out c (out.length : Int) (i : Int)) (D n) := by
  intro d
  induction d with
  | zero =>
    intro i out c hi ho hd hc0 hc1 hc9 hv
    have hc := hc9 (by omega)
    subst hc
    refine Ev.succ ?_
    simp (disch := omega) only [nat_Add.l0, if_neg]
    refine Ev.bind (nat_trim_f hd (by omega) (n := n) ?_) (Ev.ret _)
    rw [List.take_of_length_le (by omega), List.take_of_length_le (by omega), List.take_of_length_le (by omega), hn] at hv
    simpa using hv
  | succ d ih =>
    intro i out c hi ho hd hc0 hc1 hc9 hv
    have ga := ha.getD (by decide) i
    have gb := hb.getD (by decide) i
    refine Ev.succ ?_
    simp (disch := omega) only [nat_Add.l0, if_pos, nat_limb_f, Option.bind_some, u64w, and32, w64succ, Int.toNat_natCast]
    have hlen : (out.length : Int) = ((out.set i ((c + (a.getD i 0 + b.getD i 0)) % 4294967296)).length : Int) := by rw [List.length_set]
    rw [hlen]
    refine ih (i + 1) _ _ (by omega) (by rw [List.length_set]; exact ho) (hd.set _ (by omega) (by omega)) (by omega) (by omega) ?_ ?_
    · intro h9
      have h1 := getD_beyond (l := a) (i := i) (by omega)
      have h2 := getD_beyond (l := b) (i := i) (by omega)
      rw [h1, h2]
      omega
    · rw [set_take _ (by omega), vl_snoc, List.length_take, Nat.min_eq_left (by omega), Dg.vl_take_succ, Dg.vl_take_succ, Int.pow_succ]
      have h := Int.mul_ediv_add_emod (c + (a.getD i 0 + b.getD i 0)) 4294967296
      grind
theorem mx_nat (a b : Nat) : mx (a : Int) (b : Int) = ((max a b : Nat) : Int) := by unfold mx; split <;> omega
theorem nat_Add_f {a b : List Int} (ha : U a) (hb : U b) (hla : a.length + 1 ≤ 35184372088832) (hlb : b.length + 1 ≤ 35184372088832) : Ev (fun k => nat_Add.f k a b) (D (W a + W b)) := by
  unfold nat_Add.f
  refine Ev.bind (nat_Clean_f ha (by omega)) ?_
  refine Ev.bind (nat_Clean_f hb (by omega)) ?_
  have h1 : (D (W a)).length ≤ a.length := L_W a
  have h2 : (D (W b)).length ≤ b.length := L_W b
  rw [mx_nat]
  simp (disch := omega) only [w64succ, if_pos, Int.toNat_natCast, Option.bind_some]
  refine nat_Add_l0 (D_dig _) (D_dig _) (by omega) (n := W a + W b) (by rw [D_vl, D_vl]; omega) (max (D (W a)).length (D (W b)).length + 1) 0 _ 0 (by omega) (by rw [List.length_replicate]) (Dg.Dig.replicate (by decide) _) (by omega) (by omega) (by omega) ?_
  simp [Dg.vl]
theorem nat_minus_l0 {a b : List Int} (ha : Dg.Dig 4294967296 a) (hb : Dg.Dig 4294967296 b) (hl : a.length ≤ 35184372088832) (hlb : b.length ≤ a.length) {n : Nat} (hn : Dg.vl 4294967296 a - Dg.vl 4294967296 b = n) :
    ∀ (d i : Nat) (out : List Int) (c : Int), i + d = a.length → out.length = a.length → Dg.Dig 4294967296 out → 0 ≤ c → c ≤ 1 → Dg.vl 4294967296 (out.take i) - c * 4294967296 ^ i = Dg.vl 4294967296 (a.take i) - Dg.vl 4294967296 (b.take i) →
    Ev (fun k => nat_minus.l0 k a b out c (out.length : Int) (i : Int)) (D n) := by
  intro d
  induction d with
  | zero =>
    intro i out c hi ho hd hc0 hc1 hv
    refine Ev.succ ?_
    simp (disch := omega) only [nat_minus.l0, if_neg]
    refine Ev.bind (nat_trim_f hd (by omega) (n := n) ?_) (Ev.ret _)
    rw [List.take_of_length_le (by omega), List.take_of_length_le (by omega), List.take_of_length_le (by omega), hn] at hv
    have h1 := Dg.vl_lt hd (by decide)
    rw [ho, show a.length = i by omega] at h1
    rcases (show c = 0 ∨ c = 1 by omega) with h | h
    · subst h
      simpa using hv
    · subst h
      omega
  | succ d ih =>
    intro i out c hi ho hd hc0 hc1 hv
    have ga := ha.getD (by decide) i
    have gb := hb.getD (by decide) i
    refine Ev.succ ?_
    simp (disch := omega) only [nat_minus.l0, if_pos, nat_limb_f, Option.bind_some, u64w, and32, w64succ, Int.toNat_natCast, rd_nat]
    have hlen : (out.length : Int) = ((out.set i ((4294967296 + a.getD i 0 - b.getD i 0 - c) % 4294967296)).length : Int) := by rw [List.length_set]
    rw [hlen]
    refine ih (i + 1) _ _ (by omega) (by rw [List.length_set]; exact ho) (hd.set _ (by omega) (by omega)) (by omega) (by omega) ?_
    rw [set_take _ (by omega), vl_snoc, List.length_take, Nat.min_eq_left (by omega), Dg.vl_take_succ, Dg.vl_take_succ, Int.pow_succ]
    have h := Int.mul_ediv_add_emod (4294967296 + a.getD i 0 - b.getD i 0 - c) 4294967296
    grind
theorem nat_minus_D {m n : Nat} (h : n ≤ m) (hl : L m ≤ 35184372088832) : Ev (fun k => nat_minus.f k (D m) (D n)) (D (m - n)) := by
  have hl' : (D m).length ≤ 35184372088832 := hl
  unfold nat_minus.f
  simp (disch := omega) only [if_pos, Int.toNat_natCast, Option.bind_some]
  refine nat_minus_l0 (D_dig _) (D_dig _) hl' (L_mono h) (n := m - n) (by rw [D_vl, D_vl]; omega) (D m).length 0 _ 0 (by omega) (by rw [List.length_replicate]) (Dg.Dig.replicate (by decide) _) (by omega) (by omega) ?_
  simp [Dg.vl]
theorem nat_Sub_f {a b : List Int} (ha : U a) (hb : U b) (hla : a.length ≤ 35184372088832) (hlb : b.length ≤ 35184372088832) : Ev (fun k => nat_Sub.f k a b) (if W a < W b then ([], 3) else (D (W a - W b), 0)) := by
  unfold nat_Sub.f
  refine Ev.bind (nat_Clean_f ha hla) ?_
  refine Ev.bind (nat_Clean_f hb hlb) ?_
  refine Ev.bind (nat_order_D (Nat.le_trans (L_W a) hla) (Nat.le_trans (L_W b) hlb)) ?_
  have hc := cmp_lt_iff (a := (W a : Int)) (b := W b)
  by_cases h : W a < W b
  · rw [if_pos h]
    exact Ev.pos (hc.2 (by omega)) (Ev.ret _)
  · rw [if_neg h]
    refine Ev.neg (fun h2 => h (by have := hc.1 h2; omega)) ?_
    refine Ev.bind (nat_minus_D (by omega) (Nat.le_trans (L_W a) hla)) ?_
    exact Ev.ret _
end Go.Proofs.Ytfnhpojoaaegmaa.V
namespace Go.Proofs.Ytfnhpojoaaegmaa.V
open Go.RowKit Go.Proofs.Ytfnhpojoaaegmaa.P Go.Proofs.YtfnhpojoaaegmaaW.PrintWords
set_option maxRecDepth 100000 in
theorem awake_f : Ev (fun k => dendronlaw01_awake.f k) true := Ev.of (fun k => dendronlaw01_awake.mono k) (k := 100) (by decide +kernel)
theorem few_f (l : List Int) (n : Nat) : dendronlaw01_few.f l (n : Int) = some (l.take n) := by
  unfold dendronlaw01_few.f
  by_cases h : (l.length : Int) > (n : Int)
  · rw [if_pos h, if_pos (by omega), if_pos (by omega), Int.toNat_natCast]
  · rw [if_neg h, List.take_of_length_le (by omega)]
theorem U_take {l : List Int} (h : U l) (n : Nat) : U (l.take n) := fun x hx => h x (List.mem_of_mem_take hx)
theorem U_wf {l : List Int} (h : ∀ x ∈ l, (Lit.int .u64 x).wf = true) : U l := fun x hx => wf_u64 (h x hx)
theorem take_le (l : List Int) (n : Nat) : (l.take n).length ≤ n := by rw [List.length_take]; omega
theorem LE_W (l : List Int) : LE (W l) ≤ 3 * l.length := Nat.le_trans (LE_L _) (Nat.mul_le_mul_left _ (L_W l))
end Go.Proofs.Ytfnhpojoaaegmaa.V
namespace Go.Proofs.Ytfnhpojoaaegmaa.Pure
open Go.RowKit Go.Proofs.Ytfnhpojoaaegmaa.P Go.Proofs.Ytfnhpojoaaegmaa.V Go.Proofs.YtfnhpojoaaegmaaW.PrintWords
theorem NatSums : dendronlaw01_NatSums.Pure := by
  intro l0 l1 _ _ h0 _ _ h1
  have ha := U_take (U_wf h0) 40
  have hb := U_take (U_wf h1) 40
  have la := take_le l0 40
  have lb := take_le l1 40
  apply Ev.ex
  unfold dendronlaw01_NatSums.f
  refine Ev.bind1 (few_f l0 40) (Ev.bind1 (few_f l1 40) ?_)
  generalize l0.take 40 = a at *
  generalize l1.take 40 = b at *
  have La := L_W a
  have Lb := L_W b
  have Ea := LE_W a
  have Eb := LE_W b
  have Ls := L_add (W a) (W b)
  refine Ev.bind (ref_From_f ha (by omega)) ?_
  refine Ev.bind (ref_From_f hb (by omega)) ?_
  refine Ev.bind (nat_Sub_f ha hb (by omega) (by omega)) ?_
  refine Ev.bind (nat_Add_f ha hb (by omega) (by omega)) ?_
  refine Ev.bind (ref_Plus_f (by omega) (by omega)) ?_
  refine Ev.bind (ref_Is_true rfl (by omega)) ?_
  simp only [if_true]
  refine Ev.bind (ref_Order_f (by omega) (by omega)) ?_
  have hc := cmp_lt_iff (a := (W a : Int)) (b := W b)
  by_cases h : W a < W b
  · rw [if_pos h]
    refine Ev.pos (hc.2 (by omega)) ?_
    simp only [List.length_nil, Int.ofNat_zero, if_true]
    exact Ev.bind awake_f (Ev.ret _)
  · have hle : W b ≤ W a := by omega
    have Lm : L (W a - W b) ≤ L (W a) := L_mono (by omega)
    rw [if_neg h]
    refine Ev.neg (fun h2 => h (by have := hc.1 h2; omega)) ?_
    simp only [if_true]
    refine Ev.bind (ref_Minus_f hle (by omega)) ?_
    refine Ev.bind (ref_Is_true rfl (by omega)) ?_
    simp only [if_true]
    exact Ev.bind awake_f (Ev.ret _)
end Go.Proofs.Ytfnhpojoaaegmaa.Pure
