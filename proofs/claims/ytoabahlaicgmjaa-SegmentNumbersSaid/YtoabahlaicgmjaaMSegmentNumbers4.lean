-- Texts of this claim joined by merge.py, a program of its author; what this claim does not reach is left out.
import Derived.Test.YtoabahlaicgmjaaMSegmentNumbers3
section
namespace Go.Proofs.Ytoabahlaicgmjaa.X
open Go.Proofs.Ytoabahlaicgmjaa.XW Go.Proofs.Ytoabahlaicgmjaa.XS
open Go.RowKit Go.Proofs.YtoabahlaicgmjaaW.PrintWords Go.Proofs.YtoabahlaicgmjaaW.PrintLast Go.Proofs.YtoabahlaicgmjaaW.PrintMore
attribute [local go_sem] max2_int min2_int max_two min_two max_three min_three max_four min_four   -- for this text's walks alone
set_option linter.unusedVariables false
set_option linter.unusedSimpArgs false
def segment_bytesAt.f (k : Nat) (l0_0 : List (S56)) (a0_1 : Int) (a1_0 : Int) (a1_1 : Int) (a2 : Int) : Option (Int × Int) := (segment_find.f k l0_0 a0_1 a1_0).bind fun bt439 => (if bt439.2 = 0 then (if 0 ≤ bt439.1 then (if bt439.1 < (l0_0.length : Int) then ((segment_within.f a1_1 0 (((rd_T56 l0_0 bt439.1).f1).size : Int)).bind fun t442 => (if t442 = true then ((segment_within.f a2 0 (wrap64 ((((rd_T56 l0_0 bt439.1).f1).size : Int) - a1_1))).bind fun t443 => (if t443 = true then (some (bt439.1, 0)) else (some (0, 3)))) else (some (0, 3)))) else (none)) else (none)) else (some (0, bt439.2)))
set_option maxHeartbeats 8000000 in
set_option maxRecDepth 100000 in
theorem segment_bytesAt.calls (k : Nat) (A0_0 : Option Addr) (c0_0 : Nat) (l0_0 : List (S56)) (a0_1 : Int) (a1_0 : Int) (a1_1 : Int) (a2 : Int) (r1 : Int) (r2 : Int) (w : World) (hr0_0 : Kd.C k56 w A0_0 l0_0.length l0_0) (hc0_0 : l0_0.length ≤ c0_0) (h : segment_bytesAt.f k l0_0 a0_1 a1_0 a1_1 a2 = some (r1, r2)) :
  Calls Try.prog 49 #[.agg #[.slice A0_0 l0_0.length c0_0, .int .i64 a0_1], .agg #[.int .i64 a1_0, .int .i64 a1_1], .int .i64 a2] w fun e w' => e = .returned (.tuple #[.int .i64 r1, .int .i64 r2]) ∧ Below w.heap.size w w' := by
 have hu24 := Try.underlying24
 have hu46 := Try.underlying46
 have HR0_0 := Aside0.mk hr0_0
 have HC0_0 := Aside0.mk hc0_0
 clear hr0_0 hc0_0
 have HB := Aside0.mk (Below.refl w.heap.size w)
 have H : ((segment_find.f k l0_0 a0_1 a1_0).bind fun bt439 => (if bt439.2 = 0 then (if 0 ≤ bt439.1 then (if bt439.1 < (l0_0.length : Int) then ((segment_within.f a1_1 0 (((rd_T56 l0_0 bt439.1).f1).size : Int)).bind fun t442 => (if t442 = true then ((segment_within.f a2 0 (wrap64 ((((rd_T56 l0_0 bt439.1).f1).size : Int) - a1_1))).bind fun t443 => (if t443 = true then (some (bt439.1, 0)) else (some (0, 3)))) else (some (0, 3)))) else (none)) else (none)) else (some (0, bt439.2)))) = some (r1, r2) := h
 clear h
 replace H := Option.bind_eq_some_iff.mp H
 obtain ⟨⟨t439, t440⟩, A40, H⟩ := H
 replace H : (if t440 = 0 then (if 0 ≤ t439 then (if t439 < (l0_0.length : Int) then ((segment_within.f a1_1 0 (((rd_T56 l0_0 t439).f1).size : Int)).bind fun t442 => (if t442 = true then ((segment_within.f a2 0 (wrap64 ((((rd_T56 l0_0 t439).f1).size : Int) - a1_1))).bind fun t443 => (if t443 = true then (some (t439, 0)) else (some (0, 3)))) else (some (0, 3)))) else (none)) else (none)) else (some (0, t440))) = some (r1, r2) := H
 have A4 := Aside0.mk A40
 clear A40
 by_cases c5 : t440 = 0
 ·
  rw [if_pos c5] at H
  have c5b0 : (t440 == 0) = true := beq_iff_eq.mpr c5
  have c5b1 : (t440 != 0) = false := bne_eq_false_iff_eq.mpr c5
  clear c5
  by_cases c6 : 0 ≤ t439
  ·
   rw [if_pos c6] at H
   have c6b0 : decide (0 ≤ t439) = true := decide_eq_true c6
   clear c6
   by_cases c7 : t439 < (l0_0.length : Int)
   ·
    rw [if_pos c7] at H
    have c7b0 : decide (t439 < (l0_0.length : Int)) = true := decide_eq_true c7
    clear c7
    replace H := Option.bind_eq_some_iff.mp H
    obtain ⟨t442, A80, H⟩ := H
    replace H : (if t442 = true then ((segment_within.f a2 0 (wrap64 ((((rd_T56 l0_0 t439).f1).size : Int) - a1_1))).bind fun t443 => (if t443 = true then (some (t439, 0)) else (some (0, 3)))) else (some (0, 3))) = some (r1, r2) := H
    have A8 := Aside0.mk A80
    clear A80
    by_cases c9 : t442 = true
    ·
     subst c9
     have H1 : ((segment_within.f a2 0 (wrap64 ((((rd_T56 l0_0 t439).f1).size : Int) - a1_1))).bind fun t443 => (if t443 = true then (some (t439, 0)) else (some (0, 3)))) = some (r1, r2) := by rw [if_pos rfl] at H; exact H
     clear H
     have H := H1
     clear H1
     replace H := Option.bind_eq_some_iff.mp H
     obtain ⟨t443, A100, H⟩ := H
     replace H : (if t443 = true then (some (t439, 0)) else (some (0, 3))) = some (r1, r2) := H
     have A10 := Aside0.mk A100
     clear A100
     by_cases c11 : t443 = true
     ·
      subst c11
      have H1 : (some (t439, 0)) = some (r1, r2) := by rw [if_pos rfl] at H; exact H
      clear H
      have H := H1
      clear H1
      simp only [Option.some.injEq, Prod.mk.injEq] at H
      obtain ⟨rfl, rfl⟩ := H
      go_enter Try.func49, Try.ntmps49
      go_wp2_with (first | ((with_reducible refine gate_dst (N := 3) rfl ?_); refine bx_ 3 #[.slice A0_0 l0_0.length c0_0, .int .i64 a0_1] 24 ?_; intro gb437 hg w12 hbox hb; have BK437 := Aside0.mk (hbox); have GW437 := gw_ hg HB; have GE437 := gw_ hg HB; replace HB := sb_ HB hb; clear hb hbox hg) | ((with_reducible refine gate_dst (N := 4) rfl ?_); refine bx_ 4 #[.int .i64 a1_0, .int .i64 a1_1] 46 ?_; intro gb438 hg w13 hbox hb; have BK438 := Aside0.mk (hbox); have GW438 := gw_ hg HB; have GE438 := gw_ hg HB; replace HB := sb_ HB hb; have NB437_438 := nl_ hg BK437; have NB438_437 := ng_ hg BK437; replace BK437 := kb_ BK437 hb; clear hb hbox hg; have hnb14 := NB437_438.out; have hnc14 := NB438_437.out; have hcz15_0 := cz_ BK437 0 (.slice A0_0 l0_0.length c0_0); have hcz15_1 := cz_ BK437 1 (.int .i64 a0_1); have hfz15_0 := blk_frozen BK437.out 0; have hfz15_1 := blk_frozen BK437.out 1; have hcz16_0 := cz_ BK438 0 (.int .i64 a1_0); have hcz16_1 := cz_ BK438 1 (.int .i64 a1_1); have hfz16_0 := blk_frozen BK438.out 0; have hfz16_1 := blk_frozen BK438.out 1) | ((with_reducible refine gate_callee (f := 40) rfl ?_); refine gl_ 15 Try.func40 #[.agg #[.slice A0_0 l0_0.length c0_0, .int .i64 a0_1], .int .i64 a1_0] ?_; (with_reducible refine (segment_find.calls k _ _ l0_0 a0_1 a1_0 t439 t440 _ ?side1 ?side2 A4.out).mono ?_); (case side1 => exact pc_ (Kd.C_below HR0_0.out HB.out)); (case side2 => exact HC0_0.out); rintro e w17 ⟨rfl, hb⟩; refine ⟨_, rfl, ?_⟩; replace BK437 := kb_ BK437 hb; replace BK438 := kb_ BK438 hb; replace HB := sb_ HB hb; (try clear hb); (try clear hb2); (try clear hk); (try clear hi); have hcz18_0 := cz_ BK437 0 (.slice A0_0 l0_0.length c0_0); have hcz18_1 := cz_ BK437 1 (.int .i64 a0_1); have hfz18_0 := blk_frozen BK437.out 0; have hfz18_1 := blk_frozen BK437.out 1; have p441 : 0 ≤ (t439 : Int) := ct_; have q441 : t439 < (l0_0.length : Int) := ct_; obtain ⟨ad441, e441, hx441_0, hx441_1⟩ := at_T56 HR0_0.out t439 p441 q441; cases e441; replace hx441_0 := pw_cell_below HB.out hx441_0; replace hx441_1 := pw_cell_below HB.out hx441_1; replace p441 := eq_true p441; replace q441 := eq_true q441; have hcz19_0 := cz_ BK438 0 (.int .i64 a1_0); have hcz19_1 := cz_ BK438 1 (.int .i64 a1_1); have hfz19_0 := blk_frozen BK438.out 0; have hfz19_1 := blk_frozen BK438.out 1) | ((with_reducible refine gate_callee (f := 37) rfl ?_); refine gl_ 31 Try.func37 #[.int .i64 a1_1, .int .i64 0, .int .i64 (((rd_T56 l0_0 t439).f1).size : Int)] ?_; (with_reducible refine (segment_within.calls a1_1 0 (((rd_T56 l0_0 t439).f1).size : Int) true _ A8.out).mono ?_); rintro e w' ⟨rfl, ⟨nd, rfl⟩⟩; refine ⟨_, rfl, ?_⟩) | (go_at_call 37; (with_reducible refine (segment_within.calls a2 0 (wrap64 ((((rd_T56 l0_0 t439).f1).size : Int) - a1_1)) true _ A10.out).mono ?_); rintro e w' ⟨rfl, ⟨nd, rfl⟩⟩))
      go_ret2
      exact ⟨er_, pb_ HB⟩
     replace c11 := Bool.eq_false_iff.mpr c11
     subst c11
     have H1 : (some (0, 3)) = some (r1, r2) := by rw [if_neg (show ¬ (false = true) by decide)] at H; exact H
     clear H
     have H := H1
     clear H1
     simp only [Option.some.injEq, Prod.mk.injEq] at H
     obtain ⟨rfl, rfl⟩ := H
     go_enter Try.func49, Try.ntmps49
     go_wp2_with (first | ((with_reducible refine gate_dst (N := 3) rfl ?_); refine bx_ 3 #[.slice A0_0 l0_0.length c0_0, .int .i64 a0_1] 24 ?_; intro gb437 hg w20 hbox hb; have BK437 := Aside0.mk (hbox); have GW437 := gw_ hg HB; have GE437 := gw_ hg HB; replace HB := sb_ HB hb; clear hb hbox hg) | ((with_reducible refine gate_dst (N := 4) rfl ?_); refine bx_ 4 #[.int .i64 a1_0, .int .i64 a1_1] 46 ?_; intro gb438 hg w21 hbox hb; have BK438 := Aside0.mk (hbox); have GW438 := gw_ hg HB; have GE438 := gw_ hg HB; replace HB := sb_ HB hb; have NB437_438 := nl_ hg BK437; have NB438_437 := ng_ hg BK437; replace BK437 := kb_ BK437 hb; clear hb hbox hg; have hnb22 := NB437_438.out; have hnc22 := NB438_437.out; have hcz23_0 := cz_ BK437 0 (.slice A0_0 l0_0.length c0_0); have hcz23_1 := cz_ BK437 1 (.int .i64 a0_1); have hfz23_0 := blk_frozen BK437.out 0; have hfz23_1 := blk_frozen BK437.out 1; have hcz24_0 := cz_ BK438 0 (.int .i64 a1_0); have hcz24_1 := cz_ BK438 1 (.int .i64 a1_1); have hfz24_0 := blk_frozen BK438.out 0; have hfz24_1 := blk_frozen BK438.out 1) | ((with_reducible refine gate_callee (f := 40) rfl ?_); refine gl_ 15 Try.func40 #[.agg #[.slice A0_0 l0_0.length c0_0, .int .i64 a0_1], .int .i64 a1_0] ?_; (with_reducible refine (segment_find.calls k _ _ l0_0 a0_1 a1_0 t439 t440 _ ?side1 ?side2 A4.out).mono ?_); (case side1 => exact pc_ (Kd.C_below HR0_0.out HB.out)); (case side2 => exact HC0_0.out); rintro e w25 ⟨rfl, hb⟩; refine ⟨_, rfl, ?_⟩; replace BK437 := kb_ BK437 hb; replace BK438 := kb_ BK438 hb; replace HB := sb_ HB hb; (try clear hb); (try clear hb2); (try clear hk); (try clear hi); have hcz26_0 := cz_ BK437 0 (.slice A0_0 l0_0.length c0_0); have hcz26_1 := cz_ BK437 1 (.int .i64 a0_1); have hfz26_0 := blk_frozen BK437.out 0; have hfz26_1 := blk_frozen BK437.out 1; have p441 : 0 ≤ (t439 : Int) := ct_; have q441 : t439 < (l0_0.length : Int) := ct_; obtain ⟨ad441, e441, hx441_0, hx441_1⟩ := at_T56 HR0_0.out t439 p441 q441; cases e441; replace hx441_0 := pw_cell_below HB.out hx441_0; replace hx441_1 := pw_cell_below HB.out hx441_1; replace p441 := eq_true p441; replace q441 := eq_true q441; have hcz27_0 := cz_ BK438 0 (.int .i64 a1_0); have hcz27_1 := cz_ BK438 1 (.int .i64 a1_1); have hfz27_0 := blk_frozen BK438.out 0; have hfz27_1 := blk_frozen BK438.out 1) | ((with_reducible refine gate_callee (f := 37) rfl ?_); refine gl_ 31 Try.func37 #[.int .i64 a1_1, .int .i64 0, .int .i64 (((rd_T56 l0_0 t439).f1).size : Int)] ?_; (with_reducible refine (segment_within.calls a1_1 0 (((rd_T56 l0_0 t439).f1).size : Int) true _ A8.out).mono ?_); rintro e w' ⟨rfl, ⟨nd, rfl⟩⟩; refine ⟨_, rfl, ?_⟩) | (go_at_call 37; (with_reducible refine (segment_within.calls a2 0 (wrap64 ((((rd_T56 l0_0 t439).f1).size : Int) - a1_1)) false _ A10.out).mono ?_); rintro e w' ⟨rfl, ⟨nd, rfl⟩⟩))
     go_ret2
     exact ⟨er_, pb_ HB⟩
    replace c9 := Bool.eq_false_iff.mpr c9
    subst c9
    have H1 : (some (0, 3)) = some (r1, r2) := by rw [if_neg (show ¬ (false = true) by decide)] at H; exact H
    clear H
    have H := H1
    clear H1
    simp only [Option.some.injEq, Prod.mk.injEq] at H
    obtain ⟨rfl, rfl⟩ := H
    go_enter Try.func49, Try.ntmps49
    go_wp2_with (first | ((with_reducible refine gate_dst (N := 3) rfl ?_); refine bx_ 3 #[.slice A0_0 l0_0.length c0_0, .int .i64 a0_1] 24 ?_; intro gb437 hg w28 hbox hb; have BK437 := Aside0.mk (hbox); have GW437 := gw_ hg HB; have GE437 := gw_ hg HB; replace HB := sb_ HB hb; clear hb hbox hg) | ((with_reducible refine gate_dst (N := 4) rfl ?_); refine bx_ 4 #[.int .i64 a1_0, .int .i64 a1_1] 46 ?_; intro gb438 hg w29 hbox hb; have BK438 := Aside0.mk (hbox); have GW438 := gw_ hg HB; have GE438 := gw_ hg HB; replace HB := sb_ HB hb; have NB437_438 := nl_ hg BK437; have NB438_437 := ng_ hg BK437; replace BK437 := kb_ BK437 hb; clear hb hbox hg; have hnb30 := NB437_438.out; have hnc30 := NB438_437.out; have hcz31_0 := cz_ BK437 0 (.slice A0_0 l0_0.length c0_0); have hcz31_1 := cz_ BK437 1 (.int .i64 a0_1); have hfz31_0 := blk_frozen BK437.out 0; have hfz31_1 := blk_frozen BK437.out 1; have hcz32_0 := cz_ BK438 0 (.int .i64 a1_0); have hcz32_1 := cz_ BK438 1 (.int .i64 a1_1); have hfz32_0 := blk_frozen BK438.out 0; have hfz32_1 := blk_frozen BK438.out 1) | ((with_reducible refine gate_callee (f := 40) rfl ?_); refine gl_ 15 Try.func40 #[.agg #[.slice A0_0 l0_0.length c0_0, .int .i64 a0_1], .int .i64 a1_0] ?_; (with_reducible refine (segment_find.calls k _ _ l0_0 a0_1 a1_0 t439 t440 _ ?side1 ?side2 A4.out).mono ?_); (case side1 => exact pc_ (Kd.C_below HR0_0.out HB.out)); (case side2 => exact HC0_0.out); rintro e w33 ⟨rfl, hb⟩; refine ⟨_, rfl, ?_⟩; replace BK437 := kb_ BK437 hb; replace BK438 := kb_ BK438 hb; replace HB := sb_ HB hb; (try clear hb); (try clear hb2); (try clear hk); (try clear hi); have hcz34_0 := cz_ BK437 0 (.slice A0_0 l0_0.length c0_0); have hcz34_1 := cz_ BK437 1 (.int .i64 a0_1); have hfz34_0 := blk_frozen BK437.out 0; have hfz34_1 := blk_frozen BK437.out 1; have p441 : 0 ≤ (t439 : Int) := ct_; have q441 : t439 < (l0_0.length : Int) := ct_; obtain ⟨ad441, e441, hx441_0, hx441_1⟩ := at_T56 HR0_0.out t439 p441 q441; cases e441; replace hx441_0 := pw_cell_below HB.out hx441_0; replace hx441_1 := pw_cell_below HB.out hx441_1; replace p441 := eq_true p441; replace q441 := eq_true q441; have hcz35_0 := cz_ BK438 0 (.int .i64 a1_0); have hcz35_1 := cz_ BK438 1 (.int .i64 a1_1); have hfz35_0 := blk_frozen BK438.out 0; have hfz35_1 := blk_frozen BK438.out 1) | ((with_reducible refine gate_callee (f := 37) rfl ?_); refine gl_ 31 Try.func37 #[.int .i64 a1_1, .int .i64 0, .int .i64 (((rd_T56 l0_0 t439).f1).size : Int)] ?_; (with_reducible refine (segment_within.calls a1_1 0 (((rd_T56 l0_0 t439).f1).size : Int) false _ A8.out).mono ?_); rintro e w' ⟨rfl, ⟨nd, rfl⟩⟩; refine ⟨_, rfl, ?_⟩))
    go_ret2
    exact ⟨er_, pb_ HB⟩
   rw [if_neg c7] at H
   exact absurd H (by simp)
  rw [if_neg c6] at H
  exact absurd H (by simp)
 rw [if_neg c5] at H
 have c5b0 : (t440 == 0) = false := beq_eq_false_iff_ne.mpr c5
 have c5b1 : (t440 != 0) = true := bne_iff_ne.mpr c5
 simp only [Option.some.injEq, Prod.mk.injEq] at H
 obtain ⟨rfl, rfl⟩ := H
 go_enter Try.func49, Try.ntmps49
 go_wp2_with (first | ((with_reducible refine gate_dst (N := 3) rfl ?_); refine bx_ 3 #[.slice A0_0 l0_0.length c0_0, .int .i64 a0_1] 24 ?_; intro gb437 hg w36 hbox hb; have BK437 := Aside0.mk (hbox); have GW437 := gw_ hg HB; have GE437 := gw_ hg HB; replace HB := sb_ HB hb; clear hb hbox hg) | ((with_reducible refine gate_dst (N := 4) rfl ?_); refine bx_ 4 #[.int .i64 a1_0, .int .i64 a1_1] 46 ?_; intro gb438 hg w37 hbox hb; have BK438 := Aside0.mk (hbox); have GW438 := gw_ hg HB; have GE438 := gw_ hg HB; replace HB := sb_ HB hb; have NB437_438 := nl_ hg BK437; have NB438_437 := ng_ hg BK437; replace BK437 := kb_ BK437 hb; clear hb hbox hg; have hnb38 := NB437_438.out; have hnc38 := NB438_437.out; have hcz39_0 := cz_ BK437 0 (.slice A0_0 l0_0.length c0_0); have hcz39_1 := cz_ BK437 1 (.int .i64 a0_1); have hfz39_0 := blk_frozen BK437.out 0; have hfz39_1 := blk_frozen BK437.out 1; have hcz40_0 := cz_ BK438 0 (.int .i64 a1_0); have hcz40_1 := cz_ BK438 1 (.int .i64 a1_1); have hfz40_0 := blk_frozen BK438.out 0; have hfz40_1 := blk_frozen BK438.out 1) | ((with_reducible refine gate_callee (f := 40) rfl ?_); refine gl_ 15 Try.func40 #[.agg #[.slice A0_0 l0_0.length c0_0, .int .i64 a0_1], .int .i64 a1_0] ?_; (with_reducible refine (segment_find.calls k _ _ l0_0 a0_1 a1_0 t439 t440 _ ?side1 ?side2 A4.out).mono ?_); (case side1 => exact pc_ (Kd.C_below HR0_0.out HB.out)); (case side2 => exact HC0_0.out); rintro e w41 ⟨rfl, hb⟩; refine ⟨_, rfl, ?_⟩; replace BK437 := kb_ BK437 hb; replace BK438 := kb_ BK438 hb; replace HB := sb_ HB hb; (try clear hb); (try clear hb2); (try clear hk); (try clear hi)))
 go_ret2
 exact ⟨er_, pb_ HB⟩
def segment_ReadAt.f (k : Nat) (l0_0 : List (S56)) (a0_1 : Int) (a1_0 : Int) (a1_1 : Int) (a2 : Int) : Option (ByteArray × Int) := (segment_bytesAt.f k l0_0 a0_1 a1_0 a1_1 a2).bind fun bt446 => (if bt446.2 = 0 then (if 0 ≤ bt446.1 then (if bt446.1 < (l0_0.length : Int) then (if 0 ≤ a1_1 then (if a1_1 ≤ (wrap64 (a1_1 + a2)) then (if (wrap64 (a1_1 + a2)) ≤ (((rd_T56 l0_0 bt446.1).f1).size : Int) then (some (((rd_T56 l0_0 bt446.1).f1).extract (a1_1 : Int).toNat ((wrap64 (a1_1 + a2)) : Int).toNat, 0)) else (none)) else (none)) else (none)) else (none)) else (none)) else (some ((⟨#[]⟩ : ByteArray), bt446.2)))
set_option maxHeartbeats 8000000 in
set_option maxRecDepth 100000 in
theorem segment_ReadAt.calls (k : Nat) (A0_0 : Option Addr) (c0_0 : Nat) (l0_0 : List (S56)) (a0_1 : Int) (a1_0 : Int) (a1_1 : Int) (a2 : Int) (r1 : ByteArray) (r2 : Int) (w : World) (hr0_0 : Kd.C k56 w A0_0 l0_0.length l0_0) (hc0_0 : l0_0.length ≤ c0_0) (h : segment_ReadAt.f k l0_0 a0_1 a1_0 a1_1 a2 = some (r1, r2)) :
  Calls Try.prog 26 #[.agg #[.slice A0_0 l0_0.length c0_0, .int .i64 a0_1], .agg #[.int .i64 a1_0, .int .i64 a1_1], .int .i64 a2] w fun e w' => e = .returned (.tuple #[.string r1, .int .i64 r2]) ∧ Below w.heap.size w w' := by
 have hu24 := Try.underlying24
 have hu46 := Try.underlying46
 have HR0_0 := Aside0.mk hr0_0
 have HC0_0 := Aside0.mk hc0_0
 clear hr0_0 hc0_0
 have HB := Aside0.mk (Below.refl w.heap.size w)
 have H : ((segment_bytesAt.f k l0_0 a0_1 a1_0 a1_1 a2).bind fun bt446 => (if bt446.2 = 0 then (if 0 ≤ bt446.1 then (if bt446.1 < (l0_0.length : Int) then (if 0 ≤ a1_1 then (if a1_1 ≤ (wrap64 (a1_1 + a2)) then (if (wrap64 (a1_1 + a2)) ≤ (((rd_T56 l0_0 bt446.1).f1).size : Int) then (some (((rd_T56 l0_0 bt446.1).f1).extract (a1_1 : Int).toNat ((wrap64 (a1_1 + a2)) : Int).toNat, 0)) else (none)) else (none)) else (none)) else (none)) else (none)) else (some ((⟨#[]⟩ : ByteArray), bt446.2)))) = some (r1, r2) := h
 clear h
 replace H := Option.bind_eq_some_iff.mp H
 obtain ⟨⟨t446, t447⟩, A40, H⟩ := H
 replace H : (if t447 = 0 then (if 0 ≤ t446 then (if t446 < (l0_0.length : Int) then (if 0 ≤ a1_1 then (if a1_1 ≤ (wrap64 (a1_1 + a2)) then (if (wrap64 (a1_1 + a2)) ≤ (((rd_T56 l0_0 t446).f1).size : Int) then (some (((rd_T56 l0_0 t446).f1).extract (a1_1 : Int).toNat ((wrap64 (a1_1 + a2)) : Int).toNat, 0)) else (none)) else (none)) else (none)) else (none)) else (none)) else (some ((⟨#[]⟩ : ByteArray), t447))) = some (r1, r2) := H
 have A4 := Aside0.mk A40
 clear A40
 by_cases c5 : t447 = 0
 ·
  rw [if_pos c5] at H
  have c5b0 : (t447 == 0) = true := beq_iff_eq.mpr c5
  have c5b1 : (t447 != 0) = false := bne_eq_false_iff_eq.mpr c5
  clear c5
  by_cases c6 : 0 ≤ t446
  ·
   rw [if_pos c6] at H
   have c6b0 : decide (0 ≤ t446) = true := decide_eq_true c6
   clear c6
   by_cases c7 : t446 < (l0_0.length : Int)
   ·
    rw [if_pos c7] at H
    have c7b0 : decide (t446 < (l0_0.length : Int)) = true := decide_eq_true c7
    clear c7
    by_cases c8 : 0 ≤ a1_1
    ·
     rw [if_pos c8] at H
     have c8b0 := eq_true c8
     have c8b1 : decide (0 ≤ a1_1) = true := decide_eq_true c8
     clear c8
     by_cases c9 : a1_1 ≤ (wrap64 (a1_1 + a2))
     ·
      rw [if_pos c9] at H
      have c9b0 := eq_true c9
      have c9b1 : decide (a1_1 ≤ (wrap64 (a1_1 + a2))) = true := decide_eq_true c9
      by_cases c10 : (wrap64 (a1_1 + a2)) ≤ (((rd_T56 l0_0 t446).f1).size : Int)
      ·
       rw [if_pos c10] at H
       have c10b0 := eq_true c10
       have c10b1 : decide ((wrap64 (a1_1 + a2)) ≤ (((rd_T56 l0_0 t446).f1).size : Int)) = true := decide_eq_true c10
       simp only [Option.some.injEq, Prod.mk.injEq] at H
       obtain ⟨rfl, rfl⟩ := H
       go_enter Try.func26, Try.ntmps26
       go_wp2_with (first | ((with_reducible refine gate_dst (N := 3) rfl ?_); refine bx_ 3 #[.slice A0_0 l0_0.length c0_0, .int .i64 a0_1] 24 ?_; intro gb444 hg w11 hbox hb; have BK444 := Aside0.mk (hbox); have GW444 := gw_ hg HB; have GE444 := gw_ hg HB; replace HB := sb_ HB hb; clear hb hbox hg) | ((with_reducible refine gate_dst (N := 4) rfl ?_); refine bx_ 4 #[.int .i64 a1_0, .int .i64 a1_1] 46 ?_; intro gb445 hg w12 hbox hb; have BK445 := Aside0.mk (hbox); have GW445 := gw_ hg HB; have GE445 := gw_ hg HB; replace HB := sb_ HB hb; have NB444_445 := nl_ hg BK444; have NB445_444 := ng_ hg BK444; replace BK444 := kb_ BK444 hb; clear hb hbox hg; have hnb13 := NB444_445.out; have hnc13 := NB445_444.out; have hcz14_0 := cz_ BK444 0 (.slice A0_0 l0_0.length c0_0); have hcz14_1 := cz_ BK444 1 (.int .i64 a0_1); have hfz14_0 := blk_frozen BK444.out 0; have hfz14_1 := blk_frozen BK444.out 1; have hcz15_0 := cz_ BK445 0 (.int .i64 a1_0); have hcz15_1 := cz_ BK445 1 (.int .i64 a1_1); have hfz15_0 := blk_frozen BK445.out 0; have hfz15_1 := blk_frozen BK445.out 1) | (go_at_call 49; (with_reducible refine (segment_bytesAt.calls k _ _ l0_0 a0_1 a1_0 a1_1 a2 t446 t447 _ ?side1 ?side2 A4.out).mono ?_); (case side1 => exact pc_ (Kd.C_below HR0_0.out HB.out)); (case side2 => exact HC0_0.out); rintro e w16 ⟨rfl, hb⟩; replace BK444 := kb_ BK444 hb; replace BK445 := kb_ BK445 hb; replace HB := sb_ HB hb; (try clear hb); (try clear hb2); (try clear hk); (try clear hi); have hcz17_0 := cz_ BK444 0 (.slice A0_0 l0_0.length c0_0); have hcz17_1 := cz_ BK444 1 (.int .i64 a0_1); have hfz17_0 := blk_frozen BK444.out 0; have hfz17_1 := blk_frozen BK444.out 1; have p448 : 0 ≤ (t446 : Int) := ct_; have q448 : t446 < (l0_0.length : Int) := ct_; obtain ⟨ad448, e448, hx448_0, hx448_1⟩ := at_T56 HR0_0.out t446 p448 q448; cases e448; replace hx448_0 := pw_cell_below HB.out hx448_0; replace hx448_1 := pw_cell_below HB.out hx448_1; replace p448 := eq_true p448; replace q448 := eq_true q448; have hcz18_0 := cz_ BK445 0 (.int .i64 a1_0); have hcz18_1 := cz_ BK445 1 (.int .i64 a1_1); have hfz18_0 := blk_frozen BK445.out 0; have hfz18_1 := blk_frozen BK445.out 1))
       repeat (go_quiet (first | ((with_reducible refine gate_dst (N := 3) rfl ?_); refine bx_ 3 #[.slice A0_0 l0_0.length c0_0, .int .i64 a0_1] 24 ?_; intro gb444 hg w11 hbox hb; have BK444 := Aside0.mk (hbox); have GW444 := gw_ hg HB; have GE444 := gw_ hg HB; replace HB := sb_ HB hb; clear hb hbox hg) | ((with_reducible refine gate_dst (N := 4) rfl ?_); refine bx_ 4 #[.int .i64 a1_0, .int .i64 a1_1] 46 ?_; intro gb445 hg w12 hbox hb; have BK445 := Aside0.mk (hbox); have GW445 := gw_ hg HB; have GE445 := gw_ hg HB; replace HB := sb_ HB hb; have NB444_445 := nl_ hg BK444; have NB445_444 := ng_ hg BK444; replace BK444 := kb_ BK444 hb; clear hb hbox hg; have hnb13 := NB444_445.out; have hnc13 := NB445_444.out; have hcz14_0 := cz_ BK444 0 (.slice A0_0 l0_0.length c0_0); have hcz14_1 := cz_ BK444 1 (.int .i64 a0_1); have hfz14_0 := blk_frozen BK444.out 0; have hfz14_1 := blk_frozen BK444.out 1; have hcz15_0 := cz_ BK445 0 (.int .i64 a1_0); have hcz15_1 := cz_ BK445 1 (.int .i64 a1_1); have hfz15_0 := blk_frozen BK445.out 0; have hfz15_1 := blk_frozen BK445.out 1) | (go_at_call 49; (with_reducible refine (segment_bytesAt.calls k _ _ l0_0 a0_1 a1_0 a1_1 a2 t446 t447 _ ?side1 ?side2 A4.out).mono ?_); (case side1 => exact pc_ (Kd.C_below HR0_0.out HB.out)); (case side2 => exact HC0_0.out); rintro e w16 ⟨rfl, hb⟩; replace BK444 := kb_ BK444 hb; replace BK445 := kb_ BK445 hb; replace HB := sb_ HB hb; (try clear hb); (try clear hb2); (try clear hk); (try clear hi); have hcz17_0 := cz_ BK444 0 (.slice A0_0 l0_0.length c0_0); have hcz17_1 := cz_ BK444 1 (.int .i64 a0_1); have hfz17_0 := blk_frozen BK444.out 0; have hfz17_1 := blk_frozen BK444.out 1; have p448 : 0 ≤ (t446 : Int) := ct_; have q448 : t446 < (l0_0.length : Int) := ct_; obtain ⟨ad448, e448, hx448_0, hx448_1⟩ := at_T56 HR0_0.out t446 p448 q448; cases e448; replace hx448_0 := pw_cell_below HB.out hx448_0; replace hx448_1 := pw_cell_below HB.out hx448_1; replace p448 := eq_true p448; replace q448 := eq_true q448; have hcz18_0 := cz_ BK445 0 (.int .i64 a1_0); have hcz18_1 := cz_ BK445 1 (.int .i64 a1_1); have hfz18_0 := blk_frozen BK445.out 0; have hfz18_1 := blk_frozen BK445.out 1)); try go_wp2_with (first | ((with_reducible refine gate_dst (N := 3) rfl ?_); refine bx_ 3 #[.slice A0_0 l0_0.length c0_0, .int .i64 a0_1] 24 ?_; intro gb444 hg w11 hbox hb; have BK444 := Aside0.mk (hbox); have GW444 := gw_ hg HB; have GE444 := gw_ hg HB; replace HB := sb_ HB hb; clear hb hbox hg) | ((with_reducible refine gate_dst (N := 4) rfl ?_); refine bx_ 4 #[.int .i64 a1_0, .int .i64 a1_1] 46 ?_; intro gb445 hg w12 hbox hb; have BK445 := Aside0.mk (hbox); have GW445 := gw_ hg HB; have GE445 := gw_ hg HB; replace HB := sb_ HB hb; have NB444_445 := nl_ hg BK444; have NB445_444 := ng_ hg BK444; replace BK444 := kb_ BK444 hb; clear hb hbox hg; have hnb13 := NB444_445.out; have hnc13 := NB445_444.out; have hcz14_0 := cz_ BK444 0 (.slice A0_0 l0_0.length c0_0); have hcz14_1 := cz_ BK444 1 (.int .i64 a0_1); have hfz14_0 := blk_frozen BK444.out 0; have hfz14_1 := blk_frozen BK444.out 1; have hcz15_0 := cz_ BK445 0 (.int .i64 a1_0); have hcz15_1 := cz_ BK445 1 (.int .i64 a1_1); have hfz15_0 := blk_frozen BK445.out 0; have hfz15_1 := blk_frozen BK445.out 1) | (go_at_call 49; (with_reducible refine (segment_bytesAt.calls k _ _ l0_0 a0_1 a1_0 a1_1 a2 t446 t447 _ ?side1 ?side2 A4.out).mono ?_); (case side1 => exact pc_ (Kd.C_below HR0_0.out HB.out)); (case side2 => exact HC0_0.out); rintro e w16 ⟨rfl, hb⟩; replace BK444 := kb_ BK444 hb; replace BK445 := kb_ BK445 hb; replace HB := sb_ HB hb; (try clear hb); (try clear hb2); (try clear hk); (try clear hi); have hcz17_0 := cz_ BK444 0 (.slice A0_0 l0_0.length c0_0); have hcz17_1 := cz_ BK444 1 (.int .i64 a0_1); have hfz17_0 := blk_frozen BK444.out 0; have hfz17_1 := blk_frozen BK444.out 1; have p448 : 0 ≤ (t446 : Int) := ct_; have q448 : t446 < (l0_0.length : Int) := ct_; obtain ⟨ad448, e448, hx448_0, hx448_1⟩ := at_T56 HR0_0.out t446 p448 q448; cases e448; replace hx448_0 := pw_cell_below HB.out hx448_0; replace hx448_1 := pw_cell_below HB.out hx448_1; replace p448 := eq_true p448; replace q448 := eq_true q448; have hcz18_0 := cz_ BK445 0 (.int .i64 a1_0); have hcz18_1 := cz_ BK445 1 (.int .i64 a1_1); have hfz18_0 := blk_frozen BK445.out 0; have hfz18_1 := blk_frozen BK445.out 1)))
       go_ret2
       exact ⟨er_, pb_ HB⟩
      rw [if_neg c10] at H
      exact absurd H (by simp)
     rw [if_neg c9] at H
     exact absurd H (by simp)
    rw [if_neg c8] at H
    exact absurd H (by simp)
   rw [if_neg c7] at H
   exact absurd H (by simp)
  rw [if_neg c6] at H
  exact absurd H (by simp)
 rw [if_neg c5] at H
 have c5b0 : (t447 == 0) = false := beq_eq_false_iff_ne.mpr c5
 have c5b1 : (t447 != 0) = true := bne_iff_ne.mpr c5
 simp only [Option.some.injEq, Prod.mk.injEq] at H
 obtain ⟨rfl, rfl⟩ := H
 go_enter Try.func26, Try.ntmps26
 go_wp2_with (first | ((with_reducible refine gate_dst (N := 3) rfl ?_); refine bx_ 3 #[.slice A0_0 l0_0.length c0_0, .int .i64 a0_1] 24 ?_; intro gb444 hg w19 hbox hb; have BK444 := Aside0.mk (hbox); have GW444 := gw_ hg HB; have GE444 := gw_ hg HB; replace HB := sb_ HB hb; clear hb hbox hg) | ((with_reducible refine gate_dst (N := 4) rfl ?_); refine bx_ 4 #[.int .i64 a1_0, .int .i64 a1_1] 46 ?_; intro gb445 hg w20 hbox hb; have BK445 := Aside0.mk (hbox); have GW445 := gw_ hg HB; have GE445 := gw_ hg HB; replace HB := sb_ HB hb; have NB444_445 := nl_ hg BK444; have NB445_444 := ng_ hg BK444; replace BK444 := kb_ BK444 hb; clear hb hbox hg; have hnb21 := NB444_445.out; have hnc21 := NB445_444.out; have hcz22_0 := cz_ BK444 0 (.slice A0_0 l0_0.length c0_0); have hcz22_1 := cz_ BK444 1 (.int .i64 a0_1); have hfz22_0 := blk_frozen BK444.out 0; have hfz22_1 := blk_frozen BK444.out 1; have hcz23_0 := cz_ BK445 0 (.int .i64 a1_0); have hcz23_1 := cz_ BK445 1 (.int .i64 a1_1); have hfz23_0 := blk_frozen BK445.out 0; have hfz23_1 := blk_frozen BK445.out 1) | (go_at_call 49; (with_reducible refine (segment_bytesAt.calls k _ _ l0_0 a0_1 a1_0 a1_1 a2 t446 t447 _ ?side1 ?side2 A4.out).mono ?_); (case side1 => exact pc_ (Kd.C_below HR0_0.out HB.out)); (case side2 => exact HC0_0.out); rintro e w24 ⟨rfl, hb⟩; replace BK444 := kb_ BK444 hb; replace BK445 := kb_ BK445 hb; replace HB := sb_ HB hb; (try clear hb); (try clear hb2); (try clear hk); (try clear hi)))
 repeat (go_quiet (first | ((with_reducible refine gate_dst (N := 3) rfl ?_); refine bx_ 3 #[.slice A0_0 l0_0.length c0_0, .int .i64 a0_1] 24 ?_; intro gb444 hg w19 hbox hb; have BK444 := Aside0.mk (hbox); have GW444 := gw_ hg HB; have GE444 := gw_ hg HB; replace HB := sb_ HB hb; clear hb hbox hg) | ((with_reducible refine gate_dst (N := 4) rfl ?_); refine bx_ 4 #[.int .i64 a1_0, .int .i64 a1_1] 46 ?_; intro gb445 hg w20 hbox hb; have BK445 := Aside0.mk (hbox); have GW445 := gw_ hg HB; have GE445 := gw_ hg HB; replace HB := sb_ HB hb; have NB444_445 := nl_ hg BK444; have NB445_444 := ng_ hg BK444; replace BK444 := kb_ BK444 hb; clear hb hbox hg; have hnb21 := NB444_445.out; have hnc21 := NB445_444.out; have hcz22_0 := cz_ BK444 0 (.slice A0_0 l0_0.length c0_0); have hcz22_1 := cz_ BK444 1 (.int .i64 a0_1); have hfz22_0 := blk_frozen BK444.out 0; have hfz22_1 := blk_frozen BK444.out 1; have hcz23_0 := cz_ BK445 0 (.int .i64 a1_0); have hcz23_1 := cz_ BK445 1 (.int .i64 a1_1); have hfz23_0 := blk_frozen BK445.out 0; have hfz23_1 := blk_frozen BK445.out 1) | (go_at_call 49; (with_reducible refine (segment_bytesAt.calls k _ _ l0_0 a0_1 a1_0 a1_1 a2 t446 t447 _ ?side1 ?side2 A4.out).mono ?_); (case side1 => exact pc_ (Kd.C_below HR0_0.out HB.out)); (case side2 => exact HC0_0.out); rintro e w24 ⟨rfl, hb⟩; replace BK444 := kb_ BK444 hb; replace BK445 := kb_ BK445 hb; replace HB := sb_ HB hb; (try clear hb); (try clear hb2); (try clear hk); (try clear hi))); try go_wp2_with (first | ((with_reducible refine gate_dst (N := 3) rfl ?_); refine bx_ 3 #[.slice A0_0 l0_0.length c0_0, .int .i64 a0_1] 24 ?_; intro gb444 hg w19 hbox hb; have BK444 := Aside0.mk (hbox); have GW444 := gw_ hg HB; have GE444 := gw_ hg HB; replace HB := sb_ HB hb; clear hb hbox hg) | ((with_reducible refine gate_dst (N := 4) rfl ?_); refine bx_ 4 #[.int .i64 a1_0, .int .i64 a1_1] 46 ?_; intro gb445 hg w20 hbox hb; have BK445 := Aside0.mk (hbox); have GW445 := gw_ hg HB; have GE445 := gw_ hg HB; replace HB := sb_ HB hb; have NB444_445 := nl_ hg BK444; have NB445_444 := ng_ hg BK444; replace BK444 := kb_ BK444 hb; clear hb hbox hg; have hnb21 := NB444_445.out; have hnc21 := NB445_444.out; have hcz22_0 := cz_ BK444 0 (.slice A0_0 l0_0.length c0_0); have hcz22_1 := cz_ BK444 1 (.int .i64 a0_1); have hfz22_0 := blk_frozen BK444.out 0; have hfz22_1 := blk_frozen BK444.out 1; have hcz23_0 := cz_ BK445 0 (.int .i64 a1_0); have hcz23_1 := cz_ BK445 1 (.int .i64 a1_1); have hfz23_0 := blk_frozen BK445.out 0; have hfz23_1 := blk_frozen BK445.out 1) | (go_at_call 49; (with_reducible refine (segment_bytesAt.calls k _ _ l0_0 a0_1 a1_0 a1_1 a2 t446 t447 _ ?side1 ?side2 A4.out).mono ?_); (case side1 => exact pc_ (Kd.C_below HR0_0.out HB.out)); (case side2 => exact HC0_0.out); rintro e w24 ⟨rfl, hb⟩; replace BK444 := kb_ BK444 hb; replace BK445 := kb_ BK445 hb; replace HB := sb_ HB hb; (try clear hb); (try clear hb2); (try clear hk); (try clear hi))))
 go_ret2
 exact ⟨er_, pb_ HB⟩
def midrangelaw04_light.l0 : Nat → List (S66) → Int → Option (Bool)
  | 0, _, _ => none
  | k + 1, x0, x3 => if x3 < (x0.length : Int) then (if x3 > 41 then (some false) else (if 0 ≤ x3 then (if (((rd_T66 x0 x3).f4).size : Int) > 400 then (some false) else (midrangelaw04_light.l0 k x0 (wrap64 (x3 + 1)))) else (none))) else (some true)
def midrangelaw04_light.f (k : Nat) (l0 : List (S66)) : Option (Bool) := midrangelaw04_light.l0 k l0 0
set_option maxHeartbeats 8000000 in
set_option maxRecDepth 100000 in
theorem midrangelaw04_light.calls (k : Nat) (A0 : Option Addr) (c0 : Nat) (l0 : List (S66)) (r : Bool) (w : World) (hr0 : Kd.C k66 w A0 l0.length l0) (hc0 : l0.length ≤ c0) (h : midrangelaw04_light.f k l0 = some r) :
  Calls Try.prog 31 #[.slice A0 l0.length c0] w fun e w' => e = .returned (.bool r) ∧ Drawn0 w w' := by
 have HR0 := Aside0.mk hr0
 have HC0 := Aside0.mk hc0
 clear hr0 hc0
 have H : (midrangelaw04_light.l0 k l0 0) = some r := h
 clear h
 have H' := Aside0.mk H
 clear H
 go_enter Try.func31, Try.ntmps31
 go_wp2
 go_loopg [3] k (fun kq v3 w' => ∃ (x3_1 : Int), v3 = .int .i64 x3_1 ∧ Aside0 (midrangelaw04_light.l0 kq l0 x3_1 = some r) ∧ Aside0 (kq ≤ k) ∧ Drawn0 w w')
 case atStart => exact ⟨(0), rl_, H', ⟨Nat.le_refl _⟩, by repeat (first | exact Drawn0.refl _ | apply Drawn0.step)⟩
 case round =>
  clear H'
  obtain ⟨x3_1, rfl, HA, HK1, ⟨m1, rfl⟩⟩ := hrel
  cases gk with
  | zero => exact absurd HA.out (by simp [midrangelaw04_light.l0])
  | succ k1 =>
   have H := HA.out
   clear HA
   simp only [midrangelaw04_light.l0] at H
   by_cases c2 : x3_1 < (l0.length : Int)
   ·
    rw [if_pos c2] at H
    have c2b0 : decide (x3_1 < (l0.length : Int)) = true := decide_eq_true c2
    clear c2
    by_cases c3 : x3_1 > 41
    ·
     rw [if_pos c3] at H
     have c3b0 : decide (41 < x3_1) = true := decide_eq_true c3
     clear c3
     obtain rfl := Option.some.inj H
     go_wp2
     go_ret
     exact ⟨by first | rfl | (simp; done) | (simp [*]; done), by repeat (first | exact Drawn0.refl _ | apply Drawn0.step)⟩
    rw [if_neg c3] at H
    have c3b0 : decide (41 < x3_1) = false := decide_eq_false c3
    clear c3
    by_cases c4 : 0 ≤ x3_1
    ·
     rw [if_pos c4] at H
     have c4b0 : decide (0 ≤ x3_1) = true := decide_eq_true c4
     clear c4
     by_cases c5 : (((rd_T66 l0 x3_1).f4).size : Int) > 400
     ·
      rw [if_pos c5] at H
      have c5b0 : decide (400 < (((rd_T66 l0 x3_1).f4).size : Int)) = true := decide_eq_true c5
      have c5b1 : decide (400 < ((rd_T66 l0 x3_1).f4).size) = true := decide_eq_true (by omega)
      clear c5
      obtain rfl := Option.some.inj H
      have p548 : 0 ≤ (x3_1 : Int) := ct_
      have q548 : x3_1 < (l0.length : Int) := ct_
      obtain ⟨ad548, e548, hx548_0, hx548_1, hx548_2, hx548_3, hx548_4⟩ := at_T66 HR0.out x3_1 p548 q548
      cases e548
      replace p548 := eq_true p548
      replace q548 := eq_true q548
      go_wp2
      go_ret
      exact ⟨by first | rfl | (simp; done) | (simp [*]; done), by repeat (first | exact Drawn0.refl _ | apply Drawn0.step)⟩
     rw [if_neg c5] at H
     have c5b0 : decide (400 < (((rd_T66 l0 x3_1).f4).size : Int)) = false := decide_eq_false c5
     have c5b1 : decide (400 < ((rd_T66 l0 x3_1).f4).size) = false := decide_eq_false (by omega)
     clear c5
     have H' := Aside0.mk H
     clear H
     have p548 : 0 ≤ (x3_1 : Int) := ct_
     have q548 : x3_1 < (l0.length : Int) := ct_
     obtain ⟨ad548, e548, hx548_0, hx548_1, hx548_2, hx548_3, hx548_4⟩ := at_T66 HR0.out x3_1 p548 q548
     cases e548
     replace p548 := eq_true p548
     replace q548 := eq_true q548
     go_wp2
     go_roundg k1
     case measure => have := HK1.out; omega
     case rel => exact ⟨(wrap64 (x3_1 + 1)), rl_, H', ⟨by have := HK1.out; omega⟩, by repeat (first | exact Drawn0.refl _ | apply Drawn0.step)⟩
    rw [if_neg c4] at H
    exact absurd H (by simp)
   rw [if_neg c2] at H
   have c2b0 : decide (x3_1 < (l0.length : Int)) = false := decide_eq_false c2
   clear c2
   obtain rfl := Option.some.inj H
   go_wp2
   go_ret
   exact ⟨by first | rfl | (simp; done) | (simp [*]; done), by repeat (first | exact Drawn0.refl _ | apply Drawn0.step)⟩
def segment_with.f (l0_0 : List (S56)) (a0_1 : Int) (a1 : Int) (a2 : ByteArray) : Option ((List (S56)) × Int) := (api_Segment_38.f l0_0).bind fun t318 => (if 0 ≤ a1 then (if a1 < (t318.length : Int) then (some ((t318.set (a1 : Int).toNat (⟨(rd_T56 t318 a1).f0, a2⟩ : S56)), a0_1)) else (none)) else (none))
def segment_with.T1 : Bool × List (List Nat × List Nat) := (true, [([], []), ([0], [0]), ([1], [1]), ([], []), ([3], [3]), ([2, 4], [2, 4]), ([], []), ([6, 5, 2, 0, 1, 2, 3, 4, 5, 6], [5, 6])])
def segment_with.B1 : List Nat := [0, 1, 3, 0, 8, 31, 0, 127]
theorem segment_with.tab1 : rtab .any (opsOf Try.f47 1) = segment_with.T1 := by kernel_rfl
theorem segment_with.bits1 : waitsOk segment_with.T1.2 segment_with.B1 = true := by kernel_rfl
set_option maxHeartbeats 8000000 in
set_option maxRecDepth 100000 in
theorem segment_with.calls (A0_0 : Option Addr) (c0_0 : Nat) (l0_0 : List (S56)) (a0_1 : Int) (a1 : Int) (a2 : ByteArray) (r1 : List (S56)) (r2 : Int) (w : World) (hr0_0 : Kd.C k56 w A0_0 l0_0.length l0_0) (hc0_0 : l0_0.length ≤ c0_0) (h : segment_with.f l0_0 a0_1 a1 a2 = some (r1, r2)) :
  Calls Try.prog 47 #[.agg #[.slice A0_0 l0_0.length c0_0, .int .i64 a0_1], .int .i64 a1, .string a2] w fun e w' => ∃ v0_ : Value, e = .returned (.agg #[v0_, .int .i64 r2]) ∧ Kd.R k56 56 w' w.heap.size (fun _ => True) v0_ r1 ∧ Below w.heap.size w w' := by
 have hu24 := Try.underlying24
 have HR0_0 := Aside0.mk hr0_0
 have HC0_0 := Aside0.mk hc0_0
 clear hr0_0 hc0_0
 have HB := Aside0.mk (Below.refl w.heap.size w)
 have H : ((api_Segment_38.f l0_0).bind fun t318 => (if 0 ≤ a1 then (if a1 < (t318.length : Int) then (some ((t318.set (a1 : Int).toNat (⟨(rd_T56 t318 a1).f0, a2⟩ : S56)), a0_1)) else (none)) else (none))) = some (r1, r2) := h
 clear h
 replace H := Option.bind_eq_some_iff.mp H
 obtain ⟨t318, A40, H⟩ := H
 replace H : (if 0 ≤ a1 then (if a1 < (t318.length : Int) then (some ((t318.set (a1 : Int).toNat (⟨(rd_T56 t318 a1).f0, a2⟩ : S56)), a0_1)) else (none)) else (none)) = some (r1, r2) := H
 have A4 := Aside0.mk A40
 clear A40
 by_cases c5 : 0 ≤ a1
 ·
  rw [if_pos c5] at H
  have c5b0 : decide (0 ≤ a1) = true := decide_eq_true c5
  clear c5
  by_cases c6 : a1 < (t318.length : Int)
  ·
   rw [if_pos c6] at H
   have c6b0 : decide (a1 < (t318.length : Int)) = true := decide_eq_true c6
   clear c6
   obtain ⟨y322, hy322⟩ : ∃ y_ : List (S56), y_ = (t318.set (a1 : Int).toNat (⟨(rd_T56 t318 a1).f0, a2⟩ : S56)) := ⟨_, rfl⟩
   replace H : (some (y322, a0_1)) = some (r1, r2) := by first | (rw [hy322]; with_reducible exact H) | (have H2_ := (Option.bind_some _ _).symm.trans H; rw [hy322]; with_reducible exact H2_) | (have H2_ := (Option.bind_some _ _).symm.trans H; with_reducible exact H2_) | with_reducible exact H | (rw [hy322]; exact H) | exact H
   have Ny322 := Aside0.mk hy322
   clear hy322
   simp only [Option.some.injEq, Prod.mk.injEq] at H
   obtain ⟨rfl, rfl⟩ := H
   go_enter Try.func47, Try.ntmps47
   try go_wp2_with (first | ((with_reducible refine gate_dst (N := 3) rfl ?_); refine bx_ 3 #[.slice A0_0 l0_0.length c0_0, .int .i64 a0_1] 24 ?_; intro gb316 hg w8 hbox hb; have BK316 := Aside0.mk (hbox); have GW316 := gw_ hg HB; have GE316 := gw_ hg HB; replace HB := sb_ HB hb; clear hb hbox hg) | ((with_reducible refine gate_dst (N := 6) rfl ?_); refine bx_ 6 #[.slice none 0 0, .int .i64 0] 24 ?_; intro gb317 hg w9 hbox hb; have BK317 := Aside0.mk (hbox); have GW317 := gw_ hg HB; have GE317 := gw_ hg HB; replace HB := sb_ HB hb; have NB316_317 := nl_ hg BK316; have NB317_316 := ng_ hg BK316; replace BK316 := kb_ BK316 hb; clear hb hbox hg))
   replace BK316 := Aside0.mk (blk_drew BK316.out)
   replace BK317 := Aside0.mk (blk_drew BK317.out)
   replace HB := Aside0.mk (below_drew1 HB.out)
   refine start_ (n := 8) (S := fun w' => w'.cell? ⟨gb316, 0, none⟩ = some (.slice A0_0 l0_0.length c0_0) ∧ w'.cell? ⟨gb316, 1, none⟩ = some (.int .i64 a0_1)) (ds := []) #[false, false, false, false, false, false, false, false] (by kernel_rfl) rfl rfl ⟨cy_ BK316 0, cy_ BK316 1⟩ (fun hHeld => ?_); refine with_tabW segment_with.tab1 segment_with.bits1 (fun HT_ HW_ => ?_)
   generalize w9.drew = w10 at BK316 BK317 HB hHeld ⊢
   refine pu_ 0 8 HT_ ?_
   refine pu_ 3 11 HT_ ?_
   refine tk_ 1 9 HT_ HW_ hHeld rfl (Or.inl ⟨by rfl, by rintro w' ⟨s0, s1⟩; go_simp; with_reducible rfl⟩) ?_
   refine tk_ 4 12 HT_ HW_ hHeld rfl (Or.inl ⟨by rfl, by rintro w' ⟨s0, s1⟩; go_simp; with_reducible rfl⟩) ?_
   refine join_ (σ := Value × Nat) 1 #[true, true, true, true, true, true, true, false] (fun s_ => [(10, s_.1), (7, .pointer (some ⟨s_.2, 0, none⟩)), (13, .agg #[s_.1, .int .i64 a0_1])]) (fun s_ w' => (w'.cell? ⟨gb316, 0, none⟩ = some (.slice A0_0 l0_0.length c0_0) ∧ w'.cell? ⟨gb316, 1, none⟩ = some (.int .i64 a0_1)) ∧ (Kd.R k56 56 w' w.heap.size (fun _ => True) s_.1 t318) ∧ (w'.heap[gb316]? = some (.cells #[.slice A0_0 l0_0.length c0_0, .int .i64 a0_1] 24 (0, 0))) ∧ (w'.heap[gb317]? = some (.cells #[.slice none 0 0, .int .i64 0] 24 (0, 0))) ∧ (w'.heap[s_.2]? = some (.cells #[.slice none 0 0, .int .i64 0] 24 (0, 0))) ∧ (w.heap.size ≤ s_.2) ∧ (w.heap.size ≤ s_.2) ∧ (gb316 ≠ s_.2) ∧ (s_.2 ≠ gb316) ∧ (gb317 ≠ s_.2) ∧ (s_.2 ≠ gb317) ∧ (Below w.heap.size w w')) ?_ ?_
   rotate_left
   ·
    intro hCont
    refine two_ (i := 2) (j := 6) (Ni := some 10) (Nj := some 7) #[true, true, true, true, true, false, false, false] #[true, true, false, true, true, false, true, false] rfl rfl rfl rfl (two_of HT_.out (by kernel_rfl)) (by decide) (by decide) (fun K hK => ?_) (fun K hK => ?_)
    ·
     refine goes_ Try.func38 (by kernel_rfl) rfl #[.slice A0_0 l0_0.length c0_0] (by rfl) rfl rfl (by (try simp only [List.map_toArray, List.map_cons, List.map_nil]); first | done | rfl | (simp only [List.length_drop, List.length_take]; rfl)) ?_
     with_reducible refine (api_Segment_38.calls _ _ l0_0 t318 _ ?side1 ?side2 A4.out).mono ?_
     (case side1 => exact pc_ (Kd.C_below HR0_0.out HB.out))
     (case side2 => exact HC0_0.out)
     rintro e w11 ⟨v319, rfl, ho0, hb⟩
     refine ⟨_, rfl, ?_⟩
     have HO320 := Aside0.mk (Kd.R_lower ho0 (below_size (pb_ HB)))
     replace BK316 := kb_ BK316 hb
     replace BK317 := kb_ BK317 hb
     replace HB := sb_ HB hb
     (try clear hb)
     (try clear hb2)
     (try clear hk)
     (try clear hi)
     (try clear ho0)
     obtain ⟨Ao12, co12, eo12⟩ := Kd.R_slice HO320.out
     (first | subst eo12 | (injection eo12 with f1_ f2_ f3_; have f4_ := f1_.symm; have f5_ := f3_.symm; clear f1_ f2_ f3_; subst f4_; subst f5_))
     refine hK.out _ _ ⟨cy_ BK316 0, cy_ BK316 1⟩ (fun hHeld => ?_)
     clear hK K
     refine nn_ 10 ?_
     refine pu_ 5 13 HT_ ?_
     refine one_ (i := 6) (N := some 7) #[true, true, true, true, true, true, true, false] rfl rfl (one_of HT_.out (by kernel_rfl)) (by decide) (fun K hK => ?_)
     refine box_step ?hg (N := 7) ?hd (cs := #[.slice none 0 0, .int .i64 0]) (t := 24) ?hr ?_; (case hd => rfl); (case hg => rfl); (case hr => first | (go_simp; done) | (go_simp; rfl))
     intro gb321 hg w13 hbox hb
     replace HO320 := Aside0.mk (Kd.R_below (rk_ HO320) hb)
     have BK321 := Aside0.mk (hbox)
     have GW321 := gw_ hg HB
     have GE321 := gw_ hg HB
     replace HB := sb_ HB hb
     have NB316_321 := nl_ hg BK316
     have NB321_316 := ng_ hg BK316
     replace BK316 := kb_ BK316 hb
     have NB317_321 := nl_ hg BK317
     have NB321_317 := ng_ hg BK317
     replace BK317 := kb_ BK317 hb
     clear hb hbox hg
     refine hK.out _ _ ⟨cy_ BK316 0, cy_ BK316 1⟩ (fun hHeld => ?_)
     clear hK K
     refine nn_ 7 ?_
     exact norm_ (by simp only [putAll, Act.put, List.setIfInBounds_toArray, List.set_cons_zero, List.set_cons_succ]) (hCont (.slice Ao12 t318.length co12, gb321) _ ⟨hHeld, (rk_ HO320), (pk_ BK316), (pk_ BK317), (pk_ BK321), GW321.out, GE321.out, NB316_321.out, NB321_316.out, NB317_321.out, NB321_317.out, (pb_ HB)⟩)
    skip
    refine box_step ?hg (N := 7) ?hd (cs := #[.slice none 0 0, .int .i64 0]) (t := 24) ?hr ?_; (case hd => rfl); (case hg => rfl); (case hr => first | (go_simp; done) | (go_simp; rfl))
    intro gb321 hg w11 hbox hb
    have BK321 := Aside0.mk (hbox)
    have GW321 := gw_ hg HB
    have GE321 := gw_ hg HB
    replace HB := sb_ HB hb
    have NB316_321 := nl_ hg BK316
    have NB321_316 := ng_ hg BK316
    replace BK316 := kb_ BK316 hb
    have NB317_321 := nl_ hg BK317
    have NB321_317 := ng_ hg BK317
    replace BK317 := kb_ BK317 hb
    clear hb hbox hg
    refine hK.out _ _ ⟨cy_ BK316 0, cy_ BK316 1⟩ (fun hHeld => ?_)
    clear hK K
    refine nn_ 7 ?_
    refine one_ (i := 2) (N := some 10) #[true, true, true, true, true, false, true, false] rfl rfl (one_of HT_.out (by kernel_rfl)) (by decide) (fun K hK => ?_)
    refine goes_ Try.func38 (by kernel_rfl) rfl #[.slice A0_0 l0_0.length c0_0] (by rfl) rfl rfl (by (try simp only [List.map_toArray, List.map_cons, List.map_nil]); first | done | rfl | (simp only [List.length_drop, List.length_take]; rfl)) ?_
    with_reducible refine (api_Segment_38.calls _ _ l0_0 t318 _ ?side1 ?side2 A4.out).mono ?_
    (case side1 => exact pc_ (Kd.C_below HR0_0.out HB.out))
    (case side2 => exact HC0_0.out)
    rintro e w12 ⟨v319, rfl, ho0, hb⟩
    refine ⟨_, rfl, ?_⟩
    have HO320 := Aside0.mk (Kd.R_lower ho0 (below_size (pb_ HB)))
    replace BK316 := kb_ BK316 hb
    replace BK317 := kb_ BK317 hb
    replace BK321 := kb_ BK321 hb
    replace HB := sb_ HB hb
    (try clear hb)
    (try clear hb2)
    (try clear hk)
    (try clear hi)
    (try clear ho0)
    obtain ⟨Ao13, co13, eo13⟩ := Kd.R_slice HO320.out
    (first | subst eo13 | (injection eo13 with f1_ f2_ f3_; have f4_ := f1_.symm; have f5_ := f3_.symm; clear f1_ f2_ f3_; subst f4_; subst f5_))
    refine hK.out _ _ ⟨cy_ BK316 0, cy_ BK316 1⟩ (fun hHeld => ?_)
    clear hK K
    refine nn_ 10 ?_
    refine pu_ 5 13 HT_ ?_
    exact norm_ (by simp only [putAll, Act.put, List.setIfInBounds_toArray, List.set_cons_zero, List.set_cons_succ]) (hCont (.slice Ao13 t318.length co13, gb321) _ ⟨hHeld, (rk_ HO320), (pk_ BK316), (pk_ BK317), (pk_ BK321), GW321.out, GE321.out, NB316_321.out, NB321_316.out, NB317_321.out, NB321_317.out, (pb_ HB)⟩)
   clear BK316 BK317 HB
   rintro ⟨v319, gb321⟩ w14 ⟨hHeld, HO320, BK316, BK317, BK321, GW321, GE321, NB316_321, NB321_316, NB317_321, NB321_317, HB⟩
   try dsimp only at hHeld HO320 BK316 BK317 BK321 GW321 GE321 NB316_321 NB321_316 NB317_321 NB321_317 HB
   replace HO320 := Aside0.mk HO320
   replace BK316 := Aside0.mk BK316
   replace BK317 := Aside0.mk BK317
   replace BK321 := Aside0.mk BK321
   replace GW321 := Aside0.mk GW321
   replace GE321 := Aside0.mk GE321
   replace NB316_321 := Aside0.mk NB316_321
   replace NB321_316 := Aside0.mk NB321_316
   replace NB317_321 := Aside0.mk NB317_321
   replace NB321_317 := Aside0.mk NB321_317
   replace HB := Aside0.mk HB
   obtain ⟨Ao15, co15, eo15⟩ := Kd.R_slice HO320.out
   (first | subst eo15 | (injection eo15 with f1_ f2_ f3_; have f4_ := f1_.symm; have f5_ := f3_.symm; clear f1_ f2_ f3_; subst f4_; subst f5_))
   refine nm_ ?_
   refine one_ (i := 7) (N := none) #[true, true, true, true, true, true, true, true] rfl rfl (one_of HT_.out (by kernel_rfl)) (by decide) (fun K hK => ?_)
   have hs16 : w14.cell? ⟨gb321, 0, none⟩ = some (.slice none 0 0) := (blk_cell BK321.out 0).trans rfl
   have hfs16 := blk_frozen BK321.out 0
   have hns16_0 := NB316_321.out
   have hns16_1 := NB317_321.out
   have hms16_0 := NB321_316.out
   have hms16_1 := NB321_317.out
   have hs17 : w14.cell? ⟨gb321, 1, none⟩ = some (.int .i64 0) := (blk_cell BK321.out 1).trans rfl
   have hfs17 := blk_frozen BK321.out 1
   have hns17_0 := NB316_321.out
   have hns17_1 := NB317_321.out
   have hms17_0 := NB321_316.out
   have hms17_1 := NB321_317.out
   refine skip_ (w1 := ?_) (by rfl) rfl ?_ ?_
   rotate_left
   ·
    go_simp
    rfl
   refine hK.out _ _ ⟨((cell_far (p := ⟨gb321, _, none⟩) NB316_321.out _).trans (((cell_far (p := ⟨gb321, _, none⟩) NB316_321.out _).trans (hHeld.1)))), ((cell_far (p := ⟨gb321, _, none⟩) NB316_321.out _).trans (((cell_far (p := ⟨gb321, _, none⟩) NB316_321.out _).trans (hHeld.2))))⟩ (fun hHeld => ?_)
   clear hK K
   refine done_ (done_of HT_.out (by kernel_rfl)) ?_
   have n0_ : Aside0 (Kd.R k56 56 ((w14.setCell ⟨gb321, 0, none⟩ (.slice Ao15 t318.length co15)).setCell ⟨gb321, 1, none⟩ (.int .i64 a0_1)) w.heap.size (fun _ => True) (.slice Ao15 t318.length co15) t318) := ⟨by (with_reducible repeat (first | apply Kd.R_alloc | apply Kd.R_drewN | apply Kd.R_drew)); exact Kd.R_mono (Kd.R_far (p := ⟨gb321, 1, none⟩) (Kd.R_far (p := ⟨gb321, 0, none⟩) (Kd.R_types HO320.out BK321.out (by decide)) (fun _ hk => hk.2) (.slice Ao15 t318.length co15)) (fun _ hk => hk.2) (.int .i64 a0_1)) (fun _ hk => trivial)⟩
   have n1_ : Aside0 (((w14.setCell ⟨gb321, 0, none⟩ (.slice Ao15 t318.length co15)).setCell ⟨gb321, 1, none⟩ (.int .i64 a0_1)).heap[gb316]? = some (.cells #[.slice A0_0 l0_0.length c0_0, .int .i64 a0_1] 24 (0, 0))) := ⟨by (with_reducible repeat (first | refine blk_drewN ?_ _ | refine blk_drew ?_ | refine blk_alloc ?_ _)); refine blk_far ?_ NB316_321.out _; (with_reducible repeat (first | refine blk_drewN ?_ _ | refine blk_drew ?_ | refine blk_alloc ?_ _)); refine blk_far ?_ NB316_321.out _; (with_reducible repeat (first | refine blk_drewN ?_ _ | refine blk_drew ?_ | refine blk_alloc ?_ _)); exact BK316.out⟩
   have n2_ : Aside0 (((w14.setCell ⟨gb321, 0, none⟩ (.slice Ao15 t318.length co15)).setCell ⟨gb321, 1, none⟩ (.int .i64 a0_1)).heap[gb317]? = some (.cells #[.slice none 0 0, .int .i64 0] 24 (0, 0))) := ⟨by (with_reducible repeat (first | refine blk_drewN ?_ _ | refine blk_drew ?_ | refine blk_alloc ?_ _)); refine blk_far ?_ NB317_321.out _; (with_reducible repeat (first | refine blk_drewN ?_ _ | refine blk_drew ?_ | refine blk_alloc ?_ _)); refine blk_far ?_ NB317_321.out _; (with_reducible repeat (first | refine blk_drewN ?_ _ | refine blk_drew ?_ | refine blk_alloc ?_ _)); exact BK317.out⟩
   have n3_ : Aside0 (((w14.setCell ⟨gb321, 0, none⟩ (.slice Ao15 t318.length co15)).setCell ⟨gb321, 1, none⟩ (.int .i64 a0_1)).heap[gb321]? = some (.cells #[.slice Ao15 t318.length co15, .int .i64 a0_1] 24 (0, 0))) := ⟨bq_ BK321⟩
   have n4_ : Aside0 (Below w.heap.size w ((w14.setCell ⟨gb321, 0, none⟩ (.slice Ao15 t318.length co15)).setCell ⟨gb321, 1, none⟩ (.int .i64 a0_1))) := ⟨pb_ HB⟩
   (try clear HO320)
   (try clear BK316)
   (try clear BK317)
   (try clear BK321)
   (try clear HB)
   generalize ((w14.setCell ⟨gb321, 0, none⟩ (.slice Ao15 t318.length co15)).setCell ⟨gb321, 1, none⟩ (.int .i64 a0_1)) = w18 at n0_ n1_ n2_ n3_ n4_ ⊢
   have HO320 := n0_
   have BK316 := n1_
   have BK317 := n2_
   have BK321 := n3_
   have HB := n4_
   clear n0_ n1_ n2_ n3_ n4_
   have hnb19 := NB321_316.out
   have hnc19 := NB316_321.out
   have hnb20 := NB321_317.out
   have hnc20 := NB317_321.out
   have hcz21_0 := cz_ BK321 0 (.slice Ao15 t318.length co15)
   have hcz21_1 := cz_ BK321 1 (.int .i64 a0_1)
   have hfz21_0 := blk_frozen BK321.out 0
   have hfz21_1 := blk_frozen BK321.out 1
   have p7 : 0 ≤ (a1 : Int) := ct_
   have q7 : (a1 : Int) < ((t318.length : Int) : Int) := ct_
   obtain ⟨go7, co7, eo7, gb7, gl7, cl7, HG7⟩ := Kd.R_form HO320.out (by omega)
   (first | cases eo7 | (injection eo7 with ea_ en_ ec_; (first | subst ea_ | (injection ea_ with ea_; subst ea_)); subst ec_; clear en_))
   have GB7 := Aside0.mk gb7
   have GG7 := Aside0.mk HG7
   clear gb7 gl7 HG7
   obtain ⟨ce7, hcl7, hM7, hcc7, hfr7⟩ := Kd.R_elem HO320.out z56 (a1 : Int) p7 q7
   obtain rfl := k56_openM hM7
   have hx7_0 : w18.cell? ⟨go7, (a1 : Int).toNat * 2, none⟩ = some (.int .i64 ((rd_T56 t318 a1).f0)) := hcc7 0 _ rfl
   have hx7_1 : w18.cell? ⟨go7, (a1 : Int).toNat * 2 + 1, none⟩ = some (.string ((rd_T56 t318 a1).f1)) := hcc7 1 _ rfl
   have hf7_0 : w18.frozen? ⟨go7, (a1 : Int).toNat * 2, none⟩ = false := hfr7 0
   have hf7_1 : w18.frozen? ⟨go7, (a1 : Int).toNat * 2 + 1, none⟩ = false := hfr7 1
   clear hcl7 hcc7 hfr7 hM7
   replace p7 := eq_true p7
   replace q7 := eq_true q7
   have HX22 := Aside0.mk (show Kd.R k56 56 w18 w.heap.size (fun _ => True) (.slice (some ⟨go7, 0, none⟩) t318.length co15) t318 from (rk_ HO320))
   obtain ⟨ce22, hcl22, hM22, hcc22, hfr22⟩ := Kd.R_elem HX22.out z56 (a1 : Int) (ct_) (by have h_ : (a1 : Int) < ((t318.length : Int) : Int) := ct_; first | exact h_ | (have e_ := (Kd.R_reads' HO320.out).1; omega) | simpa using h_)
   obtain rfl := k56_openM hM22
   have HP22 := Kd.R_seg HX22.out (a1 : Int) (ct_) (by have h_ : (a1 : Int) < ((t318.length : Int) : Int) := ct_; first | exact h_ | (have e_ := (Kd.R_reads' HO320.out).1; omega) | simpa using h_) (seg := [.string a2]) (j := 1) hcl22 hcc22 (show 2 ≤ 2 from by decide) (x' := (⟨(rd_T56 t318 a1).f0, a2⟩ : S56)) (k56_mkM _ _ _ (⟨(rd_T56 t318 a1).f0, a2⟩ : S56) ) (fun _ hk => hk)
   have hx22_1 := hcc22 1 _ rfl
   (try simp only [show (k56).sz = 2 from rfl, Nat.mul_one, Nat.add_zero] at hx22_1)
   have hf22_1 := hfr22 1
   (try simp only [show (k56).sz = 2 from rfl, Nat.mul_one, Nat.add_zero] at hf22_1)
   clear hcl22 hcc22 hfr22 hM22
   try go_wp2_with (first | ((with_reducible refine gate_store (t := 9) (p := 19) rfl ?_); refine store_event (t := 9) (p := 19) (v := ?vo_w23) (w1 := (w18.setCell ⟨go7, (a1 : Int).toNat * 2 + 1, none⟩ (.string a2))) ?hg ?ho ?hn ?hr ?_; (case ho => rfl); (case hg => rfl); (case hn => rfl); (case hr => first | (go_simp; done) | (go_simp; rfl)); intro w23 hw; have hg : w18.grownBy w23 (some go7) := (by rw [hw]; exact HP22.2); have hp_ : Kd.R k56 56 w23 w.heap.size (fun _ => True) (.slice (some ⟨go7, 0, none⟩) t318.length co15) y322 := (by rw [hw, Ny322.out]; exact HP22.1); clear HP22; replace BK316 := Aside0.mk (blk_grown (g := gb316) (o := .cells #[.slice A0_0 l0_0.length c0_0, .int .i64 a0_1] 24 (0, 0)) (pk_ BK316) hg (Kd.R_ne HO320.out BK316.out (by decide))); replace BK317 := Aside0.mk (blk_grown (g := gb317) (o := .cells #[.slice none 0 0, .int .i64 0] 24 (0, 0)) (pk_ BK317) hg (Kd.R_ne HO320.out BK317.out (by decide))); replace BK321 := Aside0.mk (blk_grown (g := gb321) (o := .cells #[.slice (some ⟨go7, 0, none⟩) t318.length co15, .int .i64 a0_1] 24 (0, 0)) (pk_ BK321) hg (Kd.R_ne HO320.out BK321.out (by decide))); replace HO320 := Aside0.mk (hp_); replace HB := Aside0.mk ((by rw [hw]; exact below_set (HB.out) GB7.out : Below w.heap.size w w23)); clear hg hw hp_; have hcz24_0 := cz_ BK321 0 (.slice (some ⟨go7, 0, none⟩) t318.length co15); have hcz24_1 := cz_ BK321 1 (.int .i64 a0_1); have hfz24_0 := blk_frozen BK321.out 0; have hfz24_1 := blk_frozen BK321.out 1; have hnb25 := NB317_316.out; have hnc25 := NB316_317.out; have hcz26_0 := cz_ BK317 0 (.slice none 0 0); have hcz26_1 := cz_ BK317 1 (.int .i64 0); have hfz26_0 := blk_frozen BK317.out 0; have hfz26_1 := blk_frozen BK317.out 1))
   refine bodyPost_ret (results_cell_row rfl _ _ gb317 24 #[.slice (some ⟨go7, 0, none⟩) t318.length co15, .int .i64 a0_1] (0, 0) _ rfl (bq_ BK317) Try.underlying24 rfl (by kernel_rfl)) rfl ?_
   exact ⟨_, er_, by (with_reducible repeat (first | apply Kd.R_alloc | apply Kd.R_drewN | apply Kd.R_drew)); exact Kd.R_mono (Kd.R_far (p := ⟨gb317, 1, none⟩) (Kd.R_far (p := ⟨gb317, 0, none⟩) (Kd.R_types HO320.out BK317.out (by decide)) (fun _ hk => hk.2) (.slice (some ⟨go7, 0, none⟩) t318.length co15)) (fun _ hk => hk.2) (.int .i64 a0_1)) (fun _ hk => trivial), pb_ HB⟩
  rw [if_neg c6] at H
  exact absurd H (by simp)
 rw [if_neg c5] at H
 exact absurd H (by simp)
def segment_Extended.f (k : Nat) (l0_0 : List (S56)) (a0_1 : Int) (a1 : Int) (a2 : Int) : Option ((List (S56)) × Int × Int) := (segment_find.f k l0_0 a0_1 a1).bind fun bt325 => (if bt325.2 = 0 then ((segment_within.f a2 1 8).bind fun t327 => (if t327 = true then (if 0 ≤ bt325.1 then (if bt325.1 < (l0_0.length : Int) then (if (wrap64 ((wrap64 ((((rd_T56 l0_0 bt325.1).f1).size : Int) / 32)) + a2)) > 8 then (some (([] : List (S56)), 0, 30)) else ((segment_pages.f a2).bind fun t330 => (if ((rd_T56 l0_0 bt325.1).f1).size + t330.size ≤ 9223372036854775807 then ((segment_with.f l0_0 a0_1 bt325.1 (((rd_T56 l0_0 bt325.1).f1) ++ t330)).bind fun bt331 => (some (bt331.1, bt331.2, 0))) else (none)))) else (none)) else (none)) else (some (([] : List (S56)), 0, 3)))) else (some (([] : List (S56)), 0, bt325.2)))
def segment_Extended.T8 : Bool × List (List Nat × List Nat) := (true, [([], []), ([], []), ([], []), ([2], [2]), ([], []), ([3, 4], [3, 4]), ([5], [5]), ([6], [6]), ([], []), ([8], [8]), ([7, 9], [7, 9]), ([0, 1, 10, 9], [0, 1, 10]), ([11, 11, 0, 1, 2, 3, 4, 5, 6, 7, 8, 9, 10, 11], [11]), ([12, 0, 1, 2, 3, 4, 5, 6, 7, 8, 9, 10, 11, 12], [])])
def segment_Extended.B8 : List Nat := [0, 0, 0, 4, 0, 28, 60, 124, 0, 256, 1020, 2047, 4095, 8191]
theorem segment_Extended.tab8 : rtab .any (opsOf Try.f22 8) = segment_Extended.T8 := by kernel_rfl
theorem segment_Extended.bits8 : waitsOk segment_Extended.T8.2 segment_Extended.B8 = true := by kernel_rfl
set_option maxHeartbeats 8000000 in
set_option maxRecDepth 100000 in
theorem segment_Extended.calls (k : Nat) (A0_0 : Option Addr) (c0_0 : Nat) (l0_0 : List (S56)) (a0_1 : Int) (a1 : Int) (a2 : Int) (r1 : List (S56)) (r2 : Int) (r3 : Int) (w : World) (hr0_0 : Kd.C k56 w A0_0 l0_0.length l0_0) (hc0_0 : l0_0.length ≤ c0_0) (h : segment_Extended.f k l0_0 a0_1 a1 a2 = some (r1, r2, r3)) :
  Calls Try.prog 22 #[.agg #[.slice A0_0 l0_0.length c0_0, .int .i64 a0_1], .int .i64 a1, .int .i64 a2] w fun e w' => ∃ v0_ : Value, e = .returned (.tuple #[.agg #[v0_, .int .i64 r2], .int .i64 r3]) ∧ Kd.R k56 56 w' w.heap.size (fun _ => True) v0_ r1 ∧ Below w.heap.size w w' := by
 have hu24 := Try.underlying24
 have HR0_0 := Aside0.mk hr0_0
 have HC0_0 := Aside0.mk hc0_0
 clear hr0_0 hc0_0
 have HB := Aside0.mk (Below.refl w.heap.size w)
 have H : ((segment_find.f k l0_0 a0_1 a1).bind fun bt325 => (if bt325.2 = 0 then ((segment_within.f a2 1 8).bind fun t327 => (if t327 = true then (if 0 ≤ bt325.1 then (if bt325.1 < (l0_0.length : Int) then (if (wrap64 ((wrap64 ((((rd_T56 l0_0 bt325.1).f1).size : Int) / 32)) + a2)) > 8 then (some (([] : List (S56)), 0, 30)) else ((segment_pages.f a2).bind fun t330 => (if ((rd_T56 l0_0 bt325.1).f1).size + t330.size ≤ 9223372036854775807 then ((segment_with.f l0_0 a0_1 bt325.1 (((rd_T56 l0_0 bt325.1).f1) ++ t330)).bind fun bt331 => (some (bt331.1, bt331.2, 0))) else (none)))) else (none)) else (none)) else (some (([] : List (S56)), 0, 3)))) else (some (([] : List (S56)), 0, bt325.2)))) = some (r1, r2, r3) := h
 clear h
 replace H := Option.bind_eq_some_iff.mp H
 obtain ⟨⟨t325, t326⟩, A40, H⟩ := H
 replace H : (if t326 = 0 then ((segment_within.f a2 1 8).bind fun t327 => (if t327 = true then (if 0 ≤ t325 then (if t325 < (l0_0.length : Int) then (if (wrap64 ((wrap64 ((((rd_T56 l0_0 t325).f1).size : Int) / 32)) + a2)) > 8 then (some (([] : List (S56)), 0, 30)) else ((segment_pages.f a2).bind fun t330 => (if ((rd_T56 l0_0 t325).f1).size + t330.size ≤ 9223372036854775807 then ((segment_with.f l0_0 a0_1 t325 (((rd_T56 l0_0 t325).f1) ++ t330)).bind fun bt331 => (some (bt331.1, bt331.2, 0))) else (none)))) else (none)) else (none)) else (some (([] : List (S56)), 0, 3)))) else (some (([] : List (S56)), 0, t326))) = some (r1, r2, r3) := H
 have A4 := Aside0.mk A40
 clear A40
 by_cases c5 : t326 = 0
 ·
  rw [if_pos c5] at H
  have c5b0 : (t326 == 0) = true := beq_iff_eq.mpr c5
  have c5b1 : (t326 != 0) = false := bne_eq_false_iff_eq.mpr c5
  clear c5
  replace H := Option.bind_eq_some_iff.mp H
  obtain ⟨t327, A60, H⟩ := H
  replace H : (if t327 = true then (if 0 ≤ t325 then (if t325 < (l0_0.length : Int) then (if (wrap64 ((wrap64 ((((rd_T56 l0_0 t325).f1).size : Int) / 32)) + a2)) > 8 then (some (([] : List (S56)), 0, 30)) else ((segment_pages.f a2).bind fun t330 => (if ((rd_T56 l0_0 t325).f1).size + t330.size ≤ 9223372036854775807 then ((segment_with.f l0_0 a0_1 t325 (((rd_T56 l0_0 t325).f1) ++ t330)).bind fun bt331 => (some (bt331.1, bt331.2, 0))) else (none)))) else (none)) else (none)) else (some (([] : List (S56)), 0, 3))) = some (r1, r2, r3) := H
  have A6 := Aside0.mk A60
  clear A60
  by_cases c7 : t327 = true
  ·
   subst c7
   have H1 : (if 0 ≤ t325 then (if t325 < (l0_0.length : Int) then (if (wrap64 ((wrap64 ((((rd_T56 l0_0 t325).f1).size : Int) / 32)) + a2)) > 8 then (some (([] : List (S56)), 0, 30)) else ((segment_pages.f a2).bind fun t330 => (if ((rd_T56 l0_0 t325).f1).size + t330.size ≤ 9223372036854775807 then ((segment_with.f l0_0 a0_1 t325 (((rd_T56 l0_0 t325).f1) ++ t330)).bind fun bt331 => (some (bt331.1, bt331.2, 0))) else (none)))) else (none)) else (none)) = some (r1, r2, r3) := by rw [if_pos rfl] at H; exact H
   clear H
   have H := H1
   clear H1
   by_cases c8 : 0 ≤ t325
   ·
    rw [if_pos c8] at H
    have c8b0 : decide (0 ≤ t325) = true := decide_eq_true c8
    clear c8
    by_cases c9 : t325 < (l0_0.length : Int)
    ·
     rw [if_pos c9] at H
     have c9b0 : decide (t325 < (l0_0.length : Int)) = true := decide_eq_true c9
     clear c9
     by_cases c10 : (wrap64 ((wrap64 ((((rd_T56 l0_0 t325).f1).size : Int) / 32)) + a2)) > 8
     ·
      rw [if_pos c10] at H
      have c10b0 : decide (8 < (wrap64 ((wrap64 ((((rd_T56 l0_0 t325).f1).size : Int) / 32)) + a2))) = true := decide_eq_true c10
      clear c10
      simp only [Option.some.injEq, Prod.mk.injEq] at H
      obtain ⟨rfl, rfl, rfl⟩ := H
      go_enter Try.func22, Try.ntmps22
      go_wp2_with (first | ((with_reducible refine gate_dst (N := 3) rfl ?_); refine bx_ 3 #[.slice A0_0 l0_0.length c0_0, .int .i64 a0_1] 24 ?_; intro gb323 hg w11 hbox hb; have BK323 := Aside0.mk (hbox); have GW323 := gw_ hg HB; have GE323 := gw_ hg HB; replace HB := sb_ HB hb; clear hb hbox hg) | ((with_reducible refine gate_dst (N := 6) rfl ?_); refine bx_ 6 #[.slice none 0 0, .int .i64 0] 24 ?_; intro gb324 hg w12 hbox hb; have BK324 := Aside0.mk (hbox); have GW324 := gw_ hg HB; have GE324 := gw_ hg HB; replace HB := sb_ HB hb; have NB323_324 := nl_ hg BK323; have NB324_323 := ng_ hg BK323; replace BK323 := kb_ BK323 hb; clear hb hbox hg; have hnb13 := NB323_324.out; have hnc13 := NB324_323.out; have hcz14_0 := cz_ BK323 0 (.slice A0_0 l0_0.length c0_0); have hcz14_1 := cz_ BK323 1 (.int .i64 a0_1); have hfz14_0 := blk_frozen BK323.out 0; have hfz14_1 := blk_frozen BK323.out 1) | ((with_reducible refine gate_callee (f := 40) rfl ?_); refine gl_ 13 Try.func40 #[.agg #[.slice A0_0 l0_0.length c0_0, .int .i64 a0_1], .int .i64 a1] ?_; (with_reducible refine (segment_find.calls k _ _ l0_0 a0_1 a1 t325 t326 _ ?side1 ?side2 A4.out).mono ?_); (case side1 => exact pc_ (Kd.C_below HR0_0.out HB.out)); (case side2 => exact HC0_0.out); rintro e w15 ⟨rfl, hb⟩; refine ⟨_, rfl, ?_⟩; replace BK323 := kb_ BK323 hb; replace BK324 := kb_ BK324 hb; replace HB := sb_ HB hb; (try clear hb); (try clear hb2); (try clear hk); (try clear hi)) | ((with_reducible refine gate_callee (f := 37) rfl ?_); refine gl_ 23 Try.func37 #[.int .i64 a2, .int .i64 1, .int .i64 8] ?_; (with_reducible refine (segment_within.calls a2 1 8 true _ A6.out).mono ?_); rintro e w' ⟨rfl, ⟨nd, rfl⟩⟩; refine ⟨_, rfl, ?_⟩; (try (rw [drewN_self w15]; generalize hq_ : World.drewN w15 _ = w15; have n0_ : Aside0 (w15.heap[gb323]? = some (.cells #[.slice A0_0 l0_0.length c0_0, .int .i64 a0_1] 24 (0, 0))) := ⟨by rw [← hq_]; exact (pk_ BK323)⟩; have n1_ : Aside0 (w15.heap[gb324]? = some (.cells #[.slice none 0 0, .int .i64 0] 24 (0, 0))) := ⟨by rw [← hq_]; exact (pk_ BK324)⟩; have n2_ : Aside0 (Below w.heap.size w w15) := ⟨by rw [← hq_]; exact (pb_ HB)⟩; clear BK323 BK324 HB hq_; have BK323 := n0_; have BK324 := n1_; have HB := n2_; clear n0_ n1_ n2_)); have hcz16_0 := cz_ BK323 0 (.slice A0_0 l0_0.length c0_0); have hcz16_1 := cz_ BK323 1 (.int .i64 a0_1); have hfz16_0 := blk_frozen BK323.out 0; have hfz16_1 := blk_frozen BK323.out 1; have p328 : 0 ≤ (t325 : Int) := ct_; have q328 : t325 < (l0_0.length : Int) := ct_; obtain ⟨ad328, e328, hx328_0, hx328_1⟩ := at_T56 HR0_0.out t325 p328 q328; cases e328; replace hx328_0 := pw_cell_below HB.out hx328_0; replace hx328_1 := pw_cell_below HB.out hx328_1; replace p328 := eq_true p328; replace q328 := eq_true q328; have hcz17_0 := cz_ BK324 0 (.slice none 0 0); have hcz17_1 := cz_ BK324 1 (.int .i64 0); have hfz17_0 := blk_frozen BK324.out 0; have hfz17_1 := blk_frozen BK324.out 1))
      refine bodyPost_ret (results_ct rfl _ _ gb324 24 #[.slice none 0 0, .int .i64 0] (0, 0) _ rfl (bq_ BK324) Try.underlying24 rfl (by kernel_rfl)) rfl ?_
      exact ⟨_, er_, by first | exact Kd.R_nil _ _ _ _ _ | exact Kd.N_nil _ _ _ _ _ | exact Kd.V_nil _ _ _ _ _ | exact Kd.Q_nil _ _ _ _ _ | exact Kd.S_nil _ _ _ _ _, pb_ HB⟩
     rw [if_neg c10] at H
     have c10b0 : decide (8 < (wrap64 ((wrap64 ((((rd_T56 l0_0 t325).f1).size : Int) / 32)) + a2))) = false := decide_eq_false c10
     clear c10
     replace H := Option.bind_eq_some_iff.mp H
     obtain ⟨t330, A180, H⟩ := H
     replace H : (if ((rd_T56 l0_0 t325).f1).size + t330.size ≤ 9223372036854775807 then ((segment_with.f l0_0 a0_1 t325 (((rd_T56 l0_0 t325).f1) ++ t330)).bind fun bt331 => (some (bt331.1, bt331.2, 0))) else (none)) = some (r1, r2, r3) := H
     have A18 := Aside0.mk A180
     clear A180
     by_cases c19 : ((rd_T56 l0_0 t325).f1).size + t330.size ≤ 9223372036854775807
     ·
      rw [if_pos c19] at H
      have c19b0 := eq_true c19
      have c19b1 : decide (((rd_T56 l0_0 t325).f1).size + t330.size ≤ 9223372036854775807) = true := decide_eq_true c19
      try have c19b2 : (9223372036854775807 < ((rd_T56 l0_0 t325).f1).size + t330.size) = False := eq_false (Nat.not_lt.2 c19)
      clear c19
      replace H := Option.bind_eq_some_iff.mp H
      obtain ⟨⟨t331, t334⟩, A200, H⟩ := H
      replace H : (some (t331, t334, 0)) = some (r1, r2, r3) := H
      have A20 := Aside0.mk A200
      clear A200
      simp only [Option.some.injEq, Prod.mk.injEq] at H
      obtain ⟨rfl, rfl, rfl⟩ := H
      go_enter Try.func22, Try.ntmps22
      try go_wp2_with (first | ((with_reducible refine gate_dst (N := 3) rfl ?_); refine bx_ 3 #[.slice A0_0 l0_0.length c0_0, .int .i64 a0_1] 24 ?_; intro gb323 hg w21 hbox hb; have BK323 := Aside0.mk (hbox); have GW323 := gw_ hg HB; have GE323 := gw_ hg HB; replace HB := sb_ HB hb; clear hb hbox hg) | ((with_reducible refine gate_dst (N := 6) rfl ?_); refine bx_ 6 #[.slice none 0 0, .int .i64 0] 24 ?_; intro gb324 hg w22 hbox hb; have BK324 := Aside0.mk (hbox); have GW324 := gw_ hg HB; have GE324 := gw_ hg HB; replace HB := sb_ HB hb; have NB323_324 := nl_ hg BK323; have NB324_323 := ng_ hg BK323; replace BK323 := kb_ BK323 hb; clear hb hbox hg; have hnb23 := NB323_324.out; have hnc23 := NB324_323.out; have hcz24_0 := cz_ BK323 0 (.slice A0_0 l0_0.length c0_0); have hcz24_1 := cz_ BK323 1 (.int .i64 a0_1); have hfz24_0 := blk_frozen BK323.out 0; have hfz24_1 := blk_frozen BK323.out 1) | ((with_reducible refine gate_callee (f := 40) rfl ?_); refine gl_ 13 Try.func40 #[.agg #[.slice A0_0 l0_0.length c0_0, .int .i64 a0_1], .int .i64 a1] ?_; (with_reducible refine (segment_find.calls k _ _ l0_0 a0_1 a1 t325 t326 _ ?side1 ?side2 A4.out).mono ?_); (case side1 => exact pc_ (Kd.C_below HR0_0.out HB.out)); (case side2 => exact HC0_0.out); rintro e w25 ⟨rfl, hb⟩; refine ⟨_, rfl, ?_⟩; replace BK323 := kb_ BK323 hb; replace BK324 := kb_ BK324 hb; replace HB := sb_ HB hb; (try clear hb); (try clear hb2); (try clear hk); (try clear hi)) | ((with_reducible refine gate_callee (f := 37) rfl ?_); refine gl_ 23 Try.func37 #[.int .i64 a2, .int .i64 1, .int .i64 8] ?_; (with_reducible refine (segment_within.calls a2 1 8 true _ A6.out).mono ?_); rintro e w' ⟨rfl, ⟨nd, rfl⟩⟩; refine ⟨_, rfl, ?_⟩; (try (rw [drewN_self w25]; generalize hq_ : World.drewN w25 _ = w25; have n0_ : Aside0 (w25.heap[gb323]? = some (.cells #[.slice A0_0 l0_0.length c0_0, .int .i64 a0_1] 24 (0, 0))) := ⟨by rw [← hq_]; exact (pk_ BK323)⟩; have n1_ : Aside0 (w25.heap[gb324]? = some (.cells #[.slice none 0 0, .int .i64 0] 24 (0, 0))) := ⟨by rw [← hq_]; exact (pk_ BK324)⟩; have n2_ : Aside0 (Below w.heap.size w w25) := ⟨by rw [← hq_]; exact (pb_ HB)⟩; clear BK323 BK324 HB hq_; have BK323 := n0_; have BK324 := n1_; have HB := n2_; clear n0_ n1_ n2_)); have hcz26_0 := cz_ BK323 0 (.slice A0_0 l0_0.length c0_0); have hcz26_1 := cz_ BK323 1 (.int .i64 a0_1); have hfz26_0 := blk_frozen BK323.out 0; have hfz26_1 := blk_frozen BK323.out 1; have p328 : 0 ≤ (t325 : Int) := ct_; have q328 : t325 < (l0_0.length : Int) := ct_; obtain ⟨ad328, e328, hx328_0, hx328_1⟩ := at_T56 HR0_0.out t325 p328 q328; cases e328; replace hx328_0 := pw_cell_below HB.out hx328_0; replace hx328_1 := pw_cell_below HB.out hx328_1; replace p328 := eq_true p328; replace q328 := eq_true q328))
      replace BK323 := Aside0.mk (blk_drew BK323.out)
      replace BK324 := Aside0.mk (blk_drew BK324.out)
      replace HB := Aside0.mk (below_drew1 HB.out)
      have p329 : 0 ≤ (t325 : Int) := ct_
      have q329 : t325 < (l0_0.length : Int) := ct_
      obtain ⟨ad329, e329, hx329_0, hx329_1⟩ := at_T56 HR0_0.out t325 p329 q329
      have hw329_1 := hx329_1
      have hw329_0 := hx329_0
      obtain rfl : ad328 = ad329 := (by injection e329)
      replace hx329_0 := pw_cell_below HB.out hx329_0
      replace hx329_1 := pw_cell_below HB.out hx329_1
      replace p329 := eq_true p329
      replace q329 := eq_true q329
      refine start_ (n := 14) (S := fun w' => w'.cell? ⟨gb323, 0, none⟩ = some (.slice (some ad328) l0_0.length c0_0) ∧ w'.cell? ⟨gb323, 1, none⟩ = some (.int .i64 a0_1) ∧ w'.cell? (ad328.add ((t325).toNat * 2)) = some (.int .i64 ((rd_T56 l0_0 t325).f0)) ∧ w'.cell? ⟨(ad328.add ((t325).toNat * 2)).block, (ad328.add ((t325).toNat * 2)).off + 1, none⟩ = some (.string ((rd_T56 l0_0 t325).f1))) (ds := []) #[false, false, false, false, false, false, false, false, false, false, false, false, false, false] (by kernel_rfl) rfl rfl ⟨cy_ BK323 0, cy_ BK323 1, (pw_cell_below HB.out hw329_0), (pw_cell_below HB.out hw329_1)⟩ (fun hHeld => ?_); refine with_tabW segment_Extended.tab8 segment_Extended.bits8 (fun HT_ HW_ => ?_)
      generalize w25.drew = w27 at BK323 BK324 HB hx329_0 hx329_1 hHeld ⊢
      refine pu_ 1 40 HT_ ?_
      refine pu_ 2 41 HT_ ?_
      refine pu_ 4 43 HT_ ?_
      refine pu_ 8 47 HT_ ?_
      refine tk_ 0 39 HT_ HW_ hHeld rfl (Or.inl ⟨by rfl, by rintro w' ⟨s0, s1, s2, s3⟩; go_simp; with_reducible rfl⟩) ?_
      refine tk_ 3 42 HT_ HW_ hHeld rfl (Or.inl ⟨by rfl, by rintro w' ⟨s0, s1, s2, s3⟩; go_simp; with_reducible rfl⟩) ?_
      refine pu_ 5 44 HT_ ?_
      refine pu_ 6 45 HT_ ?_
      refine tk_ 7 46 HT_ HW_ hHeld rfl (Or.inl ⟨by rfl, by rintro w' ⟨s0, s1, s2, s3⟩; go_simp; with_reducible rfl⟩) ?_
      refine one_ (i := 9) (N := some 48) #[true, true, true, true, true, true, true, true, true, true, false, false, false, false] rfl rfl (one_of HT_.out (by kernel_rfl)) (by decide) (fun K hK => ?_)
      refine goes_ Try.func39 (by kernel_rfl) rfl #[.int .i64 a2] (by rfl) rfl rfl (by (try simp only [List.map_toArray, List.map_cons, List.map_nil]); first | done | rfl | (simp only [List.length_drop, List.length_take]; rfl)) ?_
      with_reducible refine (segment_pages.calls a2 t330 _ A18.out).mono ?_
      rintro e w28 ⟨rfl, hb⟩
      refine ⟨_, rfl, ?_⟩
      replace BK323 := kb_ BK323 hb
      replace BK324 := kb_ BK324 hb
      replace HB := sb_ HB hb
      (try clear hb)
      (try clear hb2)
      (try clear hk)
      (try clear hi)
      refine hK.out _ _ ⟨cy_ BK323 0, cy_ BK323 1, (pw_cell_below HB.out hw329_0), (pw_cell_below HB.out hw329_1)⟩ (fun hHeld => ?_)
      clear hK K
      refine nn_ 48 ?_
      refine pu_ 10 49 HT_ ?_
      refine one_ (i := 11) (N := some 50) #[true, true, true, true, true, true, true, true, true, true, true, true, false, false] rfl rfl (one_of HT_.out (by kernel_rfl)) (by decide) (fun K hK => ?_)
      refine goes_ Try.func47 (by kernel_rfl) rfl #[.agg #[.slice (some ad328) l0_0.length c0_0, .int .i64 a0_1], .int .i64 t325, .string (((rd_T56 l0_0 t325).f1) ++ t330)] (by rfl) rfl rfl (by (try simp only [List.map_toArray, List.map_cons, List.map_nil]); first | done | rfl | (simp only [List.length_drop, List.length_take]; rfl)) ?_
      with_reducible refine (segment_with.calls _ _ l0_0 a0_1 t325 (((rd_T56 l0_0 t325).f1) ++ t330) t331 t334 _ ?side1 ?side2 A20.out).mono ?_
      (case side1 => exact pc_ (Kd.C_below HR0_0.out HB.out))
      (case side2 => exact HC0_0.out)
      rintro e w29 ⟨v332, rfl, ho0, hb⟩
      refine ⟨_, rfl, ?_⟩
      have HO333 := Aside0.mk (Kd.R_lower ho0 (below_size (pb_ HB)))
      replace BK323 := kb_ BK323 hb
      replace BK324 := kb_ BK324 hb
      replace HB := sb_ HB hb
      (try clear hb)
      (try clear hb2)
      (try clear hk)
      (try clear hi)
      (try clear ho0)
      obtain ⟨Ao30, co30, eo30⟩ := Kd.R_slice HO333.out
      (first | subst eo30 | (injection eo30 with f1_ f2_ f3_; have f4_ := f1_.symm; have f5_ := f3_.symm; clear f1_ f2_ f3_; subst f4_; subst f5_))
      refine hK.out _ _ ⟨cy_ BK323 0, cy_ BK323 1, (pw_cell_below HB.out hw329_0), (pw_cell_below HB.out hw329_1)⟩ (fun hHeld => ?_)
      clear hK K
      refine nn_ 50 ?_
      refine one_ (i := 12) (N := none) #[true, true, true, true, true, true, true, true, true, true, true, true, true, false] rfl rfl (one_of HT_.out (by kernel_rfl)) (by decide) (fun K hK => ?_)
      have hs31 : w29.cell? ⟨gb324, 0, none⟩ = some (.slice none 0 0) := (blk_cell BK324.out 0).trans rfl
      have hfs31 := blk_frozen BK324.out 0
      have hns31_0 := NB323_324.out
      have hms31_0 := NB324_323.out
      have hs32 : w29.cell? ⟨gb324, 1, none⟩ = some (.int .i64 0) := (blk_cell BK324.out 1).trans rfl
      have hfs32 := blk_frozen BK324.out 1
      have hns32_0 := NB323_324.out
      have hms32_0 := NB324_323.out
      refine skip_ (w1 := ?_) (by rfl) rfl ?_ ?_
      rotate_left
      ·
       go_simp
       rfl
      refine hK.out _ _ ⟨((cell_far (p := ⟨gb324, _, none⟩) NB323_324.out _).trans (((cell_far (p := ⟨gb324, _, none⟩) NB323_324.out _).trans (hHeld.1)))), ((cell_far (p := ⟨gb324, _, none⟩) NB323_324.out _).trans (((cell_far (p := ⟨gb324, _, none⟩) NB323_324.out _).trans (hHeld.2.1)))), ((cell_far (p := ⟨gb324, _, none⟩) (nf_ hw329_0 GW324) _).trans (((cell_far (p := ⟨gb324, _, none⟩) (nf_ hw329_0 GW324) _).trans (hHeld.2.2.1)))), ((cell_far (p := ⟨gb324, _, none⟩) (nf_ hw329_1 GW324) _).trans (((cell_far (p := ⟨gb324, _, none⟩) (nf_ hw329_1 GW324) _).trans (hHeld.2.2.2))))⟩ (fun hHeld => ?_)
      clear hK K
      refine pu_ 13 7 HT_ ?_
      refine done_ (done_of HT_.out (by kernel_rfl)) ?_
      try go_wp2
      refine bodyPost_ret (results_ct rfl _ _ gb324 24 #[.slice Ao30 t331.length co30, .int .i64 t334] (0, 0) _ rfl (bq_ BK324) Try.underlying24 rfl (by kernel_rfl)) rfl ?_
      exact ⟨_, er_, by (with_reducible repeat (first | apply Kd.R_alloc | apply Kd.R_drewN | apply Kd.R_drew)); exact Kd.R_mono (Kd.R_far (p := ⟨gb324, 1, none⟩) (Kd.R_far (p := ⟨gb324, 0, none⟩) (Kd.R_types HO333.out BK324.out (by decide)) (fun _ hk => hk.2) (.slice Ao30 t331.length co30)) (fun _ hk => hk.2) (.int .i64 t334)) (fun _ hk => trivial), pb_ HB⟩
     rw [if_neg c19] at H
     exact absurd H (by simp)
    rw [if_neg c9] at H
    exact absurd H (by simp)
   rw [if_neg c8] at H
   exact absurd H (by simp)
  replace c7 := Bool.eq_false_iff.mpr c7
  subst c7
  have H1 : (some (([] : List (S56)), 0, 3)) = some (r1, r2, r3) := by rw [if_neg (show ¬ (false = true) by decide)] at H; exact H
  clear H
  have H := H1
  clear H1
  simp only [Option.some.injEq, Prod.mk.injEq] at H
  obtain ⟨rfl, rfl, rfl⟩ := H
  go_enter Try.func22, Try.ntmps22
  go_wp2_with (first | ((with_reducible refine gate_dst (N := 3) rfl ?_); refine bx_ 3 #[.slice A0_0 l0_0.length c0_0, .int .i64 a0_1] 24 ?_; intro gb323 hg w33 hbox hb; have BK323 := Aside0.mk (hbox); have GW323 := gw_ hg HB; have GE323 := gw_ hg HB; replace HB := sb_ HB hb; clear hb hbox hg) | ((with_reducible refine gate_dst (N := 6) rfl ?_); refine bx_ 6 #[.slice none 0 0, .int .i64 0] 24 ?_; intro gb324 hg w34 hbox hb; have BK324 := Aside0.mk (hbox); have GW324 := gw_ hg HB; have GE324 := gw_ hg HB; replace HB := sb_ HB hb; have NB323_324 := nl_ hg BK323; have NB324_323 := ng_ hg BK323; replace BK323 := kb_ BK323 hb; clear hb hbox hg; have hnb35 := NB323_324.out; have hnc35 := NB324_323.out; have hcz36_0 := cz_ BK323 0 (.slice A0_0 l0_0.length c0_0); have hcz36_1 := cz_ BK323 1 (.int .i64 a0_1); have hfz36_0 := blk_frozen BK323.out 0; have hfz36_1 := blk_frozen BK323.out 1) | ((with_reducible refine gate_callee (f := 40) rfl ?_); refine gl_ 13 Try.func40 #[.agg #[.slice A0_0 l0_0.length c0_0, .int .i64 a0_1], .int .i64 a1] ?_; (with_reducible refine (segment_find.calls k _ _ l0_0 a0_1 a1 t325 t326 _ ?side1 ?side2 A4.out).mono ?_); (case side1 => exact pc_ (Kd.C_below HR0_0.out HB.out)); (case side2 => exact HC0_0.out); rintro e w37 ⟨rfl, hb⟩; refine ⟨_, rfl, ?_⟩; replace BK323 := kb_ BK323 hb; replace BK324 := kb_ BK324 hb; replace HB := sb_ HB hb; (try clear hb); (try clear hb2); (try clear hk); (try clear hi)) | ((with_reducible refine gate_callee (f := 37) rfl ?_); refine gl_ 23 Try.func37 #[.int .i64 a2, .int .i64 1, .int .i64 8] ?_; (with_reducible refine (segment_within.calls a2 1 8 false _ A6.out).mono ?_); rintro e w' ⟨rfl, ⟨nd, rfl⟩⟩; refine ⟨_, rfl, ?_⟩; (try (rw [drewN_self w37]; generalize hq_ : World.drewN w37 _ = w37; have n0_ : Aside0 (w37.heap[gb323]? = some (.cells #[.slice A0_0 l0_0.length c0_0, .int .i64 a0_1] 24 (0, 0))) := ⟨by rw [← hq_]; exact (pk_ BK323)⟩; have n1_ : Aside0 (w37.heap[gb324]? = some (.cells #[.slice none 0 0, .int .i64 0] 24 (0, 0))) := ⟨by rw [← hq_]; exact (pk_ BK324)⟩; have n2_ : Aside0 (Below w.heap.size w w37) := ⟨by rw [← hq_]; exact (pb_ HB)⟩; clear BK323 BK324 HB hq_; have BK323 := n0_; have BK324 := n1_; have HB := n2_; clear n0_ n1_ n2_)); have hcz38_0 := cz_ BK324 0 (.slice none 0 0); have hcz38_1 := cz_ BK324 1 (.int .i64 0); have hfz38_0 := blk_frozen BK324.out 0; have hfz38_1 := blk_frozen BK324.out 1))
  refine bodyPost_ret (results_ct rfl _ _ gb324 24 #[.slice none 0 0, .int .i64 0] (0, 0) _ rfl (bq_ BK324) Try.underlying24 rfl (by kernel_rfl)) rfl ?_
  exact ⟨_, er_, by first | exact Kd.R_nil _ _ _ _ _ | exact Kd.N_nil _ _ _ _ _ | exact Kd.V_nil _ _ _ _ _ | exact Kd.Q_nil _ _ _ _ _ | exact Kd.S_nil _ _ _ _ _, pb_ HB⟩
 rw [if_neg c5] at H
 have c5b0 : (t326 == 0) = false := beq_eq_false_iff_ne.mpr c5
 have c5b1 : (t326 != 0) = true := bne_iff_ne.mpr c5
 simp only [Option.some.injEq, Prod.mk.injEq] at H
 obtain ⟨rfl, rfl, rfl⟩ := H
 go_enter Try.func22, Try.ntmps22
 go_wp2_with (first | ((with_reducible refine gate_dst (N := 3) rfl ?_); refine bx_ 3 #[.slice A0_0 l0_0.length c0_0, .int .i64 a0_1] 24 ?_; intro gb323 hg w39 hbox hb; have BK323 := Aside0.mk (hbox); have GW323 := gw_ hg HB; have GE323 := gw_ hg HB; replace HB := sb_ HB hb; clear hb hbox hg) | ((with_reducible refine gate_dst (N := 6) rfl ?_); refine bx_ 6 #[.slice none 0 0, .int .i64 0] 24 ?_; intro gb324 hg w40 hbox hb; have BK324 := Aside0.mk (hbox); have GW324 := gw_ hg HB; have GE324 := gw_ hg HB; replace HB := sb_ HB hb; have NB323_324 := nl_ hg BK323; have NB324_323 := ng_ hg BK323; replace BK323 := kb_ BK323 hb; clear hb hbox hg; have hnb41 := NB323_324.out; have hnc41 := NB324_323.out; have hcz42_0 := cz_ BK323 0 (.slice A0_0 l0_0.length c0_0); have hcz42_1 := cz_ BK323 1 (.int .i64 a0_1); have hfz42_0 := blk_frozen BK323.out 0; have hfz42_1 := blk_frozen BK323.out 1) | ((with_reducible refine gate_callee (f := 40) rfl ?_); refine gl_ 13 Try.func40 #[.agg #[.slice A0_0 l0_0.length c0_0, .int .i64 a0_1], .int .i64 a1] ?_; (with_reducible refine (segment_find.calls k _ _ l0_0 a0_1 a1 t325 t326 _ ?side1 ?side2 A4.out).mono ?_); (case side1 => exact pc_ (Kd.C_below HR0_0.out HB.out)); (case side2 => exact HC0_0.out); rintro e w43 ⟨rfl, hb⟩; refine ⟨_, rfl, ?_⟩; replace BK323 := kb_ BK323 hb; replace BK324 := kb_ BK324 hb; replace HB := sb_ HB hb; (try clear hb); (try clear hb2); (try clear hk); (try clear hi); have hcz44_0 := cz_ BK324 0 (.slice none 0 0); have hcz44_1 := cz_ BK324 1 (.int .i64 0); have hfz44_0 := blk_frozen BK324.out 0; have hfz44_1 := blk_frozen BK324.out 1))
 refine bodyPost_ret (results_ct rfl _ _ gb324 24 #[.slice none 0 0, .int .i64 0] (0, 0) _ rfl (bq_ BK324) Try.underlying24 rfl (by kernel_rfl)) rfl ?_
 exact ⟨_, er_, by first | exact Kd.R_nil _ _ _ _ _ | exact Kd.N_nil _ _ _ _ _ | exact Kd.V_nil _ _ _ _ _ | exact Kd.Q_nil _ _ _ _ _ | exact Kd.S_nil _ _ _ _ _, pb_ HB⟩
def segment_Truncated.f (k : Nat) (l0_0 : List (S56)) (a0_1 : Int) (a1 : Int) (a2 : Int) : Option ((List (S56)) × Int × Int) := (segment_find.f k l0_0 a0_1 a1).bind fun bt337 => (if bt337.2 = 0 then (if 0 ≤ bt337.1 then (if bt337.1 < (l0_0.length : Int) then ((segment_within.f a2 1 (wrap64 ((((rd_T56 l0_0 bt337.1).f1).size : Int) / 32))).bind fun t340 => (if t340 = true then (if 0 ≤ (wrap64 (a2 * 32)) then (if (wrap64 (a2 * 32)) ≤ (((rd_T56 l0_0 bt337.1).f1).size : Int) then ((segment_with.f l0_0 a0_1 bt337.1 (((rd_T56 l0_0 bt337.1).f1).extract 0 ((wrap64 (a2 * 32)) : Int).toNat)).bind fun bt342 => (some (bt342.1, bt342.2, 0))) else (none)) else (none)) else (some (([] : List (S56)), 0, 3)))) else (none)) else (none)) else (some (([] : List (S56)), 0, bt337.2)))
def segment_Truncated.T6 : Bool × List (List Nat × List Nat) := (true, [([], []), ([], []), ([], []), ([2], [2]), ([], []), ([3, 4], [3, 4]), ([5], [5]), ([6], [6]), ([], []), ([8], [8]), ([7, 9], [7, 9]), ([0, 1, 10], [0, 1, 10]), ([11, 11, 0, 1, 2, 3, 4, 5, 6, 7, 8, 9, 10, 11], [11]), ([12, 0, 1, 2, 3, 4, 5, 6, 7, 8, 9, 10, 11, 12], [])])
def segment_Truncated.B6 : List Nat := [0, 0, 0, 4, 0, 28, 60, 124, 0, 256, 1020, 2047, 4095, 8191]
theorem segment_Truncated.tab6 : rtab .any (opsOf Try.f23 6) = segment_Truncated.T6 := by kernel_rfl
theorem segment_Truncated.bits6 : waitsOk segment_Truncated.T6.2 segment_Truncated.B6 = true := by kernel_rfl
set_option maxHeartbeats 8000000 in
set_option maxRecDepth 100000 in
theorem segment_Truncated.calls (k : Nat) (A0_0 : Option Addr) (c0_0 : Nat) (l0_0 : List (S56)) (a0_1 : Int) (a1 : Int) (a2 : Int) (r1 : List (S56)) (r2 : Int) (r3 : Int) (w : World) (hr0_0 : Kd.C k56 w A0_0 l0_0.length l0_0) (hc0_0 : l0_0.length ≤ c0_0) (h : segment_Truncated.f k l0_0 a0_1 a1 a2 = some (r1, r2, r3)) :
  Calls Try.prog 23 #[.agg #[.slice A0_0 l0_0.length c0_0, .int .i64 a0_1], .int .i64 a1, .int .i64 a2] w fun e w' => ∃ v0_ : Value, e = .returned (.tuple #[.agg #[v0_, .int .i64 r2], .int .i64 r3]) ∧ Kd.R k56 56 w' w.heap.size (fun _ => True) v0_ r1 ∧ Below w.heap.size w w' := by
 have hu24 := Try.underlying24
 have HR0_0 := Aside0.mk hr0_0
 have HC0_0 := Aside0.mk hc0_0
 clear hr0_0 hc0_0
 have HB := Aside0.mk (Below.refl w.heap.size w)
 have H : ((segment_find.f k l0_0 a0_1 a1).bind fun bt337 => (if bt337.2 = 0 then (if 0 ≤ bt337.1 then (if bt337.1 < (l0_0.length : Int) then ((segment_within.f a2 1 (wrap64 ((((rd_T56 l0_0 bt337.1).f1).size : Int) / 32))).bind fun t340 => (if t340 = true then (if 0 ≤ (wrap64 (a2 * 32)) then (if (wrap64 (a2 * 32)) ≤ (((rd_T56 l0_0 bt337.1).f1).size : Int) then ((segment_with.f l0_0 a0_1 bt337.1 (((rd_T56 l0_0 bt337.1).f1).extract 0 ((wrap64 (a2 * 32)) : Int).toNat)).bind fun bt342 => (some (bt342.1, bt342.2, 0))) else (none)) else (none)) else (some (([] : List (S56)), 0, 3)))) else (none)) else (none)) else (some (([] : List (S56)), 0, bt337.2)))) = some (r1, r2, r3) := h
 clear h
 replace H := Option.bind_eq_some_iff.mp H
 obtain ⟨⟨t337, t338⟩, A40, H⟩ := H
 replace H : (if t338 = 0 then (if 0 ≤ t337 then (if t337 < (l0_0.length : Int) then ((segment_within.f a2 1 (wrap64 ((((rd_T56 l0_0 t337).f1).size : Int) / 32))).bind fun t340 => (if t340 = true then (if 0 ≤ (wrap64 (a2 * 32)) then (if (wrap64 (a2 * 32)) ≤ (((rd_T56 l0_0 t337).f1).size : Int) then ((segment_with.f l0_0 a0_1 t337 (((rd_T56 l0_0 t337).f1).extract 0 ((wrap64 (a2 * 32)) : Int).toNat)).bind fun bt342 => (some (bt342.1, bt342.2, 0))) else (none)) else (none)) else (some (([] : List (S56)), 0, 3)))) else (none)) else (none)) else (some (([] : List (S56)), 0, t338))) = some (r1, r2, r3) := H
 have A4 := Aside0.mk A40
 clear A40
 by_cases c5 : t338 = 0
 ·
  rw [if_pos c5] at H
  have c5b0 : (t338 == 0) = true := beq_iff_eq.mpr c5
  have c5b1 : (t338 != 0) = false := bne_eq_false_iff_eq.mpr c5
  clear c5
  by_cases c6 : 0 ≤ t337
  ·
   rw [if_pos c6] at H
   have c6b0 : decide (0 ≤ t337) = true := decide_eq_true c6
   clear c6
   by_cases c7 : t337 < (l0_0.length : Int)
   ·
    rw [if_pos c7] at H
    have c7b0 : decide (t337 < (l0_0.length : Int)) = true := decide_eq_true c7
    clear c7
    replace H := Option.bind_eq_some_iff.mp H
    obtain ⟨t340, A80, H⟩ := H
    replace H : (if t340 = true then (if 0 ≤ (wrap64 (a2 * 32)) then (if (wrap64 (a2 * 32)) ≤ (((rd_T56 l0_0 t337).f1).size : Int) then ((segment_with.f l0_0 a0_1 t337 (((rd_T56 l0_0 t337).f1).extract 0 ((wrap64 (a2 * 32)) : Int).toNat)).bind fun bt342 => (some (bt342.1, bt342.2, 0))) else (none)) else (none)) else (some (([] : List (S56)), 0, 3))) = some (r1, r2, r3) := H
    have A8 := Aside0.mk A80
    clear A80
    by_cases c9 : t340 = true
    ·
     subst c9
     have H1 : (if 0 ≤ (wrap64 (a2 * 32)) then (if (wrap64 (a2 * 32)) ≤ (((rd_T56 l0_0 t337).f1).size : Int) then ((segment_with.f l0_0 a0_1 t337 (((rd_T56 l0_0 t337).f1).extract 0 ((wrap64 (a2 * 32)) : Int).toNat)).bind fun bt342 => (some (bt342.1, bt342.2, 0))) else (none)) else (none)) = some (r1, r2, r3) := by rw [if_pos rfl] at H; exact H
     clear H
     have H := H1
     clear H1
     obtain ⟨ji10, hji10⟩ : ∃ j_ : Int, (wrap64 (a2 * 32)) = j_ := ⟨_, rfl⟩
     replace H : (if 0 ≤ (ji10) then (if (ji10) ≤ (((rd_T56 l0_0 t337).f1).size : Int) then ((segment_with.f l0_0 a0_1 t337 (((rd_T56 l0_0 t337).f1).extract 0 ((ji10) : Int).toNat)).bind fun bt342 => (some (bt342.1, bt342.2, 0))) else (none)) else (none)) = some (r1, r2, r3) := by first | (rw [hji10] at H; exact H) | (simp only [hji10] at H ⊢; exact H)
     (try rw [hji10] at A4)
     (try rw [hji10] at A8)
     have hji10w : (IntKind.i64.wrap (a2 * 32)) = ji10 := (i64_w _).trans hji10
     by_cases c11 : 0 ≤ (ji10)
     ·
      rw [if_pos c11] at H
      have c11b0 := eq_true c11
      have c11b1 : decide (0 ≤ (ji10)) = true := decide_eq_true c11
      clear c11
      by_cases c12 : (ji10) ≤ (((rd_T56 l0_0 t337).f1).size : Int)
      ·
       rw [if_pos c12] at H
       have c12b0 := eq_true c12
       have c12b1 : decide ((ji10) ≤ (((rd_T56 l0_0 t337).f1).size : Int)) = true := decide_eq_true c12
       clear c12
       replace H := Option.bind_eq_some_iff.mp H
       obtain ⟨⟨t342, t345⟩, A130, H⟩ := H
       replace H : (some (t342, t345, 0)) = some (r1, r2, r3) := H
       have A13 := Aside0.mk A130
       clear A130
       simp only [Option.some.injEq, Prod.mk.injEq] at H
       obtain ⟨rfl, rfl, rfl⟩ := H
       go_enter Try.func23, Try.ntmps23
       try go_wp2_with (first | ((with_reducible refine gate_dst (N := 3) rfl ?_); refine bx_ 3 #[.slice A0_0 l0_0.length c0_0, .int .i64 a0_1] 24 ?_; intro gb335 hg w14 hbox hb; have BK335 := Aside0.mk (hbox); have GW335 := gw_ hg HB; have GE335 := gw_ hg HB; replace HB := sb_ HB hb; clear hb hbox hg) | ((with_reducible refine gate_dst (N := 6) rfl ?_); refine bx_ 6 #[.slice none 0 0, .int .i64 0] 24 ?_; intro gb336 hg w15 hbox hb; have BK336 := Aside0.mk (hbox); have GW336 := gw_ hg HB; have GE336 := gw_ hg HB; replace HB := sb_ HB hb; have NB335_336 := nl_ hg BK335; have NB336_335 := ng_ hg BK335; replace BK335 := kb_ BK335 hb; clear hb hbox hg; have hnb16 := NB335_336.out; have hnc16 := NB336_335.out; have hcz17_0 := cz_ BK335 0 (.slice A0_0 l0_0.length c0_0); have hcz17_1 := cz_ BK335 1 (.int .i64 a0_1); have hfz17_0 := blk_frozen BK335.out 0; have hfz17_1 := blk_frozen BK335.out 1) | ((with_reducible refine gate_callee (f := 40) rfl ?_); refine gl_ 13 Try.func40 #[.agg #[.slice A0_0 l0_0.length c0_0, .int .i64 a0_1], .int .i64 a1] ?_; (with_reducible refine (segment_find.calls k _ _ l0_0 a0_1 a1 t337 t338 _ ?side1 ?side2 A4.out).mono ?_); (case side1 => exact pc_ (Kd.C_below HR0_0.out HB.out)); (case side2 => exact HC0_0.out); rintro e w18 ⟨rfl, hb⟩; refine ⟨_, rfl, ?_⟩; replace BK335 := kb_ BK335 hb; replace BK336 := kb_ BK336 hb; replace HB := sb_ HB hb; (try clear hb); (try clear hb2); (try clear hk); (try clear hi); have hcz19_0 := cz_ BK335 0 (.slice A0_0 l0_0.length c0_0); have hcz19_1 := cz_ BK335 1 (.int .i64 a0_1); have hfz19_0 := blk_frozen BK335.out 0; have hfz19_1 := blk_frozen BK335.out 1; have p339 : 0 ≤ (t337 : Int) := ct_; have q339 : t337 < (l0_0.length : Int) := ct_; obtain ⟨ad339, e339, hx339_0, hx339_1⟩ := at_T56 HR0_0.out t337 p339 q339; cases e339; replace hx339_0 := pw_cell_below HB.out hx339_0; replace hx339_1 := pw_cell_below HB.out hx339_1; replace p339 := eq_true p339; replace q339 := eq_true q339) | ((with_reducible refine gate_callee (f := 37) rfl ?_); refine gl_ 29 Try.func37 #[.int .i64 a2, .int .i64 1, .int .i64 (wrap64 ((((rd_T56 l0_0 t337).f1).size : Int) / 32))] ?_; (with_reducible refine (segment_within.calls a2 1 (wrap64 ((((rd_T56 l0_0 t337).f1).size : Int) / 32)) true _ A8.out).mono ?_); rintro e w' ⟨rfl, ⟨nd, rfl⟩⟩; refine ⟨_, rfl, ?_⟩; (try (rw [drewN_self w18]; generalize hq_ : World.drewN w18 _ = w18; have n0_ : Aside0 (w18.heap[gb335]? = some (.cells #[.slice (some ad339) l0_0.length c0_0, .int .i64 a0_1] 24 (0, 0))) := ⟨by rw [← hq_]; exact (pk_ BK335)⟩; have n1_ : Aside0 (w18.heap[gb336]? = some (.cells #[.slice none 0 0, .int .i64 0] 24 (0, 0))) := ⟨by rw [← hq_]; exact (pk_ BK336)⟩; have n2_ : Aside0 (Below w.heap.size w w18) := ⟨by rw [← hq_]; exact (pb_ HB)⟩; clear BK335 BK336 HB hq_; have BK335 := n0_; have BK336 := n1_; have HB := n2_; clear n0_ n1_ n2_))))
       replace BK335 := Aside0.mk (blk_drew BK335.out)
       replace BK336 := Aside0.mk (blk_drew BK336.out)
       replace HB := Aside0.mk (below_drew1 HB.out)
       have p341 : 0 ≤ (t337 : Int) := ct_
       have q341 : t337 < (l0_0.length : Int) := ct_
       obtain ⟨ad341, e341, hx341_0, hx341_1⟩ := at_T56 HR0_0.out t337 p341 q341
       have hw341_1 := hx341_1
       have hw341_0 := hx341_0
       obtain rfl : ad339 = ad341 := (by injection e341)
       replace hx341_0 := pw_cell_below HB.out hx341_0
       replace hx341_1 := pw_cell_below HB.out hx341_1
       replace p341 := eq_true p341
       replace q341 := eq_true q341
       refine start_ (n := 14) (S := fun w' => w'.cell? ⟨gb335, 0, none⟩ = some (.slice (some ad339) l0_0.length c0_0) ∧ w'.cell? ⟨gb335, 1, none⟩ = some (.int .i64 a0_1) ∧ w'.cell? (ad339.add ((t337).toNat * 2)) = some (.int .i64 ((rd_T56 l0_0 t337).f0)) ∧ w'.cell? ⟨(ad339.add ((t337).toNat * 2)).block, (ad339.add ((t337).toNat * 2)).off + 1, none⟩ = some (.string ((rd_T56 l0_0 t337).f1))) (ds := []) #[false, false, false, false, false, false, false, false, false, false, false, false, false, false] (by kernel_rfl) rfl rfl ⟨cy_ BK335 0, cy_ BK335 1, (pw_cell_below HB.out hw341_0), (pw_cell_below HB.out hw341_1)⟩ (fun hHeld => ?_); refine with_tabW segment_Truncated.tab6 segment_Truncated.bits6 (fun HT_ HW_ => ?_)
       generalize w18.drew = w20 at BK335 BK336 HB hx341_0 hx341_1 hHeld ⊢
       refine pu_ 1 33 HT_ ?_
       refine pu_ 2 34 HT_ ?_
       refine pu_ 4 36 HT_ ?_
       refine pu_ 8 40 HT_ ?_
       refine pu_ 9 41 HT_ ?_
       refine tk_ 0 32 HT_ HW_ hHeld rfl (Or.inl ⟨by rfl, by rintro w' ⟨s0, s1, s2, s3⟩; go_simp; with_reducible rfl⟩) ?_
       refine tk_ 3 35 HT_ HW_ hHeld rfl (Or.inl ⟨by rfl, by rintro w' ⟨s0, s1, s2, s3⟩; go_simp; with_reducible rfl⟩) ?_
       refine pu_ 5 37 HT_ ?_
       refine pu_ 6 38 HT_ ?_
       refine tk_ 7 39 HT_ HW_ hHeld rfl (Or.inl ⟨by rfl, by rintro w' ⟨s0, s1, s2, s3⟩; go_simp; with_reducible rfl⟩) ?_
       refine pu_ 10 42 HT_ ?_
       refine one_ (i := 11) (N := some 43) #[true, true, true, true, true, true, true, true, true, true, true, true, false, false] rfl rfl (one_of HT_.out (by kernel_rfl)) (by decide) (fun K hK => ?_)
       refine goes_ Try.func47 (by kernel_rfl) rfl #[.agg #[.slice (some ad339) l0_0.length c0_0, .int .i64 a0_1], .int .i64 t337, .string (((rd_T56 l0_0 t337).f1).extract 0 ((ji10) : Int).toNat)] (by rfl) rfl rfl (by (try simp only [List.map_toArray, List.map_cons, List.map_nil]); first | done | (simp only [hji10]; rfl) | rfl | (simp only [List.length_drop, List.length_take]; rfl)) ?_
       with_reducible refine (segment_with.calls _ _ l0_0 a0_1 t337 (((rd_T56 l0_0 t337).f1).extract 0 ((ji10) : Int).toNat) t342 t345 _ ?side1 ?side2 A13.out).mono ?_
       (case side1 => exact pc_ (Kd.C_below HR0_0.out HB.out))
       (case side2 => exact HC0_0.out)
       rintro e w21 ⟨v343, rfl, ho0, hb⟩
       refine ⟨_, rfl, ?_⟩
       have HO344 := Aside0.mk (Kd.R_lower ho0 (below_size (pb_ HB)))
       replace BK335 := kb_ BK335 hb
       replace BK336 := kb_ BK336 hb
       replace HB := sb_ HB hb
       (try clear hb)
       (try clear hb2)
       (try clear hk)
       (try clear hi)
       (try clear ho0)
       obtain ⟨Ao22, co22, eo22⟩ := Kd.R_slice HO344.out
       (first | subst eo22 | (injection eo22 with f1_ f2_ f3_; have f4_ := f1_.symm; have f5_ := f3_.symm; clear f1_ f2_ f3_; subst f4_; subst f5_))
       refine hK.out _ _ ⟨cy_ BK335 0, cy_ BK335 1, (pw_cell_below HB.out hw341_0), (pw_cell_below HB.out hw341_1)⟩ (fun hHeld => ?_)
       clear hK K
       refine nn_ 43 ?_
       refine one_ (i := 12) (N := none) #[true, true, true, true, true, true, true, true, true, true, true, true, true, false] rfl rfl (one_of HT_.out (by kernel_rfl)) (by decide) (fun K hK => ?_)
       have hs23 : w21.cell? ⟨gb336, 0, none⟩ = some (.slice none 0 0) := (blk_cell BK336.out 0).trans rfl
       have hfs23 := blk_frozen BK336.out 0
       have hns23_0 := NB335_336.out
       have hms23_0 := NB336_335.out
       have hs24 : w21.cell? ⟨gb336, 1, none⟩ = some (.int .i64 0) := (blk_cell BK336.out 1).trans rfl
       have hfs24 := blk_frozen BK336.out 1
       have hns24_0 := NB335_336.out
       have hms24_0 := NB336_335.out
       refine skip_ (w1 := ?_) (by rfl) rfl ?_ ?_
       rotate_left
       ·
        go_simp
        rfl
       refine hK.out _ _ ⟨((cell_far (p := ⟨gb336, _, none⟩) NB335_336.out _).trans (((cell_far (p := ⟨gb336, _, none⟩) NB335_336.out _).trans (hHeld.1)))), ((cell_far (p := ⟨gb336, _, none⟩) NB335_336.out _).trans (((cell_far (p := ⟨gb336, _, none⟩) NB335_336.out _).trans (hHeld.2.1)))), ((cell_far (p := ⟨gb336, _, none⟩) (nf_ hw341_0 GW336) _).trans (((cell_far (p := ⟨gb336, _, none⟩) (nf_ hw341_0 GW336) _).trans (hHeld.2.2.1)))), ((cell_far (p := ⟨gb336, _, none⟩) (nf_ hw341_1 GW336) _).trans (((cell_far (p := ⟨gb336, _, none⟩) (nf_ hw341_1 GW336) _).trans (hHeld.2.2.2))))⟩ (fun hHeld => ?_)
       clear hK K
       refine pu_ 13 7 HT_ ?_
       refine done_ (done_of HT_.out (by kernel_rfl)) ?_
       try go_wp2
       refine bodyPost_ret (results_ct rfl _ _ gb336 24 #[.slice Ao22 t342.length co22, .int .i64 t345] (0, 0) _ rfl (bq_ BK336) Try.underlying24 rfl (by kernel_rfl)) rfl ?_
       exact ⟨_, by first | rfl | (simp [errW_none, errW_some] <;> rfl) | (simp only [← hji10]; first | rfl | (simp [errW_none, errW_some] <;> rfl)) | (simp [*, errW_none, errW_some] <;> rfl), by (with_reducible repeat (first | apply Kd.R_alloc | apply Kd.R_drewN | apply Kd.R_drew)); exact Kd.R_mono (Kd.R_far (p := ⟨gb336, 1, none⟩) (Kd.R_far (p := ⟨gb336, 0, none⟩) (Kd.R_types HO344.out BK336.out (by decide)) (fun _ hk => hk.2) (.slice Ao22 t342.length co22)) (fun _ hk => hk.2) (.int .i64 t345)) (fun _ hk => trivial), pb_ HB⟩
      rw [if_neg c12] at H
      exact absurd H (by simp)
     rw [if_neg c11] at H
     exact absurd H (by simp)
    replace c9 := Bool.eq_false_iff.mpr c9
    subst c9
    have H1 : (some (([] : List (S56)), 0, 3)) = some (r1, r2, r3) := by rw [if_neg (show ¬ (false = true) by decide)] at H; exact H
    clear H
    have H := H1
    clear H1
    simp only [Option.some.injEq, Prod.mk.injEq] at H
    obtain ⟨rfl, rfl, rfl⟩ := H
    go_enter Try.func23, Try.ntmps23
    go_wp2_with (first | ((with_reducible refine gate_dst (N := 3) rfl ?_); refine bx_ 3 #[.slice A0_0 l0_0.length c0_0, .int .i64 a0_1] 24 ?_; intro gb335 hg w25 hbox hb; have BK335 := Aside0.mk (hbox); have GW335 := gw_ hg HB; have GE335 := gw_ hg HB; replace HB := sb_ HB hb; clear hb hbox hg) | ((with_reducible refine gate_dst (N := 6) rfl ?_); refine bx_ 6 #[.slice none 0 0, .int .i64 0] 24 ?_; intro gb336 hg w26 hbox hb; have BK336 := Aside0.mk (hbox); have GW336 := gw_ hg HB; have GE336 := gw_ hg HB; replace HB := sb_ HB hb; have NB335_336 := nl_ hg BK335; have NB336_335 := ng_ hg BK335; replace BK335 := kb_ BK335 hb; clear hb hbox hg; have hnb27 := NB335_336.out; have hnc27 := NB336_335.out; have hcz28_0 := cz_ BK335 0 (.slice A0_0 l0_0.length c0_0); have hcz28_1 := cz_ BK335 1 (.int .i64 a0_1); have hfz28_0 := blk_frozen BK335.out 0; have hfz28_1 := blk_frozen BK335.out 1) | ((with_reducible refine gate_callee (f := 40) rfl ?_); refine gl_ 13 Try.func40 #[.agg #[.slice A0_0 l0_0.length c0_0, .int .i64 a0_1], .int .i64 a1] ?_; (with_reducible refine (segment_find.calls k _ _ l0_0 a0_1 a1 t337 t338 _ ?side1 ?side2 A4.out).mono ?_); (case side1 => exact pc_ (Kd.C_below HR0_0.out HB.out)); (case side2 => exact HC0_0.out); rintro e w29 ⟨rfl, hb⟩; refine ⟨_, rfl, ?_⟩; replace BK335 := kb_ BK335 hb; replace BK336 := kb_ BK336 hb; replace HB := sb_ HB hb; (try clear hb); (try clear hb2); (try clear hk); (try clear hi); have hcz30_0 := cz_ BK335 0 (.slice A0_0 l0_0.length c0_0); have hcz30_1 := cz_ BK335 1 (.int .i64 a0_1); have hfz30_0 := blk_frozen BK335.out 0; have hfz30_1 := blk_frozen BK335.out 1; have p339 : 0 ≤ (t337 : Int) := ct_; have q339 : t337 < (l0_0.length : Int) := ct_; obtain ⟨ad339, e339, hx339_0, hx339_1⟩ := at_T56 HR0_0.out t337 p339 q339; cases e339; replace hx339_0 := pw_cell_below HB.out hx339_0; replace hx339_1 := pw_cell_below HB.out hx339_1; replace p339 := eq_true p339; replace q339 := eq_true q339) | ((with_reducible refine gate_callee (f := 37) rfl ?_); refine gl_ 29 Try.func37 #[.int .i64 a2, .int .i64 1, .int .i64 (wrap64 ((((rd_T56 l0_0 t337).f1).size : Int) / 32))] ?_; (with_reducible refine (segment_within.calls a2 1 (wrap64 ((((rd_T56 l0_0 t337).f1).size : Int) / 32)) false _ A8.out).mono ?_); rintro e w' ⟨rfl, ⟨nd, rfl⟩⟩; refine ⟨_, rfl, ?_⟩; (try (rw [drewN_self w29]; generalize hq_ : World.drewN w29 _ = w29; have n0_ : Aside0 (w29.heap[gb335]? = some (.cells #[.slice (some ad339) l0_0.length c0_0, .int .i64 a0_1] 24 (0, 0))) := ⟨by rw [← hq_]; exact (pk_ BK335)⟩; have n1_ : Aside0 (w29.heap[gb336]? = some (.cells #[.slice none 0 0, .int .i64 0] 24 (0, 0))) := ⟨by rw [← hq_]; exact (pk_ BK336)⟩; have n2_ : Aside0 (Below w.heap.size w w29) := ⟨by rw [← hq_]; exact (pb_ HB)⟩; clear BK335 BK336 HB hq_; have BK335 := n0_; have BK336 := n1_; have HB := n2_; clear n0_ n1_ n2_)); have hcz31_0 := cz_ BK336 0 (.slice none 0 0); have hcz31_1 := cz_ BK336 1 (.int .i64 0); have hfz31_0 := blk_frozen BK336.out 0; have hfz31_1 := blk_frozen BK336.out 1))
    refine bodyPost_ret (results_ct rfl _ _ gb336 24 #[.slice none 0 0, .int .i64 0] (0, 0) _ rfl (bq_ BK336) Try.underlying24 rfl (by kernel_rfl)) rfl ?_
    exact ⟨_, er_, by first | exact Kd.R_nil _ _ _ _ _ | exact Kd.N_nil _ _ _ _ _ | exact Kd.V_nil _ _ _ _ _ | exact Kd.Q_nil _ _ _ _ _ | exact Kd.S_nil _ _ _ _ _, pb_ HB⟩
   rw [if_neg c7] at H
   exact absurd H (by simp)
  rw [if_neg c6] at H
  exact absurd H (by simp)
 rw [if_neg c5] at H
 have c5b0 : (t338 == 0) = false := beq_eq_false_iff_ne.mpr c5
 have c5b1 : (t338 != 0) = true := bne_iff_ne.mpr c5
 simp only [Option.some.injEq, Prod.mk.injEq] at H
 obtain ⟨rfl, rfl, rfl⟩ := H
 go_enter Try.func23, Try.ntmps23
 go_wp2_with (first | ((with_reducible refine gate_dst (N := 3) rfl ?_); refine bx_ 3 #[.slice A0_0 l0_0.length c0_0, .int .i64 a0_1] 24 ?_; intro gb335 hg w32 hbox hb; have BK335 := Aside0.mk (hbox); have GW335 := gw_ hg HB; have GE335 := gw_ hg HB; replace HB := sb_ HB hb; clear hb hbox hg) | ((with_reducible refine gate_dst (N := 6) rfl ?_); refine bx_ 6 #[.slice none 0 0, .int .i64 0] 24 ?_; intro gb336 hg w33 hbox hb; have BK336 := Aside0.mk (hbox); have GW336 := gw_ hg HB; have GE336 := gw_ hg HB; replace HB := sb_ HB hb; have NB335_336 := nl_ hg BK335; have NB336_335 := ng_ hg BK335; replace BK335 := kb_ BK335 hb; clear hb hbox hg; have hnb34 := NB335_336.out; have hnc34 := NB336_335.out; have hcz35_0 := cz_ BK335 0 (.slice A0_0 l0_0.length c0_0); have hcz35_1 := cz_ BK335 1 (.int .i64 a0_1); have hfz35_0 := blk_frozen BK335.out 0; have hfz35_1 := blk_frozen BK335.out 1) | ((with_reducible refine gate_callee (f := 40) rfl ?_); refine gl_ 13 Try.func40 #[.agg #[.slice A0_0 l0_0.length c0_0, .int .i64 a0_1], .int .i64 a1] ?_; (with_reducible refine (segment_find.calls k _ _ l0_0 a0_1 a1 t337 t338 _ ?side1 ?side2 A4.out).mono ?_); (case side1 => exact pc_ (Kd.C_below HR0_0.out HB.out)); (case side2 => exact HC0_0.out); rintro e w36 ⟨rfl, hb⟩; refine ⟨_, rfl, ?_⟩; replace BK335 := kb_ BK335 hb; replace BK336 := kb_ BK336 hb; replace HB := sb_ HB hb; (try clear hb); (try clear hb2); (try clear hk); (try clear hi); have hcz37_0 := cz_ BK336 0 (.slice none 0 0); have hcz37_1 := cz_ BK336 1 (.int .i64 0); have hfz37_0 := blk_frozen BK336.out 0; have hfz37_1 := blk_frozen BK336.out 1))
 refine bodyPost_ret (results_ct rfl _ _ gb336 24 #[.slice none 0 0, .int .i64 0] (0, 0) _ rfl (bq_ BK336) Try.underlying24 rfl (by kernel_rfl)) rfl ?_
 exact ⟨_, er_, by first | exact Kd.R_nil _ _ _ _ _ | exact Kd.N_nil _ _ _ _ _ | exact Kd.V_nil _ _ _ _ _ | exact Kd.Q_nil _ _ _ _ _ | exact Kd.S_nil _ _ _ _ _, pb_ HB⟩
end Go.Proofs.Ytoabahlaicgmjaa.X
end
