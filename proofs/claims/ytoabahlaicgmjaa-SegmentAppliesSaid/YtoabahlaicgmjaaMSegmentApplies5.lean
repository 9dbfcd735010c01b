-- Texts of this claim joined by merge.py, a program of its author; what this claim does not reach is left out.
import Derived.Test.YtoabahlaicgmjaaMSegmentApplies4
section
namespace Go.Proofs.Ytoabahlaicgmjaa.X
open Go.Proofs.Ytoabahlaicgmjaa.XW Go.Proofs.Ytoabahlaicgmjaa.XS
open Go.RowKit Go.Proofs.YtoabahlaicgmjaaW.PrintWords Go.Proofs.YtoabahlaicgmjaaW.PrintLast Go.Proofs.YtoabahlaicgmjaaW.PrintMore
attribute [local go_sem] max2_int min2_int max_two min_two max_three min_three max_four min_four   -- for this text's walks alone
set_option linter.unusedVariables false
set_option linter.unusedSimpArgs false

/-! ### segment_bytesAt: function 49 -/
def segment_bytesAt.f (k : Nat) (l0_0 : List (S56)) (a0_1 : Int) (a1_0 : Int) (a1_1 : Int) (a2 : Int) : Option (Int × Int) := (segment_find.f k l0_0 a0_1 a1_0).bind fun bt439 => (if bt439.2 = 0 then (if 0 ≤ bt439.1 then (if bt439.1 < (l0_0.length : Int) then ((segment_within.f a1_1 0 (((rd_T56 l0_0 bt439.1).f1).size : Int)).bind fun t442 => (if t442 = true then ((segment_within.f a2 0 (wrap64 ((((rd_T56 l0_0 bt439.1).f1).size : Int) - a1_1))).bind fun t443 => (if t443 = true then (some (bt439.1, 0)) else (some (0, 3)))) else (some (0, 3)))) else (none)) else (none)) else (some (0, bt439.2)))
set_option maxHeartbeats 8000000 in
set_option maxRecDepth 100000 in
theorem segment_bytesAt.calls (k : Nat) (A0_0 : Option Addr) (c0_0 : Nat) (l0_0 : List (S56)) (a0_1 : Int) (a1_0 : Int) (a1_1 : Int) (a2 : Int) (r1 : Int) (r2 : Int) (w : World) (hr0_0 : Kd.C k56 w A0_0 l0_0.length l0_0) (hc0_0 : l0_0.length ≤ c0_0) (h : segment_bytesAt.f k l0_0 a0_1 a1_0 a1_1 a2 = some (r1, r2)) :
    Calls Try.prog 49 #[.agg #[.slice A0_0 l0_0.length c0_0, .int .i64 a0_1], .agg #[.int .i64 a1_0, .int .i64 a1_1], .int .i64 a2] w fun e w' => e = .returned (.tuple #[.int .i64 r1, .int .i64 r2]) ∧ Below w.heap.size w w' := by
  have hu24 := Try.underlying24
  have hu46 := Try.underlying46
  have HR0_0 := Aside0.mk hr0_0
  have HC0_0 := Aside0.mk hc0_0
  clear hr0_0 hc0_0
  have HB := Aside0.mk (Below.refl w.heap.size w)
  have H : ((segment_find.f k l0_0 a0_1 a1_0).bind fun bt439 => (if bt439.2 = 0 then (if 0 ≤ bt439.1 then (if bt439.1 < (l0_0.length : Int) then ((segment_within.f a1_1 0 (((rd_T56 l0_0 bt439.1).f1).size : Int)).bind fun t442 => (if t442 = true then ((segment_within.f a2 0 (wrap64 ((((rd_T56 l0_0 bt439.1).f1).size : Int) - a1_1))).bind fun t443 => (if t443 = true then (some (bt439.1, 0)) else (some (0, 3)))) else (some (0, 3)))) else (none)) else (none)) else (some (0, bt439.2)))) = some (r1, r2) := h
  clear h
  replace H := Option.bind_eq_some_iff.mp H
  obtain ⟨⟨t439, t440⟩, A40, H⟩ := H
  replace H : (if t440 = 0 then (if 0 ≤ t439 then (if t439 < (l0_0.length : Int) then ((segment_within.f a1_1 0 (((rd_T56 l0_0 t439).f1).size : Int)).bind fun t442 => (if t442 = true then ((segment_within.f a2 0 (wrap64 ((((rd_T56 l0_0 t439).f1).size : Int) - a1_1))).bind fun t443 => (if t443 = true then (some (t439, 0)) else (some (0, 3)))) else (some (0, 3)))) else (none)) else (none)) else (some (0, t440))) = some (r1, r2) := H
  have A4 := Aside0.mk A40
  clear A40
  by_cases c5 : t440 = 0
  · rw [if_pos c5] at H
    have c5b0 : (t440 == 0) = true := beq_iff_eq.mpr c5
    have c5b1 : (t440 != 0) = false := bne_eq_false_iff_eq.mpr c5
    clear c5
    by_cases c6 : 0 ≤ t439
    · rw [if_pos c6] at H
      have c6b0 : decide (0 ≤ t439) = true := decide_eq_true c6
      clear c6
      by_cases c7 : t439 < (l0_0.length : Int)
      · rw [if_pos c7] at H
        have c7b0 : decide (t439 < (l0_0.length : Int)) = true := decide_eq_true c7
        clear c7
        replace H := Option.bind_eq_some_iff.mp H
        obtain ⟨t442, A80, H⟩ := H
        replace H : (if t442 = true then ((segment_within.f a2 0 (wrap64 ((((rd_T56 l0_0 t439).f1).size : Int) - a1_1))).bind fun t443 => (if t443 = true then (some (t439, 0)) else (some (0, 3)))) else (some (0, 3))) = some (r1, r2) := H
        have A8 := Aside0.mk A80
        clear A80
        by_cases c9 : t442 = true
        · subst c9
          have H1 : ((segment_within.f a2 0 (wrap64 ((((rd_T56 l0_0 t439).f1).size : Int) - a1_1))).bind fun t443 => (if t443 = true then (some (t439, 0)) else (some (0, 3)))) = some (r1, r2) := by rw [if_pos rfl] at H; exact H
          clear H
          have H := H1
          clear H1
          replace H := Option.bind_eq_some_iff.mp H
          obtain ⟨t443, A100, H⟩ := H
          replace H : (if t443 = true then (some (t439, 0)) else (some (0, 3))) = some (r1, r2) := H
          have A10 := Aside0.mk A100
          clear A100
          by_cases c11 : t443 = true
          · subst c11
            have H1 : (some (t439, 0)) = some (r1, r2) := by rw [if_pos rfl] at H; exact H
            clear H
            have H := H1
            clear H1
            simp only [Option.some.injEq, Prod.mk.injEq] at H
            obtain ⟨rfl, rfl⟩ := H
            go_enter Try.func49, Try.ntmps49
            go_wp2_with (first | ((with_reducible refine gate_dst (N := 3) rfl ?_); refine box_event ?hg (N := 3) ?hd (cs := #[.slice A0_0 l0_0.length c0_0, .int .i64 a0_1]) (t := 24) ?hr ?_; (case hd => rfl); (case hg => rfl); (case hr => first | (go_simp; done) | (go_simp; rfl)); intro gb437 hg w12 hbox hb; have BK437 := Aside0.mk (hbox); have GW437 := gw_ hg HB; have GE437 := gw_ hg HB; replace HB := sb_ HB hb; clear hb hbox hg) | ((with_reducible refine gate_dst (N := 4) rfl ?_); refine box_event ?hg (N := 4) ?hd (cs := #[.int .i64 a1_0, .int .i64 a1_1]) (t := 46) ?hr ?_; (case hd => rfl); (case hg => rfl); (case hr => first | (go_simp; done) | (go_simp; rfl)); intro gb438 hg w13 hbox hb; have BK438 := Aside0.mk (hbox); have GW438 := gw_ hg HB; have GE438 := gw_ hg HB; replace HB := sb_ HB hb; have NB437_438 := nl_ hg BK437; have NB438_437 := ng_ hg BK437; replace BK437 := kb_ BK437 hb; clear hb hbox hg; have hnb14 := NB437_438.out; have hnc14 := NB438_437.out; have hcz15_0 := cz_ BK437 0 (.slice A0_0 l0_0.length c0_0); have hcz15_1 := cz_ BK437 1 (.int .i64 a0_1); have hfz15_0 := blk_frozen BK437.out 0; have hfz15_1 := blk_frozen BK437.out 1; have hcz16_0 := cz_ BK438 0 (.int .i64 a1_0); have hcz16_1 := cz_ BK438 1 (.int .i64 a1_1); have hfz16_0 := blk_frozen BK438.out 0; have hfz16_1 := blk_frozen BK438.out 1) | ((with_reducible refine gate_callee (f := 40) rfl ?_); refine goesL_ (some 15) rfl rfl Try.func40 (by kernel_rfl) rfl #[.agg #[.slice A0_0 l0_0.length c0_0, .int .i64 a0_1], .int .i64 a1_0] rfl (by (try simp only [List.map_toArray, List.map_cons, List.map_nil]); first | done | rfl | (simp only [List.length_drop, List.length_take]; rfl)) ?_; (with_reducible refine (segment_find.calls k _ _ l0_0 a0_1 a1_0 t439 t440 _ ?side1 ?side2 A4.out).mono ?_); (case side1 => exact pc_ (Kd.C_below HR0_0.out HB.out)); (case side2 => exact HC0_0.out); rintro e w17 ⟨rfl, hb⟩; refine ⟨_, rfl, ?_⟩; replace BK437 := kb_ BK437 hb; replace BK438 := kb_ BK438 hb; replace HB := sb_ HB hb; (try clear hb); (try clear hb2); (try clear hk); (try clear hi); have hcz18_0 := cz_ BK437 0 (.slice A0_0 l0_0.length c0_0); have hcz18_1 := cz_ BK437 1 (.int .i64 a0_1); have hfz18_0 := blk_frozen BK437.out 0; have hfz18_1 := blk_frozen BK437.out 1; have p441 : 0 ≤ (t439 : Int) := ct_; have q441 : t439 < (l0_0.length : Int) := ct_; obtain ⟨ad441, e441, hx441_0, hx441_1⟩ := at_T56 HR0_0.out t439 p441 q441; cases e441; replace hx441_0 := (HB.out.cell (World.block_lt_of_cell? w _ hx441_0)).trans hx441_0; replace hx441_1 := (HB.out.cell (World.block_lt_of_cell? w _ hx441_1)).trans hx441_1; replace p441 := eq_true p441; replace q441 := eq_true q441; have hcz19_0 := cz_ BK438 0 (.int .i64 a1_0); have hcz19_1 := cz_ BK438 1 (.int .i64 a1_1); have hfz19_0 := blk_frozen BK438.out 0; have hfz19_1 := blk_frozen BK438.out 1) | ((with_reducible refine gate_callee (f := 37) rfl ?_); refine goesL_ (some 31) rfl rfl Try.func37 (by kernel_rfl) rfl #[.int .i64 a1_1, .int .i64 0, .int .i64 (((rd_T56 l0_0 t439).f1).size : Int)] rfl (by (try simp only [List.map_toArray, List.map_cons, List.map_nil]); first | done | rfl | (simp only [List.length_drop, List.length_take]; rfl)) ?_; (with_reducible refine (segment_within.calls a1_1 0 (((rd_T56 l0_0 t439).f1).size : Int) true _ A8.out).mono ?_); rintro e w' ⟨rfl, ⟨nd, rfl⟩⟩; refine ⟨_, rfl, ?_⟩) | (go_at_call 37; (with_reducible refine (segment_within.calls a2 0 (wrap64 ((((rd_T56 l0_0 t439).f1).size : Int) - a1_1)) true _ A10.out).mono ?_); rintro e w' ⟨rfl, ⟨nd, rfl⟩⟩))
            go_ret2
            exact ⟨er_, pb_ HB⟩
          · replace c11 := Bool.eq_false_iff.mpr c11
            subst c11
            have H1 : (some (0, 3)) = some (r1, r2) := by rw [if_neg (show ¬ (false = true) by decide)] at H; exact H
            clear H
            have H := H1
            clear H1
            simp only [Option.some.injEq, Prod.mk.injEq] at H
            obtain ⟨rfl, rfl⟩ := H
            go_enter Try.func49, Try.ntmps49
            go_wp2_with (first | ((with_reducible refine gate_dst (N := 3) rfl ?_); refine box_event ?hg (N := 3) ?hd (cs := #[.slice A0_0 l0_0.length c0_0, .int .i64 a0_1]) (t := 24) ?hr ?_; (case hd => rfl); (case hg => rfl); (case hr => first | (go_simp; done) | (go_simp; rfl)); intro gb437 hg w20 hbox hb; have BK437 := Aside0.mk (hbox); have GW437 := gw_ hg HB; have GE437 := gw_ hg HB; replace HB := sb_ HB hb; clear hb hbox hg) | ((with_reducible refine gate_dst (N := 4) rfl ?_); refine box_event ?hg (N := 4) ?hd (cs := #[.int .i64 a1_0, .int .i64 a1_1]) (t := 46) ?hr ?_; (case hd => rfl); (case hg => rfl); (case hr => first | (go_simp; done) | (go_simp; rfl)); intro gb438 hg w21 hbox hb; have BK438 := Aside0.mk (hbox); have GW438 := gw_ hg HB; have GE438 := gw_ hg HB; replace HB := sb_ HB hb; have NB437_438 := nl_ hg BK437; have NB438_437 := ng_ hg BK437; replace BK437 := kb_ BK437 hb; clear hb hbox hg; have hnb22 := NB437_438.out; have hnc22 := NB438_437.out; have hcz23_0 := cz_ BK437 0 (.slice A0_0 l0_0.length c0_0); have hcz23_1 := cz_ BK437 1 (.int .i64 a0_1); have hfz23_0 := blk_frozen BK437.out 0; have hfz23_1 := blk_frozen BK437.out 1; have hcz24_0 := cz_ BK438 0 (.int .i64 a1_0); have hcz24_1 := cz_ BK438 1 (.int .i64 a1_1); have hfz24_0 := blk_frozen BK438.out 0; have hfz24_1 := blk_frozen BK438.out 1) | ((with_reducible refine gate_callee (f := 40) rfl ?_); refine goesL_ (some 15) rfl rfl Try.func40 (by kernel_rfl) rfl #[.agg #[.slice A0_0 l0_0.length c0_0, .int .i64 a0_1], .int .i64 a1_0] rfl (by (try simp only [List.map_toArray, List.map_cons, List.map_nil]); first | done | rfl | (simp only [List.length_drop, List.length_take]; rfl)) ?_; (with_reducible refine (segment_find.calls k _ _ l0_0 a0_1 a1_0 t439 t440 _ ?side1 ?side2 A4.out).mono ?_); (case side1 => exact pc_ (Kd.C_below HR0_0.out HB.out)); (case side2 => exact HC0_0.out); rintro e w25 ⟨rfl, hb⟩; refine ⟨_, rfl, ?_⟩; replace BK437 := kb_ BK437 hb; replace BK438 := kb_ BK438 hb; replace HB := sb_ HB hb; (try clear hb); (try clear hb2); (try clear hk); (try clear hi); have hcz26_0 := cz_ BK437 0 (.slice A0_0 l0_0.length c0_0); have hcz26_1 := cz_ BK437 1 (.int .i64 a0_1); have hfz26_0 := blk_frozen BK437.out 0; have hfz26_1 := blk_frozen BK437.out 1; have p441 : 0 ≤ (t439 : Int) := ct_; have q441 : t439 < (l0_0.length : Int) := ct_; obtain ⟨ad441, e441, hx441_0, hx441_1⟩ := at_T56 HR0_0.out t439 p441 q441; cases e441; replace hx441_0 := (HB.out.cell (World.block_lt_of_cell? w _ hx441_0)).trans hx441_0; replace hx441_1 := (HB.out.cell (World.block_lt_of_cell? w _ hx441_1)).trans hx441_1; replace p441 := eq_true p441; replace q441 := eq_true q441; have hcz27_0 := cz_ BK438 0 (.int .i64 a1_0); have hcz27_1 := cz_ BK438 1 (.int .i64 a1_1); have hfz27_0 := blk_frozen BK438.out 0; have hfz27_1 := blk_frozen BK438.out 1) | ((with_reducible refine gate_callee (f := 37) rfl ?_); refine goesL_ (some 31) rfl rfl Try.func37 (by kernel_rfl) rfl #[.int .i64 a1_1, .int .i64 0, .int .i64 (((rd_T56 l0_0 t439).f1).size : Int)] rfl (by (try simp only [List.map_toArray, List.map_cons, List.map_nil]); first | done | rfl | (simp only [List.length_drop, List.length_take]; rfl)) ?_; (with_reducible refine (segment_within.calls a1_1 0 (((rd_T56 l0_0 t439).f1).size : Int) true _ A8.out).mono ?_); rintro e w' ⟨rfl, ⟨nd, rfl⟩⟩; refine ⟨_, rfl, ?_⟩) | (go_at_call 37; (with_reducible refine (segment_within.calls a2 0 (wrap64 ((((rd_T56 l0_0 t439).f1).size : Int) - a1_1)) false _ A10.out).mono ?_); rintro e w' ⟨rfl, ⟨nd, rfl⟩⟩))
            go_ret2
            exact ⟨er_, pb_ HB⟩
        · replace c9 := Bool.eq_false_iff.mpr c9
          subst c9
          have H1 : (some (0, 3)) = some (r1, r2) := by rw [if_neg (show ¬ (false = true) by decide)] at H; exact H
          clear H
          have H := H1
          clear H1
          simp only [Option.some.injEq, Prod.mk.injEq] at H
          obtain ⟨rfl, rfl⟩ := H
          go_enter Try.func49, Try.ntmps49
          go_wp2_with (first | ((with_reducible refine gate_dst (N := 3) rfl ?_); refine box_event ?hg (N := 3) ?hd (cs := #[.slice A0_0 l0_0.length c0_0, .int .i64 a0_1]) (t := 24) ?hr ?_; (case hd => rfl); (case hg => rfl); (case hr => first | (go_simp; done) | (go_simp; rfl)); intro gb437 hg w28 hbox hb; have BK437 := Aside0.mk (hbox); have GW437 := gw_ hg HB; have GE437 := gw_ hg HB; replace HB := sb_ HB hb; clear hb hbox hg) | ((with_reducible refine gate_dst (N := 4) rfl ?_); refine box_event ?hg (N := 4) ?hd (cs := #[.int .i64 a1_0, .int .i64 a1_1]) (t := 46) ?hr ?_; (case hd => rfl); (case hg => rfl); (case hr => first | (go_simp; done) | (go_simp; rfl)); intro gb438 hg w29 hbox hb; have BK438 := Aside0.mk (hbox); have GW438 := gw_ hg HB; have GE438 := gw_ hg HB; replace HB := sb_ HB hb; have NB437_438 := nl_ hg BK437; have NB438_437 := ng_ hg BK437; replace BK437 := kb_ BK437 hb; clear hb hbox hg; have hnb30 := NB437_438.out; have hnc30 := NB438_437.out; have hcz31_0 := cz_ BK437 0 (.slice A0_0 l0_0.length c0_0); have hcz31_1 := cz_ BK437 1 (.int .i64 a0_1); have hfz31_0 := blk_frozen BK437.out 0; have hfz31_1 := blk_frozen BK437.out 1; have hcz32_0 := cz_ BK438 0 (.int .i64 a1_0); have hcz32_1 := cz_ BK438 1 (.int .i64 a1_1); have hfz32_0 := blk_frozen BK438.out 0; have hfz32_1 := blk_frozen BK438.out 1) | ((with_reducible refine gate_callee (f := 40) rfl ?_); refine goesL_ (some 15) rfl rfl Try.func40 (by kernel_rfl) rfl #[.agg #[.slice A0_0 l0_0.length c0_0, .int .i64 a0_1], .int .i64 a1_0] rfl (by (try simp only [List.map_toArray, List.map_cons, List.map_nil]); first | done | rfl | (simp only [List.length_drop, List.length_take]; rfl)) ?_; (with_reducible refine (segment_find.calls k _ _ l0_0 a0_1 a1_0 t439 t440 _ ?side1 ?side2 A4.out).mono ?_); (case side1 => exact pc_ (Kd.C_below HR0_0.out HB.out)); (case side2 => exact HC0_0.out); rintro e w33 ⟨rfl, hb⟩; refine ⟨_, rfl, ?_⟩; replace BK437 := kb_ BK437 hb; replace BK438 := kb_ BK438 hb; replace HB := sb_ HB hb; (try clear hb); (try clear hb2); (try clear hk); (try clear hi); have hcz34_0 := cz_ BK437 0 (.slice A0_0 l0_0.length c0_0); have hcz34_1 := cz_ BK437 1 (.int .i64 a0_1); have hfz34_0 := blk_frozen BK437.out 0; have hfz34_1 := blk_frozen BK437.out 1; have p441 : 0 ≤ (t439 : Int) := ct_; have q441 : t439 < (l0_0.length : Int) := ct_; obtain ⟨ad441, e441, hx441_0, hx441_1⟩ := at_T56 HR0_0.out t439 p441 q441; cases e441; replace hx441_0 := (HB.out.cell (World.block_lt_of_cell? w _ hx441_0)).trans hx441_0; replace hx441_1 := (HB.out.cell (World.block_lt_of_cell? w _ hx441_1)).trans hx441_1; replace p441 := eq_true p441; replace q441 := eq_true q441; have hcz35_0 := cz_ BK438 0 (.int .i64 a1_0); have hcz35_1 := cz_ BK438 1 (.int .i64 a1_1); have hfz35_0 := blk_frozen BK438.out 0; have hfz35_1 := blk_frozen BK438.out 1) | ((with_reducible refine gate_callee (f := 37) rfl ?_); refine goesL_ (some 31) rfl rfl Try.func37 (by kernel_rfl) rfl #[.int .i64 a1_1, .int .i64 0, .int .i64 (((rd_T56 l0_0 t439).f1).size : Int)] rfl (by (try simp only [List.map_toArray, List.map_cons, List.map_nil]); first | done | rfl | (simp only [List.length_drop, List.length_take]; rfl)) ?_; (with_reducible refine (segment_within.calls a1_1 0 (((rd_T56 l0_0 t439).f1).size : Int) false _ A8.out).mono ?_); rintro e w' ⟨rfl, ⟨nd, rfl⟩⟩; refine ⟨_, rfl, ?_⟩))
          go_ret2
          exact ⟨er_, pb_ HB⟩
      · rw [if_neg c7] at H
        exact absurd H (by simp)
    · rw [if_neg c6] at H
      exact absurd H (by simp)
  · rw [if_neg c5] at H
    have c5b0 : (t440 == 0) = false := beq_eq_false_iff_ne.mpr c5
    have c5b1 : (t440 != 0) = true := bne_iff_ne.mpr c5
    simp only [Option.some.injEq, Prod.mk.injEq] at H
    obtain ⟨rfl, rfl⟩ := H
    go_enter Try.func49, Try.ntmps49
    go_wp2_with (first | ((with_reducible refine gate_dst (N := 3) rfl ?_); refine box_event ?hg (N := 3) ?hd (cs := #[.slice A0_0 l0_0.length c0_0, .int .i64 a0_1]) (t := 24) ?hr ?_; (case hd => rfl); (case hg => rfl); (case hr => first | (go_simp; done) | (go_simp; rfl)); intro gb437 hg w36 hbox hb; have BK437 := Aside0.mk (hbox); have GW437 := gw_ hg HB; have GE437 := gw_ hg HB; replace HB := sb_ HB hb; clear hb hbox hg) | ((with_reducible refine gate_dst (N := 4) rfl ?_); refine box_event ?hg (N := 4) ?hd (cs := #[.int .i64 a1_0, .int .i64 a1_1]) (t := 46) ?hr ?_; (case hd => rfl); (case hg => rfl); (case hr => first | (go_simp; done) | (go_simp; rfl)); intro gb438 hg w37 hbox hb; have BK438 := Aside0.mk (hbox); have GW438 := gw_ hg HB; have GE438 := gw_ hg HB; replace HB := sb_ HB hb; have NB437_438 := nl_ hg BK437; have NB438_437 := ng_ hg BK437; replace BK437 := kb_ BK437 hb; clear hb hbox hg; have hnb38 := NB437_438.out; have hnc38 := NB438_437.out; have hcz39_0 := cz_ BK437 0 (.slice A0_0 l0_0.length c0_0); have hcz39_1 := cz_ BK437 1 (.int .i64 a0_1); have hfz39_0 := blk_frozen BK437.out 0; have hfz39_1 := blk_frozen BK437.out 1; have hcz40_0 := cz_ BK438 0 (.int .i64 a1_0); have hcz40_1 := cz_ BK438 1 (.int .i64 a1_1); have hfz40_0 := blk_frozen BK438.out 0; have hfz40_1 := blk_frozen BK438.out 1) | ((with_reducible refine gate_callee (f := 40) rfl ?_); refine goesL_ (some 15) rfl rfl Try.func40 (by kernel_rfl) rfl #[.agg #[.slice A0_0 l0_0.length c0_0, .int .i64 a0_1], .int .i64 a1_0] rfl (by (try simp only [List.map_toArray, List.map_cons, List.map_nil]); first | done | rfl | (simp only [List.length_drop, List.length_take]; rfl)) ?_; (with_reducible refine (segment_find.calls k _ _ l0_0 a0_1 a1_0 t439 t440 _ ?side1 ?side2 A4.out).mono ?_); (case side1 => exact pc_ (Kd.C_below HR0_0.out HB.out)); (case side2 => exact HC0_0.out); rintro e w41 ⟨rfl, hb⟩; refine ⟨_, rfl, ?_⟩; replace BK437 := kb_ BK437 hb; replace BK438 := kb_ BK438 hb; replace HB := sb_ HB hb; (try clear hb); (try clear hb2); (try clear hk); (try clear hi)))
    go_ret2
    exact ⟨er_, pb_ HB⟩

end Go.Proofs.Ytoabahlaicgmjaa.X
end
section
namespace Go.Proofs.Ytoabahlaicgmjaa.X
open Go.Proofs.Ytoabahlaicgmjaa.XW Go.Proofs.Ytoabahlaicgmjaa.XS
open Go.RowKit Go.Proofs.YtoabahlaicgmjaaW.PrintWords Go.Proofs.YtoabahlaicgmjaaW.PrintLast Go.Proofs.YtoabahlaicgmjaaW.PrintMore
attribute [local go_sem] max2_int min2_int max_two min_two max_three min_three max_four min_four   -- for this text's walks alone
set_option linter.unusedVariables false
set_option linter.unusedSimpArgs false

/-! ### segment_Written: function 27 -/
def segment_Written.f (k : Nat) (l0_0 : List (S56)) (a0_1 : Int) (a1_0 : Int) (a1_1 : Int) (a2 : ByteArray) : Option ((List (S56)) × Int × Int) := (segment_bytesAt.f k l0_0 a0_1 a1_0 a1_1 (a2.size : Int)).bind fun bt452 => (if bt452.2 = 0 then (if 0 ≤ bt452.1 then (if bt452.1 < (l0_0.length : Int) then (if 0 ≤ a1_1 then (if a1_1 ≤ (((rd_T56 l0_0 bt452.1).f1).size : Int) then (if (a1_1 : Int).toNat + a2.size ≤ 9223372036854775807 then (if 0 ≤ (wrap64 (a1_1 + (a2.size : Int))) then (if (wrap64 (a1_1 + (a2.size : Int))) ≤ (((rd_T56 l0_0 bt452.1).f1).size : Int) then (if (a1_1 : Int).toNat + a2.size + (((rd_T56 l0_0 bt452.1).f1).size - ((wrap64 (a1_1 + (a2.size : Int))) : Int).toNat) ≤ 9223372036854775807 then ((segment_with.f l0_0 a0_1 bt452.1 (((((rd_T56 l0_0 bt452.1).f1).extract 0 (a1_1 : Int).toNat) ++ a2) ++ (((rd_T56 l0_0 bt452.1).f1).extract ((wrap64 (a1_1 + (a2.size : Int))) : Int).toNat ((rd_T56 l0_0 bt452.1).f1).size))).bind fun bt455 => (some (bt455.1, bt455.2, 0))) else (none)) else (none)) else (none)) else (none)) else (none)) else (none)) else (none)) else (none)) else (some (([] : List (S56)), 0, bt452.2)))
def segment_Written.T5 : Bool × List (List Nat × List Nat) := (true, [([], []), ([], []), ([], []), ([], []), ([3], [3]), ([2, 4], [2, 4]), ([], []), ([5, 6], [5, 6]), ([], []), ([], []), ([9], [9]), ([], []), ([11], [11]), ([10, 12], [10, 12]), ([8, 13], [8, 13]), ([7, 14], [7, 14]), ([0, 1, 15], [0, 1, 15]), ([16, 16, 0, 1, 2, 3, 4, 5, 6, 7, 8, 9, 10, 11, 12, 13, 14, 15, 16], [16]), ([17, 0, 1, 2, 3, 4, 5, 6, 7, 8, 9, 10, 11, 12, 13, 14, 15, 16, 17], [])])
def segment_Written.B5 : List Nat := [0, 0, 0, 0, 8, 28, 0, 124, 0, 0, 512, 0, 2048, 7680, 16128, 32764, 65535, 131071, 262143]
theorem segment_Written.tab5 : rtab .any (opsOf Try.f27 5) = segment_Written.T5 := by kernel_rfl
theorem segment_Written.bits5 : waitsOk segment_Written.T5.2 segment_Written.B5 = true := by kernel_rfl
set_option maxHeartbeats 8000000 in
set_option maxRecDepth 100000 in
theorem segment_Written.calls (k : Nat) (A0_0 : Option Addr) (c0_0 : Nat) (l0_0 : List (S56)) (a0_1 : Int) (a1_0 : Int) (a1_1 : Int) (a2 : ByteArray) (r1 : List (S56)) (r2 : Int) (r3 : Int) (w : World) (hr0_0 : Kd.C k56 w A0_0 l0_0.length l0_0) (hc0_0 : l0_0.length ≤ c0_0) (h : segment_Written.f k l0_0 a0_1 a1_0 a1_1 a2 = some (r1, r2, r3)) :
    Calls Try.prog 27 #[.agg #[.slice A0_0 l0_0.length c0_0, .int .i64 a0_1], .agg #[.int .i64 a1_0, .int .i64 a1_1], .string a2] w fun e w' => ∃ v0_ : Value, e = .returned (.tuple #[.agg #[v0_, .int .i64 r2], .int .i64 r3]) ∧ Kd.R k56 56 w' w.heap.size (fun _ => True) v0_ r1 ∧ Below w.heap.size w w' := by
  have hu24 := Try.underlying24
  have hu46 := Try.underlying46
  have HR0_0 := Aside0.mk hr0_0
  have HC0_0 := Aside0.mk hc0_0
  clear hr0_0 hc0_0
  have HB := Aside0.mk (Below.refl w.heap.size w)
  have H : ((segment_bytesAt.f k l0_0 a0_1 a1_0 a1_1 (a2.size : Int)).bind fun bt452 => (if bt452.2 = 0 then (if 0 ≤ bt452.1 then (if bt452.1 < (l0_0.length : Int) then (if 0 ≤ a1_1 then (if a1_1 ≤ (((rd_T56 l0_0 bt452.1).f1).size : Int) then (if (a1_1 : Int).toNat + a2.size ≤ 9223372036854775807 then (if 0 ≤ (wrap64 (a1_1 + (a2.size : Int))) then (if (wrap64 (a1_1 + (a2.size : Int))) ≤ (((rd_T56 l0_0 bt452.1).f1).size : Int) then (if (a1_1 : Int).toNat + a2.size + (((rd_T56 l0_0 bt452.1).f1).size - ((wrap64 (a1_1 + (a2.size : Int))) : Int).toNat) ≤ 9223372036854775807 then ((segment_with.f l0_0 a0_1 bt452.1 (((((rd_T56 l0_0 bt452.1).f1).extract 0 (a1_1 : Int).toNat) ++ a2) ++ (((rd_T56 l0_0 bt452.1).f1).extract ((wrap64 (a1_1 + (a2.size : Int))) : Int).toNat ((rd_T56 l0_0 bt452.1).f1).size))).bind fun bt455 => (some (bt455.1, bt455.2, 0))) else (none)) else (none)) else (none)) else (none)) else (none)) else (none)) else (none)) else (none)) else (some (([] : List (S56)), 0, bt452.2)))) = some (r1, r2, r3) := h
  clear h
  replace H := Option.bind_eq_some_iff.mp H
  obtain ⟨⟨t452, t453⟩, A40, H⟩ := H
  replace H : (if t453 = 0 then (if 0 ≤ t452 then (if t452 < (l0_0.length : Int) then (if 0 ≤ a1_1 then (if a1_1 ≤ (((rd_T56 l0_0 t452).f1).size : Int) then (if (a1_1 : Int).toNat + a2.size ≤ 9223372036854775807 then (if 0 ≤ (wrap64 (a1_1 + (a2.size : Int))) then (if (wrap64 (a1_1 + (a2.size : Int))) ≤ (((rd_T56 l0_0 t452).f1).size : Int) then (if (a1_1 : Int).toNat + a2.size + (((rd_T56 l0_0 t452).f1).size - ((wrap64 (a1_1 + (a2.size : Int))) : Int).toNat) ≤ 9223372036854775807 then ((segment_with.f l0_0 a0_1 t452 (((((rd_T56 l0_0 t452).f1).extract 0 (a1_1 : Int).toNat) ++ a2) ++ (((rd_T56 l0_0 t452).f1).extract ((wrap64 (a1_1 + (a2.size : Int))) : Int).toNat ((rd_T56 l0_0 t452).f1).size))).bind fun bt455 => (some (bt455.1, bt455.2, 0))) else (none)) else (none)) else (none)) else (none)) else (none)) else (none)) else (none)) else (none)) else (some (([] : List (S56)), 0, t453))) = some (r1, r2, r3) := H
  have A4 := Aside0.mk A40
  clear A40
  by_cases c5 : t453 = 0
  · rw [if_pos c5] at H
    have c5b0 : (t453 == 0) = true := beq_iff_eq.mpr c5
    have c5b1 : (t453 != 0) = false := bne_eq_false_iff_eq.mpr c5
    clear c5
    by_cases c6 : 0 ≤ t452
    · rw [if_pos c6] at H
      have c6b0 : decide (0 ≤ t452) = true := decide_eq_true c6
      clear c6
      by_cases c7 : t452 < (l0_0.length : Int)
      · rw [if_pos c7] at H
        have c7b0 : decide (t452 < (l0_0.length : Int)) = true := decide_eq_true c7
        clear c7
        by_cases c8 : 0 ≤ a1_1
        · rw [if_pos c8] at H
          have c8b0 := eq_true c8
          have c8b1 : decide (0 ≤ a1_1) = true := decide_eq_true c8
          clear c8
          by_cases c9 : a1_1 ≤ (((rd_T56 l0_0 t452).f1).size : Int)
          · rw [if_pos c9] at H
            have c9b0 := eq_true c9
            have c9b1 : decide (a1_1 ≤ (((rd_T56 l0_0 t452).f1).size : Int)) = true := decide_eq_true c9
            clear c9
            by_cases c10 : (a1_1 : Int).toNat + a2.size ≤ 9223372036854775807
            · rw [if_pos c10] at H
              have c10b0 := eq_true c10
              have c10b1 : decide ((a1_1 : Int).toNat + a2.size ≤ 9223372036854775807) = true := decide_eq_true c10
              try have c10b2 : (9223372036854775807 < (a1_1 : Int).toNat + a2.size) = False := eq_false (Nat.not_lt.2 c10)
              clear c10
              obtain ⟨ji11, hji11⟩ : ∃ j_ : Int, (wrap64 (a1_1 + (a2.size : Int))) = j_ := ⟨_, rfl⟩
              replace H : (if 0 ≤ (ji11) then (if (ji11) ≤ (((rd_T56 l0_0 t452).f1).size : Int) then (if (a1_1 : Int).toNat + a2.size + (((rd_T56 l0_0 t452).f1).size - ((ji11) : Int).toNat) ≤ 9223372036854775807 then ((segment_with.f l0_0 a0_1 t452 (((((rd_T56 l0_0 t452).f1).extract 0 (a1_1 : Int).toNat) ++ a2) ++ (((rd_T56 l0_0 t452).f1).extract ((ji11) : Int).toNat ((rd_T56 l0_0 t452).f1).size))).bind fun bt455 => (some (bt455.1, bt455.2, 0))) else (none)) else (none)) else (none)) = some (r1, r2, r3) := by first | (rw [hji11] at H; exact H) | (simp only [hji11] at H ⊢; exact H)
              (try rw [hji11] at A4)
              have hji11w : (IntKind.i64.wrap (a1_1 + (a2.size : Int))) = ji11 := (i64_w _).trans hji11
              by_cases c12 : 0 ≤ (ji11)
              · rw [if_pos c12] at H
                have c12b0 := eq_true c12
                have c12b1 : decide (0 ≤ (ji11)) = true := decide_eq_true c12
                clear c12
                by_cases c13 : (ji11) ≤ (((rd_T56 l0_0 t452).f1).size : Int)
                · rw [if_pos c13] at H
                  have c13b0 := eq_true c13
                  have c13b1 : decide ((ji11) ≤ (((rd_T56 l0_0 t452).f1).size : Int)) = true := decide_eq_true c13
                  clear c13
                  by_cases c14 : (a1_1 : Int).toNat + a2.size + (((rd_T56 l0_0 t452).f1).size - ((ji11) : Int).toNat) ≤ 9223372036854775807
                  · rw [if_pos c14] at H
                    have c14b0 := eq_true c14
                    have c14b1 : decide ((a1_1 : Int).toNat + a2.size + (((rd_T56 l0_0 t452).f1).size - ((ji11) : Int).toNat) ≤ 9223372036854775807) = true := decide_eq_true c14
                    try have c14b2 : (9223372036854775807 < (a1_1 : Int).toNat + a2.size + (((rd_T56 l0_0 t452).f1).size - ((ji11) : Int).toNat)) = False := eq_false (Nat.not_lt.2 c14)
                    clear c14
                    replace H := Option.bind_eq_some_iff.mp H
                    obtain ⟨⟨t455, t458⟩, A150, H⟩ := H
                    replace H : (some (t455, t458, 0)) = some (r1, r2, r3) := H
                    have A15 := Aside0.mk A150
                    clear A150
                    simp only [Option.some.injEq, Prod.mk.injEq] at H
                    obtain ⟨rfl, rfl, rfl⟩ := H
                    go_enter Try.func27, Try.ntmps27
                    try go_wp2_with (first | ((with_reducible refine gate_dst (N := 3) rfl ?_); refine box_event ?hg (N := 3) ?hd (cs := #[.slice A0_0 l0_0.length c0_0, .int .i64 a0_1]) (t := 24) ?hr ?_; (case hd => rfl); (case hg => rfl); (case hr => first | (go_simp; done) | (go_simp; rfl)); intro gb449 hg w16 hbox hb; have BK449 := Aside0.mk (hbox); have GW449 := gw_ hg HB; have GE449 := gw_ hg HB; replace HB := sb_ HB hb; clear hb hbox hg) | ((with_reducible refine gate_dst (N := 4) rfl ?_); refine box_event ?hg (N := 4) ?hd (cs := #[.int .i64 a1_0, .int .i64 a1_1]) (t := 46) ?hr ?_; (case hd => rfl); (case hg => rfl); (case hr => first | (go_simp; done) | (go_simp; rfl)); intro gb450 hg w17 hbox hb; have BK450 := Aside0.mk (hbox); have GW450 := gw_ hg HB; have GE450 := gw_ hg HB; replace HB := sb_ HB hb; have NB449_450 := nl_ hg BK449; have NB450_449 := ng_ hg BK449; replace BK449 := kb_ BK449 hb; clear hb hbox hg) | ((with_reducible refine gate_dst (N := 6) rfl ?_); refine box_event ?hg (N := 6) ?hd (cs := #[.slice none 0 0, .int .i64 0]) (t := 24) ?hr ?_; (case hd => rfl); (case hg => rfl); (case hr => first | (go_simp; done) | (go_simp; rfl)); intro gb451 hg w18 hbox hb; have BK451 := Aside0.mk (hbox); have GW451 := gw_ hg HB; have GE451 := gw_ hg HB; replace HB := sb_ HB hb; have NB449_451 := nl_ hg BK449; have NB451_449 := ng_ hg BK449; replace BK449 := kb_ BK449 hb; have NB450_451 := nl_ hg BK450; have NB451_450 := ng_ hg BK450; replace BK450 := kb_ BK450 hb; clear hb hbox hg; have hnb19 := NB449_450.out; have hnc19 := NB450_449.out; have hnb20 := NB449_451.out; have hnc20 := NB451_449.out; have hcz21_0 := cz_ BK449 0 (.slice A0_0 l0_0.length c0_0); have hcz21_1 := cz_ BK449 1 (.int .i64 a0_1); have hfz21_0 := blk_frozen BK449.out 0; have hfz21_1 := blk_frozen BK449.out 1; have hnb22 := NB450_451.out; have hnc22 := NB451_450.out; have hcz23_0 := cz_ BK450 0 (.int .i64 a1_0); have hcz23_1 := cz_ BK450 1 (.int .i64 a1_1); have hfz23_0 := blk_frozen BK450.out 0; have hfz23_1 := blk_frozen BK450.out 1) | ((with_reducible refine gate_callee (f := 49) rfl ?_); refine goesL_ (some 16) rfl rfl Try.func49 (by kernel_rfl) rfl #[.agg #[.slice A0_0 l0_0.length c0_0, .int .i64 a0_1], .agg #[.int .i64 a1_0, .int .i64 a1_1], .int .i64 (a2.size : Int)] rfl (by (try simp only [List.map_toArray, List.map_cons, List.map_nil]); first | done | rfl | (simp only [List.length_drop, List.length_take]; rfl)) ?_; (with_reducible refine (segment_bytesAt.calls k _ _ l0_0 a0_1 a1_0 a1_1 (a2.size : Int) t452 t453 _ ?side1 ?side2 A4.out).mono ?_); (case side1 => exact pc_ (Kd.C_below HR0_0.out HB.out)); (case side2 => exact HC0_0.out); rintro e w24 ⟨rfl, hb⟩; refine ⟨_, rfl, ?_⟩; replace BK449 := kb_ BK449 hb; replace BK450 := kb_ BK450 hb; replace BK451 := kb_ BK451 hb; replace HB := sb_ HB hb; (try clear hb); (try clear hb2); (try clear hk); (try clear hi); have hcz25_0 := cz_ BK449 0 (.slice A0_0 l0_0.length c0_0); have hcz25_1 := cz_ BK449 1 (.int .i64 a0_1); have hfz25_0 := blk_frozen BK449.out 0; have hfz25_1 := blk_frozen BK449.out 1; have p454 : 0 ≤ (t452 : Int) := ct_; have q454 : t452 < (l0_0.length : Int) := ct_; obtain ⟨ad454, e454, hx454_0, hx454_1⟩ := at_T56 HR0_0.out t452 p454 q454; cases e454; replace hx454_0 := (HB.out.cell (World.block_lt_of_cell? w _ hx454_0)).trans hx454_0; replace hx454_1 := (HB.out.cell (World.block_lt_of_cell? w _ hx454_1)).trans hx454_1; replace p454 := eq_true p454; replace q454 := eq_true q454))
                    replace BK449 := Aside0.mk (blk_drew BK449.out)
                    replace BK450 := Aside0.mk (blk_drew BK450.out)
                    replace BK451 := Aside0.mk (blk_drew BK451.out)
                    replace HB := Aside0.mk (below_drew1 HB.out)
                    refine start_ (n := 19) (S := fun w' => w'.cell? ⟨gb449, 0, none⟩ = some (.slice (some ad454) l0_0.length c0_0) ∧ w'.cell? ⟨gb449, 1, none⟩ = some (.int .i64 a0_1) ∧ w'.cell? ⟨gb450, 0, none⟩ = some (.int .i64 a1_0) ∧ w'.cell? ⟨gb450, 1, none⟩ = some (.int .i64 a1_1)) (ds := []) #[false, false, false, false, false, false, false, false, false, false, false, false, false, false, false, false, false, false, false] (by kernel_rfl) rfl rfl ⟨(blk_cell BK449.out 0).trans rfl, (blk_cell BK449.out 1).trans rfl, (blk_cell BK450.out 0).trans rfl, (blk_cell BK450.out 1).trans rfl⟩ (fun hHeld => ?_); refine with_tabW segment_Written.tab5 segment_Written.bits5 (fun HT_ HW_ => ?_)
                    generalize w24.drew = w26 at BK449 BK450 BK451 HB hHeld ⊢
                    refine pu_ 1 30 HT_ ?_
                    refine pu_ 2 31 HT_ ?_
                    refine pu_ 3 32 HT_ ?_
                    refine pu_ 6 35 HT_ ?_
                    refine pu_ 8 37 HT_ ?_
                    refine pu_ 9 38 HT_ ?_
                    refine pu_ 11 40 HT_ ?_
                    refine pu_ 12 41 HT_ ?_
                    refine take_ (i := 0) (N := some 29) (v := ?_) (a' := ?_) #[true, true, true, true, false, false, true, false, true, true, false, true, true, false, false, false, false, false, false] rfl rfl (take_ofW HT_.out HW_.out (by kernel_rfl)) (fun _ _ _ h => h) (Or.inl ⟨by rfl, ?_⟩) hHeld ?_ ?_
                    rotate_left
                    · rintro w' ⟨s0, s1, s2, s3⟩
                      go_simp
                      with_reducible rfl
                    rotate_left
                    · simp only [Act.put, List.setIfInBounds_toArray, List.set_cons_zero, List.set_cons_succ, i64_w, i32_w]
                      rfl
                    refine take_ (i := 4) (N := some 33) (v := ?_) (a' := ?_) #[true, true, true, true, true, false, true, false, true, true, false, true, true, false, false, false, false, false, false] rfl rfl (take_ofW HT_.out HW_.out (by kernel_rfl)) (fun _ _ _ h => h) (Or.inl ⟨by rfl, ?_⟩) hHeld ?_ ?_
                    rotate_left
                    · rintro w' ⟨s0, s1, s2, s3⟩
                      go_simp
                      with_reducible rfl
                    rotate_left
                    · simp only [Act.put, List.setIfInBounds_toArray, List.set_cons_zero, List.set_cons_succ, i64_w, i32_w]
                      rfl
                    refine pu_ 5 34 HT_ ?_
                    refine pu_ 7 36 HT_ ?_
                    refine take_ (i := 10) (N := some 39) (v := ?_) (a' := ?_) #[true, true, true, true, true, true, true, true, true, true, true, true, true, false, false, false, false, false, false] rfl rfl (take_ofW HT_.out HW_.out (by kernel_rfl)) (fun _ _ _ h => h) (Or.inl ⟨by rfl, ?_⟩) hHeld ?_ ?_
                    rotate_left
                    · rintro w' ⟨s0, s1, s2, s3⟩
                      go_simp
                      with_reducible rfl
                    rotate_left
                    · simp only [Act.put, List.setIfInBounds_toArray, List.set_cons_zero, List.set_cons_succ, i64_w, i32_w]
                      rfl
                    refine pu_ 13 42 HT_ ?_
                    refine pu_ 14 43 HT_ ?_
                    refine pu_ 15 44 HT_ ?_
                    refine one_ (i := 16) (N := some 45) #[true, true, true, true, true, true, true, true, true, true, true, true, true, true, true, true, true, false, false] rfl rfl (one_of HT_.out (by kernel_rfl)) (by decide) (fun K hK => ?_)
                    refine goes_ Try.func47 (by kernel_rfl) rfl #[.agg #[.slice (some ad454) l0_0.length c0_0, .int .i64 a0_1], .int .i64 t452, .string (((((rd_T56 l0_0 t452).f1).extract 0 (a1_1 : Int).toNat) ++ a2) ++ (((rd_T56 l0_0 t452).f1).extract ((ji11) : Int).toNat ((rd_T56 l0_0 t452).f1).size))] (by rfl) rfl rfl (by (try simp only [List.map_toArray, List.map_cons, List.map_nil]); first | done | (simp only [hji11]; rfl) | rfl | (simp only [List.length_drop, List.length_take]; rfl)) ?_
                    with_reducible refine (segment_with.calls _ _ l0_0 a0_1 t452 (((((rd_T56 l0_0 t452).f1).extract 0 (a1_1 : Int).toNat) ++ a2) ++ (((rd_T56 l0_0 t452).f1).extract ((ji11) : Int).toNat ((rd_T56 l0_0 t452).f1).size)) t455 t458 _ ?side1 ?side2 A15.out).mono ?_
                    (case side1 => exact pc_ (Kd.C_below HR0_0.out HB.out))
                    (case side2 => exact HC0_0.out)
                    rintro e w27 ⟨v456, rfl, ho0, hb⟩
                    refine ⟨_, rfl, ?_⟩
                    have HO457 := Aside0.mk (Kd.R_lower ho0 (below_size (pb_ HB)))
                    replace BK449 := kb_ BK449 hb
                    replace BK450 := kb_ BK450 hb
                    replace BK451 := kb_ BK451 hb
                    replace HB := sb_ HB hb
                    (try clear hb)
                    (try clear hb2)
                    (try clear hk)
                    (try clear hi)
                    (try clear ho0)
                    obtain ⟨Ao28, co28, eo28⟩ := Kd.R_slice HO457.out
                    (first | subst eo28 | (injection eo28 with f1_ f2_ f3_; have f4_ := f1_.symm; have f5_ := f3_.symm; clear f1_ f2_ f3_; subst f4_; subst f5_))
                    refine hK.out _ _ ⟨(blk_cell BK449.out 0).trans rfl, (blk_cell BK449.out 1).trans rfl, (blk_cell BK450.out 0).trans rfl, (blk_cell BK450.out 1).trans rfl⟩ (fun hHeld => ?_)
                    clear hK K
                    refine norm_ (a' := ?_) ?_ ?_
                    rotate_left
                    · show Act.put _ (some 45) _ = _
                      simp only [Act.put, List.setIfInBounds_toArray, List.set_cons_zero, List.set_cons_succ, i64_w, i32_w]
                      rfl
                    refine one_ (i := 17) (N := none) #[true, true, true, true, true, true, true, true, true, true, true, true, true, true, true, true, true, true, false] rfl rfl (one_of HT_.out (by kernel_rfl)) (by decide) (fun K hK => ?_)
                    have hs29 : w27.cell? ⟨gb451, 0, none⟩ = some (.slice none 0 0) := (blk_cell BK451.out 0).trans rfl
                    have hfs29 := blk_frozen BK451.out 0
                    have hns29_0 := NB449_451.out
                    have hns29_1 := NB450_451.out
                    have hms29_0 := NB451_449.out
                    have hms29_1 := NB451_450.out
                    have hs30 : w27.cell? ⟨gb451, 1, none⟩ = some (.int .i64 0) := (blk_cell BK451.out 1).trans rfl
                    have hfs30 := blk_frozen BK451.out 1
                    have hns30_0 := NB449_451.out
                    have hns30_1 := NB450_451.out
                    have hms30_0 := NB451_449.out
                    have hms30_1 := NB451_450.out
                    refine skip_ (w1 := ?_) (by rfl) rfl ?_ ?_
                    rotate_left
                    · go_simp
                      rfl
                    refine hK.out _ _ ⟨((cell_far (p := ⟨gb451, _, none⟩) NB449_451.out _).trans (((cell_far (p := ⟨gb451, _, none⟩) NB449_451.out _).trans (hHeld.1)))), ((cell_far (p := ⟨gb451, _, none⟩) NB449_451.out _).trans (((cell_far (p := ⟨gb451, _, none⟩) NB449_451.out _).trans (hHeld.2.1)))), ((cell_far (p := ⟨gb451, _, none⟩) NB450_451.out _).trans (((cell_far (p := ⟨gb451, _, none⟩) NB450_451.out _).trans (hHeld.2.2.1)))), ((cell_far (p := ⟨gb451, _, none⟩) NB450_451.out _).trans (((cell_far (p := ⟨gb451, _, none⟩) NB450_451.out _).trans (hHeld.2.2.2))))⟩ (fun hHeld => ?_)
                    clear hK K
                    refine pu_ 18 7 HT_ ?_
                    refine done_ (done_of HT_.out (by kernel_rfl)) ?_
                    try go_wp2
                    refine bodyPost_ret (results_ct rfl _ _ gb451 24 #[.slice Ao28 t455.length co28, .int .i64 t458] (0, 0) _ rfl (by (with_reducible repeat (first | refine blk_drewN ?_ _ | refine blk_drew ?_ | refine blk_alloc ?_ _)); refine blk_put (cs := #[.slice Ao28 t455.length co28, .int .i64 0]) ?_ 1 _ rfl; (with_reducible repeat (first | refine blk_drewN ?_ _ | refine blk_drew ?_ | refine blk_alloc ?_ _)); refine blk_put (cs := #[.slice none 0 0, .int .i64 0]) ?_ 0 _ rfl; (with_reducible repeat (first | refine blk_drewN ?_ _ | refine blk_drew ?_ | refine blk_alloc ?_ _)); exact BK451.out) Try.underlying24 rfl (by kernel_rfl)) rfl ?_
                    exact ⟨_, by first | rfl | (simp [errW_none, errW_some] <;> rfl) | (simp only [← hji11]; first | rfl | (simp [errW_none, errW_some] <;> rfl)) | (simp [*, errW_none, errW_some] <;> rfl), by (with_reducible repeat (first | apply Kd.R_alloc | apply Kd.R_drewN | apply Kd.R_drew)); exact Kd.R_mono (Kd.R_far (p := ⟨gb451, 1, none⟩) (Kd.R_far (p := ⟨gb451, 0, none⟩) (Kd.R_types HO457.out BK451.out (by decide)) (fun _ hk => hk.2) (.slice Ao28 t455.length co28)) (fun _ hk => hk.2) (.int .i64 t458)) (fun _ hk => trivial), pb_ HB⟩
                  · rw [if_neg c14] at H
                    exact absurd H (by simp)
                · rw [if_neg c13] at H
                  exact absurd H (by simp)
              · rw [if_neg c12] at H
                exact absurd H (by simp)
            · rw [if_neg c10] at H
              exact absurd H (by simp)
          · rw [if_neg c9] at H
            exact absurd H (by simp)
        · rw [if_neg c8] at H
          exact absurd H (by simp)
      · rw [if_neg c7] at H
        exact absurd H (by simp)
    · rw [if_neg c6] at H
      exact absurd H (by simp)
  · rw [if_neg c5] at H
    have c5b0 : (t453 == 0) = false := beq_eq_false_iff_ne.mpr c5
    have c5b1 : (t453 != 0) = true := bne_iff_ne.mpr c5
    simp only [Option.some.injEq, Prod.mk.injEq] at H
    obtain ⟨rfl, rfl, rfl⟩ := H
    go_enter Try.func27, Try.ntmps27
    go_wp2_with (first | ((with_reducible refine gate_dst (N := 3) rfl ?_); refine box_event ?hg (N := 3) ?hd (cs := #[.slice A0_0 l0_0.length c0_0, .int .i64 a0_1]) (t := 24) ?hr ?_; (case hd => rfl); (case hg => rfl); (case hr => first | (go_simp; done) | (go_simp; rfl)); intro gb449 hg w31 hbox hb; have BK449 := Aside0.mk (hbox); have GW449 := gw_ hg HB; have GE449 := gw_ hg HB; replace HB := sb_ HB hb; clear hb hbox hg) | ((with_reducible refine gate_dst (N := 4) rfl ?_); refine box_event ?hg (N := 4) ?hd (cs := #[.int .i64 a1_0, .int .i64 a1_1]) (t := 46) ?hr ?_; (case hd => rfl); (case hg => rfl); (case hr => first | (go_simp; done) | (go_simp; rfl)); intro gb450 hg w32 hbox hb; have BK450 := Aside0.mk (hbox); have GW450 := gw_ hg HB; have GE450 := gw_ hg HB; replace HB := sb_ HB hb; have NB449_450 := nl_ hg BK449; have NB450_449 := ng_ hg BK449; replace BK449 := kb_ BK449 hb; clear hb hbox hg) | ((with_reducible refine gate_dst (N := 6) rfl ?_); refine box_event ?hg (N := 6) ?hd (cs := #[.slice none 0 0, .int .i64 0]) (t := 24) ?hr ?_; (case hd => rfl); (case hg => rfl); (case hr => first | (go_simp; done) | (go_simp; rfl)); intro gb451 hg w33 hbox hb; have BK451 := Aside0.mk (hbox); have GW451 := gw_ hg HB; have GE451 := gw_ hg HB; replace HB := sb_ HB hb; have NB449_451 := nl_ hg BK449; have NB451_449 := ng_ hg BK449; replace BK449 := kb_ BK449 hb; have NB450_451 := nl_ hg BK450; have NB451_450 := ng_ hg BK450; replace BK450 := kb_ BK450 hb; clear hb hbox hg; have hnb34 := NB449_450.out; have hnc34 := NB450_449.out; have hnb35 := NB449_451.out; have hnc35 := NB451_449.out; have hcz36_0 := cz_ BK449 0 (.slice A0_0 l0_0.length c0_0); have hcz36_1 := cz_ BK449 1 (.int .i64 a0_1); have hfz36_0 := blk_frozen BK449.out 0; have hfz36_1 := blk_frozen BK449.out 1; have hnb37 := NB450_451.out; have hnc37 := NB451_450.out; have hcz38_0 := cz_ BK450 0 (.int .i64 a1_0); have hcz38_1 := cz_ BK450 1 (.int .i64 a1_1); have hfz38_0 := blk_frozen BK450.out 0; have hfz38_1 := blk_frozen BK450.out 1) | ((with_reducible refine gate_callee (f := 49) rfl ?_); refine goesL_ (some 16) rfl rfl Try.func49 (by kernel_rfl) rfl #[.agg #[.slice A0_0 l0_0.length c0_0, .int .i64 a0_1], .agg #[.int .i64 a1_0, .int .i64 a1_1], .int .i64 (a2.size : Int)] rfl (by (try simp only [List.map_toArray, List.map_cons, List.map_nil]); first | done | rfl | (simp only [List.length_drop, List.length_take]; rfl)) ?_; (with_reducible refine (segment_bytesAt.calls k _ _ l0_0 a0_1 a1_0 a1_1 (a2.size : Int) t452 t453 _ ?side1 ?side2 A4.out).mono ?_); (case side1 => exact pc_ (Kd.C_below HR0_0.out HB.out)); (case side2 => exact HC0_0.out); rintro e w39 ⟨rfl, hb⟩; refine ⟨_, rfl, ?_⟩; replace BK449 := kb_ BK449 hb; replace BK450 := kb_ BK450 hb; replace BK451 := kb_ BK451 hb; replace HB := sb_ HB hb; (try clear hb); (try clear hb2); (try clear hk); (try clear hi); have hcz40_0 := cz_ BK451 0 (.slice none 0 0); have hcz40_1 := cz_ BK451 1 (.int .i64 0); have hfz40_0 := blk_frozen BK451.out 0; have hfz40_1 := blk_frozen BK451.out 1))
    refine bodyPost_ret (results_ct rfl _ _ gb451 24 #[.slice none 0 0, .int .i64 0] (0, 0) _ rfl (by (with_reducible repeat (first | refine blk_drewN ?_ _ | refine blk_drew ?_ | refine blk_alloc ?_ _)); refine blk_put (cs := #[.slice none 0 0, .int .i64 0]) ?_ 1 _ rfl; (with_reducible repeat (first | refine blk_drewN ?_ _ | refine blk_drew ?_ | refine blk_alloc ?_ _)); refine blk_put (cs := #[.slice none 0 0, .int .i64 0]) ?_ 0 _ rfl; (with_reducible repeat (first | refine blk_drewN ?_ _ | refine blk_drew ?_ | refine blk_alloc ?_ _)); exact BK451.out) Try.underlying24 rfl (by kernel_rfl)) rfl ?_
    exact ⟨_, er_, by first | exact Kd.R_nil _ _ _ _ _ | exact Kd.N_nil _ _ _ _ _ | exact Kd.V_nil _ _ _ _ _ | exact Kd.Q_nil _ _ _ _ _ | exact Kd.S_nil _ _ _ _ _, pb_ HB⟩

end Go.Proofs.Ytoabahlaicgmjaa.X
end
section
namespace Go.Proofs.Ytoabahlaicgmjaa.X
open Go.Proofs.Ytoabahlaicgmjaa.XW
open Go.RowKit Go.Proofs.YtoabahlaicgmjaaW.PrintWords Go.Proofs.YtoabahlaicgmjaaW.PrintLast Go.Proofs.YtoabahlaicgmjaaW.PrintMore
attribute [local go_sem] max2_int min2_int max_two min_two max_three min_three max_four min_four   -- for this text's walks alone
set_option linter.unusedVariables false
set_option linter.unusedSimpArgs false

theorem eqA66 (d : Nat) (w : World) (x0 y0 : Int) (x1 y1 : Int) (x2 y2 : Int) (x3 y3 : Int) (x4 y4 : ByteArray) :
    (Op.equalIn (d + 2) 66 (.agg #[.int .i64 x0, .int .i64 x1, .int .i64 x2, .int .i64 x3, .string x4]) (.agg #[.int .i64 y0, .int .i64 y1, .int .i64 y2, .int .i64 y3, .string y4])).run Try.prog w = .ok (x0 == y0 && (x1 == y1 && (x2 == y2 && (x3 == y3 && (x4.toList == y4.toList))))) w := by
  refine eqA_of Try.underlying66 (by kernel_rfl) ?_
  refine eqf_cons (by rfl) (by go_simp; rfl) (by go_simp; rfl) (by go_simp) ?_
  refine eqf_cons (by rfl) (by go_simp; rfl) (by go_simp; rfl) (by go_simp) ?_
  refine eqf_cons (by rfl) (by go_simp; rfl) (by go_simp; rfl) (by go_simp) ?_
  refine eqf_cons (by rfl) (by go_simp; rfl) (by go_simp; rfl) (by go_simp) ?_
  exact eqf_last (by rfl) (by go_simp; rfl) (by go_simp; rfl) (by go_simp)
end Go.Proofs.Ytoabahlaicgmjaa.X
end
