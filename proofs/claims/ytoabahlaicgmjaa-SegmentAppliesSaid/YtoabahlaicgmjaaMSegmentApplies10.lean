-- Texts of this claim joined by merge.py, a program of its author; what this claim does not reach is left out.
import Derived.Test.YtoabahlaicgmjaaMSegmentApplies9
section
namespace Go.Proofs.Ytoabahlaicgmjaa.X
open Go.Proofs.Ytoabahlaicgmjaa.XW Go.Proofs.Ytoabahlaicgmjaa.XS
open Go.RowKit Go.Proofs.YtoabahlaicgmjaaW.PrintWords Go.Proofs.YtoabahlaicgmjaaW.PrintLast Go.Proofs.YtoabahlaicgmjaaW.PrintMore
attribute [local go_sem] max2_int min2_int max_two min_two max_three min_three max_four min_four   -- for this text's walks alone
set_option linter.unusedVariables false
set_option linter.unusedSimpArgs false

/-! ### midrangeref04_Extended: function 24 -/
def midrangeref04_Extended.f (k : Nat) (l0_0 : List (S56)) (a0_1 : Int) (a1 : Int) (a2 : Int) : Option ((List (S56)) × Int × Int × ByteArray × Int) := (midrangeref04_known.f k l0_0 a0_1 a1).bind fun bt356 => (if bt356.2 = 0 then ((midrangebase_Within.f a2 1 8).bind fun t358 => (if t358 = true then (if 0 ≤ bt356.1 then (if bt356.1 < (l0_0.length : Int) then ((midrangeref04_Pages.f ((rd_T56 l0_0 bt356.1).f1)).bind fun t367 => (if (wrap64 (t367 + a2)) > 8 then ((midrangeref04_failed.f 30).bind fun bt368 => (some (bt368.1, bt368.2.1, bt368.2.2.1, bt368.2.2.2.1, bt368.2.2.2.2))) else ((midrangeref04_Zeros.f k (wrap64 (a2 * 32))).bind fun t375 => (if ((rd_T56 l0_0 bt356.1).f1).size + t375.size ≤ 9223372036854775807 then ((midrangeref04_with.f l0_0 a0_1 bt356.1 (((rd_T56 l0_0 bt356.1).f1) ++ t375)).bind fun bt376 => (some (bt376.1, bt376.2, 0, (⟨#[]⟩ : ByteArray), 0))) else (none))))) else (none)) else (none)) else ((midrangeref04_failed.f 3).bind fun bt359 => (some (bt359.1, bt359.2.1, bt359.2.2.1, bt359.2.2.2.1, bt359.2.2.2.2))))) else (some (([] : List (S56)), 0, 0, (⟨#[]⟩ : ByteArray), bt356.2)))
def midrangeref04_Extended.T9 : Bool × List (List Nat × List Nat) := (true, [([], []), ([], []), ([], []), ([], []), ([3], [3]), ([4], [4]), ([2, 5], [2, 5]), ([0, 1, 6, 5], [0, 1, 6]), ([7], [7]), ([8, 7, 0, 1, 2, 3, 4, 5, 6, 7, 8], [8])])
def midrangeref04_Extended.B9 : List Nat := [0, 0, 0, 0, 8, 24, 60, 127, 255, 511]
theorem midrangeref04_Extended.tab9 : rtab .any (opsOf Try.f24 9) = midrangeref04_Extended.T9 := by kernel_rfl
theorem midrangeref04_Extended.bits9 : waitsOk midrangeref04_Extended.T9.2 midrangeref04_Extended.B9 = true := by kernel_rfl
set_option maxHeartbeats 8000000 in
set_option maxRecDepth 100000 in
theorem midrangeref04_Extended.calls (k : Nat) (A0_0 : Option Addr) (c0_0 : Nat) (l0_0 : List (S56)) (a0_1 : Int) (a1 : Int) (a2 : Int) (r1 : List (S56)) (r2 : Int) (r3 : Int) (r4 : ByteArray) (r5 : Int) (w : World) (hr0_0 : Kd.C k56 w A0_0 l0_0.length l0_0) (hc0_0 : l0_0.length ≤ c0_0) (h : midrangeref04_Extended.f k l0_0 a0_1 a1 a2 = some (r1, r2, r3, r4, r5)) :
    Calls Try.prog 24 #[.agg #[.slice A0_0 l0_0.length c0_0, .int .i64 a0_1], .int .i64 a1, .int .i64 a2] w fun e w' => ∃ v0_ : Value, e = .returned (.agg #[v0_, .int .i64 r2, .int .i64 r3, .string r4, .int .i64 r5]) ∧ Kd.R k56 56 w' w.heap.size (fun _ => True) v0_ r1 ∧ Below w.heap.size w w' := by
  have hu24 := Try.underlying24
  have hu34 := Try.underlying34
  have HR0_0 := Aside0.mk hr0_0
  have HC0_0 := Aside0.mk hc0_0
  clear hr0_0 hc0_0
  have HB := Aside0.mk (Below.refl w.heap.size w)
  have H : ((midrangeref04_known.f k l0_0 a0_1 a1).bind fun bt356 => (if bt356.2 = 0 then ((midrangebase_Within.f a2 1 8).bind fun t358 => (if t358 = true then (if 0 ≤ bt356.1 then (if bt356.1 < (l0_0.length : Int) then ((midrangeref04_Pages.f ((rd_T56 l0_0 bt356.1).f1)).bind fun t367 => (if (wrap64 (t367 + a2)) > 8 then ((midrangeref04_failed.f 30).bind fun bt368 => (some (bt368.1, bt368.2.1, bt368.2.2.1, bt368.2.2.2.1, bt368.2.2.2.2))) else ((midrangeref04_Zeros.f k (wrap64 (a2 * 32))).bind fun t375 => (if ((rd_T56 l0_0 bt356.1).f1).size + t375.size ≤ 9223372036854775807 then ((midrangeref04_with.f l0_0 a0_1 bt356.1 (((rd_T56 l0_0 bt356.1).f1) ++ t375)).bind fun bt376 => (some (bt376.1, bt376.2, 0, (⟨#[]⟩ : ByteArray), 0))) else (none))))) else (none)) else (none)) else ((midrangeref04_failed.f 3).bind fun bt359 => (some (bt359.1, bt359.2.1, bt359.2.2.1, bt359.2.2.2.1, bt359.2.2.2.2))))) else (some (([] : List (S56)), 0, 0, (⟨#[]⟩ : ByteArray), bt356.2)))) = some (r1, r2, r3, r4, r5) := h
  clear h
  replace H := Option.bind_eq_some_iff.mp H
  obtain ⟨⟨t356, t357⟩, A40, H⟩ := H
  replace H : (if t357 = 0 then ((midrangebase_Within.f a2 1 8).bind fun t358 => (if t358 = true then (if 0 ≤ t356 then (if t356 < (l0_0.length : Int) then ((midrangeref04_Pages.f ((rd_T56 l0_0 t356).f1)).bind fun t367 => (if (wrap64 (t367 + a2)) > 8 then ((midrangeref04_failed.f 30).bind fun bt368 => (some (bt368.1, bt368.2.1, bt368.2.2.1, bt368.2.2.2.1, bt368.2.2.2.2))) else ((midrangeref04_Zeros.f k (wrap64 (a2 * 32))).bind fun t375 => (if ((rd_T56 l0_0 t356).f1).size + t375.size ≤ 9223372036854775807 then ((midrangeref04_with.f l0_0 a0_1 t356 (((rd_T56 l0_0 t356).f1) ++ t375)).bind fun bt376 => (some (bt376.1, bt376.2, 0, (⟨#[]⟩ : ByteArray), 0))) else (none))))) else (none)) else (none)) else ((midrangeref04_failed.f 3).bind fun bt359 => (some (bt359.1, bt359.2.1, bt359.2.2.1, bt359.2.2.2.1, bt359.2.2.2.2))))) else (some (([] : List (S56)), 0, 0, (⟨#[]⟩ : ByteArray), t357))) = some (r1, r2, r3, r4, r5) := H
  have A4 := Aside0.mk A40
  clear A40
  by_cases c5 : t357 = 0
  · rw [if_pos c5] at H
    have c5b0 : (t357 == 0) = true := beq_iff_eq.mpr c5
    have c5b1 : (t357 != 0) = false := bne_eq_false_iff_eq.mpr c5
    clear c5
    replace H := Option.bind_eq_some_iff.mp H
    obtain ⟨t358, A60, H⟩ := H
    replace H : (if t358 = true then (if 0 ≤ t356 then (if t356 < (l0_0.length : Int) then ((midrangeref04_Pages.f ((rd_T56 l0_0 t356).f1)).bind fun t367 => (if (wrap64 (t367 + a2)) > 8 then ((midrangeref04_failed.f 30).bind fun bt368 => (some (bt368.1, bt368.2.1, bt368.2.2.1, bt368.2.2.2.1, bt368.2.2.2.2))) else ((midrangeref04_Zeros.f k (wrap64 (a2 * 32))).bind fun t375 => (if ((rd_T56 l0_0 t356).f1).size + t375.size ≤ 9223372036854775807 then ((midrangeref04_with.f l0_0 a0_1 t356 (((rd_T56 l0_0 t356).f1) ++ t375)).bind fun bt376 => (some (bt376.1, bt376.2, 0, (⟨#[]⟩ : ByteArray), 0))) else (none))))) else (none)) else (none)) else ((midrangeref04_failed.f 3).bind fun bt359 => (some (bt359.1, bt359.2.1, bt359.2.2.1, bt359.2.2.2.1, bt359.2.2.2.2)))) = some (r1, r2, r3, r4, r5) := H
    have A6 := Aside0.mk A60
    clear A60
    by_cases c7 : t358 = true
    · subst c7
      have H1 : (if 0 ≤ t356 then (if t356 < (l0_0.length : Int) then ((midrangeref04_Pages.f ((rd_T56 l0_0 t356).f1)).bind fun t367 => (if (wrap64 (t367 + a2)) > 8 then ((midrangeref04_failed.f 30).bind fun bt368 => (some (bt368.1, bt368.2.1, bt368.2.2.1, bt368.2.2.2.1, bt368.2.2.2.2))) else ((midrangeref04_Zeros.f k (wrap64 (a2 * 32))).bind fun t375 => (if ((rd_T56 l0_0 t356).f1).size + t375.size ≤ 9223372036854775807 then ((midrangeref04_with.f l0_0 a0_1 t356 (((rd_T56 l0_0 t356).f1) ++ t375)).bind fun bt376 => (some (bt376.1, bt376.2, 0, (⟨#[]⟩ : ByteArray), 0))) else (none))))) else (none)) else (none)) = some (r1, r2, r3, r4, r5) := by rw [if_pos rfl] at H; exact H
      clear H
      have H := H1
      clear H1
      by_cases c8 : 0 ≤ t356
      · rw [if_pos c8] at H
        have c8b0 : decide (0 ≤ t356) = true := decide_eq_true c8
        clear c8
        by_cases c9 : t356 < (l0_0.length : Int)
        · rw [if_pos c9] at H
          have c9b0 : decide (t356 < (l0_0.length : Int)) = true := decide_eq_true c9
          clear c9
          replace H := Option.bind_eq_some_iff.mp H
          obtain ⟨t367, A100, H⟩ := H
          replace H : (if (wrap64 (t367 + a2)) > 8 then ((midrangeref04_failed.f 30).bind fun bt368 => (some (bt368.1, bt368.2.1, bt368.2.2.1, bt368.2.2.2.1, bt368.2.2.2.2))) else ((midrangeref04_Zeros.f k (wrap64 (a2 * 32))).bind fun t375 => (if ((rd_T56 l0_0 t356).f1).size + t375.size ≤ 9223372036854775807 then ((midrangeref04_with.f l0_0 a0_1 t356 (((rd_T56 l0_0 t356).f1) ++ t375)).bind fun bt376 => (some (bt376.1, bt376.2, 0, (⟨#[]⟩ : ByteArray), 0))) else (none)))) = some (r1, r2, r3, r4, r5) := H
          have A10 := Aside0.mk A100
          clear A100
          by_cases c11 : (wrap64 (t367 + a2)) > 8
          · rw [if_pos c11] at H
            have c11b0 : decide (8 < (wrap64 (t367 + a2))) = true := decide_eq_true c11
            clear c11
            replace H := Option.bind_eq_some_iff.mp H
            obtain ⟨⟨t368, t371, t372, t373, t374⟩, A120, H⟩ := H
            replace H : (some (t368, t371, t372, t373, t374)) = some (r1, r2, r3, r4, r5) := H
            have A12 := Aside0.mk A120
            clear A120
            simp only [Option.some.injEq, Prod.mk.injEq] at H
            obtain ⟨rfl, rfl, rfl, rfl, rfl⟩ := H
            go_enter Try.func24, Try.ntmps24
            go_wp2_with (first | ((with_reducible refine gate_dst (N := 3) rfl ?_); refine box_event ?hg (N := 3) ?hd (cs := #[.slice A0_0 l0_0.length c0_0, .int .i64 a0_1]) (t := 24) ?hr ?_; (case hd => rfl); (case hg => rfl); (case hr => first | (go_simp; done) | (go_simp; rfl)); intro gb354 hg w13 hbox hb; have BK354 := Aside0.mk (hbox); have GW354 := gw_ hg HB; have GE354 := gw_ hg HB; replace HB := sb_ HB hb; clear hb hbox hg) | ((with_reducible refine gate_dst (N := 6) rfl ?_); refine box_event ?hg (N := 6) ?hd (cs := #[.slice none 0 0, .int .i64 0, .int .i64 0, .string (⟨#[]⟩ : ByteArray), .int .i64 0]) (t := 34) ?hr ?_; (case hd => rfl); (case hg => rfl); (case hr => first | (go_simp; done) | (go_simp; rfl)); intro gb355 hg w14 hbox hb; have BK355 := Aside0.mk (hbox); have GW355 := gw_ hg HB; have GE355 := gw_ hg HB; replace HB := sb_ HB hb; have NB354_355 := nl_ hg BK354; have NB355_354 := ng_ hg BK354; replace BK354 := kb_ BK354 hb; clear hb hbox hg; have hnb15 := NB354_355.out; have hnc15 := NB355_354.out; have hcz16_0 := cz_ BK354 0 (.slice A0_0 l0_0.length c0_0); have hcz16_1 := cz_ BK354 1 (.int .i64 a0_1); have hfz16_0 := blk_frozen BK354.out 0; have hfz16_1 := blk_frozen BK354.out 1) | ((with_reducible refine gate_callee (f := 45) rfl ?_); refine goesL_ (some 13) rfl rfl Try.func45 (by kernel_rfl) rfl #[.agg #[.slice A0_0 l0_0.length c0_0, .int .i64 a0_1], .int .i64 a1] rfl (by (try simp only [List.map_toArray, List.map_cons, List.map_nil]); first | done | rfl | (simp only [List.length_drop, List.length_take]; rfl)) ?_; (with_reducible refine (midrangeref04_known.calls k _ _ l0_0 a0_1 a1 t356 t357 _ ?side1 ?side2 A4.out).mono ?_); (case side1 => exact pc_ (Kd.C_below HR0_0.out HB.out)); (case side2 => exact HC0_0.out); rintro e w17 ⟨rfl, hb⟩; refine ⟨_, rfl, ?_⟩; replace BK354 := kb_ BK354 hb; replace BK355 := kb_ BK355 hb; replace HB := sb_ HB hb; (try clear hb); (try clear hb2); (try clear hk); (try clear hi)) | ((with_reducible refine gate_callee (f := 30) rfl ?_); refine goesL_ (some 21) rfl rfl Try.func30 (by kernel_rfl) rfl #[.int .i64 a2, .int .i64 1, .int .i64 8] rfl (by (try simp only [List.map_toArray, List.map_cons, List.map_nil]); first | done | rfl | (simp only [List.length_drop, List.length_take]; rfl)) ?_; (with_reducible refine (midrangebase_Within.calls a2 1 8 true _ A6.out).mono ?_); rintro e w' ⟨rfl, ⟨nd, rfl⟩⟩; refine ⟨_, rfl, ?_⟩; (try (rw [drewN_self w17]; generalize hq_ : World.drewN w17 _ = w17; have n0_ : Aside0 (w17.heap[gb354]? = some (.cells #[.slice A0_0 l0_0.length c0_0, .int .i64 a0_1] 24 (0, 0))) := ⟨by rw [← hq_]; exact (pk_ BK354)⟩; have n1_ : Aside0 (w17.heap[gb355]? = some (.cells #[.slice none 0 0, .int .i64 0, .int .i64 0, .string (⟨#[]⟩ : ByteArray), .int .i64 0] 34 (0, 0))) := ⟨by rw [← hq_]; exact (pk_ BK355)⟩; have n2_ : Aside0 (Below w.heap.size w w17) := ⟨by rw [← hq_]; exact (pb_ HB)⟩; clear BK354 BK355 HB hq_; have BK354 := n0_; have BK355 := n1_; have HB := n2_; clear n0_ n1_ n2_)); have hcz18_0 := cz_ BK354 0 (.slice A0_0 l0_0.length c0_0); have hcz18_1 := cz_ BK354 1 (.int .i64 a0_1); have hfz18_0 := blk_frozen BK354.out 0; have hfz18_1 := blk_frozen BK354.out 1; have p366 : 0 ≤ (t356 : Int) := ct_; have q366 : t356 < (l0_0.length : Int) := ct_; obtain ⟨ad366, e366, hx366_0, hx366_1⟩ := at_T56 HR0_0.out t356 p366 q366; cases e366; replace hx366_0 := (HB.out.cell (World.block_lt_of_cell? w _ hx366_0)).trans hx366_0; replace hx366_1 := (HB.out.cell (World.block_lt_of_cell? w _ hx366_1)).trans hx366_1; replace p366 := eq_true p366; replace q366 := eq_true q366) | ((with_reducible refine gate_callee (f := 46) rfl ?_); refine goesL_ (some 31) rfl rfl Try.func46 (by kernel_rfl) rfl #[.string ((rd_T56 l0_0 t356).f1)] rfl (by (try simp only [List.map_toArray, List.map_cons, List.map_nil]); first | done | rfl | (simp only [List.length_drop, List.length_take]; rfl)) ?_; (with_reducible refine (midrangeref04_Pages.calls ((rd_T56 l0_0 t356).f1) t367 _ A10.out).mono ?_); rintro e w' ⟨rfl, ⟨nd, rfl⟩⟩; refine ⟨_, rfl, ?_⟩; (try (rw [drewN_self w17]; generalize hq_ : World.drewN w17 _ = w17; have n0_ : Aside0 (w17.heap[gb354]? = some (.cells #[.slice (some ad366) l0_0.length c0_0, .int .i64 a0_1] 24 (0, 0))) := ⟨by rw [← hq_]; exact (pk_ BK354)⟩; have n1_ : Aside0 (w17.heap[gb355]? = some (.cells #[.slice none 0 0, .int .i64 0, .int .i64 0, .string (⟨#[]⟩ : ByteArray), .int .i64 0] 34 (0, 0))) := ⟨by rw [← hq_]; exact (pk_ BK355)⟩; have n2_ : Aside0 (Below w.heap.size w w17) := ⟨by rw [← hq_]; exact (pb_ HB)⟩; clear BK354 BK355 HB hq_; have BK354 := n0_; have BK355 := n1_; have HB := n2_; clear n0_ n1_ n2_))) | ((with_reducible refine gate_callee (f := 42) rfl ?_); refine goesL_ (some 35) rfl rfl Try.func42 (by kernel_rfl) rfl #[.int .i64 30] rfl (by (try simp only [List.map_toArray, List.map_cons, List.map_nil]); first | done | rfl | (simp only [List.length_drop, List.length_take]; rfl)) ?_; (with_reducible refine (midrangeref04_failed.calls 30 t368 t371 t372 t373 t374 _ A12.out).mono ?_); rintro e w19 ⟨v369, rfl, ho0, hb⟩; refine ⟨_, rfl, ?_⟩; have HO370 := Aside0.mk (Kd.R_lower ho0 (below_size (pb_ HB))); replace BK354 := kb_ BK354 hb; replace BK355 := kb_ BK355 hb; replace HB := sb_ HB hb; (try clear hb); (try clear hb2); (try clear hk); (try clear hi); (try clear ho0); obtain ⟨Ao20, co20, eo20⟩ := Kd.R_slice HO370.out; subst eo20; have hcz21_0 := cz_ BK355 0 (.slice none 0 0); have hcz21_1 := cz_ BK355 1 (.int .i64 0); have hcz21_2 := cz_ BK355 2 (.int .i64 0); have hcz21_3 := cz_ BK355 3 (.string (⟨#[]⟩ : ByteArray)); have hcz21_4 := cz_ BK355 4 (.int .i64 0); have hfz21_0 := blk_frozen BK355.out 0; have hfz21_1 := blk_frozen BK355.out 1; have hfz21_2 := blk_frozen BK355.out 2; have hfz21_3 := blk_frozen BK355.out 3; have hfz21_4 := blk_frozen BK355.out 4))
            refine bodyPost_ret (results_cell_row rfl _ _ gb355 34 #[.slice Ao20 t368.length co20, .int .i64 t371, .int .i64 t372, .string t373, .int .i64 t374] (0, 0) _ rfl (by (with_reducible repeat (first | refine blk_drewN ?_ _ | refine blk_drew ?_ | refine blk_alloc ?_ _)); refine blk_put (cs := #[.slice Ao20 t368.length co20, .int .i64 t371, .int .i64 t372, .string t373, .int .i64 0]) ?_ 4 _ rfl; (with_reducible repeat (first | refine blk_drewN ?_ _ | refine blk_drew ?_ | refine blk_alloc ?_ _)); refine blk_put (cs := #[.slice Ao20 t368.length co20, .int .i64 t371, .int .i64 t372, .string (⟨#[]⟩ : ByteArray), .int .i64 0]) ?_ 3 _ rfl; (with_reducible repeat (first | refine blk_drewN ?_ _ | refine blk_drew ?_ | refine blk_alloc ?_ _)); refine blk_put (cs := #[.slice Ao20 t368.length co20, .int .i64 t371, .int .i64 0, .string (⟨#[]⟩ : ByteArray), .int .i64 0]) ?_ 2 _ rfl; (with_reducible repeat (first | refine blk_drewN ?_ _ | refine blk_drew ?_ | refine blk_alloc ?_ _)); refine blk_put (cs := #[.slice Ao20 t368.length co20, .int .i64 0, .int .i64 0, .string (⟨#[]⟩ : ByteArray), .int .i64 0]) ?_ 1 _ rfl; (with_reducible repeat (first | refine blk_drewN ?_ _ | refine blk_drew ?_ | refine blk_alloc ?_ _)); refine blk_put (cs := #[.slice none 0 0, .int .i64 0, .int .i64 0, .string (⟨#[]⟩ : ByteArray), .int .i64 0]) ?_ 0 _ rfl; (with_reducible repeat (first | refine blk_drewN ?_ _ | refine blk_drew ?_ | refine blk_alloc ?_ _)); exact BK355.out) Try.underlying34 rfl (by kernel_rfl)) rfl ?_
            exact ⟨_, er_, by (with_reducible repeat (first | apply Kd.R_alloc | apply Kd.R_drewN | apply Kd.R_drew)); exact Kd.R_mono (Kd.R_far (p := ⟨gb355, 4, none⟩) (Kd.R_far (p := ⟨gb355, 3, none⟩) (Kd.R_far (p := ⟨gb355, 2, none⟩) (Kd.R_far (p := ⟨gb355, 1, none⟩) (Kd.R_far (p := ⟨gb355, 0, none⟩) (Kd.R_types HO370.out BK355.out (by decide)) (fun _ hk => hk.2) (.slice Ao20 t368.length co20)) (fun _ hk => hk.2) (.int .i64 t371)) (fun _ hk => hk.2) (.int .i64 t372)) (fun _ hk => hk.2) (.string t373)) (fun _ hk => hk.2) (.int .i64 t374)) (fun _ hk => trivial), pb_ HB⟩
          · rw [if_neg c11] at H
            have c11b0 : decide (8 < (wrap64 (t367 + a2))) = false := decide_eq_false c11
            clear c11
            replace H := Option.bind_eq_some_iff.mp H
            obtain ⟨t375, A220, H⟩ := H
            replace H : (if ((rd_T56 l0_0 t356).f1).size + t375.size ≤ 9223372036854775807 then ((midrangeref04_with.f l0_0 a0_1 t356 (((rd_T56 l0_0 t356).f1) ++ t375)).bind fun bt376 => (some (bt376.1, bt376.2, 0, (⟨#[]⟩ : ByteArray), 0))) else (none)) = some (r1, r2, r3, r4, r5) := H
            have A22 := Aside0.mk A220
            clear A220
            by_cases c23 : ((rd_T56 l0_0 t356).f1).size + t375.size ≤ 9223372036854775807
            · rw [if_pos c23] at H
              have c23b0 := eq_true c23
              have c23b1 : decide (((rd_T56 l0_0 t356).f1).size + t375.size ≤ 9223372036854775807) = true := decide_eq_true c23
              try have c23b2 : (9223372036854775807 < ((rd_T56 l0_0 t356).f1).size + t375.size) = False := eq_false (Nat.not_lt.2 c23)
              clear c23
              replace H := Option.bind_eq_some_iff.mp H
              obtain ⟨⟨t376, t379⟩, A240, H⟩ := H
              replace H : (some (t376, t379, 0, (⟨#[]⟩ : ByteArray), 0)) = some (r1, r2, r3, r4, r5) := H
              have A24 := Aside0.mk A240
              clear A240
              simp only [Option.some.injEq, Prod.mk.injEq] at H
              obtain ⟨rfl, rfl, rfl, rfl, rfl⟩ := H
              go_enter Try.func24, Try.ntmps24
              try go_wp2_with (first | ((with_reducible refine gate_dst (N := 3) rfl ?_); refine box_event ?hg (N := 3) ?hd (cs := #[.slice A0_0 l0_0.length c0_0, .int .i64 a0_1]) (t := 24) ?hr ?_; (case hd => rfl); (case hg => rfl); (case hr => first | (go_simp; done) | (go_simp; rfl)); intro gb354 hg w25 hbox hb; have BK354 := Aside0.mk (hbox); have GW354 := gw_ hg HB; have GE354 := gw_ hg HB; replace HB := sb_ HB hb; clear hb hbox hg) | ((with_reducible refine gate_dst (N := 6) rfl ?_); refine box_event ?hg (N := 6) ?hd (cs := #[.slice none 0 0, .int .i64 0, .int .i64 0, .string (⟨#[]⟩ : ByteArray), .int .i64 0]) (t := 34) ?hr ?_; (case hd => rfl); (case hg => rfl); (case hr => first | (go_simp; done) | (go_simp; rfl)); intro gb355 hg w26 hbox hb; have BK355 := Aside0.mk (hbox); have GW355 := gw_ hg HB; have GE355 := gw_ hg HB; replace HB := sb_ HB hb; have NB354_355 := nl_ hg BK354; have NB355_354 := ng_ hg BK354; replace BK354 := kb_ BK354 hb; clear hb hbox hg; have hnb27 := NB354_355.out; have hnc27 := NB355_354.out; have hcz28_0 := cz_ BK354 0 (.slice A0_0 l0_0.length c0_0); have hcz28_1 := cz_ BK354 1 (.int .i64 a0_1); have hfz28_0 := blk_frozen BK354.out 0; have hfz28_1 := blk_frozen BK354.out 1) | ((with_reducible refine gate_callee (f := 45) rfl ?_); refine goesL_ (some 13) rfl rfl Try.func45 (by kernel_rfl) rfl #[.agg #[.slice A0_0 l0_0.length c0_0, .int .i64 a0_1], .int .i64 a1] rfl (by (try simp only [List.map_toArray, List.map_cons, List.map_nil]); first | done | rfl | (simp only [List.length_drop, List.length_take]; rfl)) ?_; (with_reducible refine (midrangeref04_known.calls k _ _ l0_0 a0_1 a1 t356 t357 _ ?side1 ?side2 A4.out).mono ?_); (case side1 => exact pc_ (Kd.C_below HR0_0.out HB.out)); (case side2 => exact HC0_0.out); rintro e w29 ⟨rfl, hb⟩; refine ⟨_, rfl, ?_⟩; replace BK354 := kb_ BK354 hb; replace BK355 := kb_ BK355 hb; replace HB := sb_ HB hb; (try clear hb); (try clear hb2); (try clear hk); (try clear hi)) | ((with_reducible refine gate_callee (f := 30) rfl ?_); refine goesL_ (some 21) rfl rfl Try.func30 (by kernel_rfl) rfl #[.int .i64 a2, .int .i64 1, .int .i64 8] rfl (by (try simp only [List.map_toArray, List.map_cons, List.map_nil]); first | done | rfl | (simp only [List.length_drop, List.length_take]; rfl)) ?_; (with_reducible refine (midrangebase_Within.calls a2 1 8 true _ A6.out).mono ?_); rintro e w' ⟨rfl, ⟨nd, rfl⟩⟩; refine ⟨_, rfl, ?_⟩; (try (rw [drewN_self w29]; generalize hq_ : World.drewN w29 _ = w29; have n0_ : Aside0 (w29.heap[gb354]? = some (.cells #[.slice A0_0 l0_0.length c0_0, .int .i64 a0_1] 24 (0, 0))) := ⟨by rw [← hq_]; exact (pk_ BK354)⟩; have n1_ : Aside0 (w29.heap[gb355]? = some (.cells #[.slice none 0 0, .int .i64 0, .int .i64 0, .string (⟨#[]⟩ : ByteArray), .int .i64 0] 34 (0, 0))) := ⟨by rw [← hq_]; exact (pk_ BK355)⟩; have n2_ : Aside0 (Below w.heap.size w w29) := ⟨by rw [← hq_]; exact (pb_ HB)⟩; clear BK354 BK355 HB hq_; have BK354 := n0_; have BK355 := n1_; have HB := n2_; clear n0_ n1_ n2_)); have hcz30_0 := cz_ BK354 0 (.slice A0_0 l0_0.length c0_0); have hcz30_1 := cz_ BK354 1 (.int .i64 a0_1); have hfz30_0 := blk_frozen BK354.out 0; have hfz30_1 := blk_frozen BK354.out 1; have p366 : 0 ≤ (t356 : Int) := ct_; have q366 : t356 < (l0_0.length : Int) := ct_; obtain ⟨ad366, e366, hx366_0, hx366_1⟩ := at_T56 HR0_0.out t356 p366 q366; cases e366; replace hx366_0 := (HB.out.cell (World.block_lt_of_cell? w _ hx366_0)).trans hx366_0; replace hx366_1 := (HB.out.cell (World.block_lt_of_cell? w _ hx366_1)).trans hx366_1; replace p366 := eq_true p366; replace q366 := eq_true q366) | ((with_reducible refine gate_callee (f := 46) rfl ?_); refine goesL_ (some 31) rfl rfl Try.func46 (by kernel_rfl) rfl #[.string ((rd_T56 l0_0 t356).f1)] rfl (by (try simp only [List.map_toArray, List.map_cons, List.map_nil]); first | done | rfl | (simp only [List.length_drop, List.length_take]; rfl)) ?_; (with_reducible refine (midrangeref04_Pages.calls ((rd_T56 l0_0 t356).f1) t367 _ A10.out).mono ?_); rintro e w' ⟨rfl, ⟨nd, rfl⟩⟩; refine ⟨_, rfl, ?_⟩; (try (rw [drewN_self w29]; generalize hq_ : World.drewN w29 _ = w29; have n0_ : Aside0 (w29.heap[gb354]? = some (.cells #[.slice (some ad366) l0_0.length c0_0, .int .i64 a0_1] 24 (0, 0))) := ⟨by rw [← hq_]; exact (pk_ BK354)⟩; have n1_ : Aside0 (w29.heap[gb355]? = some (.cells #[.slice none 0 0, .int .i64 0, .int .i64 0, .string (⟨#[]⟩ : ByteArray), .int .i64 0] 34 (0, 0))) := ⟨by rw [← hq_]; exact (pk_ BK355)⟩; have n2_ : Aside0 (Below w.heap.size w w29) := ⟨by rw [← hq_]; exact (pb_ HB)⟩; clear BK354 BK355 HB hq_; have BK354 := n0_; have BK355 := n1_; have HB := n2_; clear n0_ n1_ n2_))))
              replace BK354 := Aside0.mk (blk_drew BK354.out)
              replace BK355 := Aside0.mk (blk_drew BK355.out)
              replace HB := Aside0.mk (below_drew1 HB.out)
              refine start_ (n := 10) (S := fun w' => w'.cell? ⟨gb354, 0, none⟩ = some (.slice (some ad366) l0_0.length c0_0) ∧ w'.cell? ⟨gb354, 1, none⟩ = some (.int .i64 a0_1)) (ds := []) #[false, false, false, false, false, false, false, false, false, false] (by kernel_rfl) rfl rfl ⟨(blk_cell BK354.out 0).trans rfl, (blk_cell BK354.out 1).trans rfl⟩ (fun hHeld => ?_); refine with_tabW midrangeref04_Extended.tab9 midrangeref04_Extended.bits9 (fun HT_ HW_ => ?_)
              generalize w29.drew = w31 at BK354 BK355 HB hHeld ⊢
              refine pu_ 1 37 HT_ ?_
              refine pu_ 2 38 HT_ ?_
              refine pu_ 3 39 HT_ ?_
              refine pu_ 4 40 HT_ ?_
              refine take_ (i := 0) (N := some 36) (v := ?_) (a' := ?_) #[true, true, true, true, true, false, false, false, false, false] rfl rfl (take_ofW HT_.out HW_.out (by kernel_rfl)) (fun _ _ _ h => h) (Or.inl ⟨by rfl, ?_⟩) hHeld ?_ ?_
              rotate_left
              · rintro w' ⟨s0, s1⟩
                go_simp
                with_reducible rfl
              rotate_left
              · simp only [Act.put, List.setIfInBounds_toArray, List.set_cons_zero, List.set_cons_succ, i64_w, i32_w]
                rfl
              refine one_ (i := 5) (N := some 41) #[true, true, true, true, true, true, false, false, false, false] rfl rfl (one_of HT_.out (by kernel_rfl)) (by decide) (fun K hK => ?_)
              refine goes_ Try.func43 (by kernel_rfl) rfl #[.int .i64 (wrap64 (a2 * 32))] (by rfl) rfl rfl (by (try simp only [List.map_toArray, List.map_cons, List.map_nil]); first | done | rfl | (simp only [List.length_drop, List.length_take]; rfl)) ?_
              with_reducible refine (midrangeref04_Zeros.calls k (wrap64 (a2 * 32)) t375 _ A22.out).mono ?_
              rintro e w32 ⟨rfl, hb⟩
              refine ⟨_, rfl, ?_⟩
              replace BK354 := kb_ BK354 hb
              replace BK355 := kb_ BK355 hb
              replace HB := sb_ HB hb
              (try clear hb)
              (try clear hb2)
              (try clear hk)
              (try clear hi)
              refine hK.out _ _ ⟨(blk_cell BK354.out 0).trans rfl, (blk_cell BK354.out 1).trans rfl⟩ (fun hHeld => ?_)
              clear hK K
              refine norm_ (a' := ?_) ?_ ?_
              rotate_left
              · show Act.put _ (some 41) _ = _
                simp only [Act.put, List.setIfInBounds_toArray, List.set_cons_zero, List.set_cons_succ, i64_w, i32_w]
                rfl
              refine pu_ 6 42 HT_ ?_
              refine one_ (i := 7) (N := some 43) #[true, true, true, true, true, true, true, true, false, false] rfl rfl (one_of HT_.out (by kernel_rfl)) (by decide) (fun K hK => ?_)
              refine goes_ Try.func48 (by kernel_rfl) rfl #[.agg #[.slice (some ad366) l0_0.length c0_0, .int .i64 a0_1], .int .i64 t356, .string (((rd_T56 l0_0 t356).f1) ++ t375)] (by rfl) rfl rfl (by (try simp only [List.map_toArray, List.map_cons, List.map_nil]); first | done | rfl | (simp only [List.length_drop, List.length_take]; rfl)) ?_
              with_reducible refine (midrangeref04_with.calls _ _ l0_0 a0_1 t356 (((rd_T56 l0_0 t356).f1) ++ t375) t376 t379 _ ?side1 ?side2 A24.out).mono ?_
              (case side1 => exact pc_ (Kd.C_below HR0_0.out HB.out))
              (case side2 => exact HC0_0.out)
              rintro e w33 ⟨v377, rfl, ho0, hb⟩
              refine ⟨_, rfl, ?_⟩
              have HO378 := Aside0.mk (Kd.R_lower ho0 (below_size (pb_ HB)))
              replace BK354 := kb_ BK354 hb
              replace BK355 := kb_ BK355 hb
              replace HB := sb_ HB hb
              (try clear hb)
              (try clear hb2)
              (try clear hk)
              (try clear hi)
              (try clear ho0)
              obtain ⟨Ao34, co34, eo34⟩ := Kd.R_slice HO378.out
              (first | subst eo34 | (injection eo34 with f1_ f2_ f3_; have f4_ := f1_.symm; have f5_ := f3_.symm; clear f1_ f2_ f3_; subst f4_; subst f5_))
              refine hK.out _ _ ⟨(blk_cell BK354.out 0).trans rfl, (blk_cell BK354.out 1).trans rfl⟩ (fun hHeld => ?_)
              clear hK K
              refine norm_ (a' := ?_) ?_ ?_
              rotate_left
              · show Act.put _ (some 43) _ = _
                simp only [Act.put, List.setIfInBounds_toArray, List.set_cons_zero, List.set_cons_succ, i64_w, i32_w]
                rfl
              refine pu_ 8 44 HT_ ?_
              refine one_ (i := 9) (N := none) #[true, true, true, true, true, true, true, true, true, true] rfl rfl (one_of HT_.out (by kernel_rfl)) (by decide) (fun K hK => ?_)
              have hs35 : w33.cell? ⟨gb355, 0, none⟩ = some (.slice none 0 0) := (blk_cell BK355.out 0).trans rfl
              have hfs35 := blk_frozen BK355.out 0
              have hns35_0 := NB354_355.out
              have hms35_0 := NB355_354.out
              have hs36 : w33.cell? ⟨gb355, 1, none⟩ = some (.int .i64 0) := (blk_cell BK355.out 1).trans rfl
              have hfs36 := blk_frozen BK355.out 1
              have hns36_0 := NB354_355.out
              have hms36_0 := NB355_354.out
              have hs37 : w33.cell? ⟨gb355, 2, none⟩ = some (.int .i64 0) := (blk_cell BK355.out 2).trans rfl
              have hfs37 := blk_frozen BK355.out 2
              have hns37_0 := NB354_355.out
              have hms37_0 := NB355_354.out
              have hs38 : w33.cell? ⟨gb355, 3, none⟩ = some (.string (⟨#[]⟩ : ByteArray)) := (blk_cell BK355.out 3).trans rfl
              have hfs38 := blk_frozen BK355.out 3
              have hns38_0 := NB354_355.out
              have hms38_0 := NB355_354.out
              have hs39 : w33.cell? ⟨gb355, 4, none⟩ = some (.int .i64 0) := (blk_cell BK355.out 4).trans rfl
              have hfs39 := blk_frozen BK355.out 4
              have hns39_0 := NB354_355.out
              have hms39_0 := NB355_354.out
              refine skip_ (w1 := ?_) (by rfl) rfl ?_ ?_
              rotate_left
              · go_simp
                rfl
              refine hK.out _ _ ⟨((cell_far (p := ⟨gb355, _, none⟩) NB354_355.out _).trans (((cell_far (p := ⟨gb355, _, none⟩) NB354_355.out _).trans (((cell_far (p := ⟨gb355, _, none⟩) NB354_355.out _).trans (((cell_far (p := ⟨gb355, _, none⟩) NB354_355.out _).trans (((cell_far (p := ⟨gb355, _, none⟩) NB354_355.out _).trans (hHeld.1)))))))))), ((cell_far (p := ⟨gb355, _, none⟩) NB354_355.out _).trans (((cell_far (p := ⟨gb355, _, none⟩) NB354_355.out _).trans (((cell_far (p := ⟨gb355, _, none⟩) NB354_355.out _).trans (((cell_far (p := ⟨gb355, _, none⟩) NB354_355.out _).trans (((cell_far (p := ⟨gb355, _, none⟩) NB354_355.out _).trans (hHeld.2))))))))))⟩ (fun hHeld => ?_)
              clear hK K
              refine done_ (done_of HT_.out (by kernel_rfl)) ?_
              try go_wp2
              refine bodyPost_ret (results_cell_row rfl _ _ gb355 34 #[.slice Ao34 t376.length co34, .int .i64 t379, .int .i64 0, .string (⟨#[]⟩ : ByteArray), .int .i64 0] (0, 0) _ rfl (by (with_reducible repeat (first | refine blk_drewN ?_ _ | refine blk_drew ?_ | refine blk_alloc ?_ _)); refine blk_put (cs := #[.slice Ao34 t376.length co34, .int .i64 t379, .int .i64 0, .string (⟨#[]⟩ : ByteArray), .int .i64 0]) ?_ 4 _ rfl; (with_reducible repeat (first | refine blk_drewN ?_ _ | refine blk_drew ?_ | refine blk_alloc ?_ _)); refine blk_put (cs := #[.slice Ao34 t376.length co34, .int .i64 t379, .int .i64 0, .string (⟨#[]⟩ : ByteArray), .int .i64 0]) ?_ 3 _ rfl; (with_reducible repeat (first | refine blk_drewN ?_ _ | refine blk_drew ?_ | refine blk_alloc ?_ _)); refine blk_put (cs := #[.slice Ao34 t376.length co34, .int .i64 t379, .int .i64 0, .string (⟨#[]⟩ : ByteArray), .int .i64 0]) ?_ 2 _ rfl; (with_reducible repeat (first | refine blk_drewN ?_ _ | refine blk_drew ?_ | refine blk_alloc ?_ _)); refine blk_put (cs := #[.slice Ao34 t376.length co34, .int .i64 0, .int .i64 0, .string (⟨#[]⟩ : ByteArray), .int .i64 0]) ?_ 1 _ rfl; (with_reducible repeat (first | refine blk_drewN ?_ _ | refine blk_drew ?_ | refine blk_alloc ?_ _)); refine blk_put (cs := #[.slice none 0 0, .int .i64 0, .int .i64 0, .string (⟨#[]⟩ : ByteArray), .int .i64 0]) ?_ 0 _ rfl; (with_reducible repeat (first | refine blk_drewN ?_ _ | refine blk_drew ?_ | refine blk_alloc ?_ _)); exact BK355.out) Try.underlying34 rfl (by kernel_rfl)) rfl ?_
              exact ⟨_, er_, by (with_reducible repeat (first | apply Kd.R_alloc | apply Kd.R_drewN | apply Kd.R_drew)); exact Kd.R_mono (Kd.R_far (p := ⟨gb355, 4, none⟩) (Kd.R_far (p := ⟨gb355, 3, none⟩) (Kd.R_far (p := ⟨gb355, 2, none⟩) (Kd.R_far (p := ⟨gb355, 1, none⟩) (Kd.R_far (p := ⟨gb355, 0, none⟩) (Kd.R_types HO378.out BK355.out (by decide)) (fun _ hk => hk.2) (.slice Ao34 t376.length co34)) (fun _ hk => hk.2) (.int .i64 t379)) (fun _ hk => hk.2) (.int .i64 0)) (fun _ hk => hk.2) (.string (⟨#[]⟩ : ByteArray))) (fun _ hk => hk.2) (.int .i64 0)) (fun _ hk => trivial), pb_ HB⟩
            · rw [if_neg c23] at H
              exact absurd H (by simp)
        · rw [if_neg c9] at H
          exact absurd H (by simp)
      · rw [if_neg c8] at H
        exact absurd H (by simp)
    · replace c7 := Bool.eq_false_iff.mpr c7
      subst c7
      have H1 : ((midrangeref04_failed.f 3).bind fun bt359 => (some (bt359.1, bt359.2.1, bt359.2.2.1, bt359.2.2.2.1, bt359.2.2.2.2))) = some (r1, r2, r3, r4, r5) := by rw [if_neg (show ¬ (false = true) by decide)] at H; exact H
      clear H
      have H := H1
      clear H1
      replace H := Option.bind_eq_some_iff.mp H
      obtain ⟨⟨t359, t362, t363, t364, t365⟩, A400, H⟩ := H
      replace H : (some (t359, t362, t363, t364, t365)) = some (r1, r2, r3, r4, r5) := H
      have A40 := Aside0.mk A400
      clear A400
      simp only [Option.some.injEq, Prod.mk.injEq] at H
      obtain ⟨rfl, rfl, rfl, rfl, rfl⟩ := H
      go_enter Try.func24, Try.ntmps24
      go_wp2_with (first | ((with_reducible refine gate_dst (N := 3) rfl ?_); refine box_event ?hg (N := 3) ?hd (cs := #[.slice A0_0 l0_0.length c0_0, .int .i64 a0_1]) (t := 24) ?hr ?_; (case hd => rfl); (case hg => rfl); (case hr => first | (go_simp; done) | (go_simp; rfl)); intro gb354 hg w41 hbox hb; have BK354 := Aside0.mk (hbox); have GW354 := gw_ hg HB; have GE354 := gw_ hg HB; replace HB := sb_ HB hb; clear hb hbox hg) | ((with_reducible refine gate_dst (N := 6) rfl ?_); refine box_event ?hg (N := 6) ?hd (cs := #[.slice none 0 0, .int .i64 0, .int .i64 0, .string (⟨#[]⟩ : ByteArray), .int .i64 0]) (t := 34) ?hr ?_; (case hd => rfl); (case hg => rfl); (case hr => first | (go_simp; done) | (go_simp; rfl)); intro gb355 hg w42 hbox hb; have BK355 := Aside0.mk (hbox); have GW355 := gw_ hg HB; have GE355 := gw_ hg HB; replace HB := sb_ HB hb; have NB354_355 := nl_ hg BK354; have NB355_354 := ng_ hg BK354; replace BK354 := kb_ BK354 hb; clear hb hbox hg; have hnb43 := NB354_355.out; have hnc43 := NB355_354.out; have hcz44_0 := cz_ BK354 0 (.slice A0_0 l0_0.length c0_0); have hcz44_1 := cz_ BK354 1 (.int .i64 a0_1); have hfz44_0 := blk_frozen BK354.out 0; have hfz44_1 := blk_frozen BK354.out 1) | ((with_reducible refine gate_callee (f := 45) rfl ?_); refine goesL_ (some 13) rfl rfl Try.func45 (by kernel_rfl) rfl #[.agg #[.slice A0_0 l0_0.length c0_0, .int .i64 a0_1], .int .i64 a1] rfl (by (try simp only [List.map_toArray, List.map_cons, List.map_nil]); first | done | rfl | (simp only [List.length_drop, List.length_take]; rfl)) ?_; (with_reducible refine (midrangeref04_known.calls k _ _ l0_0 a0_1 a1 t356 t357 _ ?side1 ?side2 A4.out).mono ?_); (case side1 => exact pc_ (Kd.C_below HR0_0.out HB.out)); (case side2 => exact HC0_0.out); rintro e w45 ⟨rfl, hb⟩; refine ⟨_, rfl, ?_⟩; replace BK354 := kb_ BK354 hb; replace BK355 := kb_ BK355 hb; replace HB := sb_ HB hb; (try clear hb); (try clear hb2); (try clear hk); (try clear hi)) | ((with_reducible refine gate_callee (f := 30) rfl ?_); refine goesL_ (some 21) rfl rfl Try.func30 (by kernel_rfl) rfl #[.int .i64 a2, .int .i64 1, .int .i64 8] rfl (by (try simp only [List.map_toArray, List.map_cons, List.map_nil]); first | done | rfl | (simp only [List.length_drop, List.length_take]; rfl)) ?_; (with_reducible refine (midrangebase_Within.calls a2 1 8 false _ A6.out).mono ?_); rintro e w' ⟨rfl, ⟨nd, rfl⟩⟩; refine ⟨_, rfl, ?_⟩; (try (rw [drewN_self w45]; generalize hq_ : World.drewN w45 _ = w45; have n0_ : Aside0 (w45.heap[gb354]? = some (.cells #[.slice A0_0 l0_0.length c0_0, .int .i64 a0_1] 24 (0, 0))) := ⟨by rw [← hq_]; exact (pk_ BK354)⟩; have n1_ : Aside0 (w45.heap[gb355]? = some (.cells #[.slice none 0 0, .int .i64 0, .int .i64 0, .string (⟨#[]⟩ : ByteArray), .int .i64 0] 34 (0, 0))) := ⟨by rw [← hq_]; exact (pk_ BK355)⟩; have n2_ : Aside0 (Below w.heap.size w w45) := ⟨by rw [← hq_]; exact (pb_ HB)⟩; clear BK354 BK355 HB hq_; have BK354 := n0_; have BK355 := n1_; have HB := n2_; clear n0_ n1_ n2_))) | ((with_reducible refine gate_callee (f := 42) rfl ?_); refine goesL_ (some 23) rfl rfl Try.func42 (by kernel_rfl) rfl #[.int .i64 3] rfl (by (try simp only [List.map_toArray, List.map_cons, List.map_nil]); first | done | rfl | (simp only [List.length_drop, List.length_take]; rfl)) ?_; (with_reducible refine (midrangeref04_failed.calls 3 t359 t362 t363 t364 t365 _ A40.out).mono ?_); rintro e w46 ⟨v360, rfl, ho0, hb⟩; refine ⟨_, rfl, ?_⟩; have HO361 := Aside0.mk (Kd.R_lower ho0 (below_size (pb_ HB))); replace BK354 := kb_ BK354 hb; replace BK355 := kb_ BK355 hb; replace HB := sb_ HB hb; (try clear hb); (try clear hb2); (try clear hk); (try clear hi); (try clear ho0); obtain ⟨Ao47, co47, eo47⟩ := Kd.R_slice HO361.out; subst eo47; have hcz48_0 := cz_ BK355 0 (.slice none 0 0); have hcz48_1 := cz_ BK355 1 (.int .i64 0); have hcz48_2 := cz_ BK355 2 (.int .i64 0); have hcz48_3 := cz_ BK355 3 (.string (⟨#[]⟩ : ByteArray)); have hcz48_4 := cz_ BK355 4 (.int .i64 0); have hfz48_0 := blk_frozen BK355.out 0; have hfz48_1 := blk_frozen BK355.out 1; have hfz48_2 := blk_frozen BK355.out 2; have hfz48_3 := blk_frozen BK355.out 3; have hfz48_4 := blk_frozen BK355.out 4))
      refine bodyPost_ret (results_cell_row rfl _ _ gb355 34 #[.slice Ao47 t359.length co47, .int .i64 t362, .int .i64 t363, .string t364, .int .i64 t365] (0, 0) _ rfl (by (with_reducible repeat (first | refine blk_drewN ?_ _ | refine blk_drew ?_ | refine blk_alloc ?_ _)); refine blk_put (cs := #[.slice Ao47 t359.length co47, .int .i64 t362, .int .i64 t363, .string t364, .int .i64 0]) ?_ 4 _ rfl; (with_reducible repeat (first | refine blk_drewN ?_ _ | refine blk_drew ?_ | refine blk_alloc ?_ _)); refine blk_put (cs := #[.slice Ao47 t359.length co47, .int .i64 t362, .int .i64 t363, .string (⟨#[]⟩ : ByteArray), .int .i64 0]) ?_ 3 _ rfl; (with_reducible repeat (first | refine blk_drewN ?_ _ | refine blk_drew ?_ | refine blk_alloc ?_ _)); refine blk_put (cs := #[.slice Ao47 t359.length co47, .int .i64 t362, .int .i64 0, .string (⟨#[]⟩ : ByteArray), .int .i64 0]) ?_ 2 _ rfl; (with_reducible repeat (first | refine blk_drewN ?_ _ | refine blk_drew ?_ | refine blk_alloc ?_ _)); refine blk_put (cs := #[.slice Ao47 t359.length co47, .int .i64 0, .int .i64 0, .string (⟨#[]⟩ : ByteArray), .int .i64 0]) ?_ 1 _ rfl; (with_reducible repeat (first | refine blk_drewN ?_ _ | refine blk_drew ?_ | refine blk_alloc ?_ _)); refine blk_put (cs := #[.slice none 0 0, .int .i64 0, .int .i64 0, .string (⟨#[]⟩ : ByteArray), .int .i64 0]) ?_ 0 _ rfl; (with_reducible repeat (first | refine blk_drewN ?_ _ | refine blk_drew ?_ | refine blk_alloc ?_ _)); exact BK355.out) Try.underlying34 rfl (by kernel_rfl)) rfl ?_
      exact ⟨_, er_, by (with_reducible repeat (first | apply Kd.R_alloc | apply Kd.R_drewN | apply Kd.R_drew)); exact Kd.R_mono (Kd.R_far (p := ⟨gb355, 4, none⟩) (Kd.R_far (p := ⟨gb355, 3, none⟩) (Kd.R_far (p := ⟨gb355, 2, none⟩) (Kd.R_far (p := ⟨gb355, 1, none⟩) (Kd.R_far (p := ⟨gb355, 0, none⟩) (Kd.R_types HO361.out BK355.out (by decide)) (fun _ hk => hk.2) (.slice Ao47 t359.length co47)) (fun _ hk => hk.2) (.int .i64 t362)) (fun _ hk => hk.2) (.int .i64 t363)) (fun _ hk => hk.2) (.string t364)) (fun _ hk => hk.2) (.int .i64 t365)) (fun _ hk => trivial), pb_ HB⟩
  · rw [if_neg c5] at H
    have c5b0 : (t357 == 0) = false := beq_eq_false_iff_ne.mpr c5
    have c5b1 : (t357 != 0) = true := bne_iff_ne.mpr c5
    simp only [Option.some.injEq, Prod.mk.injEq] at H
    obtain ⟨rfl, rfl, rfl, rfl, rfl⟩ := H
    go_enter Try.func24, Try.ntmps24
    go_wp2_with (first | ((with_reducible refine gate_dst (N := 3) rfl ?_); refine box_event ?hg (N := 3) ?hd (cs := #[.slice A0_0 l0_0.length c0_0, .int .i64 a0_1]) (t := 24) ?hr ?_; (case hd => rfl); (case hg => rfl); (case hr => first | (go_simp; done) | (go_simp; rfl)); intro gb354 hg w49 hbox hb; have BK354 := Aside0.mk (hbox); have GW354 := gw_ hg HB; have GE354 := gw_ hg HB; replace HB := sb_ HB hb; clear hb hbox hg) | ((with_reducible refine gate_dst (N := 6) rfl ?_); refine box_event ?hg (N := 6) ?hd (cs := #[.slice none 0 0, .int .i64 0, .int .i64 0, .string (⟨#[]⟩ : ByteArray), .int .i64 0]) (t := 34) ?hr ?_; (case hd => rfl); (case hg => rfl); (case hr => first | (go_simp; done) | (go_simp; rfl)); intro gb355 hg w50 hbox hb; have BK355 := Aside0.mk (hbox); have GW355 := gw_ hg HB; have GE355 := gw_ hg HB; replace HB := sb_ HB hb; have NB354_355 := nl_ hg BK354; have NB355_354 := ng_ hg BK354; replace BK354 := kb_ BK354 hb; clear hb hbox hg; have hnb51 := NB354_355.out; have hnc51 := NB355_354.out; have hcz52_0 := cz_ BK354 0 (.slice A0_0 l0_0.length c0_0); have hcz52_1 := cz_ BK354 1 (.int .i64 a0_1); have hfz52_0 := blk_frozen BK354.out 0; have hfz52_1 := blk_frozen BK354.out 1) | ((with_reducible refine gate_callee (f := 45) rfl ?_); refine goesL_ (some 13) rfl rfl Try.func45 (by kernel_rfl) rfl #[.agg #[.slice A0_0 l0_0.length c0_0, .int .i64 a0_1], .int .i64 a1] rfl (by (try simp only [List.map_toArray, List.map_cons, List.map_nil]); first | done | rfl | (simp only [List.length_drop, List.length_take]; rfl)) ?_; (with_reducible refine (midrangeref04_known.calls k _ _ l0_0 a0_1 a1 t356 t357 _ ?side1 ?side2 A4.out).mono ?_); (case side1 => exact pc_ (Kd.C_below HR0_0.out HB.out)); (case side2 => exact HC0_0.out); rintro e w53 ⟨rfl, hb⟩; refine ⟨_, rfl, ?_⟩; replace BK354 := kb_ BK354 hb; replace BK355 := kb_ BK355 hb; replace HB := sb_ HB hb; (try clear hb); (try clear hb2); (try clear hk); (try clear hi); have hcz54_0 := cz_ BK355 0 (.slice none 0 0); have hcz54_1 := cz_ BK355 1 (.int .i64 0); have hcz54_2 := cz_ BK355 2 (.int .i64 0); have hcz54_3 := cz_ BK355 3 (.string (⟨#[]⟩ : ByteArray)); have hcz54_4 := cz_ BK355 4 (.int .i64 0); have hfz54_0 := blk_frozen BK355.out 0; have hfz54_1 := blk_frozen BK355.out 1; have hfz54_2 := blk_frozen BK355.out 2; have hfz54_3 := blk_frozen BK355.out 3; have hfz54_4 := blk_frozen BK355.out 4))
    refine bodyPost_ret (results_cell_row rfl _ _ gb355 34 #[.slice none 0 0, .int .i64 0, .int .i64 0, .string (⟨#[]⟩ : ByteArray), .int .i64 t357] (0, 0) _ rfl (by (with_reducible repeat (first | refine blk_drewN ?_ _ | refine blk_drew ?_ | refine blk_alloc ?_ _)); refine blk_put (cs := #[.slice none 0 0, .int .i64 0, .int .i64 0, .string (⟨#[]⟩ : ByteArray), .int .i64 0]) ?_ 4 _ rfl; (with_reducible repeat (first | refine blk_drewN ?_ _ | refine blk_drew ?_ | refine blk_alloc ?_ _)); refine blk_put (cs := #[.slice none 0 0, .int .i64 0, .int .i64 0, .string (⟨#[]⟩ : ByteArray), .int .i64 0]) ?_ 3 _ rfl; (with_reducible repeat (first | refine blk_drewN ?_ _ | refine blk_drew ?_ | refine blk_alloc ?_ _)); refine blk_put (cs := #[.slice none 0 0, .int .i64 0, .int .i64 0, .string (⟨#[]⟩ : ByteArray), .int .i64 0]) ?_ 2 _ rfl; (with_reducible repeat (first | refine blk_drewN ?_ _ | refine blk_drew ?_ | refine blk_alloc ?_ _)); refine blk_put (cs := #[.slice none 0 0, .int .i64 0, .int .i64 0, .string (⟨#[]⟩ : ByteArray), .int .i64 0]) ?_ 1 _ rfl; (with_reducible repeat (first | refine blk_drewN ?_ _ | refine blk_drew ?_ | refine blk_alloc ?_ _)); refine blk_put (cs := #[.slice none 0 0, .int .i64 0, .int .i64 0, .string (⟨#[]⟩ : ByteArray), .int .i64 0]) ?_ 0 _ rfl; (with_reducible repeat (first | refine blk_drewN ?_ _ | refine blk_drew ?_ | refine blk_alloc ?_ _)); exact BK355.out) Try.underlying34 rfl (by kernel_rfl)) rfl ?_
    exact ⟨_, er_, by first | exact Kd.R_nil _ _ _ _ _ | exact Kd.N_nil _ _ _ _ _ | exact Kd.V_nil _ _ _ _ _ | exact Kd.Q_nil _ _ _ _ _ | exact Kd.S_nil _ _ _ _ _, pb_ HB⟩

end Go.Proofs.Ytoabahlaicgmjaa.X
end
section
namespace Go.Proofs.Ytoabahlaicgmjaa.X
open Go.Proofs.Ytoabahlaicgmjaa.XW Go.Proofs.Ytoabahlaicgmjaa.XS
open Go.RowKit Go.Proofs.YtoabahlaicgmjaaW.PrintWords Go.Proofs.YtoabahlaicgmjaaW.PrintLast Go.Proofs.YtoabahlaicgmjaaW.PrintMore
attribute [local go_sem] max2_int min2_int max_two min_two max_three min_three max_four min_four   -- for this text's walks alone
set_option linter.unusedVariables false
set_option linter.unusedSimpArgs false

/-! ### midrangeref04_Truncated: function 25 -/
def midrangeref04_Truncated.f (k : Nat) (l0_0 : List (S56)) (a0_1 : Int) (a1 : Int) (a2 : Int) : Option ((List (S56)) × Int × Int × ByteArray × Int) := (midrangeref04_known.f k l0_0 a0_1 a1).bind fun bt382 => (if bt382.2 = 0 then (if 0 ≤ bt382.1 then (if bt382.1 < (l0_0.length : Int) then ((midrangeref04_Pages.f ((rd_T56 l0_0 bt382.1).f1)).bind fun t385 => ((midrangebase_Within.f a2 1 t385).bind fun t386 => (if t386 = true then (if 0 ≤ (wrap64 (a2 * 32)) then (if (wrap64 (a2 * 32)) ≤ (((rd_T56 l0_0 bt382.1).f1).size : Int) then ((midrangeref04_with.f l0_0 a0_1 bt382.1 (((rd_T56 l0_0 bt382.1).f1).extract 0 ((wrap64 (a2 * 32)) : Int).toNat)).bind fun bt387 => (some (bt387.1, bt387.2, 0, (⟨#[]⟩ : ByteArray), 0))) else (none)) else (none)) else ((midrangeref04_failed.f 3).bind fun bt391 => (some (bt391.1, bt391.2.1, bt391.2.2.1, bt391.2.2.2.1, bt391.2.2.2.2)))))) else (none)) else (none)) else (some (([] : List (S56)), 0, 0, (⟨#[]⟩ : ByteArray), bt382.2)))
def midrangeref04_Truncated.T7 : Bool × List (List Nat × List Nat) := (true, [([], []), ([], []), ([], []), ([], []), ([3], [3]), ([2, 4], [2, 4]), ([0, 1, 5], [0, 1, 5]), ([6], [6]), ([7, 6, 0, 1, 2, 3, 4, 5, 6, 7], [7])])
def midrangeref04_Truncated.B7 : List Nat := [0, 0, 0, 0, 8, 28, 63, 127, 255]
theorem midrangeref04_Truncated.tab7 : rtab .any (opsOf Try.f25 7) = midrangeref04_Truncated.T7 := by kernel_rfl
theorem midrangeref04_Truncated.bits7 : waitsOk midrangeref04_Truncated.T7.2 midrangeref04_Truncated.B7 = true := by kernel_rfl
set_option maxHeartbeats 8000000 in
set_option maxRecDepth 100000 in
theorem midrangeref04_Truncated.calls (k : Nat) (A0_0 : Option Addr) (c0_0 : Nat) (l0_0 : List (S56)) (a0_1 : Int) (a1 : Int) (a2 : Int) (r1 : List (S56)) (r2 : Int) (r3 : Int) (r4 : ByteArray) (r5 : Int) (w : World) (hr0_0 : Kd.C k56 w A0_0 l0_0.length l0_0) (hc0_0 : l0_0.length ≤ c0_0) (h : midrangeref04_Truncated.f k l0_0 a0_1 a1 a2 = some (r1, r2, r3, r4, r5)) :
    Calls Try.prog 25 #[.agg #[.slice A0_0 l0_0.length c0_0, .int .i64 a0_1], .int .i64 a1, .int .i64 a2] w fun e w' => ∃ v0_ : Value, e = .returned (.agg #[v0_, .int .i64 r2, .int .i64 r3, .string r4, .int .i64 r5]) ∧ Kd.R k56 56 w' w.heap.size (fun _ => True) v0_ r1 ∧ Below w.heap.size w w' := by
  have hu24 := Try.underlying24
  have hu34 := Try.underlying34
  have HR0_0 := Aside0.mk hr0_0
  have HC0_0 := Aside0.mk hc0_0
  clear hr0_0 hc0_0
  have HB := Aside0.mk (Below.refl w.heap.size w)
  have H : ((midrangeref04_known.f k l0_0 a0_1 a1).bind fun bt382 => (if bt382.2 = 0 then (if 0 ≤ bt382.1 then (if bt382.1 < (l0_0.length : Int) then ((midrangeref04_Pages.f ((rd_T56 l0_0 bt382.1).f1)).bind fun t385 => ((midrangebase_Within.f a2 1 t385).bind fun t386 => (if t386 = true then (if 0 ≤ (wrap64 (a2 * 32)) then (if (wrap64 (a2 * 32)) ≤ (((rd_T56 l0_0 bt382.1).f1).size : Int) then ((midrangeref04_with.f l0_0 a0_1 bt382.1 (((rd_T56 l0_0 bt382.1).f1).extract 0 ((wrap64 (a2 * 32)) : Int).toNat)).bind fun bt387 => (some (bt387.1, bt387.2, 0, (⟨#[]⟩ : ByteArray), 0))) else (none)) else (none)) else ((midrangeref04_failed.f 3).bind fun bt391 => (some (bt391.1, bt391.2.1, bt391.2.2.1, bt391.2.2.2.1, bt391.2.2.2.2)))))) else (none)) else (none)) else (some (([] : List (S56)), 0, 0, (⟨#[]⟩ : ByteArray), bt382.2)))) = some (r1, r2, r3, r4, r5) := h
  clear h
  replace H := Option.bind_eq_some_iff.mp H
  obtain ⟨⟨t382, t383⟩, A40, H⟩ := H
  replace H : (if t383 = 0 then (if 0 ≤ t382 then (if t382 < (l0_0.length : Int) then ((midrangeref04_Pages.f ((rd_T56 l0_0 t382).f1)).bind fun t385 => ((midrangebase_Within.f a2 1 t385).bind fun t386 => (if t386 = true then (if 0 ≤ (wrap64 (a2 * 32)) then (if (wrap64 (a2 * 32)) ≤ (((rd_T56 l0_0 t382).f1).size : Int) then ((midrangeref04_with.f l0_0 a0_1 t382 (((rd_T56 l0_0 t382).f1).extract 0 ((wrap64 (a2 * 32)) : Int).toNat)).bind fun bt387 => (some (bt387.1, bt387.2, 0, (⟨#[]⟩ : ByteArray), 0))) else (none)) else (none)) else ((midrangeref04_failed.f 3).bind fun bt391 => (some (bt391.1, bt391.2.1, bt391.2.2.1, bt391.2.2.2.1, bt391.2.2.2.2)))))) else (none)) else (none)) else (some (([] : List (S56)), 0, 0, (⟨#[]⟩ : ByteArray), t383))) = some (r1, r2, r3, r4, r5) := H
  have A4 := Aside0.mk A40
  clear A40
  by_cases c5 : t383 = 0
  · rw [if_pos c5] at H
    have c5b0 : (t383 == 0) = true := beq_iff_eq.mpr c5
    have c5b1 : (t383 != 0) = false := bne_eq_false_iff_eq.mpr c5
    clear c5
    by_cases c6 : 0 ≤ t382
    · rw [if_pos c6] at H
      have c6b0 : decide (0 ≤ t382) = true := decide_eq_true c6
      clear c6
      by_cases c7 : t382 < (l0_0.length : Int)
      · rw [if_pos c7] at H
        have c7b0 : decide (t382 < (l0_0.length : Int)) = true := decide_eq_true c7
        clear c7
        replace H := Option.bind_eq_some_iff.mp H
        obtain ⟨t385, A80, H⟩ := H
        replace H : ((midrangebase_Within.f a2 1 t385).bind fun t386 => (if t386 = true then (if 0 ≤ (wrap64 (a2 * 32)) then (if (wrap64 (a2 * 32)) ≤ (((rd_T56 l0_0 t382).f1).size : Int) then ((midrangeref04_with.f l0_0 a0_1 t382 (((rd_T56 l0_0 t382).f1).extract 0 ((wrap64 (a2 * 32)) : Int).toNat)).bind fun bt387 => (some (bt387.1, bt387.2, 0, (⟨#[]⟩ : ByteArray), 0))) else (none)) else (none)) else ((midrangeref04_failed.f 3).bind fun bt391 => (some (bt391.1, bt391.2.1, bt391.2.2.1, bt391.2.2.2.1, bt391.2.2.2.2))))) = some (r1, r2, r3, r4, r5) := H
        have A8 := Aside0.mk A80
        clear A80
        replace H := Option.bind_eq_some_iff.mp H
        obtain ⟨t386, A90, H⟩ := H
        replace H : (if t386 = true then (if 0 ≤ (wrap64 (a2 * 32)) then (if (wrap64 (a2 * 32)) ≤ (((rd_T56 l0_0 t382).f1).size : Int) then ((midrangeref04_with.f l0_0 a0_1 t382 (((rd_T56 l0_0 t382).f1).extract 0 ((wrap64 (a2 * 32)) : Int).toNat)).bind fun bt387 => (some (bt387.1, bt387.2, 0, (⟨#[]⟩ : ByteArray), 0))) else (none)) else (none)) else ((midrangeref04_failed.f 3).bind fun bt391 => (some (bt391.1, bt391.2.1, bt391.2.2.1, bt391.2.2.2.1, bt391.2.2.2.2)))) = some (r1, r2, r3, r4, r5) := H
        have A9 := Aside0.mk A90
        clear A90
        by_cases c10 : t386 = true
        · subst c10
          have H1 : (if 0 ≤ (wrap64 (a2 * 32)) then (if (wrap64 (a2 * 32)) ≤ (((rd_T56 l0_0 t382).f1).size : Int) then ((midrangeref04_with.f l0_0 a0_1 t382 (((rd_T56 l0_0 t382).f1).extract 0 ((wrap64 (a2 * 32)) : Int).toNat)).bind fun bt387 => (some (bt387.1, bt387.2, 0, (⟨#[]⟩ : ByteArray), 0))) else (none)) else (none)) = some (r1, r2, r3, r4, r5) := by rw [if_pos rfl] at H; exact H
          clear H
          have H := H1
          clear H1
          obtain ⟨ji11, hji11⟩ : ∃ j_ : Int, (wrap64 (a2 * 32)) = j_ := ⟨_, rfl⟩
          replace H : (if 0 ≤ (ji11) then (if (ji11) ≤ (((rd_T56 l0_0 t382).f1).size : Int) then ((midrangeref04_with.f l0_0 a0_1 t382 (((rd_T56 l0_0 t382).f1).extract 0 ((ji11) : Int).toNat)).bind fun bt387 => (some (bt387.1, bt387.2, 0, (⟨#[]⟩ : ByteArray), 0))) else (none)) else (none)) = some (r1, r2, r3, r4, r5) := by first | (rw [hji11] at H; exact H) | (simp only [hji11] at H ⊢; exact H)
          (try rw [hji11] at A4)
          (try rw [hji11] at A8)
          (try rw [hji11] at A9)
          have hji11w : (IntKind.i64.wrap (a2 * 32)) = ji11 := (i64_w _).trans hji11
          by_cases c12 : 0 ≤ (ji11)
          · rw [if_pos c12] at H
            have c12b0 := eq_true c12
            have c12b1 : decide (0 ≤ (ji11)) = true := decide_eq_true c12
            clear c12
            by_cases c13 : (ji11) ≤ (((rd_T56 l0_0 t382).f1).size : Int)
            · rw [if_pos c13] at H
              have c13b0 := eq_true c13
              have c13b1 : decide ((ji11) ≤ (((rd_T56 l0_0 t382).f1).size : Int)) = true := decide_eq_true c13
              clear c13
              replace H := Option.bind_eq_some_iff.mp H
              obtain ⟨⟨t387, t390⟩, A140, H⟩ := H
              replace H : (some (t387, t390, 0, (⟨#[]⟩ : ByteArray), 0)) = some (r1, r2, r3, r4, r5) := H
              have A14 := Aside0.mk A140
              clear A140
              simp only [Option.some.injEq, Prod.mk.injEq] at H
              obtain ⟨rfl, rfl, rfl, rfl, rfl⟩ := H
              go_enter Try.func25, Try.ntmps25
              try go_wp2_with (first | ((with_reducible refine gate_dst (N := 3) rfl ?_); refine box_event ?hg (N := 3) ?hd (cs := #[.slice A0_0 l0_0.length c0_0, .int .i64 a0_1]) (t := 24) ?hr ?_; (case hd => rfl); (case hg => rfl); (case hr => first | (go_simp; done) | (go_simp; rfl)); intro gb380 hg w15 hbox hb; have BK380 := Aside0.mk (hbox); have GW380 := gw_ hg HB; have GE380 := gw_ hg HB; replace HB := sb_ HB hb; clear hb hbox hg) | ((with_reducible refine gate_dst (N := 6) rfl ?_); refine box_event ?hg (N := 6) ?hd (cs := #[.slice none 0 0, .int .i64 0, .int .i64 0, .string (⟨#[]⟩ : ByteArray), .int .i64 0]) (t := 34) ?hr ?_; (case hd => rfl); (case hg => rfl); (case hr => first | (go_simp; done) | (go_simp; rfl)); intro gb381 hg w16 hbox hb; have BK381 := Aside0.mk (hbox); have GW381 := gw_ hg HB; have GE381 := gw_ hg HB; replace HB := sb_ HB hb; have NB380_381 := nl_ hg BK380; have NB381_380 := ng_ hg BK380; replace BK380 := kb_ BK380 hb; clear hb hbox hg; have hnb17 := NB380_381.out; have hnc17 := NB381_380.out; have hcz18_0 := cz_ BK380 0 (.slice A0_0 l0_0.length c0_0); have hcz18_1 := cz_ BK380 1 (.int .i64 a0_1); have hfz18_0 := blk_frozen BK380.out 0; have hfz18_1 := blk_frozen BK380.out 1) | ((with_reducible refine gate_callee (f := 45) rfl ?_); refine goesL_ (some 13) rfl rfl Try.func45 (by kernel_rfl) rfl #[.agg #[.slice A0_0 l0_0.length c0_0, .int .i64 a0_1], .int .i64 a1] rfl (by (try simp only [List.map_toArray, List.map_cons, List.map_nil]); first | done | rfl | (simp only [List.length_drop, List.length_take]; rfl)) ?_; (with_reducible refine (midrangeref04_known.calls k _ _ l0_0 a0_1 a1 t382 t383 _ ?side1 ?side2 A4.out).mono ?_); (case side1 => exact pc_ (Kd.C_below HR0_0.out HB.out)); (case side2 => exact HC0_0.out); rintro e w19 ⟨rfl, hb⟩; refine ⟨_, rfl, ?_⟩; replace BK380 := kb_ BK380 hb; replace BK381 := kb_ BK381 hb; replace HB := sb_ HB hb; (try clear hb); (try clear hb2); (try clear hk); (try clear hi); have hcz20_0 := cz_ BK380 0 (.slice A0_0 l0_0.length c0_0); have hcz20_1 := cz_ BK380 1 (.int .i64 a0_1); have hfz20_0 := blk_frozen BK380.out 0; have hfz20_1 := blk_frozen BK380.out 1; have p384 : 0 ≤ (t382 : Int) := ct_; have q384 : t382 < (l0_0.length : Int) := ct_; obtain ⟨ad384, e384, hx384_0, hx384_1⟩ := at_T56 HR0_0.out t382 p384 q384; cases e384; replace hx384_0 := (HB.out.cell (World.block_lt_of_cell? w _ hx384_0)).trans hx384_0; replace hx384_1 := (HB.out.cell (World.block_lt_of_cell? w _ hx384_1)).trans hx384_1; replace p384 := eq_true p384; replace q384 := eq_true q384) | ((with_reducible refine gate_callee (f := 46) rfl ?_); refine goesL_ (some 28) rfl rfl Try.func46 (by kernel_rfl) rfl #[.string ((rd_T56 l0_0 t382).f1)] rfl (by (try simp only [List.map_toArray, List.map_cons, List.map_nil]); first | done | rfl | (simp only [List.length_drop, List.length_take]; rfl)) ?_; (with_reducible refine (midrangeref04_Pages.calls ((rd_T56 l0_0 t382).f1) t385 _ A8.out).mono ?_); rintro e w' ⟨rfl, ⟨nd, rfl⟩⟩; refine ⟨_, rfl, ?_⟩; (try (rw [drewN_self w19]; generalize hq_ : World.drewN w19 _ = w19; have n0_ : Aside0 (w19.heap[gb380]? = some (.cells #[.slice (some ad384) l0_0.length c0_0, .int .i64 a0_1] 24 (0, 0))) := ⟨by rw [← hq_]; exact (pk_ BK380)⟩; have n1_ : Aside0 (w19.heap[gb381]? = some (.cells #[.slice none 0 0, .int .i64 0, .int .i64 0, .string (⟨#[]⟩ : ByteArray), .int .i64 0] 34 (0, 0))) := ⟨by rw [← hq_]; exact (pk_ BK381)⟩; have n2_ : Aside0 (Below w.heap.size w w19) := ⟨by rw [← hq_]; exact (pb_ HB)⟩; clear BK380 BK381 HB hq_; have BK380 := n0_; have BK381 := n1_; have HB := n2_; clear n0_ n1_ n2_))) | ((with_reducible refine gate_callee (f := 30) rfl ?_); refine goesL_ (some 29) rfl rfl Try.func30 (by kernel_rfl) rfl #[.int .i64 a2, .int .i64 1, .int .i64 t385] rfl (by (try simp only [List.map_toArray, List.map_cons, List.map_nil]); first | done | rfl | (simp only [List.length_drop, List.length_take]; rfl)) ?_; (with_reducible refine (midrangebase_Within.calls a2 1 t385 true _ A9.out).mono ?_); rintro e w' ⟨rfl, ⟨nd, rfl⟩⟩; refine ⟨_, rfl, ?_⟩; (try (rw [drewN_self w19]; generalize hq_ : World.drewN w19 _ = w19; have n0_ : Aside0 (w19.heap[gb380]? = some (.cells #[.slice (some ad384) l0_0.length c0_0, .int .i64 a0_1] 24 (0, 0))) := ⟨by rw [← hq_]; exact (pk_ BK380)⟩; have n1_ : Aside0 (w19.heap[gb381]? = some (.cells #[.slice none 0 0, .int .i64 0, .int .i64 0, .string (⟨#[]⟩ : ByteArray), .int .i64 0] 34 (0, 0))) := ⟨by rw [← hq_]; exact (pk_ BK381)⟩; have n2_ : Aside0 (Below w.heap.size w w19) := ⟨by rw [← hq_]; exact (pb_ HB)⟩; clear BK380 BK381 HB hq_; have BK380 := n0_; have BK381 := n1_; have HB := n2_; clear n0_ n1_ n2_))))
              replace BK380 := Aside0.mk (blk_drew BK380.out)
              replace BK381 := Aside0.mk (blk_drew BK381.out)
              replace HB := Aside0.mk (below_drew1 HB.out)
              refine start_ (n := 9) (S := fun w' => w'.cell? ⟨gb380, 0, none⟩ = some (.slice (some ad384) l0_0.length c0_0) ∧ w'.cell? ⟨gb380, 1, none⟩ = some (.int .i64 a0_1)) (ds := []) #[false, false, false, false, false, false, false, false, false] (by kernel_rfl) rfl rfl ⟨(blk_cell BK380.out 0).trans rfl, (blk_cell BK380.out 1).trans rfl⟩ (fun hHeld => ?_); refine with_tabW midrangeref04_Truncated.tab7 midrangeref04_Truncated.bits7 (fun HT_ HW_ => ?_)
              generalize w19.drew = w21 at BK380 BK381 HB hHeld ⊢
              refine pu_ 1 33 HT_ ?_
              refine pu_ 2 34 HT_ ?_
              refine pu_ 3 35 HT_ ?_
              refine pu_ 4 36 HT_ ?_
              refine pu_ 5 37 HT_ ?_
              refine take_ (i := 0) (N := some 32) (v := ?_) (a' := ?_) #[true, true, true, true, true, true, false, false, false] rfl rfl (take_ofW HT_.out HW_.out (by kernel_rfl)) (fun _ _ _ h => h) (Or.inl ⟨by rfl, ?_⟩) hHeld ?_ ?_
              rotate_left
              · rintro w' ⟨s0, s1⟩
                go_simp
                with_reducible rfl
              rotate_left
              · simp only [Act.put, List.setIfInBounds_toArray, List.set_cons_zero, List.set_cons_succ, i64_w, i32_w]
                rfl
              refine one_ (i := 6) (N := some 38) #[true, true, true, true, true, true, true, false, false] rfl rfl (one_of HT_.out (by kernel_rfl)) (by decide) (fun K hK => ?_)
              refine goes_ Try.func48 (by kernel_rfl) rfl #[.agg #[.slice (some ad384) l0_0.length c0_0, .int .i64 a0_1], .int .i64 t382, .string (((rd_T56 l0_0 t382).f1).extract 0 ((ji11) : Int).toNat)] (by rfl) rfl rfl (by (try simp only [List.map_toArray, List.map_cons, List.map_nil]); first | done | (simp only [hji11]; rfl) | rfl | (simp only [List.length_drop, List.length_take]; rfl)) ?_
              with_reducible refine (midrangeref04_with.calls _ _ l0_0 a0_1 t382 (((rd_T56 l0_0 t382).f1).extract 0 ((ji11) : Int).toNat) t387 t390 _ ?side1 ?side2 A14.out).mono ?_
              (case side1 => exact pc_ (Kd.C_below HR0_0.out HB.out))
              (case side2 => exact HC0_0.out)
              rintro e w22 ⟨v388, rfl, ho0, hb⟩
              refine ⟨_, rfl, ?_⟩
              have HO389 := Aside0.mk (Kd.R_lower ho0 (below_size (pb_ HB)))
              replace BK380 := kb_ BK380 hb
              replace BK381 := kb_ BK381 hb
              replace HB := sb_ HB hb
              (try clear hb)
              (try clear hb2)
              (try clear hk)
              (try clear hi)
              (try clear ho0)
              obtain ⟨Ao23, co23, eo23⟩ := Kd.R_slice HO389.out
              (first | subst eo23 | (injection eo23 with f1_ f2_ f3_; have f4_ := f1_.symm; have f5_ := f3_.symm; clear f1_ f2_ f3_; subst f4_; subst f5_))
              refine hK.out _ _ ⟨(blk_cell BK380.out 0).trans rfl, (blk_cell BK380.out 1).trans rfl⟩ (fun hHeld => ?_)
              clear hK K
              refine norm_ (a' := ?_) ?_ ?_
              rotate_left
              · show Act.put _ (some 38) _ = _
                simp only [Act.put, List.setIfInBounds_toArray, List.set_cons_zero, List.set_cons_succ, i64_w, i32_w]
                rfl
              refine pu_ 7 39 HT_ ?_
              refine one_ (i := 8) (N := none) #[true, true, true, true, true, true, true, true, true] rfl rfl (one_of HT_.out (by kernel_rfl)) (by decide) (fun K hK => ?_)
              have hs24 : w22.cell? ⟨gb381, 0, none⟩ = some (.slice none 0 0) := (blk_cell BK381.out 0).trans rfl
              have hfs24 := blk_frozen BK381.out 0
              have hns24_0 := NB380_381.out
              have hms24_0 := NB381_380.out
              have hs25 : w22.cell? ⟨gb381, 1, none⟩ = some (.int .i64 0) := (blk_cell BK381.out 1).trans rfl
              have hfs25 := blk_frozen BK381.out 1
              have hns25_0 := NB380_381.out
              have hms25_0 := NB381_380.out
              have hs26 : w22.cell? ⟨gb381, 2, none⟩ = some (.int .i64 0) := (blk_cell BK381.out 2).trans rfl
              have hfs26 := blk_frozen BK381.out 2
              have hns26_0 := NB380_381.out
              have hms26_0 := NB381_380.out
              have hs27 : w22.cell? ⟨gb381, 3, none⟩ = some (.string (⟨#[]⟩ : ByteArray)) := (blk_cell BK381.out 3).trans rfl
              have hfs27 := blk_frozen BK381.out 3
              have hns27_0 := NB380_381.out
              have hms27_0 := NB381_380.out
              have hs28 : w22.cell? ⟨gb381, 4, none⟩ = some (.int .i64 0) := (blk_cell BK381.out 4).trans rfl
              have hfs28 := blk_frozen BK381.out 4
              have hns28_0 := NB380_381.out
              have hms28_0 := NB381_380.out
              refine skip_ (w1 := ?_) (by rfl) rfl ?_ ?_
              rotate_left
              · go_simp
                rfl
              refine hK.out _ _ ⟨((cell_far (p := ⟨gb381, _, none⟩) NB380_381.out _).trans (((cell_far (p := ⟨gb381, _, none⟩) NB380_381.out _).trans (((cell_far (p := ⟨gb381, _, none⟩) NB380_381.out _).trans (((cell_far (p := ⟨gb381, _, none⟩) NB380_381.out _).trans (((cell_far (p := ⟨gb381, _, none⟩) NB380_381.out _).trans (hHeld.1)))))))))), ((cell_far (p := ⟨gb381, _, none⟩) NB380_381.out _).trans (((cell_far (p := ⟨gb381, _, none⟩) NB380_381.out _).trans (((cell_far (p := ⟨gb381, _, none⟩) NB380_381.out _).trans (((cell_far (p := ⟨gb381, _, none⟩) NB380_381.out _).trans (((cell_far (p := ⟨gb381, _, none⟩) NB380_381.out _).trans (hHeld.2))))))))))⟩ (fun hHeld => ?_)
              clear hK K
              refine done_ (done_of HT_.out (by kernel_rfl)) ?_
              try go_wp2
              refine bodyPost_ret (results_cell_row rfl _ _ gb381 34 #[.slice Ao23 t387.length co23, .int .i64 t390, .int .i64 0, .string (⟨#[]⟩ : ByteArray), .int .i64 0] (0, 0) _ rfl (by (with_reducible repeat (first | refine blk_drewN ?_ _ | refine blk_drew ?_ | refine blk_alloc ?_ _)); refine blk_put (cs := #[.slice Ao23 t387.length co23, .int .i64 t390, .int .i64 0, .string (⟨#[]⟩ : ByteArray), .int .i64 0]) ?_ 4 _ rfl; (with_reducible repeat (first | refine blk_drewN ?_ _ | refine blk_drew ?_ | refine blk_alloc ?_ _)); refine blk_put (cs := #[.slice Ao23 t387.length co23, .int .i64 t390, .int .i64 0, .string (⟨#[]⟩ : ByteArray), .int .i64 0]) ?_ 3 _ rfl; (with_reducible repeat (first | refine blk_drewN ?_ _ | refine blk_drew ?_ | refine blk_alloc ?_ _)); refine blk_put (cs := #[.slice Ao23 t387.length co23, .int .i64 t390, .int .i64 0, .string (⟨#[]⟩ : ByteArray), .int .i64 0]) ?_ 2 _ rfl; (with_reducible repeat (first | refine blk_drewN ?_ _ | refine blk_drew ?_ | refine blk_alloc ?_ _)); refine blk_put (cs := #[.slice Ao23 t387.length co23, .int .i64 0, .int .i64 0, .string (⟨#[]⟩ : ByteArray), .int .i64 0]) ?_ 1 _ rfl; (with_reducible repeat (first | refine blk_drewN ?_ _ | refine blk_drew ?_ | refine blk_alloc ?_ _)); refine blk_put (cs := #[.slice none 0 0, .int .i64 0, .int .i64 0, .string (⟨#[]⟩ : ByteArray), .int .i64 0]) ?_ 0 _ rfl; (with_reducible repeat (first | refine blk_drewN ?_ _ | refine blk_drew ?_ | refine blk_alloc ?_ _)); exact BK381.out) Try.underlying34 rfl (by kernel_rfl)) rfl ?_
              exact ⟨_, by first | rfl | (simp [errW_none, errW_some] <;> rfl) | (simp only [← hji11]; first | rfl | (simp [errW_none, errW_some] <;> rfl)) | (simp [*, errW_none, errW_some] <;> rfl), by (with_reducible repeat (first | apply Kd.R_alloc | apply Kd.R_drewN | apply Kd.R_drew)); exact Kd.R_mono (Kd.R_far (p := ⟨gb381, 4, none⟩) (Kd.R_far (p := ⟨gb381, 3, none⟩) (Kd.R_far (p := ⟨gb381, 2, none⟩) (Kd.R_far (p := ⟨gb381, 1, none⟩) (Kd.R_far (p := ⟨gb381, 0, none⟩) (Kd.R_types HO389.out BK381.out (by decide)) (fun _ hk => hk.2) (.slice Ao23 t387.length co23)) (fun _ hk => hk.2) (.int .i64 t390)) (fun _ hk => hk.2) (.int .i64 0)) (fun _ hk => hk.2) (.string (⟨#[]⟩ : ByteArray))) (fun _ hk => hk.2) (.int .i64 0)) (fun _ hk => trivial), pb_ HB⟩
            · rw [if_neg c13] at H
              exact absurd H (by simp)
          · rw [if_neg c12] at H
            exact absurd H (by simp)
        · replace c10 := Bool.eq_false_iff.mpr c10
          subst c10
          have H1 : ((midrangeref04_failed.f 3).bind fun bt391 => (some (bt391.1, bt391.2.1, bt391.2.2.1, bt391.2.2.2.1, bt391.2.2.2.2))) = some (r1, r2, r3, r4, r5) := by rw [if_neg (show ¬ (false = true) by decide)] at H; exact H
          clear H
          have H := H1
          clear H1
          replace H := Option.bind_eq_some_iff.mp H
          obtain ⟨⟨t391, t394, t395, t396, t397⟩, A290, H⟩ := H
          replace H : (some (t391, t394, t395, t396, t397)) = some (r1, r2, r3, r4, r5) := H
          have A29 := Aside0.mk A290
          clear A290
          simp only [Option.some.injEq, Prod.mk.injEq] at H
          obtain ⟨rfl, rfl, rfl, rfl, rfl⟩ := H
          go_enter Try.func25, Try.ntmps25
          go_wp2_with (first | ((with_reducible refine gate_dst (N := 3) rfl ?_); refine box_event ?hg (N := 3) ?hd (cs := #[.slice A0_0 l0_0.length c0_0, .int .i64 a0_1]) (t := 24) ?hr ?_; (case hd => rfl); (case hg => rfl); (case hr => first | (go_simp; done) | (go_simp; rfl)); intro gb380 hg w30 hbox hb; have BK380 := Aside0.mk (hbox); have GW380 := gw_ hg HB; have GE380 := gw_ hg HB; replace HB := sb_ HB hb; clear hb hbox hg) | ((with_reducible refine gate_dst (N := 6) rfl ?_); refine box_event ?hg (N := 6) ?hd (cs := #[.slice none 0 0, .int .i64 0, .int .i64 0, .string (⟨#[]⟩ : ByteArray), .int .i64 0]) (t := 34) ?hr ?_; (case hd => rfl); (case hg => rfl); (case hr => first | (go_simp; done) | (go_simp; rfl)); intro gb381 hg w31 hbox hb; have BK381 := Aside0.mk (hbox); have GW381 := gw_ hg HB; have GE381 := gw_ hg HB; replace HB := sb_ HB hb; have NB380_381 := nl_ hg BK380; have NB381_380 := ng_ hg BK380; replace BK380 := kb_ BK380 hb; clear hb hbox hg; have hnb32 := NB380_381.out; have hnc32 := NB381_380.out; have hcz33_0 := cz_ BK380 0 (.slice A0_0 l0_0.length c0_0); have hcz33_1 := cz_ BK380 1 (.int .i64 a0_1); have hfz33_0 := blk_frozen BK380.out 0; have hfz33_1 := blk_frozen BK380.out 1) | ((with_reducible refine gate_callee (f := 45) rfl ?_); refine goesL_ (some 13) rfl rfl Try.func45 (by kernel_rfl) rfl #[.agg #[.slice A0_0 l0_0.length c0_0, .int .i64 a0_1], .int .i64 a1] rfl (by (try simp only [List.map_toArray, List.map_cons, List.map_nil]); first | done | rfl | (simp only [List.length_drop, List.length_take]; rfl)) ?_; (with_reducible refine (midrangeref04_known.calls k _ _ l0_0 a0_1 a1 t382 t383 _ ?side1 ?side2 A4.out).mono ?_); (case side1 => exact pc_ (Kd.C_below HR0_0.out HB.out)); (case side2 => exact HC0_0.out); rintro e w34 ⟨rfl, hb⟩; refine ⟨_, rfl, ?_⟩; replace BK380 := kb_ BK380 hb; replace BK381 := kb_ BK381 hb; replace HB := sb_ HB hb; (try clear hb); (try clear hb2); (try clear hk); (try clear hi); have hcz35_0 := cz_ BK380 0 (.slice A0_0 l0_0.length c0_0); have hcz35_1 := cz_ BK380 1 (.int .i64 a0_1); have hfz35_0 := blk_frozen BK380.out 0; have hfz35_1 := blk_frozen BK380.out 1; have p384 : 0 ≤ (t382 : Int) := ct_; have q384 : t382 < (l0_0.length : Int) := ct_; obtain ⟨ad384, e384, hx384_0, hx384_1⟩ := at_T56 HR0_0.out t382 p384 q384; cases e384; replace hx384_0 := (HB.out.cell (World.block_lt_of_cell? w _ hx384_0)).trans hx384_0; replace hx384_1 := (HB.out.cell (World.block_lt_of_cell? w _ hx384_1)).trans hx384_1; replace p384 := eq_true p384; replace q384 := eq_true q384) | ((with_reducible refine gate_callee (f := 46) rfl ?_); refine goesL_ (some 28) rfl rfl Try.func46 (by kernel_rfl) rfl #[.string ((rd_T56 l0_0 t382).f1)] rfl (by (try simp only [List.map_toArray, List.map_cons, List.map_nil]); first | done | rfl | (simp only [List.length_drop, List.length_take]; rfl)) ?_; (with_reducible refine (midrangeref04_Pages.calls ((rd_T56 l0_0 t382).f1) t385 _ A8.out).mono ?_); rintro e w' ⟨rfl, ⟨nd, rfl⟩⟩; refine ⟨_, rfl, ?_⟩; (try (rw [drewN_self w34]; generalize hq_ : World.drewN w34 _ = w34; have n0_ : Aside0 (w34.heap[gb380]? = some (.cells #[.slice (some ad384) l0_0.length c0_0, .int .i64 a0_1] 24 (0, 0))) := ⟨by rw [← hq_]; exact (pk_ BK380)⟩; have n1_ : Aside0 (w34.heap[gb381]? = some (.cells #[.slice none 0 0, .int .i64 0, .int .i64 0, .string (⟨#[]⟩ : ByteArray), .int .i64 0] 34 (0, 0))) := ⟨by rw [← hq_]; exact (pk_ BK381)⟩; have n2_ : Aside0 (Below w.heap.size w w34) := ⟨by rw [← hq_]; exact (pb_ HB)⟩; clear BK380 BK381 HB hq_; have BK380 := n0_; have BK381 := n1_; have HB := n2_; clear n0_ n1_ n2_))) | ((with_reducible refine gate_callee (f := 30) rfl ?_); refine goesL_ (some 29) rfl rfl Try.func30 (by kernel_rfl) rfl #[.int .i64 a2, .int .i64 1, .int .i64 t385] rfl (by (try simp only [List.map_toArray, List.map_cons, List.map_nil]); first | done | rfl | (simp only [List.length_drop, List.length_take]; rfl)) ?_; (with_reducible refine (midrangebase_Within.calls a2 1 t385 false _ A9.out).mono ?_); rintro e w' ⟨rfl, ⟨nd, rfl⟩⟩; refine ⟨_, rfl, ?_⟩; (try (rw [drewN_self w34]; generalize hq_ : World.drewN w34 _ = w34; have n0_ : Aside0 (w34.heap[gb380]? = some (.cells #[.slice (some ad384) l0_0.length c0_0, .int .i64 a0_1] 24 (0, 0))) := ⟨by rw [← hq_]; exact (pk_ BK380)⟩; have n1_ : Aside0 (w34.heap[gb381]? = some (.cells #[.slice none 0 0, .int .i64 0, .int .i64 0, .string (⟨#[]⟩ : ByteArray), .int .i64 0] 34 (0, 0))) := ⟨by rw [← hq_]; exact (pk_ BK381)⟩; have n2_ : Aside0 (Below w.heap.size w w34) := ⟨by rw [← hq_]; exact (pb_ HB)⟩; clear BK380 BK381 HB hq_; have BK380 := n0_; have BK381 := n1_; have HB := n2_; clear n0_ n1_ n2_))) | ((with_reducible refine gate_callee (f := 42) rfl ?_); refine goesL_ (some 31) rfl rfl Try.func42 (by kernel_rfl) rfl #[.int .i64 3] rfl (by (try simp only [List.map_toArray, List.map_cons, List.map_nil]); first | done | rfl | (simp only [List.length_drop, List.length_take]; rfl)) ?_; (with_reducible refine (midrangeref04_failed.calls 3 t391 t394 t395 t396 t397 _ A29.out).mono ?_); rintro e w36 ⟨v392, rfl, ho0, hb⟩; refine ⟨_, rfl, ?_⟩; have HO393 := Aside0.mk (Kd.R_lower ho0 (below_size (pb_ HB))); replace BK380 := kb_ BK380 hb; replace BK381 := kb_ BK381 hb; replace HB := sb_ HB hb; (try clear hb); (try clear hb2); (try clear hk); (try clear hi); (try clear ho0); obtain ⟨Ao37, co37, eo37⟩ := Kd.R_slice HO393.out; subst eo37; have hcz38_0 := cz_ BK381 0 (.slice none 0 0); have hcz38_1 := cz_ BK381 1 (.int .i64 0); have hcz38_2 := cz_ BK381 2 (.int .i64 0); have hcz38_3 := cz_ BK381 3 (.string (⟨#[]⟩ : ByteArray)); have hcz38_4 := cz_ BK381 4 (.int .i64 0); have hfz38_0 := blk_frozen BK381.out 0; have hfz38_1 := blk_frozen BK381.out 1; have hfz38_2 := blk_frozen BK381.out 2; have hfz38_3 := blk_frozen BK381.out 3; have hfz38_4 := blk_frozen BK381.out 4))
          refine bodyPost_ret (results_cell_row rfl _ _ gb381 34 #[.slice Ao37 t391.length co37, .int .i64 t394, .int .i64 t395, .string t396, .int .i64 t397] (0, 0) _ rfl (by (with_reducible repeat (first | refine blk_drewN ?_ _ | refine blk_drew ?_ | refine blk_alloc ?_ _)); refine blk_put (cs := #[.slice Ao37 t391.length co37, .int .i64 t394, .int .i64 t395, .string t396, .int .i64 0]) ?_ 4 _ rfl; (with_reducible repeat (first | refine blk_drewN ?_ _ | refine blk_drew ?_ | refine blk_alloc ?_ _)); refine blk_put (cs := #[.slice Ao37 t391.length co37, .int .i64 t394, .int .i64 t395, .string (⟨#[]⟩ : ByteArray), .int .i64 0]) ?_ 3 _ rfl; (with_reducible repeat (first | refine blk_drewN ?_ _ | refine blk_drew ?_ | refine blk_alloc ?_ _)); refine blk_put (cs := #[.slice Ao37 t391.length co37, .int .i64 t394, .int .i64 0, .string (⟨#[]⟩ : ByteArray), .int .i64 0]) ?_ 2 _ rfl; (with_reducible repeat (first | refine blk_drewN ?_ _ | refine blk_drew ?_ | refine blk_alloc ?_ _)); refine blk_put (cs := #[.slice Ao37 t391.length co37, .int .i64 0, .int .i64 0, .string (⟨#[]⟩ : ByteArray), .int .i64 0]) ?_ 1 _ rfl; (with_reducible repeat (first | refine blk_drewN ?_ _ | refine blk_drew ?_ | refine blk_alloc ?_ _)); refine blk_put (cs := #[.slice none 0 0, .int .i64 0, .int .i64 0, .string (⟨#[]⟩ : ByteArray), .int .i64 0]) ?_ 0 _ rfl; (with_reducible repeat (first | refine blk_drewN ?_ _ | refine blk_drew ?_ | refine blk_alloc ?_ _)); exact BK381.out) Try.underlying34 rfl (by kernel_rfl)) rfl ?_
          exact ⟨_, er_, by (with_reducible repeat (first | apply Kd.R_alloc | apply Kd.R_drewN | apply Kd.R_drew)); exact Kd.R_mono (Kd.R_far (p := ⟨gb381, 4, none⟩) (Kd.R_far (p := ⟨gb381, 3, none⟩) (Kd.R_far (p := ⟨gb381, 2, none⟩) (Kd.R_far (p := ⟨gb381, 1, none⟩) (Kd.R_far (p := ⟨gb381, 0, none⟩) (Kd.R_types HO393.out BK381.out (by decide)) (fun _ hk => hk.2) (.slice Ao37 t391.length co37)) (fun _ hk => hk.2) (.int .i64 t394)) (fun _ hk => hk.2) (.int .i64 t395)) (fun _ hk => hk.2) (.string t396)) (fun _ hk => hk.2) (.int .i64 t397)) (fun _ hk => trivial), pb_ HB⟩
      · rw [if_neg c7] at H
        exact absurd H (by simp)
    · rw [if_neg c6] at H
      exact absurd H (by simp)
  · rw [if_neg c5] at H
    have c5b0 : (t383 == 0) = false := beq_eq_false_iff_ne.mpr c5
    have c5b1 : (t383 != 0) = true := bne_iff_ne.mpr c5
    simp only [Option.some.injEq, Prod.mk.injEq] at H
    obtain ⟨rfl, rfl, rfl, rfl, rfl⟩ := H
    go_enter Try.func25, Try.ntmps25
    go_wp2_with (first | ((with_reducible refine gate_dst (N := 3) rfl ?_); refine box_event ?hg (N := 3) ?hd (cs := #[.slice A0_0 l0_0.length c0_0, .int .i64 a0_1]) (t := 24) ?hr ?_; (case hd => rfl); (case hg => rfl); (case hr => first | (go_simp; done) | (go_simp; rfl)); intro gb380 hg w39 hbox hb; have BK380 := Aside0.mk (hbox); have GW380 := gw_ hg HB; have GE380 := gw_ hg HB; replace HB := sb_ HB hb; clear hb hbox hg) | ((with_reducible refine gate_dst (N := 6) rfl ?_); refine box_event ?hg (N := 6) ?hd (cs := #[.slice none 0 0, .int .i64 0, .int .i64 0, .string (⟨#[]⟩ : ByteArray), .int .i64 0]) (t := 34) ?hr ?_; (case hd => rfl); (case hg => rfl); (case hr => first | (go_simp; done) | (go_simp; rfl)); intro gb381 hg w40 hbox hb; have BK381 := Aside0.mk (hbox); have GW381 := gw_ hg HB; have GE381 := gw_ hg HB; replace HB := sb_ HB hb; have NB380_381 := nl_ hg BK380; have NB381_380 := ng_ hg BK380; replace BK380 := kb_ BK380 hb; clear hb hbox hg; have hnb41 := NB380_381.out; have hnc41 := NB381_380.out; have hcz42_0 := cz_ BK380 0 (.slice A0_0 l0_0.length c0_0); have hcz42_1 := cz_ BK380 1 (.int .i64 a0_1); have hfz42_0 := blk_frozen BK380.out 0; have hfz42_1 := blk_frozen BK380.out 1) | ((with_reducible refine gate_callee (f := 45) rfl ?_); refine goesL_ (some 13) rfl rfl Try.func45 (by kernel_rfl) rfl #[.agg #[.slice A0_0 l0_0.length c0_0, .int .i64 a0_1], .int .i64 a1] rfl (by (try simp only [List.map_toArray, List.map_cons, List.map_nil]); first | done | rfl | (simp only [List.length_drop, List.length_take]; rfl)) ?_; (with_reducible refine (midrangeref04_known.calls k _ _ l0_0 a0_1 a1 t382 t383 _ ?side1 ?side2 A4.out).mono ?_); (case side1 => exact pc_ (Kd.C_below HR0_0.out HB.out)); (case side2 => exact HC0_0.out); rintro e w43 ⟨rfl, hb⟩; refine ⟨_, rfl, ?_⟩; replace BK380 := kb_ BK380 hb; replace BK381 := kb_ BK381 hb; replace HB := sb_ HB hb; (try clear hb); (try clear hb2); (try clear hk); (try clear hi); have hcz44_0 := cz_ BK381 0 (.slice none 0 0); have hcz44_1 := cz_ BK381 1 (.int .i64 0); have hcz44_2 := cz_ BK381 2 (.int .i64 0); have hcz44_3 := cz_ BK381 3 (.string (⟨#[]⟩ : ByteArray)); have hcz44_4 := cz_ BK381 4 (.int .i64 0); have hfz44_0 := blk_frozen BK381.out 0; have hfz44_1 := blk_frozen BK381.out 1; have hfz44_2 := blk_frozen BK381.out 2; have hfz44_3 := blk_frozen BK381.out 3; have hfz44_4 := blk_frozen BK381.out 4))
    refine bodyPost_ret (results_cell_row rfl _ _ gb381 34 #[.slice none 0 0, .int .i64 0, .int .i64 0, .string (⟨#[]⟩ : ByteArray), .int .i64 t383] (0, 0) _ rfl (by (with_reducible repeat (first | refine blk_drewN ?_ _ | refine blk_drew ?_ | refine blk_alloc ?_ _)); refine blk_put (cs := #[.slice none 0 0, .int .i64 0, .int .i64 0, .string (⟨#[]⟩ : ByteArray), .int .i64 0]) ?_ 4 _ rfl; (with_reducible repeat (first | refine blk_drewN ?_ _ | refine blk_drew ?_ | refine blk_alloc ?_ _)); refine blk_put (cs := #[.slice none 0 0, .int .i64 0, .int .i64 0, .string (⟨#[]⟩ : ByteArray), .int .i64 0]) ?_ 3 _ rfl; (with_reducible repeat (first | refine blk_drewN ?_ _ | refine blk_drew ?_ | refine blk_alloc ?_ _)); refine blk_put (cs := #[.slice none 0 0, .int .i64 0, .int .i64 0, .string (⟨#[]⟩ : ByteArray), .int .i64 0]) ?_ 2 _ rfl; (with_reducible repeat (first | refine blk_drewN ?_ _ | refine blk_drew ?_ | refine blk_alloc ?_ _)); refine blk_put (cs := #[.slice none 0 0, .int .i64 0, .int .i64 0, .string (⟨#[]⟩ : ByteArray), .int .i64 0]) ?_ 1 _ rfl; (with_reducible repeat (first | refine blk_drewN ?_ _ | refine blk_drew ?_ | refine blk_alloc ?_ _)); refine blk_put (cs := #[.slice none 0 0, .int .i64 0, .int .i64 0, .string (⟨#[]⟩ : ByteArray), .int .i64 0]) ?_ 0 _ rfl; (with_reducible repeat (first | refine blk_drewN ?_ _ | refine blk_drew ?_ | refine blk_alloc ?_ _)); exact BK381.out) Try.underlying34 rfl (by kernel_rfl)) rfl ?_
    exact ⟨_, er_, by first | exact Kd.R_nil _ _ _ _ _ | exact Kd.N_nil _ _ _ _ _ | exact Kd.V_nil _ _ _ _ _ | exact Kd.Q_nil _ _ _ _ _ | exact Kd.S_nil _ _ _ _ _, pb_ HB⟩

end Go.Proofs.Ytoabahlaicgmjaa.X
end
section
namespace Go.Proofs.Ytoabahlaicgmjaa.X
open Go.Proofs.Ytoabahlaicgmjaa.XW Go.Proofs.Ytoabahlaicgmjaa.XS
open Go.RowKit Go.Proofs.YtoabahlaicgmjaaW.PrintWords Go.Proofs.YtoabahlaicgmjaaW.PrintLast Go.Proofs.YtoabahlaicgmjaaW.PrintMore
attribute [local go_sem] max2_int min2_int max_two min_two max_three min_three max_four min_four   -- for this text's walks alone
set_option linter.unusedVariables false
set_option linter.unusedSimpArgs false

/-! ### midrangeref04_reach: function 50 -/
def midrangeref04_reach.f (k : Nat) (l0_0 : List (S56)) (a0_1 : Int) (a1_0 : Int) (a1_1 : Int) (a2 : Int) : Option (Int × Int) := (midrangeref04_known.f k l0_0 a0_1 a1_0).bind fun bt461 => (if bt461.2 = 0 then (if 0 ≤ bt461.1 then (if bt461.1 < (l0_0.length : Int) then ((midrangebase_Within.f a1_1 0 (((rd_T56 l0_0 bt461.1).f1).size : Int)).bind fun t464 => (if t464 = true then ((midrangebase_Within.f a2 0 (wrap64 ((((rd_T56 l0_0 bt461.1).f1).size : Int) - a1_1))).bind fun t465 => (if t465 = true then (some (bt461.1, 0)) else (some (bt461.1, 3)))) else (some (bt461.1, 3)))) else (none)) else (none)) else (some (bt461.1, bt461.2)))
set_option maxHeartbeats 8000000 in
set_option maxRecDepth 100000 in
theorem midrangeref04_reach.calls (k : Nat) (A0_0 : Option Addr) (c0_0 : Nat) (l0_0 : List (S56)) (a0_1 : Int) (a1_0 : Int) (a1_1 : Int) (a2 : Int) (r1 : Int) (r2 : Int) (w : World) (hr0_0 : Kd.C k56 w A0_0 l0_0.length l0_0) (hc0_0 : l0_0.length ≤ c0_0) (h : midrangeref04_reach.f k l0_0 a0_1 a1_0 a1_1 a2 = some (r1, r2)) :
    Calls Try.prog 50 #[.agg #[.slice A0_0 l0_0.length c0_0, .int .i64 a0_1], .agg #[.int .i64 a1_0, .int .i64 a1_1], .int .i64 a2] w fun e w' => e = .returned (.tuple #[.int .i64 r1, .int .i64 r2]) ∧ Below w.heap.size w w' := by
  have hu24 := Try.underlying24
  have hu46 := Try.underlying46
  have HR0_0 := Aside0.mk hr0_0
  have HC0_0 := Aside0.mk hc0_0
  clear hr0_0 hc0_0
  have HB := Aside0.mk (Below.refl w.heap.size w)
  have H : ((midrangeref04_known.f k l0_0 a0_1 a1_0).bind fun bt461 => (if bt461.2 = 0 then (if 0 ≤ bt461.1 then (if bt461.1 < (l0_0.length : Int) then ((midrangebase_Within.f a1_1 0 (((rd_T56 l0_0 bt461.1).f1).size : Int)).bind fun t464 => (if t464 = true then ((midrangebase_Within.f a2 0 (wrap64 ((((rd_T56 l0_0 bt461.1).f1).size : Int) - a1_1))).bind fun t465 => (if t465 = true then (some (bt461.1, 0)) else (some (bt461.1, 3)))) else (some (bt461.1, 3)))) else (none)) else (none)) else (some (bt461.1, bt461.2)))) = some (r1, r2) := h
  clear h
  replace H := Option.bind_eq_some_iff.mp H
  obtain ⟨⟨t461, t462⟩, A40, H⟩ := H
  replace H : (if t462 = 0 then (if 0 ≤ t461 then (if t461 < (l0_0.length : Int) then ((midrangebase_Within.f a1_1 0 (((rd_T56 l0_0 t461).f1).size : Int)).bind fun t464 => (if t464 = true then ((midrangebase_Within.f a2 0 (wrap64 ((((rd_T56 l0_0 t461).f1).size : Int) - a1_1))).bind fun t465 => (if t465 = true then (some (t461, 0)) else (some (t461, 3)))) else (some (t461, 3)))) else (none)) else (none)) else (some (t461, t462))) = some (r1, r2) := H
  have A4 := Aside0.mk A40
  clear A40
  by_cases c5 : t462 = 0
  · rw [if_pos c5] at H
    have c5b0 : (t462 == 0) = true := beq_iff_eq.mpr c5
    have c5b1 : (t462 != 0) = false := bne_eq_false_iff_eq.mpr c5
    clear c5
    by_cases c6 : 0 ≤ t461
    · rw [if_pos c6] at H
      have c6b0 : decide (0 ≤ t461) = true := decide_eq_true c6
      clear c6
      by_cases c7 : t461 < (l0_0.length : Int)
      · rw [if_pos c7] at H
        have c7b0 : decide (t461 < (l0_0.length : Int)) = true := decide_eq_true c7
        clear c7
        replace H := Option.bind_eq_some_iff.mp H
        obtain ⟨t464, A80, H⟩ := H
        replace H : (if t464 = true then ((midrangebase_Within.f a2 0 (wrap64 ((((rd_T56 l0_0 t461).f1).size : Int) - a1_1))).bind fun t465 => (if t465 = true then (some (t461, 0)) else (some (t461, 3)))) else (some (t461, 3))) = some (r1, r2) := H
        have A8 := Aside0.mk A80
        clear A80
        by_cases c9 : t464 = true
        · subst c9
          have H1 : ((midrangebase_Within.f a2 0 (wrap64 ((((rd_T56 l0_0 t461).f1).size : Int) - a1_1))).bind fun t465 => (if t465 = true then (some (t461, 0)) else (some (t461, 3)))) = some (r1, r2) := by rw [if_pos rfl] at H; exact H
          clear H
          have H := H1
          clear H1
          replace H := Option.bind_eq_some_iff.mp H
          obtain ⟨t465, A100, H⟩ := H
          replace H : (if t465 = true then (some (t461, 0)) else (some (t461, 3))) = some (r1, r2) := H
          have A10 := Aside0.mk A100
          clear A100
          by_cases c11 : t465 = true
          · subst c11
            have H1 : (some (t461, 0)) = some (r1, r2) := by rw [if_pos rfl] at H; exact H
            clear H
            have H := H1
            clear H1
            simp only [Option.some.injEq, Prod.mk.injEq] at H
            obtain ⟨rfl, rfl⟩ := H
            go_enter Try.func50, Try.ntmps50
            go_wp2_with (first | ((with_reducible refine gate_dst (N := 3) rfl ?_); refine box_event ?hg (N := 3) ?hd (cs := #[.slice A0_0 l0_0.length c0_0, .int .i64 a0_1]) (t := 24) ?hr ?_; (case hd => rfl); (case hg => rfl); (case hr => first | (go_simp; done) | (go_simp; rfl)); intro gb459 hg w12 hbox hb; have BK459 := Aside0.mk (hbox); have GW459 := gw_ hg HB; have GE459 := gw_ hg HB; replace HB := sb_ HB hb; clear hb hbox hg) | ((with_reducible refine gate_dst (N := 4) rfl ?_); refine box_event ?hg (N := 4) ?hd (cs := #[.int .i64 a1_0, .int .i64 a1_1]) (t := 46) ?hr ?_; (case hd => rfl); (case hg => rfl); (case hr => first | (go_simp; done) | (go_simp; rfl)); intro gb460 hg w13 hbox hb; have BK460 := Aside0.mk (hbox); have GW460 := gw_ hg HB; have GE460 := gw_ hg HB; replace HB := sb_ HB hb; have NB459_460 := nl_ hg BK459; have NB460_459 := ng_ hg BK459; replace BK459 := kb_ BK459 hb; clear hb hbox hg; have hnb14 := NB459_460.out; have hnc14 := NB460_459.out; have hcz15_0 := cz_ BK459 0 (.slice A0_0 l0_0.length c0_0); have hcz15_1 := cz_ BK459 1 (.int .i64 a0_1); have hfz15_0 := blk_frozen BK459.out 0; have hfz15_1 := blk_frozen BK459.out 1; have hcz16_0 := cz_ BK460 0 (.int .i64 a1_0); have hcz16_1 := cz_ BK460 1 (.int .i64 a1_1); have hfz16_0 := blk_frozen BK460.out 0; have hfz16_1 := blk_frozen BK460.out 1) | ((with_reducible refine gate_callee (f := 45) rfl ?_); refine goesL_ (some 15) rfl rfl Try.func45 (by kernel_rfl) rfl #[.agg #[.slice A0_0 l0_0.length c0_0, .int .i64 a0_1], .int .i64 a1_0] rfl (by (try simp only [List.map_toArray, List.map_cons, List.map_nil]); first | done | rfl | (simp only [List.length_drop, List.length_take]; rfl)) ?_; (with_reducible refine (midrangeref04_known.calls k _ _ l0_0 a0_1 a1_0 t461 t462 _ ?side1 ?side2 A4.out).mono ?_); (case side1 => exact pc_ (Kd.C_below HR0_0.out HB.out)); (case side2 => exact HC0_0.out); rintro e w17 ⟨rfl, hb⟩; refine ⟨_, rfl, ?_⟩; replace BK459 := kb_ BK459 hb; replace BK460 := kb_ BK460 hb; replace HB := sb_ HB hb; (try clear hb); (try clear hb2); (try clear hk); (try clear hi); have hcz18_0 := cz_ BK459 0 (.slice A0_0 l0_0.length c0_0); have hcz18_1 := cz_ BK459 1 (.int .i64 a0_1); have hfz18_0 := blk_frozen BK459.out 0; have hfz18_1 := blk_frozen BK459.out 1; have p463 : 0 ≤ (t461 : Int) := ct_; have q463 : t461 < (l0_0.length : Int) := ct_; obtain ⟨ad463, e463, hx463_0, hx463_1⟩ := at_T56 HR0_0.out t461 p463 q463; cases e463; replace hx463_0 := (HB.out.cell (World.block_lt_of_cell? w _ hx463_0)).trans hx463_0; replace hx463_1 := (HB.out.cell (World.block_lt_of_cell? w _ hx463_1)).trans hx463_1; replace p463 := eq_true p463; replace q463 := eq_true q463; have hcz19_0 := cz_ BK460 0 (.int .i64 a1_0); have hcz19_1 := cz_ BK460 1 (.int .i64 a1_1); have hfz19_0 := blk_frozen BK460.out 0; have hfz19_1 := blk_frozen BK460.out 1) | ((with_reducible refine gate_callee (f := 30) rfl ?_); refine goesL_ (some 32) rfl rfl Try.func30 (by kernel_rfl) rfl #[.int .i64 a1_1, .int .i64 0, .int .i64 (((rd_T56 l0_0 t461).f1).size : Int)] rfl (by (try simp only [List.map_toArray, List.map_cons, List.map_nil]); first | done | rfl | (simp only [List.length_drop, List.length_take]; rfl)) ?_; (with_reducible refine (midrangebase_Within.calls a1_1 0 (((rd_T56 l0_0 t461).f1).size : Int) true _ A8.out).mono ?_); rintro e w' ⟨rfl, ⟨nd, rfl⟩⟩; refine ⟨_, rfl, ?_⟩) | (go_at_call 30; (with_reducible refine (midrangebase_Within.calls a2 0 (wrap64 ((((rd_T56 l0_0 t461).f1).size : Int) - a1_1)) true _ A10.out).mono ?_); rintro e w' ⟨rfl, ⟨nd, rfl⟩⟩))
            go_ret2
            exact ⟨er_, pb_ HB⟩
          · replace c11 := Bool.eq_false_iff.mpr c11
            subst c11
            have H1 : (some (t461, 3)) = some (r1, r2) := by rw [if_neg (show ¬ (false = true) by decide)] at H; exact H
            clear H
            have H := H1
            clear H1
            simp only [Option.some.injEq, Prod.mk.injEq] at H
            obtain ⟨rfl, rfl⟩ := H
            go_enter Try.func50, Try.ntmps50
            go_wp2_with (first | ((with_reducible refine gate_dst (N := 3) rfl ?_); refine box_event ?hg (N := 3) ?hd (cs := #[.slice A0_0 l0_0.length c0_0, .int .i64 a0_1]) (t := 24) ?hr ?_; (case hd => rfl); (case hg => rfl); (case hr => first | (go_simp; done) | (go_simp; rfl)); intro gb459 hg w20 hbox hb; have BK459 := Aside0.mk (hbox); have GW459 := gw_ hg HB; have GE459 := gw_ hg HB; replace HB := sb_ HB hb; clear hb hbox hg) | ((with_reducible refine gate_dst (N := 4) rfl ?_); refine box_event ?hg (N := 4) ?hd (cs := #[.int .i64 a1_0, .int .i64 a1_1]) (t := 46) ?hr ?_; (case hd => rfl); (case hg => rfl); (case hr => first | (go_simp; done) | (go_simp; rfl)); intro gb460 hg w21 hbox hb; have BK460 := Aside0.mk (hbox); have GW460 := gw_ hg HB; have GE460 := gw_ hg HB; replace HB := sb_ HB hb; have NB459_460 := nl_ hg BK459; have NB460_459 := ng_ hg BK459; replace BK459 := kb_ BK459 hb; clear hb hbox hg; have hnb22 := NB459_460.out; have hnc22 := NB460_459.out; have hcz23_0 := cz_ BK459 0 (.slice A0_0 l0_0.length c0_0); have hcz23_1 := cz_ BK459 1 (.int .i64 a0_1); have hfz23_0 := blk_frozen BK459.out 0; have hfz23_1 := blk_frozen BK459.out 1; have hcz24_0 := cz_ BK460 0 (.int .i64 a1_0); have hcz24_1 := cz_ BK460 1 (.int .i64 a1_1); have hfz24_0 := blk_frozen BK460.out 0; have hfz24_1 := blk_frozen BK460.out 1) | ((with_reducible refine gate_callee (f := 45) rfl ?_); refine goesL_ (some 15) rfl rfl Try.func45 (by kernel_rfl) rfl #[.agg #[.slice A0_0 l0_0.length c0_0, .int .i64 a0_1], .int .i64 a1_0] rfl (by (try simp only [List.map_toArray, List.map_cons, List.map_nil]); first | done | rfl | (simp only [List.length_drop, List.length_take]; rfl)) ?_; (with_reducible refine (midrangeref04_known.calls k _ _ l0_0 a0_1 a1_0 t461 t462 _ ?side1 ?side2 A4.out).mono ?_); (case side1 => exact pc_ (Kd.C_below HR0_0.out HB.out)); (case side2 => exact HC0_0.out); rintro e w25 ⟨rfl, hb⟩; refine ⟨_, rfl, ?_⟩; replace BK459 := kb_ BK459 hb; replace BK460 := kb_ BK460 hb; replace HB := sb_ HB hb; (try clear hb); (try clear hb2); (try clear hk); (try clear hi); have hcz26_0 := cz_ BK459 0 (.slice A0_0 l0_0.length c0_0); have hcz26_1 := cz_ BK459 1 (.int .i64 a0_1); have hfz26_0 := blk_frozen BK459.out 0; have hfz26_1 := blk_frozen BK459.out 1; have p463 : 0 ≤ (t461 : Int) := ct_; have q463 : t461 < (l0_0.length : Int) := ct_; obtain ⟨ad463, e463, hx463_0, hx463_1⟩ := at_T56 HR0_0.out t461 p463 q463; cases e463; replace hx463_0 := (HB.out.cell (World.block_lt_of_cell? w _ hx463_0)).trans hx463_0; replace hx463_1 := (HB.out.cell (World.block_lt_of_cell? w _ hx463_1)).trans hx463_1; replace p463 := eq_true p463; replace q463 := eq_true q463; have hcz27_0 := cz_ BK460 0 (.int .i64 a1_0); have hcz27_1 := cz_ BK460 1 (.int .i64 a1_1); have hfz27_0 := blk_frozen BK460.out 0; have hfz27_1 := blk_frozen BK460.out 1) | ((with_reducible refine gate_callee (f := 30) rfl ?_); refine goesL_ (some 32) rfl rfl Try.func30 (by kernel_rfl) rfl #[.int .i64 a1_1, .int .i64 0, .int .i64 (((rd_T56 l0_0 t461).f1).size : Int)] rfl (by (try simp only [List.map_toArray, List.map_cons, List.map_nil]); first | done | rfl | (simp only [List.length_drop, List.length_take]; rfl)) ?_; (with_reducible refine (midrangebase_Within.calls a1_1 0 (((rd_T56 l0_0 t461).f1).size : Int) true _ A8.out).mono ?_); rintro e w' ⟨rfl, ⟨nd, rfl⟩⟩; refine ⟨_, rfl, ?_⟩) | (go_at_call 30; (with_reducible refine (midrangebase_Within.calls a2 0 (wrap64 ((((rd_T56 l0_0 t461).f1).size : Int) - a1_1)) false _ A10.out).mono ?_); rintro e w' ⟨rfl, ⟨nd, rfl⟩⟩))
            go_ret2
            exact ⟨er_, pb_ HB⟩
        · replace c9 := Bool.eq_false_iff.mpr c9
          subst c9
          have H1 : (some (t461, 3)) = some (r1, r2) := by rw [if_neg (show ¬ (false = true) by decide)] at H; exact H
          clear H
          have H := H1
          clear H1
          simp only [Option.some.injEq, Prod.mk.injEq] at H
          obtain ⟨rfl, rfl⟩ := H
          go_enter Try.func50, Try.ntmps50
          go_wp2_with (first | ((with_reducible refine gate_dst (N := 3) rfl ?_); refine box_event ?hg (N := 3) ?hd (cs := #[.slice A0_0 l0_0.length c0_0, .int .i64 a0_1]) (t := 24) ?hr ?_; (case hd => rfl); (case hg => rfl); (case hr => first | (go_simp; done) | (go_simp; rfl)); intro gb459 hg w28 hbox hb; have BK459 := Aside0.mk (hbox); have GW459 := gw_ hg HB; have GE459 := gw_ hg HB; replace HB := sb_ HB hb; clear hb hbox hg) | ((with_reducible refine gate_dst (N := 4) rfl ?_); refine box_event ?hg (N := 4) ?hd (cs := #[.int .i64 a1_0, .int .i64 a1_1]) (t := 46) ?hr ?_; (case hd => rfl); (case hg => rfl); (case hr => first | (go_simp; done) | (go_simp; rfl)); intro gb460 hg w29 hbox hb; have BK460 := Aside0.mk (hbox); have GW460 := gw_ hg HB; have GE460 := gw_ hg HB; replace HB := sb_ HB hb; have NB459_460 := nl_ hg BK459; have NB460_459 := ng_ hg BK459; replace BK459 := kb_ BK459 hb; clear hb hbox hg; have hnb30 := NB459_460.out; have hnc30 := NB460_459.out; have hcz31_0 := cz_ BK459 0 (.slice A0_0 l0_0.length c0_0); have hcz31_1 := cz_ BK459 1 (.int .i64 a0_1); have hfz31_0 := blk_frozen BK459.out 0; have hfz31_1 := blk_frozen BK459.out 1; have hcz32_0 := cz_ BK460 0 (.int .i64 a1_0); have hcz32_1 := cz_ BK460 1 (.int .i64 a1_1); have hfz32_0 := blk_frozen BK460.out 0; have hfz32_1 := blk_frozen BK460.out 1) | ((with_reducible refine gate_callee (f := 45) rfl ?_); refine goesL_ (some 15) rfl rfl Try.func45 (by kernel_rfl) rfl #[.agg #[.slice A0_0 l0_0.length c0_0, .int .i64 a0_1], .int .i64 a1_0] rfl (by (try simp only [List.map_toArray, List.map_cons, List.map_nil]); first | done | rfl | (simp only [List.length_drop, List.length_take]; rfl)) ?_; (with_reducible refine (midrangeref04_known.calls k _ _ l0_0 a0_1 a1_0 t461 t462 _ ?side1 ?side2 A4.out).mono ?_); (case side1 => exact pc_ (Kd.C_below HR0_0.out HB.out)); (case side2 => exact HC0_0.out); rintro e w33 ⟨rfl, hb⟩; refine ⟨_, rfl, ?_⟩; replace BK459 := kb_ BK459 hb; replace BK460 := kb_ BK460 hb; replace HB := sb_ HB hb; (try clear hb); (try clear hb2); (try clear hk); (try clear hi); have hcz34_0 := cz_ BK459 0 (.slice A0_0 l0_0.length c0_0); have hcz34_1 := cz_ BK459 1 (.int .i64 a0_1); have hfz34_0 := blk_frozen BK459.out 0; have hfz34_1 := blk_frozen BK459.out 1; have p463 : 0 ≤ (t461 : Int) := ct_; have q463 : t461 < (l0_0.length : Int) := ct_; obtain ⟨ad463, e463, hx463_0, hx463_1⟩ := at_T56 HR0_0.out t461 p463 q463; cases e463; replace hx463_0 := (HB.out.cell (World.block_lt_of_cell? w _ hx463_0)).trans hx463_0; replace hx463_1 := (HB.out.cell (World.block_lt_of_cell? w _ hx463_1)).trans hx463_1; replace p463 := eq_true p463; replace q463 := eq_true q463; have hcz35_0 := cz_ BK460 0 (.int .i64 a1_0); have hcz35_1 := cz_ BK460 1 (.int .i64 a1_1); have hfz35_0 := blk_frozen BK460.out 0; have hfz35_1 := blk_frozen BK460.out 1) | ((with_reducible refine gate_callee (f := 30) rfl ?_); refine goesL_ (some 32) rfl rfl Try.func30 (by kernel_rfl) rfl #[.int .i64 a1_1, .int .i64 0, .int .i64 (((rd_T56 l0_0 t461).f1).size : Int)] rfl (by (try simp only [List.map_toArray, List.map_cons, List.map_nil]); first | done | rfl | (simp only [List.length_drop, List.length_take]; rfl)) ?_; (with_reducible refine (midrangebase_Within.calls a1_1 0 (((rd_T56 l0_0 t461).f1).size : Int) false _ A8.out).mono ?_); rintro e w' ⟨rfl, ⟨nd, rfl⟩⟩; refine ⟨_, rfl, ?_⟩))
          go_ret2
          exact ⟨er_, pb_ HB⟩
      · rw [if_neg c7] at H
        exact absurd H (by simp)
    · rw [if_neg c6] at H
      exact absurd H (by simp)
  · rw [if_neg c5] at H
    have c5b0 : (t462 == 0) = false := beq_eq_false_iff_ne.mpr c5
    have c5b1 : (t462 != 0) = true := bne_iff_ne.mpr c5
    simp only [Option.some.injEq, Prod.mk.injEq] at H
    obtain ⟨rfl, rfl⟩ := H
    go_enter Try.func50, Try.ntmps50
    go_wp2_with (first | ((with_reducible refine gate_dst (N := 3) rfl ?_); refine box_event ?hg (N := 3) ?hd (cs := #[.slice A0_0 l0_0.length c0_0, .int .i64 a0_1]) (t := 24) ?hr ?_; (case hd => rfl); (case hg => rfl); (case hr => first | (go_simp; done) | (go_simp; rfl)); intro gb459 hg w36 hbox hb; have BK459 := Aside0.mk (hbox); have GW459 := gw_ hg HB; have GE459 := gw_ hg HB; replace HB := sb_ HB hb; clear hb hbox hg) | ((with_reducible refine gate_dst (N := 4) rfl ?_); refine box_event ?hg (N := 4) ?hd (cs := #[.int .i64 a1_0, .int .i64 a1_1]) (t := 46) ?hr ?_; (case hd => rfl); (case hg => rfl); (case hr => first | (go_simp; done) | (go_simp; rfl)); intro gb460 hg w37 hbox hb; have BK460 := Aside0.mk (hbox); have GW460 := gw_ hg HB; have GE460 := gw_ hg HB; replace HB := sb_ HB hb; have NB459_460 := nl_ hg BK459; have NB460_459 := ng_ hg BK459; replace BK459 := kb_ BK459 hb; clear hb hbox hg; have hnb38 := NB459_460.out; have hnc38 := NB460_459.out; have hcz39_0 := cz_ BK459 0 (.slice A0_0 l0_0.length c0_0); have hcz39_1 := cz_ BK459 1 (.int .i64 a0_1); have hfz39_0 := blk_frozen BK459.out 0; have hfz39_1 := blk_frozen BK459.out 1; have hcz40_0 := cz_ BK460 0 (.int .i64 a1_0); have hcz40_1 := cz_ BK460 1 (.int .i64 a1_1); have hfz40_0 := blk_frozen BK460.out 0; have hfz40_1 := blk_frozen BK460.out 1) | ((with_reducible refine gate_callee (f := 45) rfl ?_); refine goesL_ (some 15) rfl rfl Try.func45 (by kernel_rfl) rfl #[.agg #[.slice A0_0 l0_0.length c0_0, .int .i64 a0_1], .int .i64 a1_0] rfl (by (try simp only [List.map_toArray, List.map_cons, List.map_nil]); first | done | rfl | (simp only [List.length_drop, List.length_take]; rfl)) ?_; (with_reducible refine (midrangeref04_known.calls k _ _ l0_0 a0_1 a1_0 t461 t462 _ ?side1 ?side2 A4.out).mono ?_); (case side1 => exact pc_ (Kd.C_below HR0_0.out HB.out)); (case side2 => exact HC0_0.out); rintro e w41 ⟨rfl, hb⟩; refine ⟨_, rfl, ?_⟩; replace BK459 := kb_ BK459 hb; replace BK460 := kb_ BK460 hb; replace HB := sb_ HB hb; (try clear hb); (try clear hb2); (try clear hk); (try clear hi)))
    go_ret2
    exact ⟨er_, pb_ HB⟩

end Go.Proofs.Ytoabahlaicgmjaa.X
end
section
namespace Go.Proofs.Ytoabahlaicgmjaa.X
open Go.Proofs.Ytoabahlaicgmjaa.XW
open Go.RowKit Go.Proofs.YtoabahlaicgmjaaW.PrintWords Go.Proofs.YtoabahlaicgmjaaW.PrintLast Go.Proofs.YtoabahlaicgmjaaW.PrintMore
attribute [local go_sem] max2_int min2_int max_two min_two max_three min_three max_four min_four   -- for this text's walks alone
set_option linter.unusedVariables false
set_option linter.unusedSimpArgs false

/-! ### midrangebase_Patched: function 51 -/
def midrangebase_Patched.f (a0 : ByteArray) (a1 : Int) (a2 : ByteArray) : Option (ByteArray) := if 0 ≤ a1 then (if a1 ≤ (a0.size : Int) then (if (a1 : Int).toNat + a2.size ≤ 9223372036854775807 then (if 0 ≤ (wrap64 (a1 + (a2.size : Int))) then (if (wrap64 (a1 + (a2.size : Int))) ≤ (a0.size : Int) then (if (a1 : Int).toNat + a2.size + (a0.size - ((wrap64 (a1 + (a2.size : Int))) : Int).toNat) ≤ 9223372036854775807 then (some (((a0.extract 0 (a1 : Int).toNat) ++ a2) ++ (a0.extract ((wrap64 (a1 + (a2.size : Int))) : Int).toNat a0.size))) else (none)) else (none)) else (none)) else (none)) else (none)) else (none)
set_option maxHeartbeats 8000000 in
set_option maxRecDepth 100000 in
theorem midrangebase_Patched.calls (a0 : ByteArray) (a1 : Int) (a2 : ByteArray) (r : ByteArray) (w : World) (h : midrangebase_Patched.f a0 a1 a2 = some r) :
    Calls Try.prog 51 #[.string a0, .int .i64 a1, .string a2] w fun e w' => e = .returned (.string r) ∧ Drawn0 w w' := by
  have H : (if 0 ≤ a1 then (if a1 ≤ (a0.size : Int) then (if (a1 : Int).toNat + a2.size ≤ 9223372036854775807 then (if 0 ≤ (wrap64 (a1 + (a2.size : Int))) then (if (wrap64 (a1 + (a2.size : Int))) ≤ (a0.size : Int) then (if (a1 : Int).toNat + a2.size + (a0.size - ((wrap64 (a1 + (a2.size : Int))) : Int).toNat) ≤ 9223372036854775807 then (some (((a0.extract 0 (a1 : Int).toNat) ++ a2) ++ (a0.extract ((wrap64 (a1 + (a2.size : Int))) : Int).toNat a0.size))) else (none)) else (none)) else (none)) else (none)) else (none)) else (none)) = some r := h
  clear h
  by_cases c4 : 0 ≤ a1
  · rw [if_pos c4] at H
    have c4b0 := eq_true c4
    have c4b1 : decide (0 ≤ a1) = true := decide_eq_true c4
    clear c4
    by_cases c5 : a1 ≤ (a0.size : Int)
    · rw [if_pos c5] at H
      have c5b0 := eq_true c5
      have c5b1 : decide (a1 ≤ (a0.size : Int)) = true := decide_eq_true c5
      clear c5
      by_cases c6 : (a1 : Int).toNat + a2.size ≤ 9223372036854775807
      · rw [if_pos c6] at H
        have c6b0 := eq_true c6
        have c6b1 : decide ((a1 : Int).toNat + a2.size ≤ 9223372036854775807) = true := decide_eq_true c6
        try have c6b2 : (9223372036854775807 < (a1 : Int).toNat + a2.size) = False := eq_false (Nat.not_lt.2 c6)
        clear c6
        obtain ⟨ji7, hji7⟩ : ∃ j_ : Int, (wrap64 (a1 + (a2.size : Int))) = j_ := ⟨_, rfl⟩
        replace H : (if 0 ≤ (ji7) then (if (ji7) ≤ (a0.size : Int) then (if (a1 : Int).toNat + a2.size + (a0.size - ((ji7) : Int).toNat) ≤ 9223372036854775807 then (some (((a0.extract 0 (a1 : Int).toNat) ++ a2) ++ (a0.extract ((ji7) : Int).toNat a0.size))) else (none)) else (none)) else (none)) = some r := by first | (rw [hji7] at H; exact H) | (simp only [hji7] at H ⊢; exact H)
        have hji7w : (IntKind.i64.wrap (a1 + (a2.size : Int))) = ji7 := (i64_w _).trans hji7
        by_cases c8 : 0 ≤ (ji7)
        · rw [if_pos c8] at H
          have c8b0 := eq_true c8
          have c8b1 : decide (0 ≤ (ji7)) = true := decide_eq_true c8
          clear c8
          by_cases c9 : (ji7) ≤ (a0.size : Int)
          · rw [if_pos c9] at H
            have c9b0 := eq_true c9
            have c9b1 : decide ((ji7) ≤ (a0.size : Int)) = true := decide_eq_true c9
            clear c9
            by_cases c10 : (a1 : Int).toNat + a2.size + (a0.size - ((ji7) : Int).toNat) ≤ 9223372036854775807
            · rw [if_pos c10] at H
              have c10b0 := eq_true c10
              have c10b1 : decide ((a1 : Int).toNat + a2.size + (a0.size - ((ji7) : Int).toNat) ≤ 9223372036854775807) = true := decide_eq_true c10
              try have c10b2 : (9223372036854775807 < (a1 : Int).toNat + a2.size + (a0.size - ((ji7) : Int).toNat)) = False := eq_false (Nat.not_lt.2 c10)
              clear c10
              obtain rfl := Option.some.inj H
              go_enter Try.func51, Try.ntmps51
              go_wp2
              repeat (go_quiet (fail); try go_wp2)
              go_ret
              exact ⟨by first | rfl | (simp; done) | (simp only [← hji7] <;> (first | rfl | simp)) | (simp [*]; done), by repeat (first | exact Drawn0.refl _ | apply Drawn0.step)⟩
            · rw [if_neg c10] at H
              exact absurd H (by simp)
          · rw [if_neg c9] at H
            exact absurd H (by simp)
        · rw [if_neg c8] at H
          exact absurd H (by simp)
      · rw [if_neg c6] at H
        exact absurd H (by simp)
    · rw [if_neg c5] at H
      exact absurd H (by simp)
  · rw [if_neg c4] at H
    exact absurd H (by simp)

end Go.Proofs.Ytoabahlaicgmjaa.X
end
