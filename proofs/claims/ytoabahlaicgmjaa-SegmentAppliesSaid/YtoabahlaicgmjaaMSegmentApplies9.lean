-- Texts of this claim joined by merge.py, a program of its author; what this claim does not reach is left out.
import Derived.Test.YtoabahlaicgmjaaMSegmentApplies8
section
namespace Go.Proofs.Ytoabahlaicgmjaa.X
open Go.Proofs.Ytoabahlaicgmjaa.XW Go.Proofs.Ytoabahlaicgmjaa.XS
open Go.RowKit Go.Proofs.YtoabahlaicgmjaaW.PrintWords Go.Proofs.YtoabahlaicgmjaaW.PrintLast Go.Proofs.YtoabahlaicgmjaaW.PrintMore
attribute [local go_sem] max2_int min2_int max_two min_two max_three min_three max_four min_four   -- for this text's walks alone
set_option linter.unusedVariables false
set_option linter.unusedSimpArgs false

/-! ### midrangeref04_Place: function 58 -/
def midrangeref04_Place.l0 : Nat → Int → Int → List (S56) → Int → Option (Int)
  | 0, _, _, _, _ => none
  | k + 1, x1, x5, x221000, x221001 => if x5 < (x221000.length : Int) then (if 0 ≤ x5 then (if ((rd_T56 x221000 x5).f0) = x1 then (some x5) else (midrangeref04_Place.l0 k x1 (wrap64 (x5 + 1)) x221000 x221001)) else (none)) else (some (-1))
def midrangeref04_Place.f (k : Nat) (l0_0 : List (S56)) (a0_1 : Int) (a1 : Int) : Option (Int) := midrangeref04_Place.l0 k a1 0 l0_0 a0_1
set_option maxHeartbeats 8000000 in
set_option maxRecDepth 100000 in
theorem midrangeref04_Place.calls (k : Nat) (A0_0 : Option Addr) (c0_0 : Nat) (l0_0 : List (S56)) (a0_1 : Int) (a1 : Int) (r : Int) (w : World) (hr0_0 : Kd.C k56 w A0_0 l0_0.length l0_0) (hc0_0 : l0_0.length ≤ c0_0) (h : midrangeref04_Place.f k l0_0 a0_1 a1 = some r) :
    Calls Try.prog 58 #[.agg #[.slice A0_0 l0_0.length c0_0, .int .i64 a0_1], .int .i64 a1] w fun e w' => e = .returned (.int .i64 r) ∧ Below w.heap.size w w' := by
  have hu24 := Try.underlying24
  have HR0_0 := Aside0.mk hr0_0
  have HC0_0 := Aside0.mk hc0_0
  clear hr0_0 hc0_0
  have HB := Aside0.mk (Below.refl w.heap.size w)
  have H : (midrangeref04_Place.l0 k a1 0 l0_0 a0_1) = some r := h
  clear h
  have H' := Aside0.mk H
  clear H
  go_enter Try.func58, Try.ntmps58
  go_wp2_with (first | ((with_reducible refine gate_dst (N := 2) rfl ?_); refine box_event ?hg (N := 2) ?hd (cs := #[.slice A0_0 l0_0.length c0_0, .int .i64 a0_1]) (t := 24) ?hr ?_; (case hd => rfl); (case hg => rfl); (case hr => first | (go_simp; done) | (go_simp; rfl)); intro gb220 hg w3 hbox hb; have BK220 := Aside0.mk (hbox); have GW220 := gw_ hg HB; have GE220 := gw_ hg HB; replace HB := sb_ HB hb; clear hb hbox hg))
  go_loopg [5] k (fun kq v5 w' => ∃ (x5_1 : Int), v5 = .int .i64 x5_1 ∧ Aside0 (midrangeref04_Place.l0 kq a1 x5_1 l0_0 a0_1 = some r) ∧ Aside0 (kq ≤ k) ∧ Aside0 (w'.heap[gb220]? = some (.cells #[(.slice A0_0 l0_0.length c0_0), .int .i64 a0_1] 24 (0, 0))) ∧ Aside0 (Below w.heap.size w w'))
  case atStart => exact ⟨(0), (by first | rfl | (simp; done) | (simp [*]; done)), H', ⟨Nat.le_refl _⟩, ⟨pk_ BK220⟩, ⟨pb_ HB⟩⟩
  case round =>
    clear H'
    try clear p2
    obtain ⟨x5_1, rfl, HA, HK1, BK220, HB⟩ := hrel
    cases gk with
    | zero => exact absurd HA.out (by simp [midrangeref04_Place.l0])
    | succ k1 =>
      have H := HA.out
      clear HA
      simp only [midrangeref04_Place.l0] at H
      by_cases c4 : x5_1 < (l0_0.length : Int)
      · rw [if_pos c4] at H
        have c4b0 : decide (x5_1 < (l0_0.length : Int)) = true := decide_eq_true c4
        clear c4
        by_cases c5 : 0 ≤ x5_1
        · rw [if_pos c5] at H
          have c5b0 : decide (0 ≤ x5_1) = true := decide_eq_true c5
          clear c5
          by_cases c6 : ((rd_T56 l0_0 x5_1).f0) = a1
          · rw [if_pos c6] at H
            have c6b0 : (((rd_T56 l0_0 x5_1).f0) == a1) = true := beq_iff_eq.mpr c6
            have c6b1 : (((rd_T56 l0_0 x5_1).f0) != a1) = false := bne_eq_false_iff_eq.mpr c6
            clear c6
            obtain rfl := Option.some.inj H
            have hcz7_0 := cz_ BK220 0 (.slice A0_0 l0_0.length c0_0)
            have hcz7_1 := cz_ BK220 1 (.int .i64 a0_1)
            have hfz7_0 := blk_frozen BK220.out 0
            have hfz7_1 := blk_frozen BK220.out 1
            have p221 : 0 ≤ (x5_1 : Int) := ct_
            have q221 : x5_1 < (l0_0.length : Int) := ct_
            obtain ⟨ad221, e221, hx221_0, hx221_1⟩ := at_T56 HR0_0.out x5_1 p221 q221
            cases e221
            replace hx221_0 := (HB.out.cell (World.block_lt_of_cell? w _ hx221_0)).trans hx221_0
            replace hx221_1 := (HB.out.cell (World.block_lt_of_cell? w _ hx221_1)).trans hx221_1
            replace p221 := eq_true p221
            replace q221 := eq_true q221
            go_wp2
            go_ret
            exact ⟨er_, pb_ HB⟩
          · rw [if_neg c6] at H
            have c6b0 : (((rd_T56 l0_0 x5_1).f0) == a1) = false := beq_eq_false_iff_ne.mpr c6
            have c6b1 : (((rd_T56 l0_0 x5_1).f0) != a1) = true := bne_iff_ne.mpr c6
            have H' := Aside0.mk H
            clear H
            have hcz8_0 := cz_ BK220 0 (.slice A0_0 l0_0.length c0_0)
            have hcz8_1 := cz_ BK220 1 (.int .i64 a0_1)
            have hfz8_0 := blk_frozen BK220.out 0
            have hfz8_1 := blk_frozen BK220.out 1
            have p221 : 0 ≤ (x5_1 : Int) := ct_
            have q221 : x5_1 < (l0_0.length : Int) := ct_
            obtain ⟨ad221, e221, hx221_0, hx221_1⟩ := at_T56 HR0_0.out x5_1 p221 q221
            cases e221
            replace hx221_0 := (HB.out.cell (World.block_lt_of_cell? w _ hx221_0)).trans hx221_0
            replace hx221_1 := (HB.out.cell (World.block_lt_of_cell? w _ hx221_1)).trans hx221_1
            replace p221 := eq_true p221
            replace q221 := eq_true q221
            go_wp2
            go_roundg k1
            case measure => have := HK1.out; omega
            case rel => exact ⟨(wrap64 (x5_1 + 1)), (by first | rfl | (simp; done) | (simp [*]; done)), H', ⟨by have := HK1.out; omega⟩, ⟨pk_ BK220⟩, ⟨pb_ HB⟩⟩
        · rw [if_neg c5] at H
          exact absurd H (by simp)
      · rw [if_neg c4] at H
        have c4b0 : decide (x5_1 < (l0_0.length : Int)) = false := decide_eq_false c4
        clear c4
        obtain rfl := Option.some.inj H
        have hcz9_0 := cz_ BK220 0 (.slice A0_0 l0_0.length c0_0)
        have hcz9_1 := cz_ BK220 1 (.int .i64 a0_1)
        have hfz9_0 := blk_frozen BK220.out 0
        have hfz9_1 := blk_frozen BK220.out 1
        go_wp2
        go_ret
        exact ⟨er_, pb_ HB⟩

end Go.Proofs.Ytoabahlaicgmjaa.X
end
section
namespace Go.Proofs.Ytoabahlaicgmjaa.X
open Go.Proofs.Ytoabahlaicgmjaa.XW Go.Proofs.Ytoabahlaicgmjaa.XS
open Go.RowKit Go.Proofs.YtoabahlaicgmjaaW.PrintWords Go.Proofs.YtoabahlaicgmjaaW.PrintLast Go.Proofs.YtoabahlaicgmjaaW.PrintMore
attribute [local go_sem] max2_int min2_int max_two min_two max_three min_three max_four min_four   -- for this text's walks alone
set_option linter.unusedVariables false
set_option linter.unusedSimpArgs false

/-! ### midrangeref04_NumberErr: function 59 -/
def midrangeref04_NumberErr.f (k : Nat) (l0_0 : List (S56)) (a0_1 : Int) (a1 : Int) : Option (Int) := (midrangeref04_Place.f k l0_0 a0_1 a1).bind fun t223 => (if t223 = (-1) then ((midrangebase_Within.f a1 1 (wrap64 (a0_1 - 1))).bind fun t224 => (if t224 = true then (some 24) else (some 11))) else (some 0))
set_option maxHeartbeats 8000000 in
set_option maxRecDepth 100000 in
theorem midrangeref04_NumberErr.calls (k : Nat) (A0_0 : Option Addr) (c0_0 : Nat) (l0_0 : List (S56)) (a0_1 : Int) (a1 : Int) (r : Int) (w : World) (hr0_0 : Kd.C k56 w A0_0 l0_0.length l0_0) (hc0_0 : l0_0.length ≤ c0_0) (h : midrangeref04_NumberErr.f k l0_0 a0_1 a1 = some r) :
    Calls Try.prog 59 #[.agg #[.slice A0_0 l0_0.length c0_0, .int .i64 a0_1], .int .i64 a1] w fun e w' => e = .returned (.int .i64 r) ∧ Below w.heap.size w w' := by
  have hu24 := Try.underlying24
  have HR0_0 := Aside0.mk hr0_0
  have HC0_0 := Aside0.mk hc0_0
  clear hr0_0 hc0_0
  have HB := Aside0.mk (Below.refl w.heap.size w)
  have H : ((midrangeref04_Place.f k l0_0 a0_1 a1).bind fun t223 => (if t223 = (-1) then ((midrangebase_Within.f a1 1 (wrap64 (a0_1 - 1))).bind fun t224 => (if t224 = true then (some 24) else (some 11))) else (some 0))) = some r := h
  clear h
  replace H := Option.bind_eq_some_iff.mp H
  obtain ⟨t223, A30, H⟩ := H
  replace H : (if t223 = (-1) then ((midrangebase_Within.f a1 1 (wrap64 (a0_1 - 1))).bind fun t224 => (if t224 = true then (some 24) else (some 11))) else (some 0)) = some r := H
  have A3 := Aside0.mk A30
  clear A30
  by_cases c4 : t223 = (-1)
  · rw [if_pos c4] at H
    have c4b0 : (t223 == (-1)) = true := beq_iff_eq.mpr c4
    have c4b1 : (t223 != (-1)) = false := bne_eq_false_iff_eq.mpr c4
    clear c4
    replace H := Option.bind_eq_some_iff.mp H
    obtain ⟨t224, A50, H⟩ := H
    replace H : (if t224 = true then (some 24) else (some 11)) = some r := H
    have A5 := Aside0.mk A50
    clear A50
    by_cases c6 : t224 = true
    · subst c6
      have H1 : (some 24) = some r := by rw [if_pos rfl] at H; exact H
      clear H
      have H := H1
      clear H1
      obtain rfl := Option.some.inj H
      go_enter Try.func59, Try.ntmps59
      go_wp2_with (first | ((with_reducible refine gate_dst (N := 2) rfl ?_); refine box_event ?hg (N := 2) ?hd (cs := #[.slice A0_0 l0_0.length c0_0, .int .i64 a0_1]) (t := 24) ?hr ?_; (case hd => rfl); (case hg => rfl); (case hr => first | (go_simp; done) | (go_simp; rfl)); intro gb222 hg w7 hbox hb; have BK222 := Aside0.mk (hbox); have GW222 := gw_ hg HB; have GE222 := gw_ hg HB; replace HB := sb_ HB hb; clear hb hbox hg; have hcz8_0 := cz_ BK222 0 (.slice A0_0 l0_0.length c0_0); have hcz8_1 := cz_ BK222 1 (.int .i64 a0_1); have hfz8_0 := blk_frozen BK222.out 0; have hfz8_1 := blk_frozen BK222.out 1) | ((with_reducible refine gate_callee (f := 58) rfl ?_); refine goesL_ (some 7) rfl rfl Try.func58 (by kernel_rfl) rfl #[.agg #[.slice A0_0 l0_0.length c0_0, .int .i64 a0_1], .int .i64 a1] rfl (by (try simp only [List.map_toArray, List.map_cons, List.map_nil]); first | done | rfl | (simp only [List.length_drop, List.length_take]; rfl)) ?_; (with_reducible refine (midrangeref04_Place.calls k _ _ l0_0 a0_1 a1 t223 _ ?side1 ?side2 A3.out).mono ?_); (case side1 => exact pc_ (Kd.C_below HR0_0.out HB.out)); (case side2 => exact HC0_0.out); rintro e w9 ⟨rfl, hb⟩; refine ⟨_, rfl, ?_⟩; replace BK222 := kb_ BK222 hb; replace HB := sb_ HB hb; (try clear hb); (try clear hb2); (try clear hk); (try clear hi); have hcz10_0 := cz_ BK222 0 (.slice A0_0 l0_0.length c0_0); have hcz10_1 := cz_ BK222 1 (.int .i64 a0_1); have hfz10_0 := blk_frozen BK222.out 0; have hfz10_1 := blk_frozen BK222.out 1) | ((with_reducible refine gate_callee (f := 30) rfl ?_); refine goesL_ (some 13) rfl rfl Try.func30 (by kernel_rfl) rfl #[.int .i64 a1, .int .i64 1, .int .i64 (wrap64 (a0_1 - 1))] rfl (by (try simp only [List.map_toArray, List.map_cons, List.map_nil]); first | done | rfl | (simp only [List.length_drop, List.length_take]; rfl)) ?_; (with_reducible refine (midrangebase_Within.calls a1 1 (wrap64 (a0_1 - 1)) true _ A5.out).mono ?_); rintro e w' ⟨rfl, ⟨nd, rfl⟩⟩; refine ⟨_, rfl, ?_⟩))
      go_ret
      exact ⟨er_, pb_ HB⟩
    · replace c6 := Bool.eq_false_iff.mpr c6
      subst c6
      have H1 : (some 11) = some r := by rw [if_neg (show ¬ (false = true) by decide)] at H; exact H
      clear H
      have H := H1
      clear H1
      obtain rfl := Option.some.inj H
      go_enter Try.func59, Try.ntmps59
      go_wp2_with (first | ((with_reducible refine gate_dst (N := 2) rfl ?_); refine box_event ?hg (N := 2) ?hd (cs := #[.slice A0_0 l0_0.length c0_0, .int .i64 a0_1]) (t := 24) ?hr ?_; (case hd => rfl); (case hg => rfl); (case hr => first | (go_simp; done) | (go_simp; rfl)); intro gb222 hg w11 hbox hb; have BK222 := Aside0.mk (hbox); have GW222 := gw_ hg HB; have GE222 := gw_ hg HB; replace HB := sb_ HB hb; clear hb hbox hg; have hcz12_0 := cz_ BK222 0 (.slice A0_0 l0_0.length c0_0); have hcz12_1 := cz_ BK222 1 (.int .i64 a0_1); have hfz12_0 := blk_frozen BK222.out 0; have hfz12_1 := blk_frozen BK222.out 1) | ((with_reducible refine gate_callee (f := 58) rfl ?_); refine goesL_ (some 7) rfl rfl Try.func58 (by kernel_rfl) rfl #[.agg #[.slice A0_0 l0_0.length c0_0, .int .i64 a0_1], .int .i64 a1] rfl (by (try simp only [List.map_toArray, List.map_cons, List.map_nil]); first | done | rfl | (simp only [List.length_drop, List.length_take]; rfl)) ?_; (with_reducible refine (midrangeref04_Place.calls k _ _ l0_0 a0_1 a1 t223 _ ?side1 ?side2 A3.out).mono ?_); (case side1 => exact pc_ (Kd.C_below HR0_0.out HB.out)); (case side2 => exact HC0_0.out); rintro e w13 ⟨rfl, hb⟩; refine ⟨_, rfl, ?_⟩; replace BK222 := kb_ BK222 hb; replace HB := sb_ HB hb; (try clear hb); (try clear hb2); (try clear hk); (try clear hi); have hcz14_0 := cz_ BK222 0 (.slice A0_0 l0_0.length c0_0); have hcz14_1 := cz_ BK222 1 (.int .i64 a0_1); have hfz14_0 := blk_frozen BK222.out 0; have hfz14_1 := blk_frozen BK222.out 1) | ((with_reducible refine gate_callee (f := 30) rfl ?_); refine goesL_ (some 13) rfl rfl Try.func30 (by kernel_rfl) rfl #[.int .i64 a1, .int .i64 1, .int .i64 (wrap64 (a0_1 - 1))] rfl (by (try simp only [List.map_toArray, List.map_cons, List.map_nil]); first | done | rfl | (simp only [List.length_drop, List.length_take]; rfl)) ?_; (with_reducible refine (midrangebase_Within.calls a1 1 (wrap64 (a0_1 - 1)) false _ A5.out).mono ?_); rintro e w' ⟨rfl, ⟨nd, rfl⟩⟩; refine ⟨_, rfl, ?_⟩))
      go_ret
      exact ⟨er_, pb_ HB⟩
  · rw [if_neg c4] at H
    have c4b0 : (t223 == (-1)) = false := beq_eq_false_iff_ne.mpr c4
    have c4b1 : (t223 != (-1)) = true := bne_iff_ne.mpr c4
    obtain rfl := Option.some.inj H
    go_enter Try.func59, Try.ntmps59
    go_wp2_with (first | ((with_reducible refine gate_dst (N := 2) rfl ?_); refine box_event ?hg (N := 2) ?hd (cs := #[.slice A0_0 l0_0.length c0_0, .int .i64 a0_1]) (t := 24) ?hr ?_; (case hd => rfl); (case hg => rfl); (case hr => first | (go_simp; done) | (go_simp; rfl)); intro gb222 hg w15 hbox hb; have BK222 := Aside0.mk (hbox); have GW222 := gw_ hg HB; have GE222 := gw_ hg HB; replace HB := sb_ HB hb; clear hb hbox hg; have hcz16_0 := cz_ BK222 0 (.slice A0_0 l0_0.length c0_0); have hcz16_1 := cz_ BK222 1 (.int .i64 a0_1); have hfz16_0 := blk_frozen BK222.out 0; have hfz16_1 := blk_frozen BK222.out 1) | ((with_reducible refine gate_callee (f := 58) rfl ?_); refine goesL_ (some 7) rfl rfl Try.func58 (by kernel_rfl) rfl #[.agg #[.slice A0_0 l0_0.length c0_0, .int .i64 a0_1], .int .i64 a1] rfl (by (try simp only [List.map_toArray, List.map_cons, List.map_nil]); first | done | rfl | (simp only [List.length_drop, List.length_take]; rfl)) ?_; (with_reducible refine (midrangeref04_Place.calls k _ _ l0_0 a0_1 a1 t223 _ ?side1 ?side2 A3.out).mono ?_); (case side1 => exact pc_ (Kd.C_below HR0_0.out HB.out)); (case side2 => exact HC0_0.out); rintro e w17 ⟨rfl, hb⟩; refine ⟨_, rfl, ?_⟩; replace BK222 := kb_ BK222 hb; replace HB := sb_ HB hb; (try clear hb); (try clear hb2); (try clear hk); (try clear hi)))
    go_ret
    exact ⟨er_, pb_ HB⟩

end Go.Proofs.Ytoabahlaicgmjaa.X
end
section
namespace Go.Proofs.Ytoabahlaicgmjaa.X
open Go.Proofs.Ytoabahlaicgmjaa.XW Go.Proofs.Ytoabahlaicgmjaa.XS
open Go.RowKit Go.Proofs.YtoabahlaicgmjaaW.PrintWords Go.Proofs.YtoabahlaicgmjaaW.PrintLast Go.Proofs.YtoabahlaicgmjaaW.PrintMore
attribute [local go_sem] max2_int min2_int max_two min_two max_three min_three max_four min_four   -- for this text's walks alone
set_option linter.unusedVariables false
set_option linter.unusedSimpArgs false

/-! ### midrangeref04_known: function 45 -/
def midrangeref04_known.f (k : Nat) (l0_0 : List (S56)) (a0_1 : Int) (a1 : Int) : Option (Int × Int) := (midrangeref04_Err.f k l0_0 a0_1).bind fun t226 => (if t226 = 0 then ((midrangeref04_Place.f k l0_0 a0_1 a1).bind fun t227 => ((midrangeref04_NumberErr.f k l0_0 a0_1 a1).bind fun t228 => (some (t227, t228)))) else (some ((-1), t226)))
def midrangeref04_known.T4 : Bool × List (List Nat × List Nat) := (true, [([], []), ([], []), ([0, 1], [0, 1]), ([], []), ([], []), ([3, 4, 2], [3, 4]), ([2, 5, 0, 1, 2], [2]), ([5, 6, 0, 1, 2, 3, 4, 5, 6], [5])])
def midrangeref04_known.B4 : List Nat := [0, 0, 3, 0, 0, 31, 63, 127]
theorem midrangeref04_known.tab4 : rtab .any (opsOf Try.f45 4) = midrangeref04_known.T4 := by kernel_rfl
theorem midrangeref04_known.bits4 : waitsOk midrangeref04_known.T4.2 midrangeref04_known.B4 = true := by kernel_rfl
set_option maxHeartbeats 8000000 in
set_option maxRecDepth 100000 in
theorem midrangeref04_known.calls (k : Nat) (A0_0 : Option Addr) (c0_0 : Nat) (l0_0 : List (S56)) (a0_1 : Int) (a1 : Int) (r1 : Int) (r2 : Int) (w : World) (hr0_0 : Kd.C k56 w A0_0 l0_0.length l0_0) (hc0_0 : l0_0.length ≤ c0_0) (h : midrangeref04_known.f k l0_0 a0_1 a1 = some (r1, r2)) :
    Calls Try.prog 45 #[.agg #[.slice A0_0 l0_0.length c0_0, .int .i64 a0_1], .int .i64 a1] w fun e w' => e = .returned (.tuple #[.int .i64 r1, .int .i64 r2]) ∧ Below w.heap.size w w' := by
  have hu24 := Try.underlying24
  have HR0_0 := Aside0.mk hr0_0
  have HC0_0 := Aside0.mk hc0_0
  clear hr0_0 hc0_0
  have HB := Aside0.mk (Below.refl w.heap.size w)
  have H : ((midrangeref04_Err.f k l0_0 a0_1).bind fun t226 => (if t226 = 0 then ((midrangeref04_Place.f k l0_0 a0_1 a1).bind fun t227 => ((midrangeref04_NumberErr.f k l0_0 a0_1 a1).bind fun t228 => (some (t227, t228)))) else (some ((-1), t226)))) = some (r1, r2) := h
  clear h
  replace H := Option.bind_eq_some_iff.mp H
  obtain ⟨t226, A30, H⟩ := H
  replace H : (if t226 = 0 then ((midrangeref04_Place.f k l0_0 a0_1 a1).bind fun t227 => ((midrangeref04_NumberErr.f k l0_0 a0_1 a1).bind fun t228 => (some (t227, t228)))) else (some ((-1), t226))) = some (r1, r2) := H
  have A3 := Aside0.mk A30
  clear A30
  by_cases c4 : t226 = 0
  · rw [if_pos c4] at H
    have c4b0 : (t226 == 0) = true := beq_iff_eq.mpr c4
    have c4b1 : (t226 != 0) = false := bne_eq_false_iff_eq.mpr c4
    clear c4
    replace H := Option.bind_eq_some_iff.mp H
    obtain ⟨t227, A50, H⟩ := H
    replace H : ((midrangeref04_NumberErr.f k l0_0 a0_1 a1).bind fun t228 => (some (t227, t228))) = some (r1, r2) := H
    have A5 := Aside0.mk A50
    clear A50
    replace H := Option.bind_eq_some_iff.mp H
    obtain ⟨t228, A60, H⟩ := H
    replace H : (some (t227, t228)) = some (r1, r2) := H
    have A6 := Aside0.mk A60
    clear A60
    simp only [Option.some.injEq, Prod.mk.injEq] at H
    obtain ⟨rfl, rfl⟩ := H
    go_enter Try.func45, Try.ntmps45
    try go_wp2_with (first | ((with_reducible refine gate_dst (N := 2) rfl ?_); refine box_event ?hg (N := 2) ?hd (cs := #[.slice A0_0 l0_0.length c0_0, .int .i64 a0_1]) (t := 24) ?hr ?_; (case hd => rfl); (case hg => rfl); (case hr => first | (go_simp; done) | (go_simp; rfl)); intro gb225 hg w7 hbox hb; have BK225 := Aside0.mk (hbox); have GW225 := gw_ hg HB; have GE225 := gw_ hg HB; replace HB := sb_ HB hb; clear hb hbox hg; have hcz8_0 := cz_ BK225 0 (.slice A0_0 l0_0.length c0_0); have hcz8_1 := cz_ BK225 1 (.int .i64 a0_1); have hfz8_0 := blk_frozen BK225.out 0; have hfz8_1 := blk_frozen BK225.out 1) | ((with_reducible refine gate_callee (f := 35) rfl ?_); refine goesL_ (some 8) rfl rfl Try.func35 (by kernel_rfl) rfl #[.agg #[.slice A0_0 l0_0.length c0_0, .int .i64 a0_1]] rfl (by (try simp only [List.map_toArray, List.map_cons, List.map_nil]); first | done | rfl | (simp only [List.length_drop, List.length_take]; rfl)) ?_; (with_reducible refine (midrangeref04_Err.calls k _ _ l0_0 a0_1 t226 _ ?side1 ?side2 A3.out).mono ?_); (case side1 => exact pc_ (Kd.C_below HR0_0.out HB.out)); (case side2 => exact HC0_0.out); rintro e w9 ⟨rfl, hb⟩; refine ⟨_, rfl, ?_⟩; replace BK225 := kb_ BK225 hb; replace HB := sb_ HB hb; (try clear hb); (try clear hb2); (try clear hk); (try clear hi)))
    replace BK225 := Aside0.mk (blk_drew BK225.out)
    replace HB := Aside0.mk (below_drew1 HB.out)
    refine start_ (n := 8) (S := fun w' => w'.cell? ⟨gb225, 0, none⟩ = some (.slice A0_0 l0_0.length c0_0) ∧ w'.cell? ⟨gb225, 1, none⟩ = some (.int .i64 a0_1)) (ds := []) #[false, false, false, false, false, false, false, false] (by kernel_rfl) rfl rfl ⟨(blk_cell BK225.out 0).trans rfl, (blk_cell BK225.out 1).trans rfl⟩ (fun hHeld => ?_); refine with_tabW midrangeref04_known.tab4 midrangeref04_known.bits4 (fun HT_ HW_ => ?_)
    generalize w9.drew = w10 at BK225 HB hHeld ⊢
    refine pu_ 1 13 HT_ ?_
    refine pu_ 4 16 HT_ ?_
    refine take_ (i := 0) (N := some 12) (v := ?_) (a' := ?_) #[true, true, false, false, true, false, false, false] rfl rfl (take_ofW HT_.out HW_.out (by kernel_rfl)) (fun _ _ _ h => h) (Or.inl ⟨by rfl, ?_⟩) hHeld ?_ ?_
    rotate_left
    · rintro w' ⟨s0, s1⟩
      go_simp
      with_reducible rfl
    rotate_left
    · simp only [Act.put, List.setIfInBounds_toArray, List.set_cons_zero, List.set_cons_succ, i64_w, i32_w]
      rfl
    refine take_ (i := 3) (N := some 15) (v := ?_) (a' := ?_) #[true, true, false, true, true, false, false, false] rfl rfl (take_ofW HT_.out HW_.out (by kernel_rfl)) (fun _ _ _ h => h) (Or.inl ⟨by rfl, ?_⟩) hHeld ?_ ?_
    rotate_left
    · rintro w' ⟨s0, s1⟩
      go_simp
      with_reducible rfl
    rotate_left
    · simp only [Act.put, List.setIfInBounds_toArray, List.set_cons_zero, List.set_cons_succ, i64_w, i32_w]
      rfl
    refine one_ (i := 2) (N := some 14) #[true, true, true, true, true, false, false, false] rfl rfl (one_of HT_.out (by kernel_rfl)) (by decide) (fun K hK => ?_)
    refine goes_ Try.func58 (by kernel_rfl) rfl #[.agg #[.slice A0_0 l0_0.length c0_0, .int .i64 a0_1], .int .i64 a1] (by rfl) rfl rfl (by (try simp only [List.map_toArray, List.map_cons, List.map_nil]); first | done | rfl | (simp only [List.length_drop, List.length_take]; rfl)) ?_
    with_reducible refine (midrangeref04_Place.calls k _ _ l0_0 a0_1 a1 t227 _ ?side1 ?side2 A5.out).mono ?_
    (case side1 => exact pc_ (Kd.C_below HR0_0.out HB.out))
    (case side2 => exact HC0_0.out)
    rintro e w11 ⟨rfl, hb⟩
    refine ⟨_, rfl, ?_⟩
    replace BK225 := kb_ BK225 hb
    replace HB := sb_ HB hb
    (try clear hb)
    (try clear hb2)
    (try clear hk)
    (try clear hi)
    refine hK.out _ _ ⟨(blk_cell BK225.out 0).trans rfl, (blk_cell BK225.out 1).trans rfl⟩ (fun hHeld => ?_)
    clear hK K
    refine norm_ (a' := ?_) ?_ ?_
    rotate_left
    · show Act.put _ (some 14) _ = _
      simp only [Act.put, List.setIfInBounds_toArray, List.set_cons_zero, List.set_cons_succ, i64_w, i32_w]
      rfl
    refine one_ (i := 5) (N := some 17) #[true, true, true, true, true, true, false, false] rfl rfl (one_of HT_.out (by kernel_rfl)) (by decide) (fun K hK => ?_)
    refine goes_ Try.func59 (by kernel_rfl) rfl #[.agg #[.slice A0_0 l0_0.length c0_0, .int .i64 a0_1], .int .i64 a1] (by rfl) rfl rfl (by (try simp only [List.map_toArray, List.map_cons, List.map_nil]); first | done | rfl | (simp only [List.length_drop, List.length_take]; rfl)) ?_
    with_reducible refine (midrangeref04_NumberErr.calls k _ _ l0_0 a0_1 a1 t228 _ ?side1 ?side2 A6.out).mono ?_
    (case side1 => exact pc_ (Kd.C_below HR0_0.out HB.out))
    (case side2 => exact HC0_0.out)
    rintro e w12 ⟨rfl, hb⟩
    refine ⟨_, rfl, ?_⟩
    replace BK225 := kb_ BK225 hb
    replace HB := sb_ HB hb
    (try clear hb)
    (try clear hb2)
    (try clear hk)
    (try clear hi)
    refine hK.out _ _ ⟨(blk_cell BK225.out 0).trans rfl, (blk_cell BK225.out 1).trans rfl⟩ (fun hHeld => ?_)
    clear hK K
    refine norm_ (a' := ?_) ?_ ?_
    rotate_left
    · show Act.put _ (some 17) _ = _
      simp only [Act.put, List.setIfInBounds_toArray, List.set_cons_zero, List.set_cons_succ, i64_w, i32_w]
      rfl
    refine pu_ 6 4 HT_ ?_
    refine pu_ 7 5 HT_ ?_
    refine done_ (done_of HT_.out (by kernel_rfl)) ?_
    try go_wp2
    go_ret2
    exact ⟨er_, pb_ HB⟩
  · rw [if_neg c4] at H
    have c4b0 : (t226 == 0) = false := beq_eq_false_iff_ne.mpr c4
    have c4b1 : (t226 != 0) = true := bne_iff_ne.mpr c4
    simp only [Option.some.injEq, Prod.mk.injEq] at H
    obtain ⟨rfl, rfl⟩ := H
    go_enter Try.func45, Try.ntmps45
    go_wp2_with (first | ((with_reducible refine gate_dst (N := 2) rfl ?_); refine box_event ?hg (N := 2) ?hd (cs := #[.slice A0_0 l0_0.length c0_0, .int .i64 a0_1]) (t := 24) ?hr ?_; (case hd => rfl); (case hg => rfl); (case hr => first | (go_simp; done) | (go_simp; rfl)); intro gb225 hg w13 hbox hb; have BK225 := Aside0.mk (hbox); have GW225 := gw_ hg HB; have GE225 := gw_ hg HB; replace HB := sb_ HB hb; clear hb hbox hg; have hcz14_0 := cz_ BK225 0 (.slice A0_0 l0_0.length c0_0); have hcz14_1 := cz_ BK225 1 (.int .i64 a0_1); have hfz14_0 := blk_frozen BK225.out 0; have hfz14_1 := blk_frozen BK225.out 1) | ((with_reducible refine gate_callee (f := 35) rfl ?_); refine goesL_ (some 8) rfl rfl Try.func35 (by kernel_rfl) rfl #[.agg #[.slice A0_0 l0_0.length c0_0, .int .i64 a0_1]] rfl (by (try simp only [List.map_toArray, List.map_cons, List.map_nil]); first | done | rfl | (simp only [List.length_drop, List.length_take]; rfl)) ?_; (with_reducible refine (midrangeref04_Err.calls k _ _ l0_0 a0_1 t226 _ ?side1 ?side2 A3.out).mono ?_); (case side1 => exact pc_ (Kd.C_below HR0_0.out HB.out)); (case side2 => exact HC0_0.out); rintro e w15 ⟨rfl, hb⟩; refine ⟨_, rfl, ?_⟩; replace BK225 := kb_ BK225 hb; replace HB := sb_ HB hb; (try clear hb); (try clear hb2); (try clear hk); (try clear hi)))
    go_ret2
    exact ⟨er_, pb_ HB⟩

end Go.Proofs.Ytoabahlaicgmjaa.X
end
section
namespace Go.Proofs.Ytoabahlaicgmjaa.X
open Go.Proofs.Ytoabahlaicgmjaa.XW Go.Proofs.Ytoabahlaicgmjaa.XS
open Go.RowKit Go.Proofs.YtoabahlaicgmjaaW.PrintWords Go.Proofs.YtoabahlaicgmjaaW.PrintLast Go.Proofs.YtoabahlaicgmjaaW.PrintMore
attribute [local go_sem] max2_int min2_int max_two min_two max_three min_three max_four min_four   -- for this text's walks alone
set_option linter.unusedVariables false
set_option linter.unusedSimpArgs false

/-! ### midrangeref04_Destroyed: function 17 -/
def midrangeref04_Destroyed.f (k : Nat) (l0_0 : List (S56)) (a0_1 : Int) (a1 : Int) : Option ((List (S56)) × Int × Int × ByteArray × Int) := (midrangeref04_known.f k l0_0 a0_1 a1).bind fun bt231 => (if bt231.2 = 0 then ((midrangeref04_Own.f l0_0 a0_1).bind fun bt233 => (if 0 ≤ bt231.1 then (if bt231.1 ≤ (bt233.1.length : Int) then (if 0 ≤ (wrap64 (bt231.1 + 1)) then (if (wrap64 (bt231.1 + 1)) ≤ (bt233.1.length : Int) then (some ((bt233.1.eraseIdx (bt231.1 : Int).toNat), bt233.2, 0, (⟨#[]⟩ : ByteArray), 0)) else (none)) else (none)) else (none)) else (none))) else (some (([] : List (S56)), 0, 0, (⟨#[]⟩ : ByteArray), bt231.2)))
def midrangeref04_Destroyed.T5 : Bool × List (List Nat × List Nat) := (true, [([], []), ([0], [0]), ([], []), ([1, 2], [1, 2]), ([], []), ([4], [4]), ([], []), ([6], [6]), ([5, 7], [5, 7]), ([3, 8], [3, 8]), ([0, 1, 2, 3, 4, 5, 6, 7, 8, 9], []), ([10, 9, 9, 0, 1, 2, 3, 4, 5, 6, 7, 8, 9], [9, 10])])
def midrangeref04_Destroyed.B5 : List Nat := [0, 1, 0, 7, 0, 16, 0, 64, 240, 511, 1023, 2047]
theorem midrangeref04_Destroyed.tab5 : rtab .any (opsOf Try.f17 5) = midrangeref04_Destroyed.T5 := by kernel_rfl
theorem midrangeref04_Destroyed.bits5 : waitsOk midrangeref04_Destroyed.T5.2 midrangeref04_Destroyed.B5 = true := by kernel_rfl
set_option maxHeartbeats 8000000 in
set_option maxRecDepth 100000 in
theorem midrangeref04_Destroyed.calls (k : Nat) (A0_0 : Option Addr) (c0_0 : Nat) (l0_0 : List (S56)) (a0_1 : Int) (a1 : Int) (r1 : List (S56)) (r2 : Int) (r3 : Int) (r4 : ByteArray) (r5 : Int) (w : World) (hr0_0 : Kd.C k56 w A0_0 l0_0.length l0_0) (hc0_0 : l0_0.length ≤ c0_0) (h : midrangeref04_Destroyed.f k l0_0 a0_1 a1 = some (r1, r2, r3, r4, r5)) :
    Calls Try.prog 17 #[.agg #[.slice A0_0 l0_0.length c0_0, .int .i64 a0_1], .int .i64 a1] w fun e w' => ∃ v0_ : Value, e = .returned (.agg #[v0_, .int .i64 r2, .int .i64 r3, .string r4, .int .i64 r5]) ∧ Kd.R k56 56 w' w.heap.size (fun _ => True) v0_ r1 ∧ Below w.heap.size w w' := by
  have hu24 := Try.underlying24
  have hu34 := Try.underlying34
  have HR0_0 := Aside0.mk hr0_0
  have HC0_0 := Aside0.mk hc0_0
  clear hr0_0 hc0_0
  have HB := Aside0.mk (Below.refl w.heap.size w)
  have H : ((midrangeref04_known.f k l0_0 a0_1 a1).bind fun bt231 => (if bt231.2 = 0 then ((midrangeref04_Own.f l0_0 a0_1).bind fun bt233 => (if 0 ≤ bt231.1 then (if bt231.1 ≤ (bt233.1.length : Int) then (if 0 ≤ (wrap64 (bt231.1 + 1)) then (if (wrap64 (bt231.1 + 1)) ≤ (bt233.1.length : Int) then (some ((bt233.1.eraseIdx (bt231.1 : Int).toNat), bt233.2, 0, (⟨#[]⟩ : ByteArray), 0)) else (none)) else (none)) else (none)) else (none))) else (some (([] : List (S56)), 0, 0, (⟨#[]⟩ : ByteArray), bt231.2)))) = some (r1, r2, r3, r4, r5) := h
  clear h
  replace H := Option.bind_eq_some_iff.mp H
  obtain ⟨⟨t231, t232⟩, A30, H⟩ := H
  replace H : (if t232 = 0 then ((midrangeref04_Own.f l0_0 a0_1).bind fun bt233 => (if 0 ≤ t231 then (if t231 ≤ (bt233.1.length : Int) then (if 0 ≤ (wrap64 (t231 + 1)) then (if (wrap64 (t231 + 1)) ≤ (bt233.1.length : Int) then (some ((bt233.1.eraseIdx (t231 : Int).toNat), bt233.2, 0, (⟨#[]⟩ : ByteArray), 0)) else (none)) else (none)) else (none)) else (none))) else (some (([] : List (S56)), 0, 0, (⟨#[]⟩ : ByteArray), t232))) = some (r1, r2, r3, r4, r5) := H
  have A3 := Aside0.mk A30
  clear A30
  by_cases c4 : t232 = 0
  · rw [if_pos c4] at H
    have c4b0 : (t232 == 0) = true := beq_iff_eq.mpr c4
    have c4b1 : (t232 != 0) = false := bne_eq_false_iff_eq.mpr c4
    clear c4
    replace H := Option.bind_eq_some_iff.mp H
    obtain ⟨⟨t233, t236⟩, A50, H⟩ := H
    replace H : (if 0 ≤ t231 then (if t231 ≤ (t233.length : Int) then (if 0 ≤ (wrap64 (t231 + 1)) then (if (wrap64 (t231 + 1)) ≤ (t233.length : Int) then (some ((t233.eraseIdx (t231 : Int).toNat), t236, 0, (⟨#[]⟩ : ByteArray), 0)) else (none)) else (none)) else (none)) else (none)) = some (r1, r2, r3, r4, r5) := H
    have A5 := Aside0.mk A50
    clear A50
    by_cases c6 : 0 ≤ t231
    · rw [if_pos c6] at H
      have c6b0 := eq_true c6
      have c6b1 : decide (0 ≤ t231) = true := decide_eq_true c6
      clear c6
      by_cases c7 : t231 ≤ (t233.length : Int)
      · rw [if_pos c7] at H
        have c7b0 := eq_true c7
        have c7b1 : decide (t231 ≤ (t233.length : Int)) = true := decide_eq_true c7
        clear c7
        obtain ⟨y238, hy238⟩ : ∃ y_ : List (S56), y_ = (t233.take (t231 : Int).toNat) := ⟨_, rfl⟩
        replace H : (if 0 ≤ (wrap64 (t231 + 1)) then (if (wrap64 (t231 + 1)) ≤ (t233.length : Int) then (some ((t233.eraseIdx (t231 : Int).toNat), t236, 0, (⟨#[]⟩ : ByteArray), 0)) else (none)) else (none)) = some (r1, r2, r3, r4, r5) := by first | (rw [hy238]; with_reducible exact H) | (have H2_ := (Option.bind_some _ _).symm.trans H; rw [hy238]; with_reducible exact H2_) | (have H2_ := (Option.bind_some _ _).symm.trans H; with_reducible exact H2_) | with_reducible exact H | (rw [hy238]; exact H) | exact H
        have Ny238 := Aside0.mk hy238
        clear hy238
        obtain ⟨ji8, hji8⟩ : ∃ j_ : Int, (wrap64 (t231 + 1)) = j_ := ⟨_, rfl⟩
        replace H : (if 0 ≤ (ji8) then (if (ji8) ≤ (t233.length : Int) then (some ((t233.eraseIdx (t231 : Int).toNat), t236, 0, (⟨#[]⟩ : ByteArray), 0)) else (none)) else (none)) = some (r1, r2, r3, r4, r5) := by first | (rw [hji8] at H; exact H) | (simp only [hji8] at H ⊢; exact H)
        (try rw [hji8] at A3)
        (try rw [hji8] at A5)
        have hji8w : (IntKind.i64.wrap (t231 + 1)) = ji8 := (i64_w _).trans hji8
        by_cases c9 : 0 ≤ (ji8)
        · rw [if_pos c9] at H
          have c9b0 := eq_true c9
          have c9b1 : decide (0 ≤ (ji8)) = true := decide_eq_true c9
          clear c9
          by_cases c10 : (ji8) ≤ (t233.length : Int)
          · rw [if_pos c10] at H
            have c10b0 := eq_true c10
            have c10b1 : decide ((ji8) ≤ (t233.length : Int)) = true := decide_eq_true c10
            clear c10
            obtain ⟨y242, hy242⟩ : ∃ y_ : List (S56), y_ = (t233.drop ((ji8) : Int).toNat) := ⟨_, rfl⟩
            replace H : (some ((t233.eraseIdx (t231 : Int).toNat), t236, 0, (⟨#[]⟩ : ByteArray), 0)) = some (r1, r2, r3, r4, r5) := by first | (rw [hy242]; with_reducible exact H) | (have H2_ := (Option.bind_some _ _).symm.trans H; rw [hy242]; with_reducible exact H2_) | (have H2_ := (Option.bind_some _ _).symm.trans H; with_reducible exact H2_) | with_reducible exact H | (rw [hy242]; exact H) | exact H
            have Ny242 := Aside0.mk hy242
            clear hy242
            obtain ⟨y246, hy246⟩ : ∃ y_ : List (S56), y_ = (t233.eraseIdx (t231 : Int).toNat) := ⟨_, rfl⟩
            replace H : (some (y246, t236, 0, (⟨#[]⟩ : ByteArray), 0)) = some (r1, r2, r3, r4, r5) := by first | (rw [hy246]; with_reducible exact H) | (have H2_ := (Option.bind_some _ _).symm.trans H; rw [hy246]; with_reducible exact H2_) | (have H2_ := (Option.bind_some _ _).symm.trans H; with_reducible exact H2_) | with_reducible exact H | (rw [hy246]; exact H) | exact H
            have Ny246 := Aside0.mk hy246
            clear hy246
            simp only [Option.some.injEq, Prod.mk.injEq] at H
            obtain ⟨rfl, rfl, rfl, rfl, rfl⟩ := H
            go_enter Try.func17, Try.ntmps17
            try go_wp2_with (first | ((with_reducible refine gate_dst (N := 2) rfl ?_); refine box_event ?hg (N := 2) ?hd (cs := #[.slice A0_0 l0_0.length c0_0, .int .i64 a0_1]) (t := 24) ?hr ?_; (case hd => rfl); (case hg => rfl); (case hr => first | (go_simp; done) | (go_simp; rfl)); intro gb229 hg w11 hbox hb; have BK229 := Aside0.mk (hbox); have GW229 := gw_ hg HB; have GE229 := gw_ hg HB; replace HB := sb_ HB hb; clear hb hbox hg) | ((with_reducible refine gate_dst (N := 4) rfl ?_); refine box_event ?hg (N := 4) ?hd (cs := #[.slice none 0 0, .int .i64 0, .int .i64 0, .string (⟨#[]⟩ : ByteArray), .int .i64 0]) (t := 34) ?hr ?_; (case hd => rfl); (case hg => rfl); (case hr => first | (go_simp; done) | (go_simp; rfl)); intro gb230 hg w12 hbox hb; have BK230 := Aside0.mk (hbox); have GW230 := gw_ hg HB; have GE230 := gw_ hg HB; replace HB := sb_ HB hb; have NB229_230 := nl_ hg BK229; have NB230_229 := ng_ hg BK229; replace BK229 := kb_ BK229 hb; clear hb hbox hg; have hnb13 := NB229_230.out; have hnc13 := NB230_229.out; have hcz14_0 := cz_ BK229 0 (.slice A0_0 l0_0.length c0_0); have hcz14_1 := cz_ BK229 1 (.int .i64 a0_1); have hfz14_0 := blk_frozen BK229.out 0; have hfz14_1 := blk_frozen BK229.out 1) | ((with_reducible refine gate_callee (f := 45) rfl ?_); refine goesL_ (some 11) rfl rfl Try.func45 (by kernel_rfl) rfl #[.agg #[.slice A0_0 l0_0.length c0_0, .int .i64 a0_1], .int .i64 a1] rfl (by (try simp only [List.map_toArray, List.map_cons, List.map_nil]); first | done | rfl | (simp only [List.length_drop, List.length_take]; rfl)) ?_; (with_reducible refine (midrangeref04_known.calls k _ _ l0_0 a0_1 a1 t231 t232 _ ?side1 ?side2 A3.out).mono ?_); (case side1 => exact pc_ (Kd.C_below HR0_0.out HB.out)); (case side2 => exact HC0_0.out); rintro e w15 ⟨rfl, hb⟩; refine ⟨_, rfl, ?_⟩; replace BK229 := kb_ BK229 hb; replace BK230 := kb_ BK230 hb; replace HB := sb_ HB hb; (try clear hb); (try clear hb2); (try clear hk); (try clear hi); have hcz16_0 := cz_ BK229 0 (.slice A0_0 l0_0.length c0_0); have hcz16_1 := cz_ BK229 1 (.int .i64 a0_1); have hfz16_0 := blk_frozen BK229.out 0; have hfz16_1 := blk_frozen BK229.out 1) | ((with_reducible refine gate_callee (f := 13) rfl ?_); refine goesL_ (some 19) rfl rfl Try.func13 (by kernel_rfl) rfl #[.agg #[.slice A0_0 l0_0.length c0_0, .int .i64 a0_1]] rfl (by (try simp only [List.map_toArray, List.map_cons, List.map_nil]); first | done | rfl | (simp only [List.length_drop, List.length_take]; rfl)) ?_; (with_reducible refine (midrangeref04_Own.calls _ _ l0_0 a0_1 t233 t236 _ ?side1 ?side2 A5.out).mono ?_); (case side1 => exact pc_ (Kd.C_below HR0_0.out HB.out)); (case side2 => exact HC0_0.out); rintro e w17 ⟨v234, rfl, ho0, hb⟩; refine ⟨_, rfl, ?_⟩; have HO235 := Aside0.mk (Kd.R_lower ho0 (below_size (pb_ HB))); replace BK229 := kb_ BK229 hb; replace BK230 := kb_ BK230 hb; replace HB := sb_ HB hb; (try clear hb); (try clear hb2); (try clear hk); (try clear hi); (try clear ho0)) | ((with_reducible refine gate_dst (N := 7) rfl ?_); refine box_event ?hg (N := 7) ?hd (cs := #[.slice none 0 0, .int .i64 0]) (t := 24) ?hr ?_; (case hd => rfl); (case hg => rfl); (case hr => first | (go_simp; done) | (go_simp; rfl)); intro gb237 hg w18 hbox hb; replace HO235 := Aside0.mk (Kd.R_below (by (with_reducible repeat (first | apply Kd.R_alloc | apply Kd.R_drewN | apply Kd.R_drew)); exact HO235.out) hb); have BK237 := Aside0.mk (hbox); have GW237 := gw_ hg HB; have GE237 := gw_ hg HB; replace HB := sb_ HB hb; have NB229_237 := nl_ hg BK229; have NB237_229 := ng_ hg BK229; replace BK229 := kb_ BK229 hb; have NB230_237 := nl_ hg BK230; have NB237_230 := ng_ hg BK230; replace BK230 := kb_ BK230 hb; clear hb hbox hg; obtain ⟨Ao19, co19, eo19⟩ := Kd.R_slice HO235.out; subst eo19; have hnb20 := NB237_229.out; have hnc20 := NB229_237.out; have hnb21 := NB237_230.out; have hnc21 := NB230_237.out; have hcz22_0 := cz_ BK237 0 (.slice none 0 0); have hcz22_1 := cz_ BK237 1 (.int .i64 0); have hfz22_0 := blk_frozen BK237.out 0; have hfz22_1 := blk_frozen BK237.out 1))
            have n0_ : Aside0 (Kd.R k56 56 ((w18.setCell ⟨gb237, 0, none⟩ (.slice Ao19 t233.length co19)).setCell ⟨gb237, 1, none⟩ (.int .i64 t236)) w.heap.size (fun _ => True) (.slice Ao19 t233.length co19) t233) := ⟨by (with_reducible repeat (first | apply Kd.R_alloc | apply Kd.R_drewN | apply Kd.R_drew)); exact Kd.R_mono (Kd.R_far (p := ⟨gb237, 1, none⟩) (Kd.R_far (p := ⟨gb237, 0, none⟩) (Kd.R_types HO235.out BK237.out (by decide)) (fun _ hk => hk.2) (.slice Ao19 t233.length co19)) (fun _ hk => hk.2) (.int .i64 t236)) (fun _ hk => trivial)⟩
            have n1_ : Aside0 (((w18.setCell ⟨gb237, 0, none⟩ (.slice Ao19 t233.length co19)).setCell ⟨gb237, 1, none⟩ (.int .i64 t236)).heap[gb229]? = some (.cells #[.slice A0_0 l0_0.length c0_0, .int .i64 a0_1] 24 (0, 0))) := ⟨by (with_reducible repeat (first | refine blk_drewN ?_ _ | refine blk_drew ?_ | refine blk_alloc ?_ _)); refine blk_far ?_ NB229_237.out _; (with_reducible repeat (first | refine blk_drewN ?_ _ | refine blk_drew ?_ | refine blk_alloc ?_ _)); refine blk_far ?_ NB229_237.out _; (with_reducible repeat (first | refine blk_drewN ?_ _ | refine blk_drew ?_ | refine blk_alloc ?_ _)); exact BK229.out⟩
            have n2_ : Aside0 (((w18.setCell ⟨gb237, 0, none⟩ (.slice Ao19 t233.length co19)).setCell ⟨gb237, 1, none⟩ (.int .i64 t236)).heap[gb230]? = some (.cells #[.slice none 0 0, .int .i64 0, .int .i64 0, .string (⟨#[]⟩ : ByteArray), .int .i64 0] 34 (0, 0))) := ⟨by (with_reducible repeat (first | refine blk_drewN ?_ _ | refine blk_drew ?_ | refine blk_alloc ?_ _)); refine blk_far ?_ NB230_237.out _; (with_reducible repeat (first | refine blk_drewN ?_ _ | refine blk_drew ?_ | refine blk_alloc ?_ _)); refine blk_far ?_ NB230_237.out _; (with_reducible repeat (first | refine blk_drewN ?_ _ | refine blk_drew ?_ | refine blk_alloc ?_ _)); exact BK230.out⟩
            have n3_ : Aside0 (((w18.setCell ⟨gb237, 0, none⟩ (.slice Ao19 t233.length co19)).setCell ⟨gb237, 1, none⟩ (.int .i64 t236)).heap[gb237]? = some (.cells #[.slice Ao19 t233.length co19, .int .i64 t236] 24 (0, 0))) := ⟨by (with_reducible repeat (first | refine blk_drewN ?_ _ | refine blk_drew ?_ | refine blk_alloc ?_ _)); refine blk_put (cs := #[.slice Ao19 t233.length co19, .int .i64 0]) ?_ 1 _ rfl; (with_reducible repeat (first | refine blk_drewN ?_ _ | refine blk_drew ?_ | refine blk_alloc ?_ _)); refine blk_put (cs := #[.slice none 0 0, .int .i64 0]) ?_ 0 _ rfl; (with_reducible repeat (first | refine blk_drewN ?_ _ | refine blk_drew ?_ | refine blk_alloc ?_ _)); exact BK237.out⟩
            have n4_ : Aside0 (Below w.heap.size w ((w18.setCell ⟨gb237, 0, none⟩ (.slice Ao19 t233.length co19)).setCell ⟨gb237, 1, none⟩ (.int .i64 t236))) := ⟨pb_ HB⟩
            (try clear HO235)
            (try clear BK229)
            (try clear BK230)
            (try clear BK237)
            (try clear HB)
            generalize ((w18.setCell ⟨gb237, 0, none⟩ (.slice Ao19 t233.length co19)).setCell ⟨gb237, 1, none⟩ (.int .i64 t236)) = w23 at n0_ n1_ n2_ n3_ n4_ ⊢
            have HO235 := n0_
            have BK229 := n1_
            have BK230 := n2_
            have BK237 := n3_
            have HB := n4_
            clear n0_ n1_ n2_ n3_ n4_
            replace HO235 := Aside0.mk (Kd.R_drew HO235.out)
            replace BK229 := Aside0.mk (blk_drew BK229.out)
            replace BK230 := Aside0.mk (blk_drew BK230.out)
            replace BK237 := Aside0.mk (blk_drew BK237.out)
            replace HB := Aside0.mk (below_drew1 HB.out)
            have q25 : (t231 : Int) ≤ ((t233.length : Int) : Int) := ct_
            obtain ⟨i025, hi025, _, hsz25, _⟩ := info_parts info56
            have hroom25 : t233.length ≤ co19 := (Kd.R_reads' HO235.out).2.1
            have hC25 : Kd.C k56 _ Ao19 t233.length t233 := (Kd.R_reads' HO235.out).2.2
            have hcut25 := cut_to (P := Try.prog) 22 56 .i64 Try.underlying22 hi025 Ao19 t233.length co19 t231 (ct_) q25 hroom25
            have hr25 := Kd.C_take (m := (t231 : Int).toNat) hC25 (by omega)
            have hy25 : y238.length = (t231 : Int).toNat := (by rw [Ny238.out, List.length_take]; omega)
            rw [← Ny238.out] at hr25
            rw [← hy25] at hcut25
            have HR241 := Aside0.mk hr25
            have HC241 := Aside0.mk (show y238.length ≤ co19 from by omega)
            clear hr25 hC25 hroom25 hi025 hsz25
            have KY25 := Aside0.mk hy25
            clear hy25
            have KL25 := Aside0.mk (show (t231 : Int).toNat ≤ t233.length from by omega)
            replace q25 := eq_true q25
            have q26 : ((ji8) : Int) ≤ ((t233.length : Int) : Int) := ct_
            obtain ⟨i026, hi026, _, hsz26, _⟩ := info_parts info56
            have hroom26 : t233.length ≤ co19 := (Kd.R_reads' HO235.out).2.1
            have hC26 : Kd.C k56 _ Ao19 t233.length t233 := (Kd.R_reads' HO235.out).2.2
            have q026 : (0 : Int) ≤ ((ji8) : Int) := ct_
            have hcut26 := cut_from (P := Try.prog) 22 56 .i64 Try.underlying22 hi026 2 hsz26 Ao19 t233.length co19 (ji8) q026 q26
            have hr26 := Kd.C_drop (m := ((ji8) : Int).toNat) (c := co19) hC26 (by omega) hroom26
            obtain ⟨A26, hA26⟩ : ∃ A1, A1 = (if co19 = ((ji8) : Int).toNat then Ao19 else (Ao19 : Option Addr).map (·.add (((ji8) : Int).toNat * 2))) := ⟨_, rfl⟩
            obtain ⟨c26, hc26⟩ : ∃ c1, c1 = co19 - ((ji8) : Int).toNat := ⟨_, rfl⟩
            have hy26 : y242.length = t233.length - ((ji8) : Int).toNat := (by rw [Ny242.out, List.length_drop] <;> omega)
            rw [show (t233).drop ((ji8) : Int).toNat = y242 from Ny242.out.symm] at hr26
            replace hr26 : Kd.C k56 _ A26 y242.length y242 := (by rw [hA26]; exact hr26)
            rw [← hy26, ← hA26, ← hc26] at hcut26
            have HR245 := Aside0.mk hr26
            have HC245 := Aside0.mk (show y242.length ≤ c26 from by rw [hy26, hc26]; exact Nat.sub_le_sub_right hroom26 _)
            clear hr26 hC26 hroom26 hi026 hsz26 hc26
            have KY26 := Aside0.mk hy26
            have KA26 := Aside0.mk hA26
            clear hy26 hA26
            have KL26 := Aside0.mk (show ((ji8) : Int).toNat ≤ t233.length from by omega)
            replace q26 := eq_true q26
            obtain ⟨go28, co28, eo28, gb28, gl28, cl28, HG28⟩ := Kd.R_form HO235.out (by have hj_ : 0 ≤ (t231 : Int) := ct_; have hl_ : (ji8 : Int) ≤ (t233.length : Int) := ct_; have hh_ : (t231 : Int) ≤ (t233.length : Int) := ct_; rw [← hji8] at hl_; unfold wrap64 at hl_; omega)
            (first | cases eo28 | (injection eo28 with ea_ en_ ec_; (first | subst ea_ | (injection ea_ with ea_; subst ea_)); subst ec_; clear en_))
            have GB28 := Aside0.mk gb28
            have GG28 := Aside0.mk HG28
            clear gb28 gl28 HG28
            refine start_ (n := 12) (S := fun w' => w'.cell? ⟨gb237, 0, none⟩ = some (.slice (some ⟨go28, 0, none⟩) t233.length co19) ∧ w'.cell? ⟨gb237, 1, none⟩ = some (.int .i64 t236)) (ds := [11]) #[false, false, false, false, false, false, false, false, false, false, false, false] (by kernel_rfl) rfl rfl ⟨(blk_cell BK237.out 0).trans rfl, (blk_cell BK237.out 1).trans rfl⟩ (fun hHeld => ?_); refine with_tabW midrangeref04_Destroyed.tab5 midrangeref04_Destroyed.bits5 (fun HT_ HW_ => ?_)
            generalize w23.drew = w24 at HO235 BK229 BK230 BK237 HB GG28 HR241 HR245 hHeld ⊢
            refine pu_ 0 20 HT_ ?_
            refine pu_ 2 22 HT_ ?_
            refine pu_ 4 24 HT_ ?_
            refine pu_ 6 26 HT_ ?_
            refine pu_ 7 27 HT_ ?_
            refine take_ (i := 1) (N := some 21) (v := ?_) (a' := ?_) #[true, true, true, false, true, false, true, true, false, false, false, false] rfl rfl (take_ofW HT_.out HW_.out (by kernel_rfl)) (fun _ _ _ h => h) (Or.inl ⟨by rfl, ?_⟩) hHeld ?_ ?_
            rotate_left
            · rintro w' ⟨s0, s1⟩
              go_simp
              with_reducible rfl
            rotate_left
            · simp only [Act.put, List.setIfInBounds_toArray, List.set_cons_zero, List.set_cons_succ, i64_w, i32_w]
              rfl
            refine pu_ 3 23 HT_ ?_
            refine take_ (i := 5) (N := some 25) (v := ?_) (a' := ?_) #[true, true, true, true, true, true, true, true, false, false, false, false] rfl rfl (take_ofW HT_.out HW_.out (by kernel_rfl)) (fun _ _ _ h => h) (Or.inl ⟨by rfl, ?_⟩) hHeld ?_ ?_
            rotate_left
            · rintro w' ⟨s0, s1⟩
              go_simp
              with_reducible rfl
            rotate_left
            · simp only [Act.put, List.setIfInBounds_toArray, List.set_cons_zero, List.set_cons_succ, i64_w, i32_w]
              rfl
            refine pu_ 8 28 HT_ ?_
            refine one_ (i := 9) (N := some 29) #[true, true, true, true, true, true, true, true, true, true, false, false] rfl rfl (one_of HT_.out (by kernel_rfl)) (by decide) (fun K hK => ?_)
            have hj_ : 0 ≤ (t231 : Int) := ct_
            have hl_ : (ji8 : Int) ≤ (t233.length : Int) := ct_
            have hh_ : (t231 : Int) ≤ (t233.length : Int) := ct_
            have hb_ := (Kd.R_reads' HO235.out).2.2.2.1
            have h0_ : (0 : Int) ≤ (ji8 : Int) := ct_
            have hy1_ := KY25.out
            have hk_ : (ji8 : Int).toNat = y238.length + 1 := (by have hw_ : (ji8 : Int) = t231 + 1 := (by have h00_ := h0_; rw [← hji8] at h00_ ⊢; unfold wrap64 at h00_ ⊢; omega); rw [hw_]; omega)
            refine Kd.R_delete_step k56 (w0 := w) w.heap.size (by rfl) (.tmp 23) (.tmp 28) 22 56 rfl Try.underlying22 (by kernel_rfl) (g := go28) (n := t233.length) (c := co19) (k := y238.length) rfl rfl ?hA ?hm (by (with_reducible repeat (first | apply Kd.R_alloc | apply Kd.R_drewN | apply Kd.R_drew)); exact HO235.out) ?hk (pb_ HB) (below_size (pb_ HB)) ?_
            (case hA => have ha_ := KA26.out; rw [hk_] at ha_; exact ha_)
            (case hm => have ha_ := KY26.out; omega)
            (case hk => omega)
            intro w27 ho hb hg
            clear hj_ hl_ hh_ hb_ hk_ h0_
            rw [hy1_, ← Ny246.out] at ho
            clear hy1_
            have hn_ : t233.length - 1 = y246.length := (by have := (Kd.R_reads' ho).1; omega)
            rw [hn_] at ho ⊢
            clear hn_
            replace BK229 := Aside0.mk (blk_grown (g := gb229) (o := .cells #[.slice A0_0 l0_0.length c0_0, .int .i64 a0_1] 24 (0, 0)) (pk_ BK229) hg (Kd.R_ne HO235.out BK229.out (by decide)))
            replace BK230 := Aside0.mk (blk_grown (g := gb230) (o := .cells #[.slice none 0 0, .int .i64 0, .int .i64 0, .string (⟨#[]⟩ : ByteArray), .int .i64 0] 34 (0, 0)) (pk_ BK230) hg (Kd.R_ne HO235.out BK230.out (by decide)))
            replace BK237 := Aside0.mk (blk_grown (g := gb237) (o := .cells #[.slice (some ⟨go28, 0, none⟩) t233.length co19, .int .i64 t236] 24 (0, 0)) (pk_ BK237) hg (Kd.R_ne HO235.out BK237.out (by decide)))
            replace HO235 := Aside0.mk (ho)
            replace HB := Aside0.mk (hb)
            clear ho hb hg
            refine hK.out _ _ ⟨(blk_cell BK237.out 0).trans rfl, (blk_cell BK237.out 1).trans rfl⟩ (fun hHeld => ?_)
            clear hK K
            refine norm_ (a' := ?_) ?_ ?_
            rotate_left
            · show Act.put _ (some 29) _ = _
              simp only [Act.put, List.setIfInBounds_toArray, List.set_cons_zero, List.set_cons_succ, i64_w, i32_w]
              rfl
            refine pu_ 10 30 HT_ ?_
            refine last_ (i := 11) (N := none) #[true, true, true, true, true, true, true, true, true, true, true, true] rfl rfl (one_of HT_.out (by kernel_rfl)) (by decide) (fun K hK => ?_)
            have hs29 : w27.cell? ⟨gb237, 0, none⟩ = some (.slice (some ⟨go28, 0, none⟩) t233.length co19) := (blk_cell BK237.out 0).trans rfl
            have hfs29 := blk_frozen BK237.out 0
            have hns29_0 := NB229_237.out
            have hns29_1 := NB230_237.out
            have hms29_0 := NB237_229.out
            have hms29_1 := NB237_230.out
            refine skip_ (w1 := ?_) (by rfl) rfl ?_ ?_
            rotate_left
            · go_simp
              rfl
            refine hK.out _ _ ?_
            clear hK K
            refine done_ (done_of HT_.out (by kernel_rfl)) ?_
            have hcz30_0 := cz_ BK237 0 (.slice (some ⟨go28, 0, none⟩) t233.length co19)
            have hcz30_1 := cz_ BK237 1 (.int .i64 t236)
            have hfz30_0 := blk_frozen BK237.out 0
            have hfz30_1 := blk_frozen BK237.out 1
            have hcz31_0 := cz_ BK230 0 (.slice none 0 0)
            have hcz31_1 := cz_ BK230 1 (.int .i64 0)
            have hcz31_2 := cz_ BK230 2 (.int .i64 0)
            have hcz31_3 := cz_ BK230 3 (.string (⟨#[]⟩ : ByteArray))
            have hcz31_4 := cz_ BK230 4 (.int .i64 0)
            have hfz31_0 := blk_frozen BK230.out 0
            have hfz31_1 := blk_frozen BK230.out 1
            have hfz31_2 := blk_frozen BK230.out 2
            have hfz31_3 := blk_frozen BK230.out 3
            have hfz31_4 := blk_frozen BK230.out 4
            try go_wp2
            refine bodyPost_ret (results_cell_row rfl _ _ gb230 34 #[.slice (some ⟨go28, 0, none⟩) y246.length co19, .int .i64 t236, .int .i64 0, .string (⟨#[]⟩ : ByteArray), .int .i64 0] (0, 0) _ rfl (by (with_reducible repeat (first | refine blk_drewN ?_ _ | refine blk_drew ?_ | refine blk_alloc ?_ _)); refine blk_put (cs := #[.slice (some ⟨go28, 0, none⟩) y246.length co19, .int .i64 t236, .int .i64 0, .string (⟨#[]⟩ : ByteArray), .int .i64 0]) ?_ 4 _ rfl; (with_reducible repeat (first | refine blk_drewN ?_ _ | refine blk_drew ?_ | refine blk_alloc ?_ _)); refine blk_put (cs := #[.slice (some ⟨go28, 0, none⟩) y246.length co19, .int .i64 t236, .int .i64 0, .string (⟨#[]⟩ : ByteArray), .int .i64 0]) ?_ 3 _ rfl; (with_reducible repeat (first | refine blk_drewN ?_ _ | refine blk_drew ?_ | refine blk_alloc ?_ _)); refine blk_put (cs := #[.slice (some ⟨go28, 0, none⟩) y246.length co19, .int .i64 t236, .int .i64 0, .string (⟨#[]⟩ : ByteArray), .int .i64 0]) ?_ 2 _ rfl; (with_reducible repeat (first | refine blk_drewN ?_ _ | refine blk_drew ?_ | refine blk_alloc ?_ _)); refine blk_put (cs := #[.slice (some ⟨go28, 0, none⟩) y246.length co19, .int .i64 0, .int .i64 0, .string (⟨#[]⟩ : ByteArray), .int .i64 0]) ?_ 1 _ rfl; (with_reducible repeat (first | refine blk_drewN ?_ _ | refine blk_drew ?_ | refine blk_alloc ?_ _)); refine blk_put (cs := #[.slice none 0 0, .int .i64 0, .int .i64 0, .string (⟨#[]⟩ : ByteArray), .int .i64 0]) ?_ 0 _ rfl; (with_reducible repeat (first | refine blk_drewN ?_ _ | refine blk_drew ?_ | refine blk_alloc ?_ _)); refine blk_far ?_ NB230_237.out _; (with_reducible repeat (first | refine blk_drewN ?_ _ | refine blk_drew ?_ | refine blk_alloc ?_ _)); exact BK230.out) Try.underlying34 rfl (by kernel_rfl)) rfl ?_
            exact ⟨_, by first | rfl | (simp [errW_none, errW_some] <;> rfl) | (simp only [← hji8]; first | rfl | (simp [errW_none, errW_some] <;> rfl)) | (simp [*, errW_none, errW_some] <;> rfl), by (with_reducible repeat (first | apply Kd.R_alloc | apply Kd.R_drewN | apply Kd.R_drew)); exact Kd.R_mono (Kd.R_far (p := ⟨gb230, 4, none⟩) (Kd.R_far (p := ⟨gb230, 3, none⟩) (Kd.R_far (p := ⟨gb230, 2, none⟩) (Kd.R_far (p := ⟨gb230, 1, none⟩) (Kd.R_far (p := ⟨gb230, 0, none⟩) (Kd.R_far (p := ⟨gb237, 0, none⟩) (Kd.R_types (Kd.R_types HO235.out BK237.out (by decide)) BK230.out (by decide)) (fun _ hk => hk.1.2) (.slice (some ⟨go28, 0, none⟩) y246.length co19)) (fun _ hk => hk.2) (.slice (some ⟨go28, 0, none⟩) y246.length co19)) (fun _ hk => hk.2) (.int .i64 t236)) (fun _ hk => hk.2) (.int .i64 0)) (fun _ hk => hk.2) (.string (⟨#[]⟩ : ByteArray))) (fun _ hk => hk.2) (.int .i64 0)) (fun _ hk => trivial), pb_ HB⟩
          · rw [if_neg c10] at H
            exact absurd H (by simp)
        · rw [if_neg c9] at H
          exact absurd H (by simp)
      · rw [if_neg c7] at H
        exact absurd H (by simp)
    · rw [if_neg c6] at H
      exact absurd H (by simp)
  · rw [if_neg c4] at H
    have c4b0 : (t232 == 0) = false := beq_eq_false_iff_ne.mpr c4
    have c4b1 : (t232 != 0) = true := bne_iff_ne.mpr c4
    simp only [Option.some.injEq, Prod.mk.injEq] at H
    obtain ⟨rfl, rfl, rfl, rfl, rfl⟩ := H
    go_enter Try.func17, Try.ntmps17
    go_wp2_with (first | ((with_reducible refine gate_dst (N := 2) rfl ?_); refine box_event ?hg (N := 2) ?hd (cs := #[.slice A0_0 l0_0.length c0_0, .int .i64 a0_1]) (t := 24) ?hr ?_; (case hd => rfl); (case hg => rfl); (case hr => first | (go_simp; done) | (go_simp; rfl)); intro gb229 hg w32 hbox hb; have BK229 := Aside0.mk (hbox); have GW229 := gw_ hg HB; have GE229 := gw_ hg HB; replace HB := sb_ HB hb; clear hb hbox hg) | ((with_reducible refine gate_dst (N := 4) rfl ?_); refine box_event ?hg (N := 4) ?hd (cs := #[.slice none 0 0, .int .i64 0, .int .i64 0, .string (⟨#[]⟩ : ByteArray), .int .i64 0]) (t := 34) ?hr ?_; (case hd => rfl); (case hg => rfl); (case hr => first | (go_simp; done) | (go_simp; rfl)); intro gb230 hg w33 hbox hb; have BK230 := Aside0.mk (hbox); have GW230 := gw_ hg HB; have GE230 := gw_ hg HB; replace HB := sb_ HB hb; have NB229_230 := nl_ hg BK229; have NB230_229 := ng_ hg BK229; replace BK229 := kb_ BK229 hb; clear hb hbox hg; have hnb34 := NB229_230.out; have hnc34 := NB230_229.out; have hcz35_0 := cz_ BK229 0 (.slice A0_0 l0_0.length c0_0); have hcz35_1 := cz_ BK229 1 (.int .i64 a0_1); have hfz35_0 := blk_frozen BK229.out 0; have hfz35_1 := blk_frozen BK229.out 1) | ((with_reducible refine gate_callee (f := 45) rfl ?_); refine goesL_ (some 11) rfl rfl Try.func45 (by kernel_rfl) rfl #[.agg #[.slice A0_0 l0_0.length c0_0, .int .i64 a0_1], .int .i64 a1] rfl (by (try simp only [List.map_toArray, List.map_cons, List.map_nil]); first | done | rfl | (simp only [List.length_drop, List.length_take]; rfl)) ?_; (with_reducible refine (midrangeref04_known.calls k _ _ l0_0 a0_1 a1 t231 t232 _ ?side1 ?side2 A3.out).mono ?_); (case side1 => exact pc_ (Kd.C_below HR0_0.out HB.out)); (case side2 => exact HC0_0.out); rintro e w36 ⟨rfl, hb⟩; refine ⟨_, rfl, ?_⟩; replace BK229 := kb_ BK229 hb; replace BK230 := kb_ BK230 hb; replace HB := sb_ HB hb; (try clear hb); (try clear hb2); (try clear hk); (try clear hi); have hcz37_0 := cz_ BK230 0 (.slice none 0 0); have hcz37_1 := cz_ BK230 1 (.int .i64 0); have hcz37_2 := cz_ BK230 2 (.int .i64 0); have hcz37_3 := cz_ BK230 3 (.string (⟨#[]⟩ : ByteArray)); have hcz37_4 := cz_ BK230 4 (.int .i64 0); have hfz37_0 := blk_frozen BK230.out 0; have hfz37_1 := blk_frozen BK230.out 1; have hfz37_2 := blk_frozen BK230.out 2; have hfz37_3 := blk_frozen BK230.out 3; have hfz37_4 := blk_frozen BK230.out 4))
    refine bodyPost_ret (results_cell_row rfl _ _ gb230 34 #[.slice none 0 0, .int .i64 0, .int .i64 0, .string (⟨#[]⟩ : ByteArray), .int .i64 t232] (0, 0) _ rfl (by (with_reducible repeat (first | refine blk_drewN ?_ _ | refine blk_drew ?_ | refine blk_alloc ?_ _)); refine blk_put (cs := #[.slice none 0 0, .int .i64 0, .int .i64 0, .string (⟨#[]⟩ : ByteArray), .int .i64 0]) ?_ 4 _ rfl; (with_reducible repeat (first | refine blk_drewN ?_ _ | refine blk_drew ?_ | refine blk_alloc ?_ _)); refine blk_put (cs := #[.slice none 0 0, .int .i64 0, .int .i64 0, .string (⟨#[]⟩ : ByteArray), .int .i64 0]) ?_ 3 _ rfl; (with_reducible repeat (first | refine blk_drewN ?_ _ | refine blk_drew ?_ | refine blk_alloc ?_ _)); refine blk_put (cs := #[.slice none 0 0, .int .i64 0, .int .i64 0, .string (⟨#[]⟩ : ByteArray), .int .i64 0]) ?_ 2 _ rfl; (with_reducible repeat (first | refine blk_drewN ?_ _ | refine blk_drew ?_ | refine blk_alloc ?_ _)); refine blk_put (cs := #[.slice none 0 0, .int .i64 0, .int .i64 0, .string (⟨#[]⟩ : ByteArray), .int .i64 0]) ?_ 1 _ rfl; (with_reducible repeat (first | refine blk_drewN ?_ _ | refine blk_drew ?_ | refine blk_alloc ?_ _)); refine blk_put (cs := #[.slice none 0 0, .int .i64 0, .int .i64 0, .string (⟨#[]⟩ : ByteArray), .int .i64 0]) ?_ 0 _ rfl; (with_reducible repeat (first | refine blk_drewN ?_ _ | refine blk_drew ?_ | refine blk_alloc ?_ _)); exact BK230.out) Try.underlying34 rfl (by kernel_rfl)) rfl ?_
    exact ⟨_, er_, by first | exact Kd.R_nil _ _ _ _ _ | exact Kd.N_nil _ _ _ _ _ | exact Kd.V_nil _ _ _ _ _ | exact Kd.Q_nil _ _ _ _ _ | exact Kd.S_nil _ _ _ _ _, pb_ HB⟩

end Go.Proofs.Ytoabahlaicgmjaa.X
end
section
namespace Go.Proofs.Ytoabahlaicgmjaa.X
open Go.Proofs.Ytoabahlaicgmjaa.XW Go.Proofs.Ytoabahlaicgmjaa.XS
open Go.RowKit Go.Proofs.YtoabahlaicgmjaaW.PrintWords Go.Proofs.YtoabahlaicgmjaaW.PrintLast Go.Proofs.YtoabahlaicgmjaaW.PrintMore
attribute [local go_sem] max2_int min2_int max_two min_two max_three min_three max_four min_four   -- for this text's walks alone
set_option linter.unusedVariables false
set_option linter.unusedSimpArgs false

/-! ### midrangeref04_with: function 48 -/
def midrangeref04_with.f (l0_0 : List (S56)) (a0_1 : Int) (a1 : Int) (a2 : ByteArray) : Option ((List (S56)) × Int) := (midrangeref04_Own.f l0_0 a0_1).bind fun bt348 => (if 0 ≤ a1 then (if a1 < (bt348.1.length : Int) then (some ((bt348.1.set (a1 : Int).toNat (⟨(rd_T56 bt348.1 a1).f0, a2⟩ : S56)), bt348.2)) else (none)) else (none))
set_option maxHeartbeats 8000000 in
set_option maxRecDepth 100000 in
theorem midrangeref04_with.calls (A0_0 : Option Addr) (c0_0 : Nat) (l0_0 : List (S56)) (a0_1 : Int) (a1 : Int) (a2 : ByteArray) (r1 : List (S56)) (r2 : Int) (w : World) (hr0_0 : Kd.C k56 w A0_0 l0_0.length l0_0) (hc0_0 : l0_0.length ≤ c0_0) (h : midrangeref04_with.f l0_0 a0_1 a1 a2 = some (r1, r2)) :
    Calls Try.prog 48 #[.agg #[.slice A0_0 l0_0.length c0_0, .int .i64 a0_1], .int .i64 a1, .string a2] w fun e w' => ∃ v0_ : Value, e = .returned (.agg #[v0_, .int .i64 r2]) ∧ Kd.R k56 56 w' w.heap.size (fun _ => True) v0_ r1 ∧ Below w.heap.size w w' := by
  have hu24 := Try.underlying24
  have HR0_0 := Aside0.mk hr0_0
  have HC0_0 := Aside0.mk hc0_0
  clear hr0_0 hc0_0
  have HB := Aside0.mk (Below.refl w.heap.size w)
  have H : ((midrangeref04_Own.f l0_0 a0_1).bind fun bt348 => (if 0 ≤ a1 then (if a1 < (bt348.1.length : Int) then (some ((bt348.1.set (a1 : Int).toNat (⟨(rd_T56 bt348.1 a1).f0, a2⟩ : S56)), bt348.2)) else (none)) else (none))) = some (r1, r2) := h
  clear h
  replace H := Option.bind_eq_some_iff.mp H
  obtain ⟨⟨t348, t351⟩, A40, H⟩ := H
  replace H : (if 0 ≤ a1 then (if a1 < (t348.length : Int) then (some ((t348.set (a1 : Int).toNat (⟨(rd_T56 t348 a1).f0, a2⟩ : S56)), t351)) else (none)) else (none)) = some (r1, r2) := H
  have A4 := Aside0.mk A40
  clear A40
  by_cases c5 : 0 ≤ a1
  · rw [if_pos c5] at H
    have c5b0 : decide (0 ≤ a1) = true := decide_eq_true c5
    clear c5
    by_cases c6 : a1 < (t348.length : Int)
    · rw [if_pos c6] at H
      have c6b0 : decide (a1 < (t348.length : Int)) = true := decide_eq_true c6
      clear c6
      obtain ⟨y353, hy353⟩ : ∃ y_ : List (S56), y_ = (t348.set (a1 : Int).toNat (⟨(rd_T56 t348 a1).f0, a2⟩ : S56)) := ⟨_, rfl⟩
      replace H : (some (y353, t351)) = some (r1, r2) := by first | (rw [hy353]; with_reducible exact H) | (have H2_ := (Option.bind_some _ _).symm.trans H; rw [hy353]; with_reducible exact H2_) | (have H2_ := (Option.bind_some _ _).symm.trans H; with_reducible exact H2_) | with_reducible exact H | (rw [hy353]; exact H) | exact H
      have Ny353 := Aside0.mk hy353
      clear hy353
      simp only [Option.some.injEq, Prod.mk.injEq] at H
      obtain ⟨rfl, rfl⟩ := H
      go_enter Try.func48, Try.ntmps48
      go_wp2_with (first | ((with_reducible refine gate_dst (N := 3) rfl ?_); refine box_event ?hg (N := 3) ?hd (cs := #[.slice A0_0 l0_0.length c0_0, .int .i64 a0_1]) (t := 24) ?hr ?_; (case hd => rfl); (case hg => rfl); (case hr => first | (go_simp; done) | (go_simp; rfl)); intro gb346 hg w8 hbox hb; have BK346 := Aside0.mk (hbox); have GW346 := gw_ hg HB; have GE346 := gw_ hg HB; replace HB := sb_ HB hb; clear hb hbox hg) | ((with_reducible refine gate_dst (N := 6) rfl ?_); refine box_event ?hg (N := 6) ?hd (cs := #[.slice none 0 0, .int .i64 0]) (t := 24) ?hr ?_; (case hd => rfl); (case hg => rfl); (case hr => first | (go_simp; done) | (go_simp; rfl)); intro gb347 hg w9 hbox hb; have BK347 := Aside0.mk (hbox); have GW347 := gw_ hg HB; have GE347 := gw_ hg HB; replace HB := sb_ HB hb; have NB346_347 := nl_ hg BK346; have NB347_346 := ng_ hg BK346; replace BK346 := kb_ BK346 hb; clear hb hbox hg; have hnb10 := NB346_347.out; have hnc10 := NB347_346.out; have hcz11_0 := cz_ BK346 0 (.slice A0_0 l0_0.length c0_0); have hcz11_1 := cz_ BK346 1 (.int .i64 a0_1); have hfz11_0 := blk_frozen BK346.out 0; have hfz11_1 := blk_frozen BK346.out 1) | ((with_reducible refine gate_callee (f := 13) rfl ?_); refine goesL_ (some 9) rfl rfl Try.func13 (by kernel_rfl) rfl #[.agg #[.slice A0_0 l0_0.length c0_0, .int .i64 a0_1]] rfl (by (try simp only [List.map_toArray, List.map_cons, List.map_nil]); first | done | rfl | (simp only [List.length_drop, List.length_take]; rfl)) ?_; (with_reducible refine (midrangeref04_Own.calls _ _ l0_0 a0_1 t348 t351 _ ?side1 ?side2 A4.out).mono ?_); (case side1 => exact pc_ (Kd.C_below HR0_0.out HB.out)); (case side2 => exact HC0_0.out); rintro e w12 ⟨v349, rfl, ho0, hb⟩; refine ⟨_, rfl, ?_⟩; have HO350 := Aside0.mk (Kd.R_lower ho0 (below_size (pb_ HB))); replace BK346 := kb_ BK346 hb; replace BK347 := kb_ BK347 hb; replace HB := sb_ HB hb; (try clear hb); (try clear hb2); (try clear hk); (try clear hi); (try clear ho0)) | ((with_reducible refine gate_dst (N := 7) rfl ?_); refine box_event ?hg (N := 7) ?hd (cs := #[.slice none 0 0, .int .i64 0]) (t := 24) ?hr ?_; (case hd => rfl); (case hg => rfl); (case hr => first | (go_simp; done) | (go_simp; rfl)); intro gb352 hg w13 hbox hb; replace HO350 := Aside0.mk (Kd.R_below (by (with_reducible repeat (first | apply Kd.R_alloc | apply Kd.R_drewN | apply Kd.R_drew)); exact HO350.out) hb); have BK352 := Aside0.mk (hbox); have GW352 := gw_ hg HB; have GE352 := gw_ hg HB; replace HB := sb_ HB hb; have NB346_352 := nl_ hg BK346; have NB352_346 := ng_ hg BK346; replace BK346 := kb_ BK346 hb; have NB347_352 := nl_ hg BK347; have NB352_347 := ng_ hg BK347; replace BK347 := kb_ BK347 hb; clear hb hbox hg; obtain ⟨Ao14, co14, eo14⟩ := Kd.R_slice HO350.out; subst eo14; have hnb15 := NB352_346.out; have hnc15 := NB346_352.out; have hnb16 := NB352_347.out; have hnc16 := NB347_352.out; have hcz17_0 := cz_ BK352 0 (.slice none 0 0); have hcz17_1 := cz_ BK352 1 (.int .i64 0); have hfz17_0 := blk_frozen BK352.out 0; have hfz17_1 := blk_frozen BK352.out 1) | ((with_reducible refine gate_store (t := 24) (p := 7) rfl ?_); refine store_event (t := 24) (p := 7) (v := ?vo_w18) (w1 := ((w13.setCell ⟨gb352, 0, none⟩ (.slice Ao14 t348.length co14)).setCell ⟨gb352, 1, none⟩ (.int .i64 t351))) ?hg ?ho ?hn ?hr ?_; (case ho => rfl); (case hg => rfl); (case hn => rfl); (case hr => first | (go_simp; done) | (go_simp; rfl)); intro w18 hw; have n0_ : Aside0 (Kd.R k56 56 w18 w.heap.size (fun _ => True) (.slice Ao14 t348.length co14) t348) := ⟨(by rw [hw]; exact (by (with_reducible repeat (first | apply Kd.R_alloc | apply Kd.R_drewN | apply Kd.R_drew)); exact Kd.R_mono (Kd.R_far (p := ⟨gb352, 1, none⟩) (Kd.R_far (p := ⟨gb352, 0, none⟩) (Kd.R_types HO350.out BK352.out (by decide)) (fun _ hk => hk.2) (.slice Ao14 t348.length co14)) (fun _ hk => hk.2) (.int .i64 t351)) (fun _ hk => trivial)))⟩; have n1_ : Aside0 (w18.heap[gb346]? = some (.cells #[.slice A0_0 l0_0.length c0_0, .int .i64 a0_1] 24 (0, 0))) := ⟨(by rw [hw]; exact (by (with_reducible repeat (first | refine blk_drewN ?_ _ | refine blk_drew ?_ | refine blk_alloc ?_ _)); refine blk_far ?_ NB346_352.out _; (with_reducible repeat (first | refine blk_drewN ?_ _ | refine blk_drew ?_ | refine blk_alloc ?_ _)); refine blk_far ?_ NB346_352.out _; (with_reducible repeat (first | refine blk_drewN ?_ _ | refine blk_drew ?_ | refine blk_alloc ?_ _)); exact BK346.out))⟩; have n2_ : Aside0 (w18.heap[gb347]? = some (.cells #[.slice none 0 0, .int .i64 0] 24 (0, 0))) := ⟨(by rw [hw]; exact (by (with_reducible repeat (first | refine blk_drewN ?_ _ | refine blk_drew ?_ | refine blk_alloc ?_ _)); refine blk_far ?_ NB347_352.out _; (with_reducible repeat (first | refine blk_drewN ?_ _ | refine blk_drew ?_ | refine blk_alloc ?_ _)); refine blk_far ?_ NB347_352.out _; (with_reducible repeat (first | refine blk_drewN ?_ _ | refine blk_drew ?_ | refine blk_alloc ?_ _)); exact BK347.out))⟩; have n3_ : Aside0 (w18.heap[gb352]? = some (.cells #[.slice Ao14 t348.length co14, .int .i64 t351] 24 (0, 0))) := ⟨(by rw [hw]; exact (by (with_reducible repeat (first | refine blk_drewN ?_ _ | refine blk_drew ?_ | refine blk_alloc ?_ _)); refine blk_put (cs := #[.slice Ao14 t348.length co14, .int .i64 0]) ?_ 1 _ rfl; (with_reducible repeat (first | refine blk_drewN ?_ _ | refine blk_drew ?_ | refine blk_alloc ?_ _)); refine blk_put (cs := #[.slice none 0 0, .int .i64 0]) ?_ 0 _ rfl; (with_reducible repeat (first | refine blk_drewN ?_ _ | refine blk_drew ?_ | refine blk_alloc ?_ _)); exact BK352.out))⟩; have n4_ : Aside0 (Below w.heap.size w w18) := ⟨(by rw [hw]; exact (pb_ HB))⟩; clear hw; clear HO350; clear BK346; clear BK347; clear BK352; clear HB; have HO350 := n0_; have BK346 := n1_; have BK347 := n2_; have BK352 := n3_; have HB := n4_; clear n0_ n1_ n2_ n3_ n4_; have hcz19_0 := cz_ BK352 0 (.slice Ao14 t348.length co14); have hcz19_1 := cz_ BK352 1 (.int .i64 t351); have hfz19_0 := blk_frozen BK352.out 0; have hfz19_1 := blk_frozen BK352.out 1; have p7 : 0 ≤ (a1 : Int) := ct_; have q7 : (a1 : Int) < ((t348.length : Int) : Int) := ct_; obtain ⟨go7, co7, eo7, gb7, gl7, cl7, HG7⟩ := Kd.R_form HO350.out (by omega); (first | cases eo7 | (injection eo7 with ea_ en_ ec_; (first | subst ea_ | (injection ea_ with ea_; subst ea_)); subst ec_; clear en_)); have GB7 := Aside0.mk gb7; have GG7 := Aside0.mk HG7; clear gb7 gl7 HG7; obtain ⟨ce7, hcl7, hM7, hcc7, hfr7⟩ := Kd.R_elem HO350.out z56 (a1 : Int) p7 q7; obtain rfl := k56_openM hM7; have hx7_0 : w18.cell? ⟨go7, (a1 : Int).toNat * 2, none⟩ = some (.int .i64 ((rd_T56 t348 a1).f0)) := hcc7 0 _ rfl; have hx7_1 : w18.cell? ⟨go7, (a1 : Int).toNat * 2 + 1, none⟩ = some (.string ((rd_T56 t348 a1).f1)) := hcc7 1 _ rfl; have hf7_0 : w18.frozen? ⟨go7, (a1 : Int).toNat * 2, none⟩ = false := hfr7 0; have hf7_1 : w18.frozen? ⟨go7, (a1 : Int).toNat * 2 + 1, none⟩ = false := hfr7 1; clear hcl7 hcc7 hfr7 hM7; replace p7 := eq_true p7; replace q7 := eq_true q7; have HX20 := Aside0.mk (show Kd.R k56 56 w18 w.heap.size (fun _ => True) (.slice (some ⟨go7, 0, none⟩) t348.length co14) t348 from (by (with_reducible repeat (first | apply Kd.R_alloc | apply Kd.R_drewN | apply Kd.R_drew)); exact HO350.out)); obtain ⟨ce20, hcl20, hM20, hcc20, hfr20⟩ := Kd.R_elem HX20.out z56 (a1 : Int) (ct_) (by have h_ : (a1 : Int) < ((t348.length : Int) : Int) := ct_; first | exact h_ | (have e_ := (Kd.R_reads' HO350.out).1; omega) | simpa using h_); obtain rfl := k56_openM hM20; have HP20 := Kd.R_seg HX20.out (a1 : Int) (ct_) (by have h_ : (a1 : Int) < ((t348.length : Int) : Int) := ct_; first | exact h_ | (have e_ := (Kd.R_reads' HO350.out).1; omega) | simpa using h_) (seg := [.string a2]) (j := 1) hcl20 hcc20 (show 2 ≤ 2 from by decide) (x' := (⟨(rd_T56 t348 a1).f0, a2⟩ : S56)) (k56_mkM _ _ _ (⟨(rd_T56 t348 a1).f0, a2⟩ : S56) ) (fun _ hk => hk); have hx20_1 := hcc20 1 _ rfl; (try simp only [show (k56).sz = 2 from rfl, Nat.mul_one, Nat.add_zero] at hx20_1); have hf20_1 := hfr20 1; (try simp only [show (k56).sz = 2 from rfl, Nat.mul_one, Nat.add_zero] at hf20_1); clear hcl20 hcc20 hfr20 hM20) | ((with_reducible refine gate_store (t := 9) (p := 15) rfl ?_); refine store_event (t := 9) (p := 15) (v := ?vo_w21) (w1 := (w18.setCell ⟨go7, (a1 : Int).toNat * 2 + 1, none⟩ (.string a2))) ?hg ?ho ?hn ?hr ?_; (case ho => rfl); (case hg => rfl); (case hn => rfl); (case hr => first | (go_simp; done) | (go_simp; rfl)); intro w21 hw; have hg : w18.grownBy w21 (some go7) := (by rw [hw]; exact HP20.2); have hp_ : Kd.R k56 56 w21 w.heap.size (fun _ => True) (.slice (some ⟨go7, 0, none⟩) t348.length co14) y353 := (by rw [hw, Ny353.out]; exact HP20.1); clear HP20; replace BK346 := Aside0.mk (blk_grown (g := gb346) (o := .cells #[.slice A0_0 l0_0.length c0_0, .int .i64 a0_1] 24 (0, 0)) (pk_ BK346) hg (Kd.R_ne HO350.out BK346.out (by decide))); replace BK347 := Aside0.mk (blk_grown (g := gb347) (o := .cells #[.slice none 0 0, .int .i64 0] 24 (0, 0)) (pk_ BK347) hg (Kd.R_ne HO350.out BK347.out (by decide))); replace BK352 := Aside0.mk (blk_grown (g := gb352) (o := .cells #[.slice (some ⟨go7, 0, none⟩) t348.length co14, .int .i64 t351] 24 (0, 0)) (pk_ BK352) hg (Kd.R_ne HO350.out BK352.out (by decide))); replace HO350 := Aside0.mk (hp_); replace HB := Aside0.mk ((by rw [hw]; exact below_set (HB.out) GB7.out : Below w.heap.size w w21)); clear hg hw hp_; have hcz22_0 := cz_ BK352 0 (.slice (some ⟨go7, 0, none⟩) t348.length co14); have hcz22_1 := cz_ BK352 1 (.int .i64 t351); have hfz22_0 := blk_frozen BK352.out 0; have hfz22_1 := blk_frozen BK352.out 1; have hcz23_0 := cz_ BK347 0 (.slice none 0 0); have hcz23_1 := cz_ BK347 1 (.int .i64 0); have hfz23_0 := blk_frozen BK347.out 0; have hfz23_1 := blk_frozen BK347.out 1))
      refine bodyPost_ret (results_cell_row rfl _ _ gb347 24 #[.slice (some ⟨go7, 0, none⟩) t348.length co14, .int .i64 t351] (0, 0) _ rfl (by (with_reducible repeat (first | refine blk_drewN ?_ _ | refine blk_drew ?_ | refine blk_alloc ?_ _)); refine blk_put (cs := #[.slice (some ⟨go7, 0, none⟩) t348.length co14, .int .i64 0]) ?_ 1 _ rfl; (with_reducible repeat (first | refine blk_drewN ?_ _ | refine blk_drew ?_ | refine blk_alloc ?_ _)); refine blk_put (cs := #[.slice none 0 0, .int .i64 0]) ?_ 0 _ rfl; (with_reducible repeat (first | refine blk_drewN ?_ _ | refine blk_drew ?_ | refine blk_alloc ?_ _)); exact BK347.out) Try.underlying24 rfl (by kernel_rfl)) rfl ?_
      exact ⟨_, er_, by (with_reducible repeat (first | apply Kd.R_alloc | apply Kd.R_drewN | apply Kd.R_drew)); exact Kd.R_mono (Kd.R_far (p := ⟨gb347, 1, none⟩) (Kd.R_far (p := ⟨gb347, 0, none⟩) (Kd.R_types HO350.out BK347.out (by decide)) (fun _ hk => hk.2) (.slice (some ⟨go7, 0, none⟩) t348.length co14)) (fun _ hk => hk.2) (.int .i64 t351)) (fun _ hk => trivial), pb_ HB⟩
    · rw [if_neg c6] at H
      exact absurd H (by simp)
  · rw [if_neg c5] at H
    exact absurd H (by simp)

end Go.Proofs.Ytoabahlaicgmjaa.X
end
