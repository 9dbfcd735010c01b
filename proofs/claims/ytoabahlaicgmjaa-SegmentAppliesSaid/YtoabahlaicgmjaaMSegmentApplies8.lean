-- Texts of this claim joined by merge.py, a program of its author; what this claim does not reach is left out.
import Derived.Test.YtoabahlaicgmjaaMSegmentApplies7
section
namespace Go.Proofs.Ytoabahlaicgmjaa.X
open Go.Proofs.Ytoabahlaicgmjaa.XW
open Go.RowKit Go.Proofs.YtoabahlaicgmjaaW.PrintWords Go.Proofs.YtoabahlaicgmjaaW.PrintLast Go.Proofs.YtoabahlaicgmjaaW.PrintMore
attribute [local go_sem] max2_int min2_int max_two min_two max_three min_three max_four min_four   -- for this text's walks alone
set_option linter.unusedVariables false
set_option linter.unusedSimpArgs false

/-! ### midrangebase_Within: function 30 -/
def midrangebase_Within.f (a0 : Int) (a1 : Int) (a2 : Int) : Option (Bool) := if a1 ≤ a0 then (some (decide (a0 ≤ a2))) else (some false)
set_option maxHeartbeats 8000000 in
set_option maxRecDepth 100000 in
theorem midrangebase_Within.calls (a0 : Int) (a1 : Int) (a2 : Int) (r : Bool) (w : World) (h : midrangebase_Within.f a0 a1 a2 = some r) :
    Calls Try.prog 30 #[.int .i64 a0, .int .i64 a1, .int .i64 a2] w fun e w' => e = .returned (.bool r) ∧ Drawn0 w w' := by
  have H : (if a1 ≤ a0 then (some (decide (a0 ≤ a2))) else (some false)) = some r := h
  clear h
  by_cases c4 : a1 ≤ a0
  · rw [if_pos c4] at H
    have c4b0 : decide (a1 ≤ a0) = true := decide_eq_true c4
    clear c4
    obtain rfl := Option.some.inj H
    go_enter Try.func30, Try.ntmps30
    go_wp2
    go_ret
    exact ⟨by first | rfl | (simp; done) | (simp [*]; done), by repeat (first | exact Drawn0.refl _ | apply Drawn0.step)⟩
  · rw [if_neg c4] at H
    have c4b0 : decide (a1 ≤ a0) = false := decide_eq_false c4
    clear c4
    obtain rfl := Option.some.inj H
    go_enter Try.func30, Try.ntmps30
    go_wp2
    go_ret
    exact ⟨by first | rfl | (simp; done) | (simp [*]; done), by repeat (first | exact Drawn0.refl _ | apply Drawn0.step)⟩

/-! ### midrangeref04_Pages: function 46 -/
def midrangeref04_Pages.f (a0 : ByteArray) : Option (Int) := some (wrap64 ((a0.size : Int) / 32))
set_option maxHeartbeats 8000000 in
set_option maxRecDepth 100000 in
theorem midrangeref04_Pages.calls (a0 : ByteArray) (r : Int) (w : World) (h : midrangeref04_Pages.f a0 = some r) :
    Calls Try.prog 46 #[.string a0] w fun e w' => e = .returned (.int .i64 r) ∧ Drawn0 w w' := by
  have H : (some (wrap64 ((a0.size : Int) / 32))) = some r := h
  clear h
  obtain rfl := Option.some.inj H
  go_enter Try.func46, Try.ntmps46
  go_wp2
  go_ret
  exact ⟨by first | rfl | (simp; done) | (simp [*]; done), by repeat (first | exact Drawn0.refl _ | apply Drawn0.step)⟩

end Go.Proofs.Ytoabahlaicgmjaa.X
end
section
namespace Go.Proofs.Ytoabahlaicgmjaa.X
open Go.Proofs.Ytoabahlaicgmjaa.XW Go.Proofs.Ytoabahlaicgmjaa.XS
open Go.RowKit Go.Proofs.YtoabahlaicgmjaaW.PrintWords Go.Proofs.YtoabahlaicgmjaaW.PrintLast Go.Proofs.YtoabahlaicgmjaaW.PrintMore
attribute [local go_sem] max2_int min2_int max_two min_two max_three min_three max_four min_four   -- for this text's walks alone
set_option linter.unusedVariables false
set_option linter.unusedSimpArgs false

/-! ### midrangeref04_Check: function 20 -/
mutual
def midrangeref04_Check.l0 : Nat → Int → List (S56) → Int → Option (Int × Int)
  | 0, _, _, _ => none
  | k + 1, x4, x171000, x171001 => if x4 < (x171000.length : Int) then (if 0 ≤ x4 then ((midrangebase_Within.f ((rd_T56 x171000 x4).f0) 1 (wrap64 (x171001 - 1))).bind fun t174 => (if t174 = true then (if x4 > 0 then (if 0 ≤ (wrap64 (x4 - 1)) then (if (wrap64 (x4 - 1)) < (x171000.length : Int) then (midrangeref04_Check.j1 k x4 (decide (((rd_T56 x171000 x4).f0) ≤ ((rd_T56 x171000 (wrap64 (x4 - 1))).f0))) x171000 x171001 ((rd_T56 x171000 x4).f0) ((rd_T56 x171000 x4).f1)) else (none)) else (none)) else (midrangeref04_Check.j1 k x4 false x171000 x171001 ((rd_T56 x171000 x4).f0) ((rd_T56 x171000 x4).f1))) else (some (x4, 3)))) else (none)) else (some (0, 0))
def midrangeref04_Check.j1 : Nat → Int → Bool → List (S56) → Int → Int → ByteArray → Option (Int × Int)
  | 0, _, _, _, _, _, _ => none
  | k + 1, x4, x47, x171000, x171001, x174000, x174001 => if x47 = true then (some (x4, 14)) else (if ((x174001.size : Int) % 32) = 0 then ((midrangeref04_Pages.f x174001).bind fun t176 => ((midrangebase_Within.f t176 1 8).bind fun t177 => (if t177 = true then (midrangeref04_Check.l0 k (wrap64 (x4 + 1)) x171000 x171001) else (some (x4, 18))))) else (some (x4, 18)))
end
def midrangeref04_Check.f (k : Nat) (l0_0 : List (S56)) (a0_1 : Int) : Option (Int × Int) := if (l0_0.length : Int) > 10 then (some (0, 2)) else ((midrangebase_Within.f a0_1 1 1001).bind fun t171 => (if t171 = true then (midrangeref04_Check.l0 k 0 l0_0 a0_1) else (some (0, 3))))
set_option maxHeartbeats 8000000 in
set_option maxRecDepth 100000 in
theorem midrangeref04_Check.calls (k : Nat) (A0_0 : Option Addr) (c0_0 : Nat) (l0_0 : List (S56)) (a0_1 : Int) (r1 : Int) (r2 : Int) (w : World) (hr0_0 : Kd.C k56 w A0_0 l0_0.length l0_0) (hc0_0 : l0_0.length ≤ c0_0) (h : midrangeref04_Check.f k l0_0 a0_1 = some (r1, r2)) :
    Calls Try.prog 20 #[.agg #[.slice A0_0 l0_0.length c0_0, .int .i64 a0_1]] w fun e w' => e = .returned (.tuple #[.int .i64 r1, .int .i64 r2]) ∧ Below w.heap.size w w' := by
  have hu24 := Try.underlying24
  have hu56 := Try.underlying56
  have HR0_0 := Aside0.mk hr0_0
  have HC0_0 := Aside0.mk hc0_0
  clear hr0_0 hc0_0
  have HB := Aside0.mk (Below.refl w.heap.size w)
  have H : (if (l0_0.length : Int) > 10 then (some (0, 2)) else ((midrangebase_Within.f a0_1 1 1001).bind fun t171 => (if t171 = true then (midrangeref04_Check.l0 k 0 l0_0 a0_1) else (some (0, 3))))) = some (r1, r2) := h
  clear h
  by_cases c2 : (l0_0.length : Int) > 10
  · rw [if_pos c2] at H
    have c2b0 : decide (10 < (l0_0.length : Int)) = true := decide_eq_true c2
    have c2b1 : decide (10 < l0_0.length) = true := decide_eq_true (by omega)
    clear c2
    simp only [Option.some.injEq, Prod.mk.injEq] at H
    obtain ⟨rfl, rfl⟩ := H
    go_enter Try.func20, Try.ntmps20
    go_wp2_with (first | ((with_reducible refine gate_dst (N := 1) rfl ?_); refine box_event ?hg (N := 1) ?hd (cs := #[.slice A0_0 l0_0.length c0_0, .int .i64 a0_1]) (t := 24) ?hr ?_; (case hd => rfl); (case hg => rfl); (case hr => first | (go_simp; done) | (go_simp; rfl)); intro gb170 hg w3 hbox hb; have BK170 := Aside0.mk (hbox); have GW170 := gw_ hg HB; have GE170 := gw_ hg HB; replace HB := sb_ HB hb; clear hb hbox hg; have hcz4_0 := cz_ BK170 0 (.slice A0_0 l0_0.length c0_0); have hcz4_1 := cz_ BK170 1 (.int .i64 a0_1); have hfz4_0 := blk_frozen BK170.out 0; have hfz4_1 := blk_frozen BK170.out 1))
    repeat (go_quiet (first | ((with_reducible refine gate_dst (N := 1) rfl ?_); refine box_event ?hg (N := 1) ?hd (cs := #[.slice A0_0 l0_0.length c0_0, .int .i64 a0_1]) (t := 24) ?hr ?_; (case hd => rfl); (case hg => rfl); (case hr => first | (go_simp; done) | (go_simp; rfl)); intro gb170 hg w3 hbox hb; have BK170 := Aside0.mk (hbox); have GW170 := gw_ hg HB; have GE170 := gw_ hg HB; replace HB := sb_ HB hb; clear hb hbox hg; have hcz4_0 := cz_ BK170 0 (.slice A0_0 l0_0.length c0_0); have hcz4_1 := cz_ BK170 1 (.int .i64 a0_1); have hfz4_0 := blk_frozen BK170.out 0; have hfz4_1 := blk_frozen BK170.out 1)); try go_wp2_with (first | ((with_reducible refine gate_dst (N := 1) rfl ?_); refine box_event ?hg (N := 1) ?hd (cs := #[.slice A0_0 l0_0.length c0_0, .int .i64 a0_1]) (t := 24) ?hr ?_; (case hd => rfl); (case hg => rfl); (case hr => first | (go_simp; done) | (go_simp; rfl)); intro gb170 hg w3 hbox hb; have BK170 := Aside0.mk (hbox); have GW170 := gw_ hg HB; have GE170 := gw_ hg HB; replace HB := sb_ HB hb; clear hb hbox hg; have hcz4_0 := cz_ BK170 0 (.slice A0_0 l0_0.length c0_0); have hcz4_1 := cz_ BK170 1 (.int .i64 a0_1); have hfz4_0 := blk_frozen BK170.out 0; have hfz4_1 := blk_frozen BK170.out 1)))
    go_ret2
    exact ⟨er_, pb_ HB⟩
  · rw [if_neg c2] at H
    have c2b0 : decide (10 < (l0_0.length : Int)) = false := decide_eq_false c2
    have c2b1 : decide (10 < l0_0.length) = false := decide_eq_false (by omega)
    clear c2
    replace H := Option.bind_eq_some_iff.mp H
    obtain ⟨t171, A50, H⟩ := H
    replace H : (if t171 = true then (midrangeref04_Check.l0 k 0 l0_0 a0_1) else (some (0, 3))) = some (r1, r2) := H
    have A5 := Aside0.mk A50
    clear A50
    by_cases c6 : t171 = true
    · subst c6
      have H1 : (midrangeref04_Check.l0 k 0 l0_0 a0_1) = some (r1, r2) := by rw [if_pos rfl] at H; exact H
      clear H
      have H := H1
      clear H1
      have H' := Aside0.mk H
      clear H
      go_enter Try.func20, Try.ntmps20
      go_wp2_with (first | ((with_reducible refine gate_dst (N := 1) rfl ?_); refine box_event ?hg (N := 1) ?hd (cs := #[.slice A0_0 l0_0.length c0_0, .int .i64 a0_1]) (t := 24) ?hr ?_; (case hd => rfl); (case hg => rfl); (case hr => first | (go_simp; done) | (go_simp; rfl)); intro gb170 hg w7 hbox hb; have BK170 := Aside0.mk (hbox); have GW170 := gw_ hg HB; have GE170 := gw_ hg HB; replace HB := sb_ HB hb; clear hb hbox hg; have hcz8_0 := cz_ BK170 0 (.slice A0_0 l0_0.length c0_0); have hcz8_1 := cz_ BK170 1 (.int .i64 a0_1); have hfz8_0 := blk_frozen BK170.out 0; have hfz8_1 := blk_frozen BK170.out 1) | (go_at_call 30; (with_reducible refine (midrangebase_Within.calls a0_1 1 1001 true _ A5.out).mono ?_); rintro e w' ⟨rfl, ⟨nd, rfl⟩⟩; (try first | exact ⟨rfl, _, World.drewN_drewN _ _ _⟩ | exact ⟨rfl, _, Eq.trans (World.drewN_drewN _ _ _) (congrArg (World.drewN _) (Nat.add_assoc _ _ _))⟩)))
      repeat (go_quiet (first | ((with_reducible refine gate_dst (N := 1) rfl ?_); refine box_event ?hg (N := 1) ?hd (cs := #[.slice A0_0 l0_0.length c0_0, .int .i64 a0_1]) (t := 24) ?hr ?_; (case hd => rfl); (case hg => rfl); (case hr => first | (go_simp; done) | (go_simp; rfl)); intro gb170 hg w7 hbox hb; have BK170 := Aside0.mk (hbox); have GW170 := gw_ hg HB; have GE170 := gw_ hg HB; replace HB := sb_ HB hb; clear hb hbox hg; have hcz8_0 := cz_ BK170 0 (.slice A0_0 l0_0.length c0_0); have hcz8_1 := cz_ BK170 1 (.int .i64 a0_1); have hfz8_0 := blk_frozen BK170.out 0; have hfz8_1 := blk_frozen BK170.out 1) | (go_at_call 30; (with_reducible refine (midrangebase_Within.calls a0_1 1 1001 true _ A5.out).mono ?_); rintro e w' ⟨rfl, ⟨nd, rfl⟩⟩; (try first | exact ⟨rfl, _, World.drewN_drewN _ _ _⟩ | exact ⟨rfl, _, Eq.trans (World.drewN_drewN _ _ _) (congrArg (World.drewN _) (Nat.add_assoc _ _ _))⟩))); try go_wp2_with (first | ((with_reducible refine gate_dst (N := 1) rfl ?_); refine box_event ?hg (N := 1) ?hd (cs := #[.slice A0_0 l0_0.length c0_0, .int .i64 a0_1]) (t := 24) ?hr ?_; (case hd => rfl); (case hg => rfl); (case hr => first | (go_simp; done) | (go_simp; rfl)); intro gb170 hg w7 hbox hb; have BK170 := Aside0.mk (hbox); have GW170 := gw_ hg HB; have GE170 := gw_ hg HB; replace HB := sb_ HB hb; clear hb hbox hg; have hcz8_0 := cz_ BK170 0 (.slice A0_0 l0_0.length c0_0); have hcz8_1 := cz_ BK170 1 (.int .i64 a0_1); have hfz8_0 := blk_frozen BK170.out 0; have hfz8_1 := blk_frozen BK170.out 1) | (go_at_call 30; (with_reducible refine (midrangebase_Within.calls a0_1 1 1001 true _ A5.out).mono ?_); rintro e w' ⟨rfl, ⟨nd, rfl⟩⟩; (try first | exact ⟨rfl, _, World.drewN_drewN _ _ _⟩ | exact ⟨rfl, _, Eq.trans (World.drewN_drewN _ _ _) (congrArg (World.drewN _) (Nat.add_assoc _ _ _))⟩))))
      go_loopg [4] k (fun kq v4 w' => ∃ (x4_1 : Int), v4 = .int .i64 x4_1 ∧ Aside0 (midrangeref04_Check.l0 kq x4_1 l0_0 a0_1 = some (r1, r2)) ∧ Aside0 (kq ≤ k) ∧ Aside0 (w'.heap[gb170]? = some (.cells #[(.slice A0_0 l0_0.length c0_0), .int .i64 a0_1] 24 (0, 0))) ∧ Aside0 (Below w.heap.size w w'))
      case atStart => exact ⟨(0), (by first | rfl | (simp; done) | (simp [*]; done)), H', ⟨Nat.le_refl _⟩, ⟨pk_ BK170⟩, ⟨pb_ HB⟩⟩
      case round =>
        clear H'
        try clear c2
        try clear c2b0
        try clear c2b1
        try clear p2
        try clear c6
        try clear hcz4_0
        try clear hcz4_1
        try clear hcz8_0
        try clear hcz8_1
        try clear hfz4_0
        try clear hfz4_1
        try clear hfz8_0
        try clear hfz8_1
        obtain ⟨x4_1, rfl, HA, HK1, BK170, HB⟩ := hrel
        cases gk with
        | zero => exact absurd HA.out (by simp [midrangeref04_Check.l0])
        | succ k1 =>
          have H := HA.out
          clear HA
          simp only [midrangeref04_Check.l0] at H
          by_cases c9 : x4_1 < (l0_0.length : Int)
          · rw [if_pos c9] at H
            have c9b0 : decide (x4_1 < (l0_0.length : Int)) = true := decide_eq_true c9
            clear c9
            by_cases c10 : 0 ≤ x4_1
            · rw [if_pos c10] at H
              have c10b0 : decide (0 ≤ x4_1) = true := decide_eq_true c10
              clear c10
              replace H := Option.bind_eq_some_iff.mp H
              obtain ⟨t174, A110, H⟩ := H
              replace H : (if t174 = true then (if x4_1 > 0 then (if 0 ≤ (wrap64 (x4_1 - 1)) then (if (wrap64 (x4_1 - 1)) < (l0_0.length : Int) then (midrangeref04_Check.j1 k1 x4_1 (decide (((rd_T56 l0_0 x4_1).f0) ≤ ((rd_T56 l0_0 (wrap64 (x4_1 - 1))).f0))) l0_0 a0_1 ((rd_T56 l0_0 x4_1).f0) ((rd_T56 l0_0 x4_1).f1)) else (none)) else (none)) else (midrangeref04_Check.j1 k1 x4_1 false l0_0 a0_1 ((rd_T56 l0_0 x4_1).f0) ((rd_T56 l0_0 x4_1).f1))) else (some (x4_1, 3))) = some (r1, r2) := H
              have A11 := Aside0.mk A110
              clear A110
              by_cases c12 : t174 = true
              · subst c12
                have H1 : (if x4_1 > 0 then (if 0 ≤ (wrap64 (x4_1 - 1)) then (if (wrap64 (x4_1 - 1)) < (l0_0.length : Int) then (midrangeref04_Check.j1 k1 x4_1 (decide (((rd_T56 l0_0 x4_1).f0) ≤ ((rd_T56 l0_0 (wrap64 (x4_1 - 1))).f0))) l0_0 a0_1 ((rd_T56 l0_0 x4_1).f0) ((rd_T56 l0_0 x4_1).f1)) else (none)) else (none)) else (midrangeref04_Check.j1 k1 x4_1 false l0_0 a0_1 ((rd_T56 l0_0 x4_1).f0) ((rd_T56 l0_0 x4_1).f1))) = some (r1, r2) := by rw [if_pos rfl] at H; exact H
                clear H
                have H := H1
                clear H1
                have HC13 := Aside0.mk H
                clear H
                have hcz14_0 := cz_ BK170 0 (.slice A0_0 l0_0.length c0_0)
                have hcz14_1 := cz_ BK170 1 (.int .i64 a0_1)
                have hfz14_0 := blk_frozen BK170.out 0
                have hfz14_1 := blk_frozen BK170.out 1
                have p172 : 0 ≤ (x4_1 : Int) := ct_
                have q172 : x4_1 < (l0_0.length : Int) := ct_
                obtain ⟨ad172, e172, hx172_0, hx172_1⟩ := at_T56 HR0_0.out x4_1 p172 q172
                cases e172
                replace hx172_0 := (HB.out.cell (World.block_lt_of_cell? w _ hx172_0)).trans hx172_0
                replace hx172_1 := (HB.out.cell (World.block_lt_of_cell? w _ hx172_1)).trans hx172_1
                replace p172 := eq_true p172
                replace q172 := eq_true q172
                go_upto_region 11 with (first | ((with_reducible refine gate_dst (N := 5) rfl ?_); refine box_event ?hg (N := 5) ?hd (cs := #[.int .i64 0, .string (⟨#[]⟩ : ByteArray)]) (t := 56) ?hr ?_; (case hd => rfl); (case hg => rfl); (case hr => first | (go_simp; done) | (go_simp; rfl)); intro gb173 hg w15 hbox hb; have BK173 := Aside0.mk (hbox); have GW173 := gw_ hg HB; have GE173 := gw_ hg HB; replace HB := sb_ HB hb; have NB170_173 := nl_ hg BK170; have NB173_170 := ng_ hg BK170; replace BK170 := kb_ BK170 hb; clear hb hbox hg; have hnb16 := NB173_170.out; have hnc16 := NB170_173.out; have hcz17_0 := cz_ BK173 0 (.int .i64 0); have hcz17_1 := cz_ BK173 1 (.string (⟨#[]⟩ : ByteArray)); have hfz17_0 := blk_frozen BK173.out 0; have hfz17_1 := blk_frozen BK173.out 1; have hcz18_0 := cz_ BK170 0 (.slice (some ad172) l0_0.length c0_0); have hcz18_1 := cz_ BK170 1 (.int .i64 a0_1); have hfz18_0 := blk_frozen BK170.out 0; have hfz18_1 := blk_frozen BK170.out 1) | (go_at_call 30; (with_reducible refine (midrangebase_Within.calls ((rd_T56 l0_0 x4_1).f0) 1 (wrap64 (a0_1 - 1)) true _ A11.out).mono ?_); rintro e w' ⟨rfl, ⟨nd, rfl⟩⟩; (try first | exact ⟨rfl, _, World.drewN_drewN _ _ _⟩ | exact ⟨rfl, _, Eq.trans (World.drewN_drewN _ _ _) (congrArg (World.drewN _) (Nat.add_assoc _ _ _))⟩)))
                repeat (go_quiet (first | ((with_reducible refine gate_dst (N := 5) rfl ?_); refine box_event ?hg (N := 5) ?hd (cs := #[.int .i64 0, .string (⟨#[]⟩ : ByteArray)]) (t := 56) ?hr ?_; (case hd => rfl); (case hg => rfl); (case hr => first | (go_simp; done) | (go_simp; rfl)); intro gb173 hg w15 hbox hb; have BK173 := Aside0.mk (hbox); have GW173 := gw_ hg HB; have GE173 := gw_ hg HB; replace HB := sb_ HB hb; have NB170_173 := nl_ hg BK170; have NB173_170 := ng_ hg BK170; replace BK170 := kb_ BK170 hb; clear hb hbox hg; have hnb16 := NB173_170.out; have hnc16 := NB170_173.out; have hcz17_0 := cz_ BK173 0 (.int .i64 0); have hcz17_1 := cz_ BK173 1 (.string (⟨#[]⟩ : ByteArray)); have hfz17_0 := blk_frozen BK173.out 0; have hfz17_1 := blk_frozen BK173.out 1; have hcz18_0 := cz_ BK170 0 (.slice (some ad172) l0_0.length c0_0); have hcz18_1 := cz_ BK170 1 (.int .i64 a0_1); have hfz18_0 := blk_frozen BK170.out 0; have hfz18_1 := blk_frozen BK170.out 1) | (go_at_call 30; (with_reducible refine (midrangebase_Within.calls ((rd_T56 l0_0 x4_1).f0) 1 (wrap64 (a0_1 - 1)) true _ A11.out).mono ?_); rintro e w' ⟨rfl, ⟨nd, rfl⟩⟩; (try first | exact ⟨rfl, _, World.drewN_drewN _ _ _⟩ | exact ⟨rfl, _, Eq.trans (World.drewN_drewN _ _ _) (congrArg (World.drewN _) (Nat.add_assoc _ _ _))⟩))); go_upto_region 11 with (first | ((with_reducible refine gate_dst (N := 5) rfl ?_); refine box_event ?hg (N := 5) ?hd (cs := #[.int .i64 0, .string (⟨#[]⟩ : ByteArray)]) (t := 56) ?hr ?_; (case hd => rfl); (case hg => rfl); (case hr => first | (go_simp; done) | (go_simp; rfl)); intro gb173 hg w15 hbox hb; have BK173 := Aside0.mk (hbox); have GW173 := gw_ hg HB; have GE173 := gw_ hg HB; replace HB := sb_ HB hb; have NB170_173 := nl_ hg BK170; have NB173_170 := ng_ hg BK170; replace BK170 := kb_ BK170 hb; clear hb hbox hg; have hnb16 := NB173_170.out; have hnc16 := NB170_173.out; have hcz17_0 := cz_ BK173 0 (.int .i64 0); have hcz17_1 := cz_ BK173 1 (.string (⟨#[]⟩ : ByteArray)); have hfz17_0 := blk_frozen BK173.out 0; have hfz17_1 := blk_frozen BK173.out 1; have hcz18_0 := cz_ BK170 0 (.slice (some ad172) l0_0.length c0_0); have hcz18_1 := cz_ BK170 1 (.int .i64 a0_1); have hfz18_0 := blk_frozen BK170.out 0; have hfz18_1 := blk_frozen BK170.out 1) | (go_at_call 30; (with_reducible refine (midrangebase_Within.calls ((rd_T56 l0_0 x4_1).f0) 1 (wrap64 (a0_1 - 1)) true _ A11.out).mono ?_); rintro e w' ⟨rfl, ⟨nd, rfl⟩⟩; (try first | exact ⟨rfl, _, World.drewN_drewN _ _ _⟩ | exact ⟨rfl, _, Eq.trans (World.drewN_drewN _ _ _) (congrArg (World.drewN _) (Nat.add_assoc _ _ _))⟩))))
                (try simp only [Act.put, List.setIfInBounds_toArray, List.set_cons_zero, List.set_cons_succ])
                go_cut [47] (fun v47 wc => ∃ (kq : Nat) (x47_12 : Bool), v47 = .bool x47_12 ∧ Aside0 (midrangeref04_Check.j1 kq x4_1 x47_12 l0_0 a0_1 ((rd_T56 l0_0 x4_1).f0) ((rd_T56 l0_0 x4_1).f1) = some (r1, r2)) ∧ Aside0 (kq ≤ k1) ∧ Aside0 (wc.heap[gb170]? = some (.cells #[(.slice (some ad172) l0_0.length c0_0), .int .i64 a0_1] 24 (0, 0))) ∧ Aside0 (wc.heap[gb173]? = some (.cells #[.int .i64 ((rd_T56 l0_0 x4_1).f0), .string ((rd_T56 l0_0 x4_1).f1)] 56 (0, 0))) ∧ Aside0 (Below w.heap.size w wc))
                case first =>
                  have H := HC13.out
                  clear HC13
                  by_cases c19 : x4_1 > 0
                  · rw [if_pos c19] at H
                    have c19b0 : decide (0 < x4_1) = true := decide_eq_true c19
                    clear c19
                    (first | rw [c19b0] | (simp only [i64_w, i32_w]; rw [c19b0]) | skip)
                    obtain ⟨ji20, hji20⟩ : ∃ j_ : Int, (wrap64 (x4_1 - 1)) = j_ := ⟨_, rfl⟩
                    replace H : (if 0 ≤ (ji20) then (if (ji20) < (l0_0.length : Int) then (midrangeref04_Check.j1 k1 x4_1 (decide (((rd_T56 l0_0 x4_1).f0) ≤ ((rd_T56 l0_0 (ji20)).f0))) l0_0 a0_1 ((rd_T56 l0_0 x4_1).f0) ((rd_T56 l0_0 x4_1).f1)) else (none)) else (none)) = some (r1, r2) := by first | (rw [hji20] at H; exact H) | (simp only [hji20] at H ⊢; exact H)
                    have hji20w : (IntKind.i64.wrap (x4_1 - 1)) = ji20 := (i64_w _).trans hji20
                    by_cases c21 : 0 ≤ (ji20)
                    · rw [if_pos c21] at H
                      have c21b0 : decide (0 ≤ (ji20)) = true := decide_eq_true c21
                      clear c21
                      by_cases c22 : (ji20) < (l0_0.length : Int)
                      · rw [if_pos c22] at H
                        have c22b0 : decide ((ji20) < (l0_0.length : Int)) = true := decide_eq_true c22
                        clear c22
                        have H' := Aside0.mk H
                        clear H
                        have hnb23 := NB173_170.out
                        have hnc23 := NB170_173.out
                        have hcz24_0 := cz_ BK173 0 (.int .i64 0)
                        have hcz24_1 := cz_ BK173 1 (.string (⟨#[]⟩ : ByteArray))
                        have hfz24_0 := blk_frozen BK173.out 0
                        have hfz24_1 := blk_frozen BK173.out 1
                        have hcz25_0 := cz_ BK170 0 (.slice (some ad172) l0_0.length c0_0)
                        have hcz25_1 := cz_ BK170 1 (.int .i64 a0_1)
                        have hfz25_0 := blk_frozen BK170.out 0
                        have hfz25_1 := blk_frozen BK170.out 1
                        have p175 : 0 ≤ ((ji20) : Int) := ct_
                        have q175 : (ji20) < (l0_0.length : Int) := ct_
                        obtain ⟨ad175, e175, hx175_0, hx175_1⟩ := at_T56 HR0_0.out (ji20) p175 q175
                        obtain rfl : ad172 = ad175 := (by injection e175)
                        have hn175_0 : ad172.block ≠ gb173 := Nat.ne_of_lt (Nat.lt_of_lt_of_le (by have := World.block_lt_of_cell? _ _ hx175_0; first | rwa [add_block] at this | exact this) GW173.out)
                        have hn175_1 : ad172.block ≠ gb173 := Nat.ne_of_lt (Nat.lt_of_lt_of_le (by have := World.block_lt_of_cell? _ _ hx175_0; first | rwa [add_block] at this | exact this) GW173.out)
                        replace hx175_0 := (HB.out.cell (World.block_lt_of_cell? w _ hx175_0)).trans hx175_0
                        replace hx175_1 := (HB.out.cell (World.block_lt_of_cell? w _ hx175_1)).trans hx175_1
                        replace hx175_0 := (cell_far (p := ⟨gb173, 0, none⟩) (by first | (rw [add_block]; exact hn175_0) | (show (Addr.add _ _).block ≠ _; rw [add_block]; exact hn175_0) | exact hn175_0) (.int .i64 ((rd_T56 l0_0 x4_1).f0))).trans hx175_0
                        replace hx175_1 := (cell_far (p := ⟨gb173, 0, none⟩) (by first | (rw [add_block]; exact hn175_0) | (show (Addr.add _ _).block ≠ _; rw [add_block]; exact hn175_0) | exact hn175_0) (.int .i64 ((rd_T56 l0_0 x4_1).f0))).trans hx175_1
                        replace hx175_0 := (cell_far (p := ⟨gb173, 1, none⟩) (by first | (rw [add_block]; exact hn175_1) | (show (Addr.add _ _).block ≠ _; rw [add_block]; exact hn175_1) | exact hn175_1) (.string ((rd_T56 l0_0 x4_1).f1))).trans hx175_0
                        replace hx175_1 := (cell_far (p := ⟨gb173, 1, none⟩) (by first | (rw [add_block]; exact hn175_1) | (show (Addr.add _ _).block ≠ _; rw [add_block]; exact hn175_1) | exact hn175_1) (.string ((rd_T56 l0_0 x4_1).f1))).trans hx175_1
                        (try have hy175_0 := fun (n_ : Nat) => (show ((((w15.drewN n_).setCell ⟨gb173, 0, none⟩ (.int .i64 ((rd_T56 l0_0 x4_1).f0))).setCell ⟨gb173, 1, none⟩ (.string ((rd_T56 l0_0 x4_1).f1)))).cell? _ = some _ from hx175_0))
                        (try have hy175_1 := fun (n_ : Nat) => (show ((((w15.drewN n_).setCell ⟨gb173, 0, none⟩ (.int .i64 ((rd_T56 l0_0 x4_1).f0))).setCell ⟨gb173, 1, none⟩ (.string ((rd_T56 l0_0 x4_1).f1)))).cell? _ = some _ from hx175_1))
                        clear hn175_0
                        clear hn175_1
                        replace p175 := eq_true p175
                        replace q175 := eq_true q175
                        go_wp2
                        repeat (go_quiet (fail); try go_wp2)
                        go_meet
                        case rel => exact ⟨_, (decide (((rd_T56 l0_0 x4_1).f0) ≤ ((rd_T56 l0_0 (ji20)).f0))), (by first | rfl | (simp; done) | (simp only [← hji20] <;> (first | rfl | simp)) | (simp [*]; done)), H', ⟨by have := HK1.out; first | omega | exact Nat.le_refl _⟩, ⟨by (with_reducible repeat (first | refine blk_drewN ?_ _ | refine blk_drew ?_ | refine blk_alloc ?_ _)); refine blk_far ?_ NB170_173.out _; (with_reducible repeat (first | refine blk_drewN ?_ _ | refine blk_drew ?_ | refine blk_alloc ?_ _)); refine blk_far ?_ NB170_173.out _; (with_reducible repeat (first | refine blk_drewN ?_ _ | refine blk_drew ?_ | refine blk_alloc ?_ _)); exact BK170.out⟩, ⟨by (with_reducible repeat (first | refine blk_drewN ?_ _ | refine blk_drew ?_ | refine blk_alloc ?_ _)); refine blk_put (cs := #[.int .i64 ((rd_T56 l0_0 x4_1).f0), .string (⟨#[]⟩ : ByteArray)]) ?_ 1 _ rfl; (with_reducible repeat (first | refine blk_drewN ?_ _ | refine blk_drew ?_ | refine blk_alloc ?_ _)); refine blk_put (cs := #[.int .i64 0, .string (⟨#[]⟩ : ByteArray)]) ?_ 0 _ rfl; (with_reducible repeat (first | refine blk_drewN ?_ _ | refine blk_drew ?_ | refine blk_alloc ?_ _)); exact BK173.out⟩, ⟨pb_ HB⟩⟩
                      · rw [if_neg c22] at H
                        exact absurd H (by simp)
                    · rw [if_neg c21] at H
                      exact absurd H (by simp)
                  · rw [if_neg c19] at H
                    have c19b0 : decide (0 < x4_1) = false := decide_eq_false c19
                    clear c19
                    (first | rw [c19b0] | (simp only [i64_w, i32_w]; rw [c19b0]) | skip)
                    have H' := Aside0.mk H
                    clear H
                    go_wp2
                    repeat (go_quiet (fail); try go_wp2)
                    go_meet
                    case rel => exact ⟨_, (false), (by first | rfl | (simp; done) | (simp [*]; done)), H', ⟨by have := HK1.out; first | omega | exact Nat.le_refl _⟩, ⟨by (with_reducible repeat (first | refine blk_drewN ?_ _ | refine blk_drew ?_ | refine blk_alloc ?_ _)); refine blk_far ?_ NB170_173.out _; (with_reducible repeat (first | refine blk_drewN ?_ _ | refine blk_drew ?_ | refine blk_alloc ?_ _)); refine blk_far ?_ NB170_173.out _; (with_reducible repeat (first | refine blk_drewN ?_ _ | refine blk_drew ?_ | refine blk_alloc ?_ _)); exact BK170.out⟩, ⟨by (with_reducible repeat (first | refine blk_drewN ?_ _ | refine blk_drew ?_ | refine blk_alloc ?_ _)); refine blk_put (cs := #[.int .i64 ((rd_T56 l0_0 x4_1).f0), .string (⟨#[]⟩ : ByteArray)]) ?_ 1 _ rfl; (with_reducible repeat (first | refine blk_drewN ?_ _ | refine blk_drew ?_ | refine blk_alloc ?_ _)); refine blk_put (cs := #[.int .i64 0, .string (⟨#[]⟩ : ByteArray)]) ?_ 0 _ rfl; (with_reducible repeat (first | refine blk_drewN ?_ _ | refine blk_drew ?_ | refine blk_alloc ?_ _)); exact BK173.out⟩, ⟨pb_ HB⟩⟩
                case rest =>
                  clear HC13
                  try clear c1
                  try clear p1
                  try clear q1
                  try clear hx1
                  try clear c2
                  try clear c2b0
                  try clear c2b1
                  try clear p2
                  try clear c6
                  try clear p6
                  try clear c9
                  try clear c9b0
                  try clear c10
                  try clear c10b0
                  try clear c12
                  try clear c16
                  try clear p17
                  try clear q17
                  try clear hx17
                  try clear c19
                  try clear c19b0
                  try clear c20
                  try clear c21
                  try clear c21b0
                  try clear c22
                  try clear c22b0
                  try clear c23
                  try clear hcz14_0
                  try clear hcz14_1
                  try clear hcz17_0
                  try clear hcz17_1
                  try clear hcz18_0
                  try clear hcz18_1
                  try clear hcz24_0
                  try clear hcz24_1
                  try clear hcz25_0
                  try clear hcz25_1
                  try clear hcz4_0
                  try clear hcz4_1
                  try clear hcz8_0
                  try clear hcz8_1
                  try clear hfz14_0
                  try clear hfz14_1
                  try clear hfz17_0
                  try clear hfz17_1
                  try clear hfz18_0
                  try clear hfz18_1
                  try clear hfz24_0
                  try clear hfz24_1
                  try clear hfz25_0
                  try clear hfz25_1
                  try clear hfz4_0
                  try clear hfz4_1
                  try clear hfz8_0
                  try clear hfz8_1
                  try clear hx172_0
                  try clear hx172_1
                  try clear hx175_0
                  try clear hx175_1
                  try clear p172
                  try clear p175
                  try clear p2
                  try clear q172
                  try clear q175
                  obtain ⟨kq, x47_12, rfl, HA, HJ12, BK170, BK173, HB⟩ := hcut
                  cases kq with
                  | zero => exact absurd HA.out (by simp [midrangeref04_Check.j1])
                  | succ kj12 =>
                    have H := HA.out
                    clear HA
                    simp only [midrangeref04_Check.j1] at H
                    by_cases c26 : x47_12 = true
                    · subst c26
                      have H1 : (some (x4_1, 14)) = some (r1, r2) := by rw [if_pos rfl] at H; exact H
                      clear H
                      have H := H1
                      clear H1
                      simp only [Option.some.injEq, Prod.mk.injEq] at H
                      obtain ⟨rfl, rfl⟩ := H
                      go_wp2
                      repeat (go_quiet (fail); try go_wp2)
                      go_ret2
                      exact ⟨er_, pb_ HB⟩
                    · replace c26 := Bool.eq_false_iff.mpr c26
                      subst c26
                      have H1 : (if ((((rd_T56 l0_0 x4_1).f1).size : Int) % 32) = 0 then ((midrangeref04_Pages.f ((rd_T56 l0_0 x4_1).f1)).bind fun t176 => ((midrangebase_Within.f t176 1 8).bind fun t177 => (if t177 = true then (midrangeref04_Check.l0 kj12 (wrap64 (x4_1 + 1)) l0_0 a0_1) else (some (x4_1, 18))))) else (some (x4_1, 18))) = some (r1, r2) := by rw [if_neg (show ¬ (false = true) by decide)] at H; exact H
                      clear H
                      have H := H1
                      clear H1
                      by_cases c27 : ((((rd_T56 l0_0 x4_1).f1).size : Int) % 32) = 0
                      · rw [if_pos c27] at H
                        have c27b0 : (((((rd_T56 l0_0 x4_1).f1).size : Int) % 32) == 0) = true := beq_iff_eq.mpr c27
                        have c27b1 : (((((rd_T56 l0_0 x4_1).f1).size : Int) % 32) != 0) = false := bne_eq_false_iff_eq.mpr c27
                        clear c27
                        replace H := Option.bind_eq_some_iff.mp H
                        obtain ⟨t176, A280, H⟩ := H
                        replace H : ((midrangebase_Within.f t176 1 8).bind fun t177 => (if t177 = true then (midrangeref04_Check.l0 kj12 (wrap64 (x4_1 + 1)) l0_0 a0_1) else (some (x4_1, 18)))) = some (r1, r2) := H
                        have A28 := Aside0.mk A280
                        clear A280
                        replace H := Option.bind_eq_some_iff.mp H
                        obtain ⟨t177, A290, H⟩ := H
                        replace H : (if t177 = true then (midrangeref04_Check.l0 kj12 (wrap64 (x4_1 + 1)) l0_0 a0_1) else (some (x4_1, 18))) = some (r1, r2) := H
                        have A29 := Aside0.mk A290
                        clear A290
                        by_cases c30 : t177 = true
                        · subst c30
                          have H1 : (midrangeref04_Check.l0 kj12 (wrap64 (x4_1 + 1)) l0_0 a0_1) = some (r1, r2) := by rw [if_pos rfl] at H; exact H
                          clear H
                          have H := H1
                          clear H1
                          have H' := Aside0.mk H
                          clear H
                          have hnb31 := NB173_170.out
                          have hnc31 := NB170_173.out
                          have hcz32_0 := cz_ BK173 0 (.int .i64 ((rd_T56 l0_0 x4_1).f0))
                          have hcz32_1 := cz_ BK173 1 (.string ((rd_T56 l0_0 x4_1).f1))
                          have hfz32_0 := blk_frozen BK173.out 0
                          have hfz32_1 := blk_frozen BK173.out 1
                          go_wp2_with (first | (go_at_call 46; (with_reducible refine (midrangeref04_Pages.calls ((rd_T56 l0_0 x4_1).f1) t176 _ A28.out).mono ?_); rintro e w' ⟨rfl, ⟨nd, rfl⟩⟩; (try first | exact ⟨rfl, _, World.drewN_drewN _ _ _⟩ | exact ⟨rfl, _, Eq.trans (World.drewN_drewN _ _ _) (congrArg (World.drewN _) (Nat.add_assoc _ _ _))⟩)) | (go_at_call 30; (with_reducible refine (midrangebase_Within.calls t176 1 8 true _ A29.out).mono ?_); rintro e w' ⟨rfl, ⟨nd, rfl⟩⟩; (try first | exact ⟨rfl, _, World.drewN_drewN _ _ _⟩ | exact ⟨rfl, _, Eq.trans (World.drewN_drewN _ _ _) (congrArg (World.drewN _) (Nat.add_assoc _ _ _))⟩)))
                          repeat (go_quiet (first | (go_at_call 46; (with_reducible refine (midrangeref04_Pages.calls ((rd_T56 l0_0 x4_1).f1) t176 _ A28.out).mono ?_); rintro e w' ⟨rfl, ⟨nd, rfl⟩⟩; (try first | exact ⟨rfl, _, World.drewN_drewN _ _ _⟩ | exact ⟨rfl, _, Eq.trans (World.drewN_drewN _ _ _) (congrArg (World.drewN _) (Nat.add_assoc _ _ _))⟩)) | (go_at_call 30; (with_reducible refine (midrangebase_Within.calls t176 1 8 true _ A29.out).mono ?_); rintro e w' ⟨rfl, ⟨nd, rfl⟩⟩; (try first | exact ⟨rfl, _, World.drewN_drewN _ _ _⟩ | exact ⟨rfl, _, Eq.trans (World.drewN_drewN _ _ _) (congrArg (World.drewN _) (Nat.add_assoc _ _ _))⟩))); try go_wp2_with (first | (go_at_call 46; (with_reducible refine (midrangeref04_Pages.calls ((rd_T56 l0_0 x4_1).f1) t176 _ A28.out).mono ?_); rintro e w' ⟨rfl, ⟨nd, rfl⟩⟩; (try first | exact ⟨rfl, _, World.drewN_drewN _ _ _⟩ | exact ⟨rfl, _, Eq.trans (World.drewN_drewN _ _ _) (congrArg (World.drewN _) (Nat.add_assoc _ _ _))⟩)) | (go_at_call 30; (with_reducible refine (midrangebase_Within.calls t176 1 8 true _ A29.out).mono ?_); rintro e w' ⟨rfl, ⟨nd, rfl⟩⟩; (try first | exact ⟨rfl, _, World.drewN_drewN _ _ _⟩ | exact ⟨rfl, _, Eq.trans (World.drewN_drewN _ _ _) (congrArg (World.drewN _) (Nat.add_assoc _ _ _))⟩))))
                          go_roundg kj12
                          case measure => have := HK1.out; have := HJ12.out; omega
                          case rel => exact ⟨(wrap64 (x4_1 + 1)), (by first | rfl | (simp; done) | (simp [*]; done)), H', ⟨by have := HK1.out; have := HJ12.out; omega⟩, ⟨pk_ BK170⟩, ⟨pb_ HB⟩⟩
                        · replace c30 := Bool.eq_false_iff.mpr c30
                          subst c30
                          have H1 : (some (x4_1, 18)) = some (r1, r2) := by rw [if_neg (show ¬ (false = true) by decide)] at H; exact H
                          clear H
                          have H := H1
                          clear H1
                          simp only [Option.some.injEq, Prod.mk.injEq] at H
                          obtain ⟨rfl, rfl⟩ := H
                          have hnb33 := NB173_170.out
                          have hnc33 := NB170_173.out
                          have hcz34_0 := cz_ BK173 0 (.int .i64 ((rd_T56 l0_0 x4_1).f0))
                          have hcz34_1 := cz_ BK173 1 (.string ((rd_T56 l0_0 x4_1).f1))
                          have hfz34_0 := blk_frozen BK173.out 0
                          have hfz34_1 := blk_frozen BK173.out 1
                          go_wp2_with (first | (go_at_call 46; (with_reducible refine (midrangeref04_Pages.calls ((rd_T56 l0_0 x4_1).f1) t176 _ A28.out).mono ?_); rintro e w' ⟨rfl, ⟨nd, rfl⟩⟩; (try first | exact ⟨rfl, _, World.drewN_drewN _ _ _⟩ | exact ⟨rfl, _, Eq.trans (World.drewN_drewN _ _ _) (congrArg (World.drewN _) (Nat.add_assoc _ _ _))⟩)) | (go_at_call 30; (with_reducible refine (midrangebase_Within.calls t176 1 8 false _ A29.out).mono ?_); rintro e w' ⟨rfl, ⟨nd, rfl⟩⟩; (try first | exact ⟨rfl, _, World.drewN_drewN _ _ _⟩ | exact ⟨rfl, _, Eq.trans (World.drewN_drewN _ _ _) (congrArg (World.drewN _) (Nat.add_assoc _ _ _))⟩)))
                          repeat (go_quiet (first | (go_at_call 46; (with_reducible refine (midrangeref04_Pages.calls ((rd_T56 l0_0 x4_1).f1) t176 _ A28.out).mono ?_); rintro e w' ⟨rfl, ⟨nd, rfl⟩⟩; (try first | exact ⟨rfl, _, World.drewN_drewN _ _ _⟩ | exact ⟨rfl, _, Eq.trans (World.drewN_drewN _ _ _) (congrArg (World.drewN _) (Nat.add_assoc _ _ _))⟩)) | (go_at_call 30; (with_reducible refine (midrangebase_Within.calls t176 1 8 false _ A29.out).mono ?_); rintro e w' ⟨rfl, ⟨nd, rfl⟩⟩; (try first | exact ⟨rfl, _, World.drewN_drewN _ _ _⟩ | exact ⟨rfl, _, Eq.trans (World.drewN_drewN _ _ _) (congrArg (World.drewN _) (Nat.add_assoc _ _ _))⟩))); try go_wp2_with (first | (go_at_call 46; (with_reducible refine (midrangeref04_Pages.calls ((rd_T56 l0_0 x4_1).f1) t176 _ A28.out).mono ?_); rintro e w' ⟨rfl, ⟨nd, rfl⟩⟩; (try first | exact ⟨rfl, _, World.drewN_drewN _ _ _⟩ | exact ⟨rfl, _, Eq.trans (World.drewN_drewN _ _ _) (congrArg (World.drewN _) (Nat.add_assoc _ _ _))⟩)) | (go_at_call 30; (with_reducible refine (midrangebase_Within.calls t176 1 8 false _ A29.out).mono ?_); rintro e w' ⟨rfl, ⟨nd, rfl⟩⟩; (try first | exact ⟨rfl, _, World.drewN_drewN _ _ _⟩ | exact ⟨rfl, _, Eq.trans (World.drewN_drewN _ _ _) (congrArg (World.drewN _) (Nat.add_assoc _ _ _))⟩))))
                          go_ret2
                          exact ⟨er_, pb_ HB⟩
                      · rw [if_neg c27] at H
                        have c27b0 : (((((rd_T56 l0_0 x4_1).f1).size : Int) % 32) == 0) = false := beq_eq_false_iff_ne.mpr c27
                        have c27b1 : (((((rd_T56 l0_0 x4_1).f1).size : Int) % 32) != 0) = true := bne_iff_ne.mpr c27
                        simp only [Option.some.injEq, Prod.mk.injEq] at H
                        obtain ⟨rfl, rfl⟩ := H
                        have hnb35 := NB173_170.out
                        have hnc35 := NB170_173.out
                        have hcz36_0 := cz_ BK173 0 (.int .i64 ((rd_T56 l0_0 x4_1).f0))
                        have hcz36_1 := cz_ BK173 1 (.string ((rd_T56 l0_0 x4_1).f1))
                        have hfz36_0 := blk_frozen BK173.out 0
                        have hfz36_1 := blk_frozen BK173.out 1
                        go_wp2
                        repeat (go_quiet (fail); try go_wp2)
                        go_ret2
                        exact ⟨er_, pb_ HB⟩
              · replace c12 := Bool.eq_false_iff.mpr c12
                subst c12
                have H1 : (some (x4_1, 3)) = some (r1, r2) := by rw [if_neg (show ¬ (false = true) by decide)] at H; exact H
                clear H
                have H := H1
                clear H1
                simp only [Option.some.injEq, Prod.mk.injEq] at H
                obtain ⟨rfl, rfl⟩ := H
                have hcz37_0 := cz_ BK170 0 (.slice A0_0 l0_0.length c0_0)
                have hcz37_1 := cz_ BK170 1 (.int .i64 a0_1)
                have hfz37_0 := blk_frozen BK170.out 0
                have hfz37_1 := blk_frozen BK170.out 1
                have p172 : 0 ≤ (x4_1 : Int) := ct_
                have q172 : x4_1 < (l0_0.length : Int) := ct_
                obtain ⟨ad172, e172, hx172_0, hx172_1⟩ := at_T56 HR0_0.out x4_1 p172 q172
                cases e172
                replace hx172_0 := (HB.out.cell (World.block_lt_of_cell? w _ hx172_0)).trans hx172_0
                replace hx172_1 := (HB.out.cell (World.block_lt_of_cell? w _ hx172_1)).trans hx172_1
                replace p172 := eq_true p172
                replace q172 := eq_true q172
                go_wp2_with (first | ((with_reducible refine gate_dst (N := 5) rfl ?_); refine box_event ?hg (N := 5) ?hd (cs := #[.int .i64 0, .string (⟨#[]⟩ : ByteArray)]) (t := 56) ?hr ?_; (case hd => rfl); (case hg => rfl); (case hr => first | (go_simp; done) | (go_simp; rfl)); intro gb173 hg w38 hbox hb; have BK173 := Aside0.mk (hbox); have GW173 := gw_ hg HB; have GE173 := gw_ hg HB; replace HB := sb_ HB hb; have NB170_173 := nl_ hg BK170; have NB173_170 := ng_ hg BK170; replace BK170 := kb_ BK170 hb; clear hb hbox hg; have hnb39 := NB173_170.out; have hnc39 := NB170_173.out; have hcz40_0 := cz_ BK173 0 (.int .i64 0); have hcz40_1 := cz_ BK173 1 (.string (⟨#[]⟩ : ByteArray)); have hfz40_0 := blk_frozen BK173.out 0; have hfz40_1 := blk_frozen BK173.out 1; have hcz41_0 := cz_ BK170 0 (.slice (some ad172) l0_0.length c0_0); have hcz41_1 := cz_ BK170 1 (.int .i64 a0_1); have hfz41_0 := blk_frozen BK170.out 0; have hfz41_1 := blk_frozen BK170.out 1) | (go_at_call 30; (with_reducible refine (midrangebase_Within.calls ((rd_T56 l0_0 x4_1).f0) 1 (wrap64 (a0_1 - 1)) false _ A11.out).mono ?_); rintro e w' ⟨rfl, ⟨nd, rfl⟩⟩; (try first | exact ⟨rfl, _, World.drewN_drewN _ _ _⟩ | exact ⟨rfl, _, Eq.trans (World.drewN_drewN _ _ _) (congrArg (World.drewN _) (Nat.add_assoc _ _ _))⟩)))
                repeat (go_quiet (first | ((with_reducible refine gate_dst (N := 5) rfl ?_); refine box_event ?hg (N := 5) ?hd (cs := #[.int .i64 0, .string (⟨#[]⟩ : ByteArray)]) (t := 56) ?hr ?_; (case hd => rfl); (case hg => rfl); (case hr => first | (go_simp; done) | (go_simp; rfl)); intro gb173 hg w38 hbox hb; have BK173 := Aside0.mk (hbox); have GW173 := gw_ hg HB; have GE173 := gw_ hg HB; replace HB := sb_ HB hb; have NB170_173 := nl_ hg BK170; have NB173_170 := ng_ hg BK170; replace BK170 := kb_ BK170 hb; clear hb hbox hg; have hnb39 := NB173_170.out; have hnc39 := NB170_173.out; have hcz40_0 := cz_ BK173 0 (.int .i64 0); have hcz40_1 := cz_ BK173 1 (.string (⟨#[]⟩ : ByteArray)); have hfz40_0 := blk_frozen BK173.out 0; have hfz40_1 := blk_frozen BK173.out 1; have hcz41_0 := cz_ BK170 0 (.slice (some ad172) l0_0.length c0_0); have hcz41_1 := cz_ BK170 1 (.int .i64 a0_1); have hfz41_0 := blk_frozen BK170.out 0; have hfz41_1 := blk_frozen BK170.out 1) | (go_at_call 30; (with_reducible refine (midrangebase_Within.calls ((rd_T56 l0_0 x4_1).f0) 1 (wrap64 (a0_1 - 1)) false _ A11.out).mono ?_); rintro e w' ⟨rfl, ⟨nd, rfl⟩⟩; (try first | exact ⟨rfl, _, World.drewN_drewN _ _ _⟩ | exact ⟨rfl, _, Eq.trans (World.drewN_drewN _ _ _) (congrArg (World.drewN _) (Nat.add_assoc _ _ _))⟩))); try go_wp2_with (first | ((with_reducible refine gate_dst (N := 5) rfl ?_); refine box_event ?hg (N := 5) ?hd (cs := #[.int .i64 0, .string (⟨#[]⟩ : ByteArray)]) (t := 56) ?hr ?_; (case hd => rfl); (case hg => rfl); (case hr => first | (go_simp; done) | (go_simp; rfl)); intro gb173 hg w38 hbox hb; have BK173 := Aside0.mk (hbox); have GW173 := gw_ hg HB; have GE173 := gw_ hg HB; replace HB := sb_ HB hb; have NB170_173 := nl_ hg BK170; have NB173_170 := ng_ hg BK170; replace BK170 := kb_ BK170 hb; clear hb hbox hg; have hnb39 := NB173_170.out; have hnc39 := NB170_173.out; have hcz40_0 := cz_ BK173 0 (.int .i64 0); have hcz40_1 := cz_ BK173 1 (.string (⟨#[]⟩ : ByteArray)); have hfz40_0 := blk_frozen BK173.out 0; have hfz40_1 := blk_frozen BK173.out 1; have hcz41_0 := cz_ BK170 0 (.slice (some ad172) l0_0.length c0_0); have hcz41_1 := cz_ BK170 1 (.int .i64 a0_1); have hfz41_0 := blk_frozen BK170.out 0; have hfz41_1 := blk_frozen BK170.out 1) | (go_at_call 30; (with_reducible refine (midrangebase_Within.calls ((rd_T56 l0_0 x4_1).f0) 1 (wrap64 (a0_1 - 1)) false _ A11.out).mono ?_); rintro e w' ⟨rfl, ⟨nd, rfl⟩⟩; (try first | exact ⟨rfl, _, World.drewN_drewN _ _ _⟩ | exact ⟨rfl, _, Eq.trans (World.drewN_drewN _ _ _) (congrArg (World.drewN _) (Nat.add_assoc _ _ _))⟩))))
                go_ret2
                exact ⟨er_, pb_ HB⟩
            · rw [if_neg c10] at H
              exact absurd H (by simp)
          · rw [if_neg c9] at H
            have c9b0 : decide (x4_1 < (l0_0.length : Int)) = false := decide_eq_false c9
            clear c9
            simp only [Option.some.injEq, Prod.mk.injEq] at H
            obtain ⟨rfl, rfl⟩ := H
            have hcz42_0 := cz_ BK170 0 (.slice A0_0 l0_0.length c0_0)
            have hcz42_1 := cz_ BK170 1 (.int .i64 a0_1)
            have hfz42_0 := blk_frozen BK170.out 0
            have hfz42_1 := blk_frozen BK170.out 1
            go_wp2
            repeat (go_quiet (fail); try go_wp2)
            go_ret2
            exact ⟨er_, pb_ HB⟩
    · replace c6 := Bool.eq_false_iff.mpr c6
      subst c6
      have H1 : (some (0, 3)) = some (r1, r2) := by rw [if_neg (show ¬ (false = true) by decide)] at H; exact H
      clear H
      have H := H1
      clear H1
      simp only [Option.some.injEq, Prod.mk.injEq] at H
      obtain ⟨rfl, rfl⟩ := H
      go_enter Try.func20, Try.ntmps20
      go_wp2_with (first | ((with_reducible refine gate_dst (N := 1) rfl ?_); refine box_event ?hg (N := 1) ?hd (cs := #[.slice A0_0 l0_0.length c0_0, .int .i64 a0_1]) (t := 24) ?hr ?_; (case hd => rfl); (case hg => rfl); (case hr => first | (go_simp; done) | (go_simp; rfl)); intro gb170 hg w43 hbox hb; have BK170 := Aside0.mk (hbox); have GW170 := gw_ hg HB; have GE170 := gw_ hg HB; replace HB := sb_ HB hb; clear hb hbox hg; have hcz44_0 := cz_ BK170 0 (.slice A0_0 l0_0.length c0_0); have hcz44_1 := cz_ BK170 1 (.int .i64 a0_1); have hfz44_0 := blk_frozen BK170.out 0; have hfz44_1 := blk_frozen BK170.out 1) | (go_at_call 30; (with_reducible refine (midrangebase_Within.calls a0_1 1 1001 false _ A5.out).mono ?_); rintro e w' ⟨rfl, ⟨nd, rfl⟩⟩; (try first | exact ⟨rfl, _, World.drewN_drewN _ _ _⟩ | exact ⟨rfl, _, Eq.trans (World.drewN_drewN _ _ _) (congrArg (World.drewN _) (Nat.add_assoc _ _ _))⟩)))
      repeat (go_quiet (first | ((with_reducible refine gate_dst (N := 1) rfl ?_); refine box_event ?hg (N := 1) ?hd (cs := #[.slice A0_0 l0_0.length c0_0, .int .i64 a0_1]) (t := 24) ?hr ?_; (case hd => rfl); (case hg => rfl); (case hr => first | (go_simp; done) | (go_simp; rfl)); intro gb170 hg w43 hbox hb; have BK170 := Aside0.mk (hbox); have GW170 := gw_ hg HB; have GE170 := gw_ hg HB; replace HB := sb_ HB hb; clear hb hbox hg; have hcz44_0 := cz_ BK170 0 (.slice A0_0 l0_0.length c0_0); have hcz44_1 := cz_ BK170 1 (.int .i64 a0_1); have hfz44_0 := blk_frozen BK170.out 0; have hfz44_1 := blk_frozen BK170.out 1) | (go_at_call 30; (with_reducible refine (midrangebase_Within.calls a0_1 1 1001 false _ A5.out).mono ?_); rintro e w' ⟨rfl, ⟨nd, rfl⟩⟩; (try first | exact ⟨rfl, _, World.drewN_drewN _ _ _⟩ | exact ⟨rfl, _, Eq.trans (World.drewN_drewN _ _ _) (congrArg (World.drewN _) (Nat.add_assoc _ _ _))⟩))); try go_wp2_with (first | ((with_reducible refine gate_dst (N := 1) rfl ?_); refine box_event ?hg (N := 1) ?hd (cs := #[.slice A0_0 l0_0.length c0_0, .int .i64 a0_1]) (t := 24) ?hr ?_; (case hd => rfl); (case hg => rfl); (case hr => first | (go_simp; done) | (go_simp; rfl)); intro gb170 hg w43 hbox hb; have BK170 := Aside0.mk (hbox); have GW170 := gw_ hg HB; have GE170 := gw_ hg HB; replace HB := sb_ HB hb; clear hb hbox hg; have hcz44_0 := cz_ BK170 0 (.slice A0_0 l0_0.length c0_0); have hcz44_1 := cz_ BK170 1 (.int .i64 a0_1); have hfz44_0 := blk_frozen BK170.out 0; have hfz44_1 := blk_frozen BK170.out 1) | (go_at_call 30; (with_reducible refine (midrangebase_Within.calls a0_1 1 1001 false _ A5.out).mono ?_); rintro e w' ⟨rfl, ⟨nd, rfl⟩⟩; (try first | exact ⟨rfl, _, World.drewN_drewN _ _ _⟩ | exact ⟨rfl, _, Eq.trans (World.drewN_drewN _ _ _) (congrArg (World.drewN _) (Nat.add_assoc _ _ _))⟩))))
      go_ret2
      exact ⟨er_, pb_ HB⟩

end Go.Proofs.Ytoabahlaicgmjaa.X
end
section
namespace Go.Proofs.Ytoabahlaicgmjaa.X
open Go.Proofs.Ytoabahlaicgmjaa.XW Go.Proofs.Ytoabahlaicgmjaa.XS
open Go.RowKit Go.Proofs.YtoabahlaicgmjaaW.PrintWords Go.Proofs.YtoabahlaicgmjaaW.PrintLast Go.Proofs.YtoabahlaicgmjaaW.PrintMore
attribute [local go_sem] max2_int min2_int max_two min_two max_three min_three max_four min_four   -- for this text's walks alone
set_option linter.unusedVariables false
set_option linter.unusedSimpArgs false

/-! ### midrangeref04_Err: function 35 -/
def midrangeref04_Err.f (k : Nat) (l0_0 : List (S56)) (a0_1 : Int) : Option (Int) := (midrangeref04_Check.f k l0_0 a0_1).bind fun bt179 => (some bt179.2)
set_option maxHeartbeats 8000000 in
set_option maxRecDepth 100000 in
theorem midrangeref04_Err.calls (k : Nat) (A0_0 : Option Addr) (c0_0 : Nat) (l0_0 : List (S56)) (a0_1 : Int) (r : Int) (w : World) (hr0_0 : Kd.C k56 w A0_0 l0_0.length l0_0) (hc0_0 : l0_0.length ≤ c0_0) (h : midrangeref04_Err.f k l0_0 a0_1 = some r) :
    Calls Try.prog 35 #[.agg #[.slice A0_0 l0_0.length c0_0, .int .i64 a0_1]] w fun e w' => e = .returned (.int .i64 r) ∧ Below w.heap.size w w' := by
  have hu24 := Try.underlying24
  have HR0_0 := Aside0.mk hr0_0
  have HC0_0 := Aside0.mk hc0_0
  clear hr0_0 hc0_0
  have HB := Aside0.mk (Below.refl w.heap.size w)
  have H : ((midrangeref04_Check.f k l0_0 a0_1).bind fun bt179 => (some bt179.2)) = some r := h
  clear h
  replace H := Option.bind_eq_some_iff.mp H
  obtain ⟨⟨t179, t180⟩, A20, H⟩ := H
  replace H : (some t180) = some r := H
  have A2 := Aside0.mk A20
  clear A20
  obtain rfl := Option.some.inj H
  go_enter Try.func35, Try.ntmps35
  go_wp2_with (first | ((with_reducible refine gate_dst (N := 1) rfl ?_); refine box_event ?hg (N := 1) ?hd (cs := #[.slice A0_0 l0_0.length c0_0, .int .i64 a0_1]) (t := 24) ?hr ?_; (case hd => rfl); (case hg => rfl); (case hr => first | (go_simp; done) | (go_simp; rfl)); intro gb178 hg w3 hbox hb; have BK178 := Aside0.mk (hbox); have GW178 := gw_ hg HB; have GE178 := gw_ hg HB; replace HB := sb_ HB hb; clear hb hbox hg; have hcz4_0 := cz_ BK178 0 (.slice A0_0 l0_0.length c0_0); have hcz4_1 := cz_ BK178 1 (.int .i64 a0_1); have hfz4_0 := blk_frozen BK178.out 0; have hfz4_1 := blk_frozen BK178.out 1) | ((with_reducible refine gate_callee (f := 20) rfl ?_); refine goesL_ (some 7) rfl rfl Try.func20 (by kernel_rfl) rfl #[.agg #[.slice A0_0 l0_0.length c0_0, .int .i64 a0_1]] rfl (by (try simp only [List.map_toArray, List.map_cons, List.map_nil]); first | done | rfl | (simp only [List.length_drop, List.length_take]; rfl)) ?_; (with_reducible refine (midrangeref04_Check.calls k _ _ l0_0 a0_1 t179 t180 _ ?side1 ?side2 A2.out).mono ?_); (case side1 => exact pc_ (Kd.C_below HR0_0.out HB.out)); (case side2 => exact HC0_0.out); rintro e w5 ⟨rfl, hb⟩; refine ⟨_, rfl, ?_⟩; replace BK178 := kb_ BK178 hb; replace HB := sb_ HB hb; (try clear hb); (try clear hb2); (try clear hk); (try clear hi)))
  go_ret
  exact ⟨er_, pb_ HB⟩

/-! ### midrangeref04_failed: function 42 -/
def midrangeref04_failed.f (a0 : Int) : Option ((List (S56)) × Int × Int × ByteArray × Int) := some (([] : List (S56)), 0, 0, (⟨#[]⟩ : ByteArray), a0)
set_option maxHeartbeats 8000000 in
set_option maxRecDepth 100000 in
theorem midrangeref04_failed.calls (a0 : Int) (r1 : List (S56)) (r2 : Int) (r3 : Int) (r4 : ByteArray) (r5 : Int) (w : World) (h : midrangeref04_failed.f a0 = some (r1, r2, r3, r4, r5)) :
    Calls Try.prog 42 #[.int .i64 a0] w fun e w' => ∃ v0_ : Value, e = .returned (.agg #[v0_, .int .i64 r2, .int .i64 r3, .string r4, .int .i64 r5]) ∧ Kd.R k56 56 w' w.heap.size (fun _ => True) v0_ r1 ∧ Below w.heap.size w w' := by
  have hu34 := Try.underlying34
  have HB := Aside0.mk (Below.refl w.heap.size w)
  have H : (some (([] : List (S56)), 0, 0, (⟨#[]⟩ : ByteArray), a0)) = some (r1, r2, r3, r4, r5) := h
  clear h
  simp only [Option.some.injEq, Prod.mk.injEq] at H
  obtain ⟨rfl, rfl, rfl, rfl, rfl⟩ := H
  go_enter Try.func42, Try.ntmps42
  go_wp2_with (first | ((with_reducible refine gate_dst (N := 2) rfl ?_); refine box_event ?hg (N := 2) ?hd (cs := #[.slice none 0 0, .int .i64 0, .int .i64 0, .string (⟨#[]⟩ : ByteArray), .int .i64 0]) (t := 34) ?hr ?_; (case hd => rfl); (case hg => rfl); (case hr => first | (go_simp; done) | (go_simp; rfl)); intro gb181 hg w2 hbox hb; have BK181 := Aside0.mk (hbox); have GW181 := gw_ hg HB; have GE181 := gw_ hg HB; replace HB := sb_ HB hb; clear hb hbox hg; have hcz3_0 := cz_ BK181 0 (.slice none 0 0); have hcz3_1 := cz_ BK181 1 (.int .i64 0); have hcz3_2 := cz_ BK181 2 (.int .i64 0); have hcz3_3 := cz_ BK181 3 (.string (⟨#[]⟩ : ByteArray)); have hcz3_4 := cz_ BK181 4 (.int .i64 0); have hfz3_0 := blk_frozen BK181.out 0; have hfz3_1 := blk_frozen BK181.out 1; have hfz3_2 := blk_frozen BK181.out 2; have hfz3_3 := blk_frozen BK181.out 3; have hfz3_4 := blk_frozen BK181.out 4))
  refine bodyPost_ret (results_cell_row rfl _ _ gb181 34 #[.slice none 0 0, .int .i64 0, .int .i64 0, .string (⟨#[]⟩ : ByteArray), .int .i64 a0] (0, 0) _ rfl (by (with_reducible repeat (first | refine blk_drewN ?_ _ | refine blk_drew ?_ | refine blk_alloc ?_ _)); refine blk_put (cs := #[.slice none 0 0, .int .i64 0, .int .i64 0, .string (⟨#[]⟩ : ByteArray), .int .i64 0]) ?_ 4 _ rfl; (with_reducible repeat (first | refine blk_drewN ?_ _ | refine blk_drew ?_ | refine blk_alloc ?_ _)); refine blk_put (cs := #[.slice none 0 0, .int .i64 0, .int .i64 0, .string (⟨#[]⟩ : ByteArray), .int .i64 0]) ?_ 3 _ rfl; (with_reducible repeat (first | refine blk_drewN ?_ _ | refine blk_drew ?_ | refine blk_alloc ?_ _)); refine blk_put (cs := #[.slice none 0 0, .int .i64 0, .int .i64 0, .string (⟨#[]⟩ : ByteArray), .int .i64 0]) ?_ 2 _ rfl; (with_reducible repeat (first | refine blk_drewN ?_ _ | refine blk_drew ?_ | refine blk_alloc ?_ _)); refine blk_put (cs := #[.slice none 0 0, .int .i64 0, .int .i64 0, .string (⟨#[]⟩ : ByteArray), .int .i64 0]) ?_ 1 _ rfl; (with_reducible repeat (first | refine blk_drewN ?_ _ | refine blk_drew ?_ | refine blk_alloc ?_ _)); refine blk_put (cs := #[.slice none 0 0, .int .i64 0, .int .i64 0, .string (⟨#[]⟩ : ByteArray), .int .i64 0]) ?_ 0 _ rfl; (with_reducible repeat (first | refine blk_drewN ?_ _ | refine blk_drew ?_ | refine blk_alloc ?_ _)); exact BK181.out) Try.underlying34 rfl (by kernel_rfl)) rfl ?_
  exact ⟨_, er_, by first | exact Kd.R_nil _ _ _ _ _ | exact Kd.N_nil _ _ _ _ _ | exact Kd.V_nil _ _ _ _ _ | exact Kd.Q_nil _ _ _ _ _ | exact Kd.S_nil _ _ _ _ _, pb_ HB⟩

/-! ### midrangebase_Repeat: function 57 -/
def midrangebase_Repeat.l0 : Nat → Int → Int → List Int → Int → Option (ByteArray)
  | 0, _, _, _, _ => none
  | k + 1, x0, x1, x5, x6 => if x6 < x1 then (if x5.length < 140737488355328 then (midrangebase_Repeat.l0 k x0 x1 (x5 ++ [x0]) (wrap64 (x6 + 1))) else (none)) else (some (strOfNums x5))
def midrangebase_Repeat.f (k : Nat) (a0 : Int) (a1 : Int) : Option (ByteArray) := midrangebase_Repeat.l0 k a0 a1 ([] : List Int) 0
set_option maxHeartbeats 8000000 in
set_option maxRecDepth 100000 in
theorem midrangebase_Repeat.calls (k : Nat) (a0 : Int) (a1 : Int) (r : ByteArray) (w : World) (h : midrangebase_Repeat.f k a0 a1 = some r) :
    Calls Try.prog 57 #[.int .u8 a0, .int .i64 a1] w fun e w' => e = .returned (.string r) ∧ Below w.heap.size w w' := by
  have HB := Aside0.mk (Below.refl w.heap.size w)
  have H : (midrangebase_Repeat.l0 k a0 a1 ([] : List Int) 0) = some r := h
  clear h
  have H' := Aside0.mk H
  clear H
  go_enter Try.func57, Try.ntmps57
  go_wp2
  go_loopg [5, 6] k (fun kq v5 v6 w' => ∃ (x5_1 : List Int) (x6_1 : Int), v6 = .int .i64 x6_1 ∧ Aside0 (midrangebase_Repeat.l0 kq a0 a1 x5_1 x6_1 = some r) ∧ Aside0 (kq ≤ k) ∧ Aside0 (Kd.R (Kd.int .u8) 5 w' w.heap.size (fun _ => True) v5 x5_1) ∧ Aside0 (Below w.heap.size w w'))
  case atStart => exact ⟨(([] : List Int)), (0), (by first | rfl | (simp; done) | (simp [*]; done)), H', ⟨Nat.le_refl _⟩, ⟨by first | exact Kd.R_nil _ _ _ _ _ | exact Kd.N_nil _ _ _ _ _ | exact Kd.V_nil _ _ _ _ _ | exact Kd.Q_nil _ _ _ _ _ | exact Kd.S_nil _ _ _ _ _⟩, ⟨pb_ HB⟩⟩
  case round =>
    clear H'
    try clear p2
    obtain ⟨x5_1, x6_1, rfl, HA, HK1, HO_5, HB⟩ := hrel
    cases gk with
    | zero => exact absurd HA.out (by simp [midrangebase_Repeat.l0])
    | succ k1 =>
      have H := HA.out
      clear HA
      simp only [midrangebase_Repeat.l0] at H
      by_cases c3 : x6_1 < a1
      · rw [if_pos c3] at H
        have c3b0 : decide (x6_1 < a1) = true := decide_eq_true c3
        clear c3
        by_cases c4 : x5_1.length < 140737488355328
        · rw [if_pos c4] at H
          have LMc4 := Aside0.mk c4
          clear c4
          obtain ⟨y182, hy182⟩ : ∃ y_ : List Int, y_ = (x5_1 ++ [a0]) := ⟨_, rfl⟩
          replace H : (midrangebase_Repeat.l0 k1 a0 a1 y182 (wrap64 (x6_1 + 1))) = some r := by first | (rw [hy182]; with_reducible exact H) | (have H2_ := (Option.bind_some _ _).symm.trans H; rw [hy182]; with_reducible exact H2_) | (have H2_ := (Option.bind_some _ _).symm.trans H; with_reducible exact H2_) | with_reducible exact H | (rw [hy182]; exact H) | exact H
          have Ny182 := Aside0.mk hy182
          clear hy182
          have H' := Aside0.mk H
          clear H
          go_wp2_with (first | ((with_reducible refine gate_builtin (b := .append) (xs := #[.tmp 12, .tmp 14]) rfl ?_); at_builtin; refine Kd.R_append (Kd.int .u8) (w0 := w) w.heap.size rfl (.tmp 12) (.tmp 14) 95 5 (.int .u8 0) 1 rfl Try.underlying95 info5 rfl (by decide) (by omega) u5 x5_1 a0 [.int .u8 a0] (fun _ => True) (fun _ => False) rfl rfl ?aP (fun _ hk => hk.elim) ?aF ?aO ?aB ?aS ?aL ?_; (case aP => exact rfl); (case aB => exact (pb_ HB)); (case aF => exact (fun _ _ => trivial)); (case aO => exact (by (with_reducible repeat (first | apply Kd.R_alloc | apply Kd.R_drewN | apply Kd.R_drew)); exact HO_5.out)); (case aS => exact (below_size (pb_ HB))); (case aL => have := LMc4.out; omega); intro v183 w5 ho hb hg hat; rw [← Ny182.out] at ho; replace HB := Aside0.mk (hb); have HO184 := Aside0.mk (ho); clear HO_5; clear ho hb hg hat))
          go_roundg k1
          case measure => have := HK1.out; omega
          case rel => exact ⟨(y182), (wrap64 (x6_1 + 1)), (by first | rfl | (simp; done) | (simp [*]; done)), H', ⟨by have := HK1.out; omega⟩, ⟨by (with_reducible repeat (first | apply Kd.R_alloc | apply Kd.R_drewN | apply Kd.R_drew)); exact HO184.out⟩, ⟨pb_ HB⟩⟩
        · rw [if_neg c4] at H
          exact absurd H (by simp)
      · rw [if_neg c3] at H
        have c3b0 : decide (x6_1 < a1) = false := decide_eq_false c3
        clear c3
        obtain rfl := Option.some.inj H
        have hcv6 := own_string (P := Try.prog) Try.underlying95 Try.underlying5 Try.underlying9 (Kd.own_of_R HO_5.out)
        go_wp2
        go_ret
        exact ⟨er_, pb_ HB⟩

end Go.Proofs.Ytoabahlaicgmjaa.X
end
section
namespace Go.Proofs.Ytoabahlaicgmjaa.X
open Go.Proofs.Ytoabahlaicgmjaa.XW Go.Proofs.Ytoabahlaicgmjaa.XS
open Go.RowKit Go.Proofs.YtoabahlaicgmjaaW.PrintWords Go.Proofs.YtoabahlaicgmjaaW.PrintLast Go.Proofs.YtoabahlaicgmjaaW.PrintMore
attribute [local go_sem] max2_int min2_int max_two min_two max_three min_three max_four min_four   -- for this text's walks alone
set_option linter.unusedVariables false
set_option linter.unusedSimpArgs false

/-! ### midrangeref04_Zeros: function 43 -/
def midrangeref04_Zeros.f (k : Nat) (a0 : Int) : Option (ByteArray) := (midrangebase_Repeat.f k 0 a0).bind fun t185 => (some t185)
set_option maxHeartbeats 8000000 in
set_option maxRecDepth 100000 in
theorem midrangeref04_Zeros.calls (k : Nat) (a0 : Int) (r : ByteArray) (w : World) (h : midrangeref04_Zeros.f k a0 = some r) :
    Calls Try.prog 43 #[.int .i64 a0] w fun e w' => e = .returned (.string r) ∧ Below w.heap.size w w' := by
  have HB := Aside0.mk (Below.refl w.heap.size w)
  have H : ((midrangebase_Repeat.f k 0 a0).bind fun t185 => (some t185)) = some r := h
  clear h
  replace H := Option.bind_eq_some_iff.mp H
  obtain ⟨t185, A20, H⟩ := H
  replace H : (some t185) = some r := H
  have A2 := Aside0.mk A20
  clear A20
  obtain rfl := Option.some.inj H
  go_enter Try.func43, Try.ntmps43
  go_wp2_with (first | ((with_reducible refine gate_callee (f := 57) rfl ?_); refine goesL_ (some 4) rfl rfl Try.func57 (by kernel_rfl) rfl #[.int .u8 0, .int .i64 a0] rfl (by (try simp only [List.map_toArray, List.map_cons, List.map_nil]); first | done | rfl | (simp only [List.length_drop, List.length_take]; rfl)) ?_; (with_reducible refine (midrangebase_Repeat.calls k 0 a0 t185 _ A2.out).mono ?_); rintro e w3 ⟨rfl, hb⟩; refine ⟨_, rfl, ?_⟩; replace HB := sb_ HB hb; (try clear hb); (try clear hb2); (try clear hk); (try clear hi)))
  go_ret
  exact ⟨er_, pb_ HB⟩

end Go.Proofs.Ytoabahlaicgmjaa.X
end
section
namespace Go.Proofs.Ytoabahlaicgmjaa.X
open Go.Proofs.Ytoabahlaicgmjaa.XW Go.Proofs.Ytoabahlaicgmjaa.XS
open Go.RowKit Go.Proofs.YtoabahlaicgmjaaW.PrintWords Go.Proofs.YtoabahlaicgmjaaW.PrintLast Go.Proofs.YtoabahlaicgmjaaW.PrintMore
attribute [local go_sem] max2_int min2_int max_two min_two max_three min_three max_four min_four   -- for this text's walks alone
set_option linter.unusedVariables false
set_option linter.unusedSimpArgs false

/-! ### midrangeref04_Created: function 15 -/
def midrangeref04_Created.j0 : Nat → Int → Bool → List (S56) → Int → Option ((List (S56)) × Int × Int × ByteArray × Int)
  | 0, _, _, _, _ => none
  | k + 1, x1, x25, x187000, x187001 => if x25 = true then ((midrangeref04_failed.f 30).bind fun bt197 => (some (bt197.1, bt197.2.1, bt197.2.2.1, bt197.2.2.2.1, bt197.2.2.2.2))) else ((midrangeref04_Own.f x187000 x187001).bind fun bt204 => ((midrangeref04_Zeros.f k (wrap64 (x1 * 32))).bind fun t209 => (if bt204.1.length < 5864062014805 then (some ((bt204.1 ++ [(⟨x187001, t209⟩ : S56)]), wrap64 (x187001 + 1), x187001, (⟨#[]⟩ : ByteArray), 0)) else (none))))
def midrangeref04_Created.f (k : Nat) (l0_0 : List (S56)) (a0_1 : Int) (a1 : Int) : Option ((List (S56)) × Int × Int × ByteArray × Int) := (midrangeref04_Err.f k l0_0 a0_1).bind fun t188 => (if t188 = 0 then ((midrangebase_Within.f a1 1 8).bind fun t189 => (if t189 = true then (if (l0_0.length : Int) = 10 then (midrangeref04_Created.j0 k a1 true l0_0 a0_1) else (midrangeref04_Created.j0 k a1 (decide (a0_1 > 1000)) l0_0 a0_1)) else ((midrangeref04_failed.f 3).bind fun bt190 => (some (bt190.1, bt190.2.1, bt190.2.2.1, bt190.2.2.2.1, bt190.2.2.2.2))))) else (some (([] : List (S56)), 0, 0, (⟨#[]⟩ : ByteArray), t188)))
def midrangeref04_Created.T9 : Bool × List (List Nat × List Nat) := (true, [([], []), ([0], [0]), ([], []), ([2], [2]), ([], []), ([4], [4]), ([5], [5]), ([3, 6], [3, 6]), ([7], [7]), ([1, 8, 6], [1, 8]), ([0, 1, 2, 3, 4, 5, 6, 7, 8, 9], []), ([10, 9, 9, 0, 1, 2, 3, 4, 5, 6, 7, 8, 9], [9, 10])])
def midrangeref04_Created.B9 : List Nat := [0, 1, 0, 4, 0, 16, 48, 124, 252, 511, 1023, 2047]
theorem midrangeref04_Created.tab9 : rtab .any (opsOf Try.f15 9) = midrangeref04_Created.T9 := by kernel_rfl
theorem midrangeref04_Created.bits9 : waitsOk midrangeref04_Created.T9.2 midrangeref04_Created.B9 = true := by kernel_rfl
set_option maxHeartbeats 8000000 in
set_option maxRecDepth 100000 in
theorem midrangeref04_Created.calls (k : Nat) (A0_0 : Option Addr) (c0_0 : Nat) (l0_0 : List (S56)) (a0_1 : Int) (a1 : Int) (r1 : List (S56)) (r2 : Int) (r3 : Int) (r4 : ByteArray) (r5 : Int) (w : World) (hr0_0 : Kd.C k56 w A0_0 l0_0.length l0_0) (hc0_0 : l0_0.length ≤ c0_0) (h : midrangeref04_Created.f k l0_0 a0_1 a1 = some (r1, r2, r3, r4, r5)) :
    Calls Try.prog 15 #[.agg #[.slice A0_0 l0_0.length c0_0, .int .i64 a0_1], .int .i64 a1] w fun e w' => ∃ v0_ : Value, e = .returned (.agg #[v0_, .int .i64 r2, .int .i64 r3, .string r4, .int .i64 r5]) ∧ Kd.R k56 56 w' w.heap.size (fun _ => True) v0_ r1 ∧ Below w.heap.size w w' := by
  have hu24 := Try.underlying24
  have hu34 := Try.underlying34
  have hu56 := Try.underlying56
  have HR0_0 := Aside0.mk hr0_0
  have HC0_0 := Aside0.mk hc0_0
  clear hr0_0 hc0_0
  have HB := Aside0.mk (Below.refl w.heap.size w)
  have H : ((midrangeref04_Err.f k l0_0 a0_1).bind fun t188 => (if t188 = 0 then ((midrangebase_Within.f a1 1 8).bind fun t189 => (if t189 = true then (if (l0_0.length : Int) = 10 then (midrangeref04_Created.j0 k a1 true l0_0 a0_1) else (midrangeref04_Created.j0 k a1 (decide (a0_1 > 1000)) l0_0 a0_1)) else ((midrangeref04_failed.f 3).bind fun bt190 => (some (bt190.1, bt190.2.1, bt190.2.2.1, bt190.2.2.2.1, bt190.2.2.2.2))))) else (some (([] : List (S56)), 0, 0, (⟨#[]⟩ : ByteArray), t188)))) = some (r1, r2, r3, r4, r5) := h
  clear h
  replace H := Option.bind_eq_some_iff.mp H
  obtain ⟨t188, A30, H⟩ := H
  replace H : (if t188 = 0 then ((midrangebase_Within.f a1 1 8).bind fun t189 => (if t189 = true then (if (l0_0.length : Int) = 10 then (midrangeref04_Created.j0 k a1 true l0_0 a0_1) else (midrangeref04_Created.j0 k a1 (decide (a0_1 > 1000)) l0_0 a0_1)) else ((midrangeref04_failed.f 3).bind fun bt190 => (some (bt190.1, bt190.2.1, bt190.2.2.1, bt190.2.2.2.1, bt190.2.2.2.2))))) else (some (([] : List (S56)), 0, 0, (⟨#[]⟩ : ByteArray), t188))) = some (r1, r2, r3, r4, r5) := H
  have A3 := Aside0.mk A30
  clear A30
  by_cases c4 : t188 = 0
  · rw [if_pos c4] at H
    have c4b0 : (t188 == 0) = true := beq_iff_eq.mpr c4
    have c4b1 : (t188 != 0) = false := bne_eq_false_iff_eq.mpr c4
    clear c4
    replace H := Option.bind_eq_some_iff.mp H
    obtain ⟨t189, A50, H⟩ := H
    replace H : (if t189 = true then (if (l0_0.length : Int) = 10 then (midrangeref04_Created.j0 k a1 true l0_0 a0_1) else (midrangeref04_Created.j0 k a1 (decide (a0_1 > 1000)) l0_0 a0_1)) else ((midrangeref04_failed.f 3).bind fun bt190 => (some (bt190.1, bt190.2.1, bt190.2.2.1, bt190.2.2.2.1, bt190.2.2.2.2)))) = some (r1, r2, r3, r4, r5) := H
    have A5 := Aside0.mk A50
    clear A50
    by_cases c6 : t189 = true
    · subst c6
      have H1 : (if (l0_0.length : Int) = 10 then (midrangeref04_Created.j0 k a1 true l0_0 a0_1) else (midrangeref04_Created.j0 k a1 (decide (a0_1 > 1000)) l0_0 a0_1)) = some (r1, r2, r3, r4, r5) := by rw [if_pos rfl] at H; exact H
      clear H
      have H := H1
      clear H1
      have HC7 := Aside0.mk H
      clear H
      go_enter Try.func15, Try.ntmps15
      go_upto_region 6 with (first | ((with_reducible refine gate_dst (N := 2) rfl ?_); refine box_event ?hg (N := 2) ?hd (cs := #[.slice A0_0 l0_0.length c0_0, .int .i64 a0_1]) (t := 24) ?hr ?_; (case hd => rfl); (case hg => rfl); (case hr => first | (go_simp; done) | (go_simp; rfl)); intro gb186 hg w8 hbox hb; have BK186 := Aside0.mk (hbox); have GW186 := gw_ hg HB; have GE186 := gw_ hg HB; replace HB := sb_ HB hb; clear hb hbox hg) | ((with_reducible refine gate_dst (N := 4) rfl ?_); refine box_event ?hg (N := 4) ?hd (cs := #[.slice none 0 0, .int .i64 0, .int .i64 0, .string (⟨#[]⟩ : ByteArray), .int .i64 0]) (t := 34) ?hr ?_; (case hd => rfl); (case hg => rfl); (case hr => first | (go_simp; done) | (go_simp; rfl)); intro gb187 hg w9 hbox hb; have BK187 := Aside0.mk (hbox); have GW187 := gw_ hg HB; have GE187 := gw_ hg HB; replace HB := sb_ HB hb; have NB186_187 := nl_ hg BK186; have NB187_186 := ng_ hg BK186; replace BK186 := kb_ BK186 hb; clear hb hbox hg; have hnb10 := NB186_187.out; have hnc10 := NB187_186.out; have hcz11_0 := cz_ BK186 0 (.slice A0_0 l0_0.length c0_0); have hcz11_1 := cz_ BK186 1 (.int .i64 a0_1); have hfz11_0 := blk_frozen BK186.out 0; have hfz11_1 := blk_frozen BK186.out 1) | ((with_reducible refine gate_callee (f := 35) rfl ?_); refine goesL_ (some 8) rfl rfl Try.func35 (by kernel_rfl) rfl #[.agg #[.slice A0_0 l0_0.length c0_0, .int .i64 a0_1]] rfl (by (try simp only [List.map_toArray, List.map_cons, List.map_nil]); first | done | rfl | (simp only [List.length_drop, List.length_take]; rfl)) ?_; (with_reducible refine (midrangeref04_Err.calls k _ _ l0_0 a0_1 t188 _ ?side1 ?side2 A3.out).mono ?_); (case side1 => exact pc_ (Kd.C_below HR0_0.out HB.out)); (case side2 => exact HC0_0.out); rintro e w12 ⟨rfl, hb⟩; refine ⟨_, rfl, ?_⟩; replace BK186 := kb_ BK186 hb; replace BK187 := kb_ BK187 hb; replace HB := sb_ HB hb; (try clear hb); (try clear hb2); (try clear hk); (try clear hi)) | ((with_reducible refine gate_callee (f := 30) rfl ?_); refine goesL_ (some 14) rfl rfl Try.func30 (by kernel_rfl) rfl #[.int .i64 a1, .int .i64 1, .int .i64 8] rfl (by (try simp only [List.map_toArray, List.map_cons, List.map_nil]); first | done | rfl | (simp only [List.length_drop, List.length_take]; rfl)) ?_; (with_reducible refine (midrangebase_Within.calls a1 1 8 true _ A5.out).mono ?_); rintro e w' ⟨rfl, ⟨nd, rfl⟩⟩; refine ⟨_, rfl, ?_⟩))
      (try simp only [Act.put, List.setIfInBounds_toArray, List.set_cons_zero, List.set_cons_succ])
      go_cut [25] (fun v25 wc => ∃ (kq : Nat) (x25_6 : Bool), v25 = .bool x25_6 ∧ Aside0 (midrangeref04_Created.j0 kq a1 x25_6 l0_0 a0_1 = some (r1, r2, r3, r4, r5)) ∧ Aside0 (kq ≤ k) ∧ Aside0 (wc.heap[gb186]? = some (.cells #[(.slice A0_0 l0_0.length c0_0), .int .i64 a0_1] 24 (0, 0))) ∧ Aside0 (wc.heap[gb187]? = some (.cells #[(.slice none 0 0), .int .i64 0, .int .i64 0, .string (⟨#[]⟩ : ByteArray), .int .i64 0] 34 (0, 0))) ∧ Aside0 (Below w.heap.size w wc))
      case first =>
        have H := HC7.out
        clear HC7
        by_cases c13 : (l0_0.length : Int) = 10
        · rw [if_pos c13] at H
          have c13b0 : ((l0_0.length : Int) == 10) = true := beq_iff_eq.mpr c13
          have c13b1 : ((l0_0.length : Int) != 10) = false := bne_eq_false_iff_eq.mpr c13
          clear c13
          (first | rw [c13b0] | (simp only [i64_w, i32_w]; rw [c13b0]) | skip)
          have H' := Aside0.mk H
          clear H
          have hnb14 := NB186_187.out
          have hnc14 := NB187_186.out
          have hcz15_0 := cz_ BK186 0 (.slice A0_0 l0_0.length c0_0)
          have hcz15_1 := cz_ BK186 1 (.int .i64 a0_1)
          have hfz15_0 := blk_frozen BK186.out 0
          have hfz15_1 := blk_frozen BK186.out 1
          go_wp2
          go_meet
          case rel => exact ⟨_, (true), (by first | rfl | (simp; done) | (simp [*]; done)), H', ⟨by first | omega | exact Nat.le_refl _⟩, ⟨pk_ BK186⟩, ⟨pk_ BK187⟩, ⟨pb_ HB⟩⟩
        · rw [if_neg c13] at H
          have c13b0 : ((l0_0.length : Int) == 10) = false := beq_eq_false_iff_ne.mpr c13
          have c13b1 : ((l0_0.length : Int) != 10) = true := bne_iff_ne.mpr c13
          (first | rw [c13b0] | (simp only [i64_w, i32_w]; rw [c13b0]) | skip)
          have H' := Aside0.mk H
          clear H
          have hnb16 := NB186_187.out
          have hnc16 := NB187_186.out
          have hcz17_0 := cz_ BK186 0 (.slice A0_0 l0_0.length c0_0)
          have hcz17_1 := cz_ BK186 1 (.int .i64 a0_1)
          have hfz17_0 := blk_frozen BK186.out 0
          have hfz17_1 := blk_frozen BK186.out 1
          go_wp2
          go_meet
          case rel => exact ⟨_, (decide (a0_1 > 1000)), (by first | rfl | (simp; done) | (simp [*]; done)), H', ⟨by first | omega | exact Nat.le_refl _⟩, ⟨pk_ BK186⟩, ⟨pk_ BK187⟩, ⟨pb_ HB⟩⟩
      case rest =>
        clear HC7
        try clear c1
        try clear p2
        try clear c3
        try clear c4
        try clear c4b0
        try clear c4b1
        try clear c6
        try clear c10
        try clear c13
        try clear c13b0
        try clear c13b1
        try clear c14
        try clear c15
        try clear c16
        try clear hcz11_0
        try clear hcz11_1
        try clear hcz15_0
        try clear hcz15_1
        try clear hcz17_0
        try clear hcz17_1
        try clear hfz11_0
        try clear hfz11_1
        try clear hfz15_0
        try clear hfz15_1
        try clear hfz17_0
        try clear hfz17_1
        obtain ⟨kq, x25_6, rfl, HA, HJ6, BK186, BK187, HB⟩ := hcut
        cases kq with
        | zero => exact absurd HA.out (by simp [midrangeref04_Created.j0])
        | succ kj6 =>
          have H := HA.out
          clear HA
          simp only [midrangeref04_Created.j0] at H
          by_cases c18 : x25_6 = true
          · subst c18
            have H1 : ((midrangeref04_failed.f 30).bind fun bt197 => (some (bt197.1, bt197.2.1, bt197.2.2.1, bt197.2.2.2.1, bt197.2.2.2.2))) = some (r1, r2, r3, r4, r5) := by rw [if_pos rfl] at H; exact H
            clear H
            have H := H1
            clear H1
            replace H := Option.bind_eq_some_iff.mp H
            obtain ⟨⟨t197, t200, t201, t202, t203⟩, A190, H⟩ := H
            replace H : (some (t197, t200, t201, t202, t203)) = some (r1, r2, r3, r4, r5) := H
            have A19 := Aside0.mk A190
            clear A190
            simp only [Option.some.injEq, Prod.mk.injEq] at H
            obtain ⟨rfl, rfl, rfl, rfl, rfl⟩ := H
            go_wp2_with (first | ((with_reducible refine gate_callee (f := 42) rfl ?_); refine goesL_ (some 26) rfl rfl Try.func42 (by kernel_rfl) rfl #[.int .i64 30] rfl (by (try simp only [List.map_toArray, List.map_cons, List.map_nil]); first | done | rfl | (simp only [List.length_drop, List.length_take]; rfl)) ?_; (with_reducible refine (midrangeref04_failed.calls 30 t197 t200 t201 t202 t203 _ A19.out).mono ?_); rintro e w20 ⟨v198, rfl, ho0, hb⟩; refine ⟨_, rfl, ?_⟩; have HO199 := Aside0.mk (Kd.R_lower ho0 (below_size (pb_ HB))); replace BK186 := kb_ BK186 hb; replace BK187 := kb_ BK187 hb; replace HB := sb_ HB hb; (try clear hb); (try clear hb2); (try clear hk); (try clear hi); (try clear ho0); obtain ⟨Ao21, co21, eo21⟩ := Kd.R_slice HO199.out; subst eo21; have hnb22 := NB187_186.out; have hnc22 := NB186_187.out; have hcz23_0 := cz_ BK187 0 (.slice none 0 0); have hcz23_1 := cz_ BK187 1 (.int .i64 0); have hcz23_2 := cz_ BK187 2 (.int .i64 0); have hcz23_3 := cz_ BK187 3 (.string (⟨#[]⟩ : ByteArray)); have hcz23_4 := cz_ BK187 4 (.int .i64 0); have hfz23_0 := blk_frozen BK187.out 0; have hfz23_1 := blk_frozen BK187.out 1; have hfz23_2 := blk_frozen BK187.out 2; have hfz23_3 := blk_frozen BK187.out 3; have hfz23_4 := blk_frozen BK187.out 4))
            refine bodyPost_ret (results_cell_row rfl _ _ gb187 34 #[.slice Ao21 t197.length co21, .int .i64 t200, .int .i64 t201, .string t202, .int .i64 t203] (0, 0) _ rfl (by (with_reducible repeat (first | refine blk_drewN ?_ _ | refine blk_drew ?_ | refine blk_alloc ?_ _)); refine blk_put (cs := #[.slice Ao21 t197.length co21, .int .i64 t200, .int .i64 t201, .string t202, .int .i64 0]) ?_ 4 _ rfl; (with_reducible repeat (first | refine blk_drewN ?_ _ | refine blk_drew ?_ | refine blk_alloc ?_ _)); refine blk_put (cs := #[.slice Ao21 t197.length co21, .int .i64 t200, .int .i64 t201, .string (⟨#[]⟩ : ByteArray), .int .i64 0]) ?_ 3 _ rfl; (with_reducible repeat (first | refine blk_drewN ?_ _ | refine blk_drew ?_ | refine blk_alloc ?_ _)); refine blk_put (cs := #[.slice Ao21 t197.length co21, .int .i64 t200, .int .i64 0, .string (⟨#[]⟩ : ByteArray), .int .i64 0]) ?_ 2 _ rfl; (with_reducible repeat (first | refine blk_drewN ?_ _ | refine blk_drew ?_ | refine blk_alloc ?_ _)); refine blk_put (cs := #[.slice Ao21 t197.length co21, .int .i64 0, .int .i64 0, .string (⟨#[]⟩ : ByteArray), .int .i64 0]) ?_ 1 _ rfl; (with_reducible repeat (first | refine blk_drewN ?_ _ | refine blk_drew ?_ | refine blk_alloc ?_ _)); refine blk_put (cs := #[.slice none 0 0, .int .i64 0, .int .i64 0, .string (⟨#[]⟩ : ByteArray), .int .i64 0]) ?_ 0 _ rfl; (with_reducible repeat (first | refine blk_drewN ?_ _ | refine blk_drew ?_ | refine blk_alloc ?_ _)); exact BK187.out) Try.underlying34 rfl (by kernel_rfl)) rfl ?_
            exact ⟨_, er_, by (with_reducible repeat (first | apply Kd.R_alloc | apply Kd.R_drewN | apply Kd.R_drew)); exact Kd.R_mono (Kd.R_far (p := ⟨gb187, 4, none⟩) (Kd.R_far (p := ⟨gb187, 3, none⟩) (Kd.R_far (p := ⟨gb187, 2, none⟩) (Kd.R_far (p := ⟨gb187, 1, none⟩) (Kd.R_far (p := ⟨gb187, 0, none⟩) (Kd.R_types HO199.out BK187.out (by decide)) (fun _ hk => hk.2) (.slice Ao21 t197.length co21)) (fun _ hk => hk.2) (.int .i64 t200)) (fun _ hk => hk.2) (.int .i64 t201)) (fun _ hk => hk.2) (.string t202)) (fun _ hk => hk.2) (.int .i64 t203)) (fun _ hk => trivial), pb_ HB⟩
          · replace c18 := Bool.eq_false_iff.mpr c18
            subst c18
            have H1 : ((midrangeref04_Own.f l0_0 a0_1).bind fun bt204 => ((midrangeref04_Zeros.f kj6 (wrap64 (a1 * 32))).bind fun t209 => (if bt204.1.length < 5864062014805 then (some ((bt204.1 ++ [(⟨a0_1, t209⟩ : S56)]), wrap64 (a0_1 + 1), a0_1, (⟨#[]⟩ : ByteArray), 0)) else (none)))) = some (r1, r2, r3, r4, r5) := by rw [if_neg (show ¬ (false = true) by decide)] at H; exact H
            clear H
            have H := H1
            clear H1
            replace H := Option.bind_eq_some_iff.mp H
            obtain ⟨⟨t204, t207⟩, A240, H⟩ := H
            replace H : ((midrangeref04_Zeros.f kj6 (wrap64 (a1 * 32))).bind fun t209 => (if t204.length < 5864062014805 then (some ((t204 ++ [(⟨a0_1, t209⟩ : S56)]), wrap64 (a0_1 + 1), a0_1, (⟨#[]⟩ : ByteArray), 0)) else (none))) = some (r1, r2, r3, r4, r5) := H
            have A24 := Aside0.mk A240
            clear A240
            replace H := Option.bind_eq_some_iff.mp H
            obtain ⟨t209, A250, H⟩ := H
            replace H : (if t204.length < 5864062014805 then (some ((t204 ++ [(⟨a0_1, t209⟩ : S56)]), wrap64 (a0_1 + 1), a0_1, (⟨#[]⟩ : ByteArray), 0)) else (none)) = some (r1, r2, r3, r4, r5) := H
            have A25 := Aside0.mk A250
            clear A250
            by_cases c26 : t204.length < 5864062014805
            · rw [if_pos c26] at H
              have LMc26 := Aside0.mk c26
              clear c26
              obtain ⟨y210, hy210⟩ : ∃ y_ : List (S56), y_ = (t204 ++ [(⟨a0_1, t209⟩ : S56)]) := ⟨_, rfl⟩
              replace H : (some (y210, wrap64 (a0_1 + 1), a0_1, (⟨#[]⟩ : ByteArray), 0)) = some (r1, r2, r3, r4, r5) := by first | (rw [hy210]; with_reducible exact H) | (have H2_ := (Option.bind_some _ _).symm.trans H; rw [hy210]; with_reducible exact H2_) | (have H2_ := (Option.bind_some _ _).symm.trans H; with_reducible exact H2_) | with_reducible exact H | (rw [hy210]; exact H) | exact H
              have Ny210 := Aside0.mk hy210
              clear hy210
              simp only [Option.some.injEq, Prod.mk.injEq] at H
              obtain ⟨rfl, rfl, rfl, rfl, rfl⟩ := H
              have hnb27 := NB186_187.out
              have hnc27 := NB187_186.out
              have hcz28_0 := cz_ BK186 0 (.slice A0_0 l0_0.length c0_0)
              have hcz28_1 := cz_ BK186 1 (.int .i64 a0_1)
              have hfz28_0 := blk_frozen BK186.out 0
              have hfz28_1 := blk_frozen BK186.out 1
              try go_wp2_with (first | ((with_reducible refine gate_callee (f := 13) rfl ?_); refine goesL_ (some 28) rfl rfl Try.func13 (by kernel_rfl) rfl #[.agg #[.slice A0_0 l0_0.length c0_0, .int .i64 a0_1]] rfl (by (try simp only [List.map_toArray, List.map_cons, List.map_nil]); first | done | rfl | (simp only [List.length_drop, List.length_take]; rfl)) ?_; (with_reducible refine (midrangeref04_Own.calls _ _ l0_0 a0_1 t204 t207 _ ?side1 ?side2 A24.out).mono ?_); (case side1 => exact pc_ (Kd.C_below HR0_0.out HB.out)); (case side2 => exact HC0_0.out); rintro e w29 ⟨v205, rfl, ho0, hb⟩; refine ⟨_, rfl, ?_⟩; have HO206 := Aside0.mk (Kd.R_lower ho0 (below_size (pb_ HB))); replace BK186 := kb_ BK186 hb; replace BK187 := kb_ BK187 hb; replace HB := sb_ HB hb; (try clear hb); (try clear hb2); (try clear hk); (try clear hi); (try clear ho0)) | ((with_reducible refine gate_dst (N := 6) rfl ?_); refine box_event ?hg (N := 6) ?hd (cs := #[.slice none 0 0, .int .i64 0]) (t := 24) ?hr ?_; (case hd => rfl); (case hg => rfl); (case hr => first | (go_simp; done) | (go_simp; rfl)); intro gb208 hg w30 hbox hb; replace HO206 := Aside0.mk (Kd.R_below (by (with_reducible repeat (first | apply Kd.R_alloc | apply Kd.R_drewN | apply Kd.R_drew)); exact HO206.out) hb); have BK208 := Aside0.mk (hbox); have GW208 := gw_ hg HB; have GE208 := gw_ hg HB; replace HB := sb_ HB hb; have NB186_208 := nl_ hg BK186; have NB208_186 := ng_ hg BK186; replace BK186 := kb_ BK186 hb; have NB187_208 := nl_ hg BK187; have NB208_187 := ng_ hg BK187; replace BK187 := kb_ BK187 hb; clear hb hbox hg; obtain ⟨Ao31, co31, eo31⟩ := Kd.R_slice HO206.out; subst eo31; have hnb32 := NB208_186.out; have hnc32 := NB186_208.out; have hnb33 := NB208_187.out; have hnc33 := NB187_208.out; have hcz34_0 := cz_ BK208 0 (.slice none 0 0); have hcz34_1 := cz_ BK208 1 (.int .i64 0); have hfz34_0 := blk_frozen BK208.out 0; have hfz34_1 := blk_frozen BK208.out 1))
              have n0_ : Aside0 (Kd.R k56 56 ((w30.setCell ⟨gb208, 0, none⟩ (.slice Ao31 t204.length co31)).setCell ⟨gb208, 1, none⟩ (.int .i64 t207)) w.heap.size (fun _ => True) (.slice Ao31 t204.length co31) t204) := ⟨by (with_reducible repeat (first | apply Kd.R_alloc | apply Kd.R_drewN | apply Kd.R_drew)); exact Kd.R_mono (Kd.R_far (p := ⟨gb208, 1, none⟩) (Kd.R_far (p := ⟨gb208, 0, none⟩) (Kd.R_types HO206.out BK208.out (by decide)) (fun _ hk => hk.2) (.slice Ao31 t204.length co31)) (fun _ hk => hk.2) (.int .i64 t207)) (fun _ hk => trivial)⟩
              have n1_ : Aside0 (((w30.setCell ⟨gb208, 0, none⟩ (.slice Ao31 t204.length co31)).setCell ⟨gb208, 1, none⟩ (.int .i64 t207)).heap[gb186]? = some (.cells #[.slice A0_0 l0_0.length c0_0, .int .i64 a0_1] 24 (0, 0))) := ⟨by (with_reducible repeat (first | refine blk_drewN ?_ _ | refine blk_drew ?_ | refine blk_alloc ?_ _)); refine blk_far ?_ NB186_208.out _; (with_reducible repeat (first | refine blk_drewN ?_ _ | refine blk_drew ?_ | refine blk_alloc ?_ _)); refine blk_far ?_ NB186_208.out _; (with_reducible repeat (first | refine blk_drewN ?_ _ | refine blk_drew ?_ | refine blk_alloc ?_ _)); exact BK186.out⟩
              have n2_ : Aside0 (((w30.setCell ⟨gb208, 0, none⟩ (.slice Ao31 t204.length co31)).setCell ⟨gb208, 1, none⟩ (.int .i64 t207)).heap[gb187]? = some (.cells #[.slice none 0 0, .int .i64 0, .int .i64 0, .string (⟨#[]⟩ : ByteArray), .int .i64 0] 34 (0, 0))) := ⟨by (with_reducible repeat (first | refine blk_drewN ?_ _ | refine blk_drew ?_ | refine blk_alloc ?_ _)); refine blk_far ?_ NB187_208.out _; (with_reducible repeat (first | refine blk_drewN ?_ _ | refine blk_drew ?_ | refine blk_alloc ?_ _)); refine blk_far ?_ NB187_208.out _; (with_reducible repeat (first | refine blk_drewN ?_ _ | refine blk_drew ?_ | refine blk_alloc ?_ _)); exact BK187.out⟩
              have n3_ : Aside0 (((w30.setCell ⟨gb208, 0, none⟩ (.slice Ao31 t204.length co31)).setCell ⟨gb208, 1, none⟩ (.int .i64 t207)).heap[gb208]? = some (.cells #[.slice Ao31 t204.length co31, .int .i64 t207] 24 (0, 0))) := ⟨by (with_reducible repeat (first | refine blk_drewN ?_ _ | refine blk_drew ?_ | refine blk_alloc ?_ _)); refine blk_put (cs := #[.slice Ao31 t204.length co31, .int .i64 0]) ?_ 1 _ rfl; (with_reducible repeat (first | refine blk_drewN ?_ _ | refine blk_drew ?_ | refine blk_alloc ?_ _)); refine blk_put (cs := #[.slice none 0 0, .int .i64 0]) ?_ 0 _ rfl; (with_reducible repeat (first | refine blk_drewN ?_ _ | refine blk_drew ?_ | refine blk_alloc ?_ _)); exact BK208.out⟩
              have n4_ : Aside0 (Below w.heap.size w ((w30.setCell ⟨gb208, 0, none⟩ (.slice Ao31 t204.length co31)).setCell ⟨gb208, 1, none⟩ (.int .i64 t207))) := ⟨pb_ HB⟩
              (try clear HO206)
              (try clear BK186)
              (try clear BK187)
              (try clear BK208)
              (try clear HB)
              generalize ((w30.setCell ⟨gb208, 0, none⟩ (.slice Ao31 t204.length co31)).setCell ⟨gb208, 1, none⟩ (.int .i64 t207)) = w35 at n0_ n1_ n2_ n3_ n4_ ⊢
              have HO206 := n0_
              have BK186 := n1_
              have BK187 := n2_
              have BK208 := n3_
              have HB := n4_
              clear n0_ n1_ n2_ n3_ n4_
              replace HO206 := Aside0.mk (Kd.R_drew HO206.out)
              replace BK186 := Aside0.mk (blk_drew BK186.out)
              replace BK187 := Aside0.mk (blk_drew BK187.out)
              replace BK208 := Aside0.mk (blk_drew BK208.out)
              replace HB := Aside0.mk (below_drew1 HB.out)
              refine start_ (n := 12) (S := fun w' => w'.cell? ⟨gb208, 0, none⟩ = some (.slice Ao31 t204.length co31) ∧ w'.cell? ⟨gb208, 1, none⟩ = some (.int .i64 t207) ∧ w'.cell? ⟨gb186, 0, none⟩ = some (.slice A0_0 l0_0.length c0_0) ∧ w'.cell? ⟨gb186, 1, none⟩ = some (.int .i64 a0_1)) (ds := [11]) #[false, false, false, false, false, false, false, false, false, false, false, false] (by kernel_rfl) rfl rfl ⟨(blk_cell BK208.out 0).trans rfl, (blk_cell BK208.out 1).trans rfl, (blk_cell BK186.out 0).trans rfl, (blk_cell BK186.out 1).trans rfl⟩ (fun hHeld => ?_); refine with_tabW midrangeref04_Created.tab9 midrangeref04_Created.bits9 (fun HT_ HW_ => ?_)
              generalize w35.drew = w36 at HO206 BK186 BK187 BK208 HB hHeld ⊢
              refine pu_ 0 29 HT_ ?_
              refine pu_ 2 31 HT_ ?_
              refine pu_ 4 33 HT_ ?_
              refine pu_ 5 34 HT_ ?_
              refine take_ (i := 1) (N := some 30) (v := ?_) (a' := ?_) #[true, true, true, false, true, true, false, false, false, false, false, false] rfl rfl (take_ofW HT_.out HW_.out (by kernel_rfl)) (fun _ _ _ h => h) (Or.inl ⟨by rfl, ?_⟩) hHeld ?_ ?_
              rotate_left
              · rintro w' ⟨s0, s1, s2, s3⟩
                go_simp
                with_reducible rfl
              rotate_left
              · simp only [Act.put, List.setIfInBounds_toArray, List.set_cons_zero, List.set_cons_succ, i64_w, i32_w]
                rfl
              refine take_ (i := 3) (N := some 32) (v := ?_) (a' := ?_) #[true, true, true, true, true, true, false, false, false, false, false, false] rfl rfl (take_ofW HT_.out HW_.out (by kernel_rfl)) (fun _ _ _ h => h) (Or.inl ⟨by rfl, ?_⟩) hHeld ?_ ?_
              rotate_left
              · rintro w' ⟨s0, s1, s2, s3⟩
                go_simp
                with_reducible rfl
              rotate_left
              · simp only [Act.put, List.setIfInBounds_toArray, List.set_cons_zero, List.set_cons_succ, i64_w, i32_w]
                rfl
              refine one_ (i := 6) (N := some 35) #[true, true, true, true, true, true, true, false, false, false, false, false] rfl rfl (one_of HT_.out (by kernel_rfl)) (by decide) (fun K hK => ?_)
              refine goes_ Try.func43 (by kernel_rfl) rfl #[.int .i64 (wrap64 (a1 * 32))] (by rfl) rfl rfl (by (try simp only [List.map_toArray, List.map_cons, List.map_nil]); first | done | rfl | (simp only [List.length_drop, List.length_take]; rfl)) ?_
              with_reducible refine (midrangeref04_Zeros.calls kj6 (wrap64 (a1 * 32)) t209 _ A25.out).mono ?_
              rintro e w37 ⟨rfl, hb⟩
              refine ⟨_, rfl, ?_⟩
              replace HO206 := Aside0.mk (Kd.R_below (by (with_reducible repeat (first | apply Kd.R_alloc | apply Kd.R_drewN | apply Kd.R_drew)); exact HO206.out) hb)
              replace BK186 := kb_ BK186 hb
              replace BK187 := kb_ BK187 hb
              replace BK208 := kb_ BK208 hb
              replace HB := sb_ HB hb
              (try clear hb)
              (try clear hb2)
              (try clear hk)
              (try clear hi)
              refine hK.out _ _ ⟨(blk_cell BK208.out 0).trans rfl, (blk_cell BK208.out 1).trans rfl, (blk_cell BK186.out 0).trans rfl, (blk_cell BK186.out 1).trans rfl⟩ (fun hHeld => ?_)
              clear hK K
              refine norm_ (a' := ?_) ?_ ?_
              rotate_left
              · show Act.put _ (some 35) _ = _
                simp only [Act.put, List.setIfInBounds_toArray, List.set_cons_zero, List.set_cons_succ, i64_w, i32_w]
                rfl
              refine pu_ 7 36 HT_ ?_
              refine one_ (i := 8) (N := some 37) #[true, true, true, true, true, true, true, true, true, false, false, false] rfl rfl (one_of HT_.out (by kernel_rfl)) (by decide) (fun K hK => ?_)
              refine value_ (w1 := ?_) (v := ?_) (by rfl) rfl ?_ ?_
              rotate_left 2
              · go_simp
                constructor
                · rfl
                · rfl
              refine hK.out _ _ ⟨(blk_cell (blk_alloc BK208.out _) 0).trans rfl, (blk_cell (blk_alloc BK208.out _) 1).trans rfl, (blk_cell (blk_alloc BK186.out _) 0).trans rfl, (blk_cell (blk_alloc BK186.out _) 1).trans rfl⟩ (fun hHeld => ?_)
              clear hK K
              refine norm_ (a' := ?_) ?_ ?_
              rotate_left
              · show Act.put _ (some 37) _ = _
                simp only [Act.put, List.setIfInBounds_toArray, List.set_cons_zero, List.set_cons_succ, i64_w, i32_w]
                rfl
              refine one_ (i := 9) (N := some 38) #[true, true, true, true, true, true, true, true, true, true, false, false] rfl rfl (one_of HT_.out (by kernel_rfl)) (by decide) (fun K hK => ?_)
              refine Kd.R_append_step k56 (w0 := w) w.heap.size (by rfl) (.tmp 30) (.tmp 37) 22 56 (.agg #[(.int .i64 0), (.string ⟨#[]⟩)]) 24 rfl Try.underlying22 info56 rfl (by decide) (by omega) (.slice Ao31 t204.length co31) t204 (⟨a0_1, t209⟩ : S56) [.int .i64 a0_1, .string t209] (fun _ => True) (fun _ => False) rfl rfl ?aP (fun _ hk => hk.elim) ?aF ?aO ?aB ?aS ?aL ?_
              (case aP => exact k56_mkM _ _ _ (⟨a0_1, t209⟩ : S56))
              (case aB => exact (pb_ HB))
              (case aF => exact (fun _ _ => trivial))
              (case aO => exact (by (with_reducible repeat (first | apply Kd.R_alloc | apply Kd.R_drewN | apply Kd.R_drew)); exact HO206.out))
              (case aS => exact (below_size (pb_ HB)))
              (case aL => have := LMc26.out; omega)
              intro v211 w38 ho hb hg hat
              rw [← Ny210.out] at ho
              replace BK186 := Aside0.mk (blk_grown (g := gb186) (o := .cells #[.slice A0_0 l0_0.length c0_0, .int .i64 a0_1] 24 (0, 0)) (pk_ BK186) hg (Kd.R_ne HO206.out BK186.out (by decide)))
              replace BK187 := Aside0.mk (blk_grown (g := gb187) (o := .cells #[.slice none 0 0, .int .i64 0, .int .i64 0, .string (⟨#[]⟩ : ByteArray), .int .i64 0] 34 (0, 0)) (pk_ BK187) hg (Kd.R_ne HO206.out BK187.out (by decide)))
              replace BK208 := Aside0.mk (blk_grown (g := gb208) (o := .cells #[.slice Ao31 t204.length co31, .int .i64 t207] 24 (0, 0)) (pk_ BK208) hg (Kd.R_ne HO206.out BK208.out (by decide)))
              replace HB := Aside0.mk (hb)
              have HO212 := Aside0.mk (ho)
              clear HO206
              clear ho hb hg hat
              obtain ⟨Ao39, co39, eo39⟩ := Kd.R_slice HO212.out
              (first | subst eo39 | (injection eo39 with f1_ f2_ f3_; have f4_ := f1_.symm; have f5_ := f3_.symm; clear f1_ f2_ f3_; subst f4_; subst f5_))
              refine hK.out _ _ ⟨(blk_cell BK208.out 0).trans rfl, (blk_cell BK208.out 1).trans rfl, (blk_cell BK186.out 0).trans rfl, (blk_cell BK186.out 1).trans rfl⟩ (fun hHeld => ?_)
              clear hK K
              refine norm_ (a' := ?_) ?_ ?_
              rotate_left
              · show Act.put _ (some 38) _ = _
                simp only [Act.put, List.setIfInBounds_toArray, List.set_cons_zero, List.set_cons_succ, i64_w, i32_w]
                rfl
              refine pu_ 10 39 HT_ ?_
              refine last_ (i := 11) (N := none) #[true, true, true, true, true, true, true, true, true, true, true, true] rfl rfl (one_of HT_.out (by kernel_rfl)) (by decide) (fun K hK => ?_)
              have hs40 : w38.cell? ⟨gb208, 0, none⟩ = some (.slice Ao31 t204.length co31) := (blk_cell BK208.out 0).trans rfl
              have hfs40 := blk_frozen BK208.out 0
              have hns40_0 := NB186_208.out
              have hns40_1 := NB187_208.out
              have hms40_0 := NB208_186.out
              have hms40_1 := NB208_187.out
              refine skip_ (w1 := ?_) (by rfl) rfl ?_ ?_
              rotate_left
              · go_simp
                rfl
              refine hK.out _ _ ?_
              clear hK K
              refine done_ (done_of HT_.out (by kernel_rfl)) ?_
              have hcz41_0 := cz_ BK186 0 (.slice A0_0 l0_0.length c0_0)
              have hcz41_1 := cz_ BK186 1 (.int .i64 a0_1)
              have hfz41_0 := blk_frozen BK186.out 0
              have hfz41_1 := blk_frozen BK186.out 1
              have hcz42_0 := cz_ BK208 0 (.slice Ao31 t204.length co31)
              have hcz42_1 := cz_ BK208 1 (.int .i64 t207)
              have hfz42_0 := blk_frozen BK208.out 0
              have hfz42_1 := blk_frozen BK208.out 1
              have hcz43_0 := cz_ BK187 0 (.slice none 0 0)
              have hcz43_1 := cz_ BK187 1 (.int .i64 0)
              have hcz43_2 := cz_ BK187 2 (.int .i64 0)
              have hcz43_3 := cz_ BK187 3 (.string (⟨#[]⟩ : ByteArray))
              have hcz43_4 := cz_ BK187 4 (.int .i64 0)
              have hfz43_0 := blk_frozen BK187.out 0
              have hfz43_1 := blk_frozen BK187.out 1
              have hfz43_2 := blk_frozen BK187.out 2
              have hfz43_3 := blk_frozen BK187.out 3
              have hfz43_4 := blk_frozen BK187.out 4
              try go_wp2
              refine bodyPost_ret (results_cell_row rfl _ _ gb187 34 #[.slice Ao39 y210.length co39, .int .i64 (wrap64 (a0_1 + 1)), .int .i64 a0_1, .string (⟨#[]⟩ : ByteArray), .int .i64 0] (0, 0) _ rfl (by (with_reducible repeat (first | refine blk_drewN ?_ _ | refine blk_drew ?_ | refine blk_alloc ?_ _)); refine blk_put (cs := #[.slice Ao39 y210.length co39, .int .i64 (wrap64 (a0_1 + 1)), .int .i64 a0_1, .string (⟨#[]⟩ : ByteArray), .int .i64 0]) ?_ 4 _ rfl; (with_reducible repeat (first | refine blk_drewN ?_ _ | refine blk_drew ?_ | refine blk_alloc ?_ _)); refine blk_put (cs := #[.slice Ao39 y210.length co39, .int .i64 (wrap64 (a0_1 + 1)), .int .i64 a0_1, .string (⟨#[]⟩ : ByteArray), .int .i64 0]) ?_ 3 _ rfl; (with_reducible repeat (first | refine blk_drewN ?_ _ | refine blk_drew ?_ | refine blk_alloc ?_ _)); refine blk_put (cs := #[.slice Ao39 y210.length co39, .int .i64 (wrap64 (a0_1 + 1)), .int .i64 0, .string (⟨#[]⟩ : ByteArray), .int .i64 0]) ?_ 2 _ rfl; (with_reducible repeat (first | refine blk_drewN ?_ _ | refine blk_drew ?_ | refine blk_alloc ?_ _)); refine blk_put (cs := #[.slice Ao39 y210.length co39, .int .i64 0, .int .i64 0, .string (⟨#[]⟩ : ByteArray), .int .i64 0]) ?_ 1 _ rfl; (with_reducible repeat (first | refine blk_drewN ?_ _ | refine blk_drew ?_ | refine blk_alloc ?_ _)); refine blk_put (cs := #[.slice none 0 0, .int .i64 0, .int .i64 0, .string (⟨#[]⟩ : ByteArray), .int .i64 0]) ?_ 0 _ rfl; (with_reducible repeat (first | refine blk_drewN ?_ _ | refine blk_drew ?_ | refine blk_alloc ?_ _)); refine blk_far ?_ NB187_208.out _; (with_reducible repeat (first | refine blk_drewN ?_ _ | refine blk_drew ?_ | refine blk_alloc ?_ _)); refine blk_far ?_ NB187_208.out _; (with_reducible repeat (first | refine blk_drewN ?_ _ | refine blk_drew ?_ | refine blk_alloc ?_ _)); exact BK187.out) Try.underlying34 rfl (by kernel_rfl)) rfl ?_
              exact ⟨_, er_, by (with_reducible repeat (first | apply Kd.R_alloc | apply Kd.R_drewN | apply Kd.R_drew)); exact Kd.R_mono (Kd.R_far (p := ⟨gb187, 4, none⟩) (Kd.R_far (p := ⟨gb187, 3, none⟩) (Kd.R_far (p := ⟨gb187, 2, none⟩) (Kd.R_far (p := ⟨gb187, 1, none⟩) (Kd.R_far (p := ⟨gb187, 0, none⟩) (Kd.R_far (p := ⟨gb208, 1, none⟩) (Kd.R_far (p := ⟨gb208, 0, none⟩) (Kd.R_types (Kd.R_types HO212.out BK208.out (by decide)) BK187.out (by decide)) (fun _ hk => hk.1.2) (.slice Ao39 y210.length co39)) (fun _ hk => hk.1.2) (.int .i64 (wrap64 (a0_1 + 1)))) (fun _ hk => hk.2) (.slice Ao39 y210.length co39)) (fun _ hk => hk.2) (.int .i64 (wrap64 (a0_1 + 1)))) (fun _ hk => hk.2) (.int .i64 a0_1)) (fun _ hk => hk.2) (.string (⟨#[]⟩ : ByteArray))) (fun _ hk => hk.2) (.int .i64 0)) (fun _ hk => trivial), pb_ HB⟩
            · rw [if_neg c26] at H
              exact absurd H (by simp)
    · replace c6 := Bool.eq_false_iff.mpr c6
      subst c6
      have H1 : ((midrangeref04_failed.f 3).bind fun bt190 => (some (bt190.1, bt190.2.1, bt190.2.2.1, bt190.2.2.2.1, bt190.2.2.2.2))) = some (r1, r2, r3, r4, r5) := by rw [if_neg (show ¬ (false = true) by decide)] at H; exact H
      clear H
      have H := H1
      clear H1
      replace H := Option.bind_eq_some_iff.mp H
      obtain ⟨⟨t190, t193, t194, t195, t196⟩, A440, H⟩ := H
      replace H : (some (t190, t193, t194, t195, t196)) = some (r1, r2, r3, r4, r5) := H
      have A44 := Aside0.mk A440
      clear A440
      simp only [Option.some.injEq, Prod.mk.injEq] at H
      obtain ⟨rfl, rfl, rfl, rfl, rfl⟩ := H
      go_enter Try.func15, Try.ntmps15
      go_wp2_with (first | ((with_reducible refine gate_dst (N := 2) rfl ?_); refine box_event ?hg (N := 2) ?hd (cs := #[.slice A0_0 l0_0.length c0_0, .int .i64 a0_1]) (t := 24) ?hr ?_; (case hd => rfl); (case hg => rfl); (case hr => first | (go_simp; done) | (go_simp; rfl)); intro gb186 hg w45 hbox hb; have BK186 := Aside0.mk (hbox); have GW186 := gw_ hg HB; have GE186 := gw_ hg HB; replace HB := sb_ HB hb; clear hb hbox hg) | ((with_reducible refine gate_dst (N := 4) rfl ?_); refine box_event ?hg (N := 4) ?hd (cs := #[.slice none 0 0, .int .i64 0, .int .i64 0, .string (⟨#[]⟩ : ByteArray), .int .i64 0]) (t := 34) ?hr ?_; (case hd => rfl); (case hg => rfl); (case hr => first | (go_simp; done) | (go_simp; rfl)); intro gb187 hg w46 hbox hb; have BK187 := Aside0.mk (hbox); have GW187 := gw_ hg HB; have GE187 := gw_ hg HB; replace HB := sb_ HB hb; have NB186_187 := nl_ hg BK186; have NB187_186 := ng_ hg BK186; replace BK186 := kb_ BK186 hb; clear hb hbox hg; have hnb47 := NB186_187.out; have hnc47 := NB187_186.out; have hcz48_0 := cz_ BK186 0 (.slice A0_0 l0_0.length c0_0); have hcz48_1 := cz_ BK186 1 (.int .i64 a0_1); have hfz48_0 := blk_frozen BK186.out 0; have hfz48_1 := blk_frozen BK186.out 1) | ((with_reducible refine gate_callee (f := 35) rfl ?_); refine goesL_ (some 8) rfl rfl Try.func35 (by kernel_rfl) rfl #[.agg #[.slice A0_0 l0_0.length c0_0, .int .i64 a0_1]] rfl (by (try simp only [List.map_toArray, List.map_cons, List.map_nil]); first | done | rfl | (simp only [List.length_drop, List.length_take]; rfl)) ?_; (with_reducible refine (midrangeref04_Err.calls k _ _ l0_0 a0_1 t188 _ ?side1 ?side2 A3.out).mono ?_); (case side1 => exact pc_ (Kd.C_below HR0_0.out HB.out)); (case side2 => exact HC0_0.out); rintro e w49 ⟨rfl, hb⟩; refine ⟨_, rfl, ?_⟩; replace BK186 := kb_ BK186 hb; replace BK187 := kb_ BK187 hb; replace HB := sb_ HB hb; (try clear hb); (try clear hb2); (try clear hk); (try clear hi)) | ((with_reducible refine gate_callee (f := 30) rfl ?_); refine goesL_ (some 14) rfl rfl Try.func30 (by kernel_rfl) rfl #[.int .i64 a1, .int .i64 1, .int .i64 8] rfl (by (try simp only [List.map_toArray, List.map_cons, List.map_nil]); first | done | rfl | (simp only [List.length_drop, List.length_take]; rfl)) ?_; (with_reducible refine (midrangebase_Within.calls a1 1 8 false _ A5.out).mono ?_); rintro e w' ⟨rfl, ⟨nd, rfl⟩⟩; refine ⟨_, rfl, ?_⟩; (try (rw [drewN_self w49]; generalize hq_ : World.drewN w49 _ = w49; have n0_ : Aside0 (w49.heap[gb186]? = some (.cells #[.slice A0_0 l0_0.length c0_0, .int .i64 a0_1] 24 (0, 0))) := ⟨by rw [← hq_]; exact (pk_ BK186)⟩; have n1_ : Aside0 (w49.heap[gb187]? = some (.cells #[.slice none 0 0, .int .i64 0, .int .i64 0, .string (⟨#[]⟩ : ByteArray), .int .i64 0] 34 (0, 0))) := ⟨by rw [← hq_]; exact (pk_ BK187)⟩; have n2_ : Aside0 (Below w.heap.size w w49) := ⟨by rw [← hq_]; exact (pb_ HB)⟩; clear BK186 BK187 HB hq_; have BK186 := n0_; have BK187 := n1_; have HB := n2_; clear n0_ n1_ n2_))) | ((with_reducible refine gate_callee (f := 42) rfl ?_); refine goesL_ (some 16) rfl rfl Try.func42 (by kernel_rfl) rfl #[.int .i64 3] rfl (by (try simp only [List.map_toArray, List.map_cons, List.map_nil]); first | done | rfl | (simp only [List.length_drop, List.length_take]; rfl)) ?_; (with_reducible refine (midrangeref04_failed.calls 3 t190 t193 t194 t195 t196 _ A44.out).mono ?_); rintro e w50 ⟨v191, rfl, ho0, hb⟩; refine ⟨_, rfl, ?_⟩; have HO192 := Aside0.mk (Kd.R_lower ho0 (below_size (pb_ HB))); replace BK186 := kb_ BK186 hb; replace BK187 := kb_ BK187 hb; replace HB := sb_ HB hb; (try clear hb); (try clear hb2); (try clear hk); (try clear hi); (try clear ho0); obtain ⟨Ao51, co51, eo51⟩ := Kd.R_slice HO192.out; subst eo51; have hcz52_0 := cz_ BK187 0 (.slice none 0 0); have hcz52_1 := cz_ BK187 1 (.int .i64 0); have hcz52_2 := cz_ BK187 2 (.int .i64 0); have hcz52_3 := cz_ BK187 3 (.string (⟨#[]⟩ : ByteArray)); have hcz52_4 := cz_ BK187 4 (.int .i64 0); have hfz52_0 := blk_frozen BK187.out 0; have hfz52_1 := blk_frozen BK187.out 1; have hfz52_2 := blk_frozen BK187.out 2; have hfz52_3 := blk_frozen BK187.out 3; have hfz52_4 := blk_frozen BK187.out 4))
      refine bodyPost_ret (results_cell_row rfl _ _ gb187 34 #[.slice Ao51 t190.length co51, .int .i64 t193, .int .i64 t194, .string t195, .int .i64 t196] (0, 0) _ rfl (by (with_reducible repeat (first | refine blk_drewN ?_ _ | refine blk_drew ?_ | refine blk_alloc ?_ _)); refine blk_put (cs := #[.slice Ao51 t190.length co51, .int .i64 t193, .int .i64 t194, .string t195, .int .i64 0]) ?_ 4 _ rfl; (with_reducible repeat (first | refine blk_drewN ?_ _ | refine blk_drew ?_ | refine blk_alloc ?_ _)); refine blk_put (cs := #[.slice Ao51 t190.length co51, .int .i64 t193, .int .i64 t194, .string (⟨#[]⟩ : ByteArray), .int .i64 0]) ?_ 3 _ rfl; (with_reducible repeat (first | refine blk_drewN ?_ _ | refine blk_drew ?_ | refine blk_alloc ?_ _)); refine blk_put (cs := #[.slice Ao51 t190.length co51, .int .i64 t193, .int .i64 0, .string (⟨#[]⟩ : ByteArray), .int .i64 0]) ?_ 2 _ rfl; (with_reducible repeat (first | refine blk_drewN ?_ _ | refine blk_drew ?_ | refine blk_alloc ?_ _)); refine blk_put (cs := #[.slice Ao51 t190.length co51, .int .i64 0, .int .i64 0, .string (⟨#[]⟩ : ByteArray), .int .i64 0]) ?_ 1 _ rfl; (with_reducible repeat (first | refine blk_drewN ?_ _ | refine blk_drew ?_ | refine blk_alloc ?_ _)); refine blk_put (cs := #[.slice none 0 0, .int .i64 0, .int .i64 0, .string (⟨#[]⟩ : ByteArray), .int .i64 0]) ?_ 0 _ rfl; (with_reducible repeat (first | refine blk_drewN ?_ _ | refine blk_drew ?_ | refine blk_alloc ?_ _)); exact BK187.out) Try.underlying34 rfl (by kernel_rfl)) rfl ?_
      exact ⟨_, er_, by (with_reducible repeat (first | apply Kd.R_alloc | apply Kd.R_drewN | apply Kd.R_drew)); exact Kd.R_mono (Kd.R_far (p := ⟨gb187, 4, none⟩) (Kd.R_far (p := ⟨gb187, 3, none⟩) (Kd.R_far (p := ⟨gb187, 2, none⟩) (Kd.R_far (p := ⟨gb187, 1, none⟩) (Kd.R_far (p := ⟨gb187, 0, none⟩) (Kd.R_types HO192.out BK187.out (by decide)) (fun _ hk => hk.2) (.slice Ao51 t190.length co51)) (fun _ hk => hk.2) (.int .i64 t193)) (fun _ hk => hk.2) (.int .i64 t194)) (fun _ hk => hk.2) (.string t195)) (fun _ hk => hk.2) (.int .i64 t196)) (fun _ hk => trivial), pb_ HB⟩
  · rw [if_neg c4] at H
    have c4b0 : (t188 == 0) = false := beq_eq_false_iff_ne.mpr c4
    have c4b1 : (t188 != 0) = true := bne_iff_ne.mpr c4
    simp only [Option.some.injEq, Prod.mk.injEq] at H
    obtain ⟨rfl, rfl, rfl, rfl, rfl⟩ := H
    go_enter Try.func15, Try.ntmps15
    go_wp2_with (first | ((with_reducible refine gate_dst (N := 2) rfl ?_); refine box_event ?hg (N := 2) ?hd (cs := #[.slice A0_0 l0_0.length c0_0, .int .i64 a0_1]) (t := 24) ?hr ?_; (case hd => rfl); (case hg => rfl); (case hr => first | (go_simp; done) | (go_simp; rfl)); intro gb186 hg w53 hbox hb; have BK186 := Aside0.mk (hbox); have GW186 := gw_ hg HB; have GE186 := gw_ hg HB; replace HB := sb_ HB hb; clear hb hbox hg) | ((with_reducible refine gate_dst (N := 4) rfl ?_); refine box_event ?hg (N := 4) ?hd (cs := #[.slice none 0 0, .int .i64 0, .int .i64 0, .string (⟨#[]⟩ : ByteArray), .int .i64 0]) (t := 34) ?hr ?_; (case hd => rfl); (case hg => rfl); (case hr => first | (go_simp; done) | (go_simp; rfl)); intro gb187 hg w54 hbox hb; have BK187 := Aside0.mk (hbox); have GW187 := gw_ hg HB; have GE187 := gw_ hg HB; replace HB := sb_ HB hb; have NB186_187 := nl_ hg BK186; have NB187_186 := ng_ hg BK186; replace BK186 := kb_ BK186 hb; clear hb hbox hg; have hnb55 := NB186_187.out; have hnc55 := NB187_186.out; have hcz56_0 := cz_ BK186 0 (.slice A0_0 l0_0.length c0_0); have hcz56_1 := cz_ BK186 1 (.int .i64 a0_1); have hfz56_0 := blk_frozen BK186.out 0; have hfz56_1 := blk_frozen BK186.out 1) | ((with_reducible refine gate_callee (f := 35) rfl ?_); refine goesL_ (some 8) rfl rfl Try.func35 (by kernel_rfl) rfl #[.agg #[.slice A0_0 l0_0.length c0_0, .int .i64 a0_1]] rfl (by (try simp only [List.map_toArray, List.map_cons, List.map_nil]); first | done | rfl | (simp only [List.length_drop, List.length_take]; rfl)) ?_; (with_reducible refine (midrangeref04_Err.calls k _ _ l0_0 a0_1 t188 _ ?side1 ?side2 A3.out).mono ?_); (case side1 => exact pc_ (Kd.C_below HR0_0.out HB.out)); (case side2 => exact HC0_0.out); rintro e w57 ⟨rfl, hb⟩; refine ⟨_, rfl, ?_⟩; replace BK186 := kb_ BK186 hb; replace BK187 := kb_ BK187 hb; replace HB := sb_ HB hb; (try clear hb); (try clear hb2); (try clear hk); (try clear hi); have hcz58_0 := cz_ BK187 0 (.slice none 0 0); have hcz58_1 := cz_ BK187 1 (.int .i64 0); have hcz58_2 := cz_ BK187 2 (.int .i64 0); have hcz58_3 := cz_ BK187 3 (.string (⟨#[]⟩ : ByteArray)); have hcz58_4 := cz_ BK187 4 (.int .i64 0); have hfz58_0 := blk_frozen BK187.out 0; have hfz58_1 := blk_frozen BK187.out 1; have hfz58_2 := blk_frozen BK187.out 2; have hfz58_3 := blk_frozen BK187.out 3; have hfz58_4 := blk_frozen BK187.out 4))
    refine bodyPost_ret (results_cell_row rfl _ _ gb187 34 #[.slice none 0 0, .int .i64 0, .int .i64 0, .string (⟨#[]⟩ : ByteArray), .int .i64 t188] (0, 0) _ rfl (by (with_reducible repeat (first | refine blk_drewN ?_ _ | refine blk_drew ?_ | refine blk_alloc ?_ _)); refine blk_put (cs := #[.slice none 0 0, .int .i64 0, .int .i64 0, .string (⟨#[]⟩ : ByteArray), .int .i64 0]) ?_ 4 _ rfl; (with_reducible repeat (first | refine blk_drewN ?_ _ | refine blk_drew ?_ | refine blk_alloc ?_ _)); refine blk_put (cs := #[.slice none 0 0, .int .i64 0, .int .i64 0, .string (⟨#[]⟩ : ByteArray), .int .i64 0]) ?_ 3 _ rfl; (with_reducible repeat (first | refine blk_drewN ?_ _ | refine blk_drew ?_ | refine blk_alloc ?_ _)); refine blk_put (cs := #[.slice none 0 0, .int .i64 0, .int .i64 0, .string (⟨#[]⟩ : ByteArray), .int .i64 0]) ?_ 2 _ rfl; (with_reducible repeat (first | refine blk_drewN ?_ _ | refine blk_drew ?_ | refine blk_alloc ?_ _)); refine blk_put (cs := #[.slice none 0 0, .int .i64 0, .int .i64 0, .string (⟨#[]⟩ : ByteArray), .int .i64 0]) ?_ 1 _ rfl; (with_reducible repeat (first | refine blk_drewN ?_ _ | refine blk_drew ?_ | refine blk_alloc ?_ _)); refine blk_put (cs := #[.slice none 0 0, .int .i64 0, .int .i64 0, .string (⟨#[]⟩ : ByteArray), .int .i64 0]) ?_ 0 _ rfl; (with_reducible repeat (first | refine blk_drewN ?_ _ | refine blk_drew ?_ | refine blk_alloc ?_ _)); exact BK187.out) Try.underlying34 rfl (by kernel_rfl)) rfl ?_
    exact ⟨_, er_, by first | exact Kd.R_nil _ _ _ _ _ | exact Kd.N_nil _ _ _ _ _ | exact Kd.V_nil _ _ _ _ _ | exact Kd.Q_nil _ _ _ _ _ | exact Kd.S_nil _ _ _ _ _, pb_ HB⟩

end Go.Proofs.Ytoabahlaicgmjaa.X
end
