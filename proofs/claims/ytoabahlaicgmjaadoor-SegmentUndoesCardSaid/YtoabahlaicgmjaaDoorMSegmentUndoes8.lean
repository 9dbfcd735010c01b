-- Texts of this claim joined by merge.py, a program of its author; what this claim does not reach is left out.
import Derived.Test.YtoabahlaicgmjaaDoorMSegmentUndoes7
section
namespace Go.Proofs.YtoabahlaicgmjaaDoor.X
open Go.Proofs.YtoabahlaicgmjaaDoor.XW Go.Proofs.YtoabahlaicgmjaaDoor.XS
open Go.RowKit Go.Proofs.YtoabahlaicgmjaaDoorW.PrintWords Go.Proofs.YtoabahlaicgmjaaDoorW.PrintLast Go.Proofs.YtoabahlaicgmjaaDoorW.PrintMore
attribute [local go_sem] max2_int min2_int max_two min_two max_three min_three max_four min_four   -- for this text's walks alone
set_option linter.unusedVariables false
set_option linter.unusedSimpArgs false
mutual
def midrangeref04_Check.l0 : Nat → Int → List (S46) → Int → Option (Int × Int)
  | 0, _, _, _ => none
  | k + 1, x4, x298000, x298001 => if x4 < (x298000.length : Int) then (if 0 ≤ x4 then ((midrangebase_Within.f ((rd_T46 x298000 x4).f0) 1 (wrap64 (x298001 - 1))).bind fun t301 => (if t301 = true then (if x4 > 0 then (if 0 ≤ (wrap64 (x4 - 1)) then (if (wrap64 (x4 - 1)) < (x298000.length : Int) then (midrangeref04_Check.j1 k x4 (decide (((rd_T46 x298000 x4).f0) ≤ ((rd_T46 x298000 (wrap64 (x4 - 1))).f0))) x298000 x298001 ((rd_T46 x298000 x4).f0) ((rd_T46 x298000 x4).f1)) else (none)) else (none)) else (midrangeref04_Check.j1 k x4 false x298000 x298001 ((rd_T46 x298000 x4).f0) ((rd_T46 x298000 x4).f1))) else (some (x4, 3)))) else (none)) else (some (0, 0))
def midrangeref04_Check.j1 : Nat → Int → Bool → List (S46) → Int → Int → ByteArray → Option (Int × Int)
  | 0, _, _, _, _, _, _ => none
  | k + 1, x4, x47, x298000, x298001, x301000, x301001 => if x47 = true then (some (x4, 14)) else (if ((x301001.size : Int) % 32) = 0 then ((midrangeref04_Pages.f x301001).bind fun t303 => ((midrangebase_Within.f t303 1 8).bind fun t304 => (if t304 = true then (midrangeref04_Check.l0 k (wrap64 (x4 + 1)) x298000 x298001) else (some (x4, 18))))) else (some (x4, 18)))
end
def midrangeref04_Check.f (k : Nat) (l0_0 : List (S46)) (a0_1 : Int) : Option (Int × Int) := if (l0_0.length : Int) > 10 then (some (0, 2)) else ((midrangebase_Within.f a0_1 1 1001).bind fun t298 => (if t298 = true then (midrangeref04_Check.l0 k 0 l0_0 a0_1) else (some (0, 3))))
set_option maxHeartbeats 8000000 in
set_option maxRecDepth 100000 in
theorem midrangeref04_Check.calls (k : Nat) (A0_0 : Option Addr) (c0_0 : Nat) (l0_0 : List (S46)) (a0_1 : Int) (r1 : Int) (r2 : Int) (w : World) (hr0_0 : Kd.C k46 w A0_0 l0_0.length l0_0) (hc0_0 : l0_0.length ≤ c0_0) (h : midrangeref04_Check.f k l0_0 a0_1 = some (r1, r2)) :
  Calls Tryd.prog 50 #[.agg #[.slice A0_0 l0_0.length c0_0, .int .i64 a0_1]] w fun e w' => e = .returned (.tuple #[.int .i64 r1, .int .i64 r2]) ∧ Below w.heap.size w w' := by
 have hu24 := Tryd.underlying24
 have hu46 := Tryd.underlying46
 have HR0_0 := Aside0.mk hr0_0
 have HC0_0 := Aside0.mk hc0_0
 clear hr0_0 hc0_0
 have HB := Aside0.mk (Below.refl w.heap.size w)
 have H : (if (l0_0.length : Int) > 10 then (some (0, 2)) else ((midrangebase_Within.f a0_1 1 1001).bind fun t298 => (if t298 = true then (midrangeref04_Check.l0 k 0 l0_0 a0_1) else (some (0, 3))))) = some (r1, r2) := h
 clear h
 by_cases c2 : (l0_0.length : Int) > 10
 ·
  rw [if_pos c2] at H
  have c2b0 : decide (10 < (l0_0.length : Int)) = true := decide_eq_true c2
  have c2b1 : decide (10 < l0_0.length) = true := decide_eq_true (by omega)
  clear c2
  simp only [Option.some.injEq, Prod.mk.injEq] at H
  obtain ⟨rfl, rfl⟩ := H
  go_enter Tryd.func50, Tryd.ntmps50
  go_wp2_with (first | ((with_reducible refine gate_dst (N := 1) rfl ?_); refine bx_ 1 #[.slice A0_0 l0_0.length c0_0, .int .i64 a0_1] 24 ?_; intro gb297 hg w3 hbox hb; have BK297 := Aside0.mk (hbox); have GW297 := gw_ hg HB; have GE297 := gw_ hg HB; replace HB := sb_ HB hb; clear hb hbox hg; have hcz4_0 := cz_ BK297 0 (.slice A0_0 l0_0.length c0_0); have hcz4_1 := cz_ BK297 1 (.int .i64 a0_1); have hfz4_0 := blk_frozen BK297.out 0; have hfz4_1 := blk_frozen BK297.out 1))
  repeat (go_quiet (first | ((with_reducible refine gate_dst (N := 1) rfl ?_); refine bx_ 1 #[.slice A0_0 l0_0.length c0_0, .int .i64 a0_1] 24 ?_; intro gb297 hg w3 hbox hb; have BK297 := Aside0.mk (hbox); have GW297 := gw_ hg HB; have GE297 := gw_ hg HB; replace HB := sb_ HB hb; clear hb hbox hg; have hcz4_0 := cz_ BK297 0 (.slice A0_0 l0_0.length c0_0); have hcz4_1 := cz_ BK297 1 (.int .i64 a0_1); have hfz4_0 := blk_frozen BK297.out 0; have hfz4_1 := blk_frozen BK297.out 1)); try go_wp2_with (first | ((with_reducible refine gate_dst (N := 1) rfl ?_); refine bx_ 1 #[.slice A0_0 l0_0.length c0_0, .int .i64 a0_1] 24 ?_; intro gb297 hg w3 hbox hb; have BK297 := Aside0.mk (hbox); have GW297 := gw_ hg HB; have GE297 := gw_ hg HB; replace HB := sb_ HB hb; clear hb hbox hg; have hcz4_0 := cz_ BK297 0 (.slice A0_0 l0_0.length c0_0); have hcz4_1 := cz_ BK297 1 (.int .i64 a0_1); have hfz4_0 := blk_frozen BK297.out 0; have hfz4_1 := blk_frozen BK297.out 1)))
  go_ret2
  exact ⟨er_, pb_ HB⟩
 rw [if_neg c2] at H
 have c2b0 : decide (10 < (l0_0.length : Int)) = false := decide_eq_false c2
 have c2b1 : decide (10 < l0_0.length) = false := decide_eq_false (by omega)
 clear c2
 replace H := Option.bind_eq_some_iff.mp H
 obtain ⟨t298, A50, H⟩ := H
 replace H : (if t298 = true then (midrangeref04_Check.l0 k 0 l0_0 a0_1) else (some (0, 3))) = some (r1, r2) := H
 have A5 := Aside0.mk A50
 clear A50
 by_cases c6 : t298 = true
 ·
  subst c6
  have H1 : (midrangeref04_Check.l0 k 0 l0_0 a0_1) = some (r1, r2) := by rw [if_pos rfl] at H; exact H
  clear H
  have H := H1
  clear H1
  have H' := Aside0.mk H
  clear H
  go_enter Tryd.func50, Tryd.ntmps50
  go_wp2_with (first | ((with_reducible refine gate_dst (N := 1) rfl ?_); refine bx_ 1 #[.slice A0_0 l0_0.length c0_0, .int .i64 a0_1] 24 ?_; intro gb297 hg w7 hbox hb; have BK297 := Aside0.mk (hbox); have GW297 := gw_ hg HB; have GE297 := gw_ hg HB; replace HB := sb_ HB hb; clear hb hbox hg; have hcz8_0 := cz_ BK297 0 (.slice A0_0 l0_0.length c0_0); have hcz8_1 := cz_ BK297 1 (.int .i64 a0_1); have hfz8_0 := blk_frozen BK297.out 0; have hfz8_1 := blk_frozen BK297.out 1) | (go_at_call 68; (with_reducible refine (midrangebase_Within.calls a0_1 1 1001 true _ A5.out).mono ?_); rintro e w' ⟨rfl, ⟨nd, rfl⟩⟩; (try first | exact ⟨rfl, _, World.drewN_drewN _ _ _⟩ | exact ⟨rfl, _, Eq.trans (World.drewN_drewN _ _ _) (congrArg (World.drewN _) (Nat.add_assoc _ _ _))⟩)))
  repeat (go_quiet (first | ((with_reducible refine gate_dst (N := 1) rfl ?_); refine bx_ 1 #[.slice A0_0 l0_0.length c0_0, .int .i64 a0_1] 24 ?_; intro gb297 hg w7 hbox hb; have BK297 := Aside0.mk (hbox); have GW297 := gw_ hg HB; have GE297 := gw_ hg HB; replace HB := sb_ HB hb; clear hb hbox hg; have hcz8_0 := cz_ BK297 0 (.slice A0_0 l0_0.length c0_0); have hcz8_1 := cz_ BK297 1 (.int .i64 a0_1); have hfz8_0 := blk_frozen BK297.out 0; have hfz8_1 := blk_frozen BK297.out 1) | (go_at_call 68; (with_reducible refine (midrangebase_Within.calls a0_1 1 1001 true _ A5.out).mono ?_); rintro e w' ⟨rfl, ⟨nd, rfl⟩⟩; (try first | exact ⟨rfl, _, World.drewN_drewN _ _ _⟩ | exact ⟨rfl, _, Eq.trans (World.drewN_drewN _ _ _) (congrArg (World.drewN _) (Nat.add_assoc _ _ _))⟩))); try go_wp2_with (first | ((with_reducible refine gate_dst (N := 1) rfl ?_); refine bx_ 1 #[.slice A0_0 l0_0.length c0_0, .int .i64 a0_1] 24 ?_; intro gb297 hg w7 hbox hb; have BK297 := Aside0.mk (hbox); have GW297 := gw_ hg HB; have GE297 := gw_ hg HB; replace HB := sb_ HB hb; clear hb hbox hg; have hcz8_0 := cz_ BK297 0 (.slice A0_0 l0_0.length c0_0); have hcz8_1 := cz_ BK297 1 (.int .i64 a0_1); have hfz8_0 := blk_frozen BK297.out 0; have hfz8_1 := blk_frozen BK297.out 1) | (go_at_call 68; (with_reducible refine (midrangebase_Within.calls a0_1 1 1001 true _ A5.out).mono ?_); rintro e w' ⟨rfl, ⟨nd, rfl⟩⟩; (try first | exact ⟨rfl, _, World.drewN_drewN _ _ _⟩ | exact ⟨rfl, _, Eq.trans (World.drewN_drewN _ _ _) (congrArg (World.drewN _) (Nat.add_assoc _ _ _))⟩))))
  go_loopg [4] k (fun kq v4 w' => ∃ (x4_1 : Int), v4 = .int .i64 x4_1 ∧ Aside0 (midrangeref04_Check.l0 kq x4_1 l0_0 a0_1 = some (r1, r2)) ∧ Aside0 (kq ≤ k) ∧ Aside0 (w'.heap[gb297]? = some (.cells #[(.slice A0_0 l0_0.length c0_0), .int .i64 a0_1] 24 (0, 0))) ∧ Aside0 (Below w.heap.size w w'))
  case atStart => exact ⟨(0), rl_, H', ⟨Nat.le_refl _⟩, ⟨pk_ BK297⟩, ⟨pb_ HB⟩⟩
  case round =>
   clear H'
   try clear c2
   try clear c2b0
   try clear c2b1
   try clear p2
   try clear c5
   try clear c6
   try clear hcz4_0
   try clear hcz4_1
   try clear hcz8_0
   try clear hcz8_1
   try clear hfz4_0
   try clear hfz4_1
   try clear hfz8_0
   try clear hfz8_1
   obtain ⟨x4_1, rfl, HA, HK1, BK297, HB⟩ := hrel
   cases gk with
   | zero => exact absurd HA.out (by simp [midrangeref04_Check.l0])
   | succ k1 =>
    have H := HA.out
    clear HA
    simp only [midrangeref04_Check.l0] at H
    by_cases c9 : x4_1 < (l0_0.length : Int)
    ·
     rw [if_pos c9] at H
     have c9b0 : decide (x4_1 < (l0_0.length : Int)) = true := decide_eq_true c9
     clear c9
     by_cases c10 : 0 ≤ x4_1
     ·
      rw [if_pos c10] at H
      have c10b0 : decide (0 ≤ x4_1) = true := decide_eq_true c10
      clear c10
      replace H := Option.bind_eq_some_iff.mp H
      obtain ⟨t301, A110, H⟩ := H
      replace H : (if t301 = true then (if x4_1 > 0 then (if 0 ≤ (wrap64 (x4_1 - 1)) then (if (wrap64 (x4_1 - 1)) < (l0_0.length : Int) then (midrangeref04_Check.j1 k1 x4_1 (decide (((rd_T46 l0_0 x4_1).f0) ≤ ((rd_T46 l0_0 (wrap64 (x4_1 - 1))).f0))) l0_0 a0_1 ((rd_T46 l0_0 x4_1).f0) ((rd_T46 l0_0 x4_1).f1)) else (none)) else (none)) else (midrangeref04_Check.j1 k1 x4_1 false l0_0 a0_1 ((rd_T46 l0_0 x4_1).f0) ((rd_T46 l0_0 x4_1).f1))) else (some (x4_1, 3))) = some (r1, r2) := H
      have A11 := Aside0.mk A110
      clear A110
      by_cases c12 : t301 = true
      ·
       subst c12
       have H1 : (if x4_1 > 0 then (if 0 ≤ (wrap64 (x4_1 - 1)) then (if (wrap64 (x4_1 - 1)) < (l0_0.length : Int) then (midrangeref04_Check.j1 k1 x4_1 (decide (((rd_T46 l0_0 x4_1).f0) ≤ ((rd_T46 l0_0 (wrap64 (x4_1 - 1))).f0))) l0_0 a0_1 ((rd_T46 l0_0 x4_1).f0) ((rd_T46 l0_0 x4_1).f1)) else (none)) else (none)) else (midrangeref04_Check.j1 k1 x4_1 false l0_0 a0_1 ((rd_T46 l0_0 x4_1).f0) ((rd_T46 l0_0 x4_1).f1))) = some (r1, r2) := by rw [if_pos rfl] at H; exact H
       clear H
       have H := H1
       clear H1
       have HC13 := Aside0.mk H
       clear H
       have hcz14_0 := cz_ BK297 0 (.slice A0_0 l0_0.length c0_0)
       have hcz14_1 := cz_ BK297 1 (.int .i64 a0_1)
       have hfz14_0 := blk_frozen BK297.out 0
       have hfz14_1 := blk_frozen BK297.out 1
       have p299 : 0 ≤ (x4_1 : Int) := ct_
       have q299 : x4_1 < (l0_0.length : Int) := ct_
       obtain ⟨ad299, e299, hx299_0, hx299_1⟩ := at_T46 HR0_0.out x4_1 p299 q299
       cases e299
       replace hx299_0 := pw_cell_below HB.out hx299_0
       replace hx299_1 := pw_cell_below HB.out hx299_1
       replace p299 := eq_true p299
       replace q299 := eq_true q299
       go_upto_region 11 with (first | ((with_reducible refine gate_dst (N := 5) rfl ?_); refine bx_ 5 #[.int .i64 0, .string (⟨#[]⟩ : ByteArray)] 46 ?_; intro gb300 hg w15 hbox hb; have BK300 := Aside0.mk (hbox); have GW300 := gw_ hg HB; have GE300 := gw_ hg HB; replace HB := sb_ HB hb; have NB297_300 := nl_ hg BK297; have NB300_297 := ng_ hg BK297; replace BK297 := kb_ BK297 hb; clear hb hbox hg; have hnb16 := NB300_297.out; have hnc16 := NB297_300.out; have hcz17_0 := cz_ BK300 0 (.int .i64 0); have hcz17_1 := cz_ BK300 1 (.string (⟨#[]⟩ : ByteArray)); have hfz17_0 := blk_frozen BK300.out 0; have hfz17_1 := blk_frozen BK300.out 1; have hcz18_0 := cz_ BK297 0 (.slice (some ad299) l0_0.length c0_0); have hcz18_1 := cz_ BK297 1 (.int .i64 a0_1); have hfz18_0 := blk_frozen BK297.out 0; have hfz18_1 := blk_frozen BK297.out 1) | (go_at_call 68; (with_reducible refine (midrangebase_Within.calls ((rd_T46 l0_0 x4_1).f0) 1 (wrap64 (a0_1 - 1)) true _ A11.out).mono ?_); rintro e w' ⟨rfl, ⟨nd, rfl⟩⟩; (try first | exact ⟨rfl, _, World.drewN_drewN _ _ _⟩ | exact ⟨rfl, _, Eq.trans (World.drewN_drewN _ _ _) (congrArg (World.drewN _) (Nat.add_assoc _ _ _))⟩)))
       repeat (go_quiet (first | ((with_reducible refine gate_dst (N := 5) rfl ?_); refine bx_ 5 #[.int .i64 0, .string (⟨#[]⟩ : ByteArray)] 46 ?_; intro gb300 hg w15 hbox hb; have BK300 := Aside0.mk (hbox); have GW300 := gw_ hg HB; have GE300 := gw_ hg HB; replace HB := sb_ HB hb; have NB297_300 := nl_ hg BK297; have NB300_297 := ng_ hg BK297; replace BK297 := kb_ BK297 hb; clear hb hbox hg; have hnb16 := NB300_297.out; have hnc16 := NB297_300.out; have hcz17_0 := cz_ BK300 0 (.int .i64 0); have hcz17_1 := cz_ BK300 1 (.string (⟨#[]⟩ : ByteArray)); have hfz17_0 := blk_frozen BK300.out 0; have hfz17_1 := blk_frozen BK300.out 1; have hcz18_0 := cz_ BK297 0 (.slice (some ad299) l0_0.length c0_0); have hcz18_1 := cz_ BK297 1 (.int .i64 a0_1); have hfz18_0 := blk_frozen BK297.out 0; have hfz18_1 := blk_frozen BK297.out 1) | (go_at_call 68; (with_reducible refine (midrangebase_Within.calls ((rd_T46 l0_0 x4_1).f0) 1 (wrap64 (a0_1 - 1)) true _ A11.out).mono ?_); rintro e w' ⟨rfl, ⟨nd, rfl⟩⟩; (try first | exact ⟨rfl, _, World.drewN_drewN _ _ _⟩ | exact ⟨rfl, _, Eq.trans (World.drewN_drewN _ _ _) (congrArg (World.drewN _) (Nat.add_assoc _ _ _))⟩))); go_upto_region 11 with (first | ((with_reducible refine gate_dst (N := 5) rfl ?_); refine bx_ 5 #[.int .i64 0, .string (⟨#[]⟩ : ByteArray)] 46 ?_; intro gb300 hg w15 hbox hb; have BK300 := Aside0.mk (hbox); have GW300 := gw_ hg HB; have GE300 := gw_ hg HB; replace HB := sb_ HB hb; have NB297_300 := nl_ hg BK297; have NB300_297 := ng_ hg BK297; replace BK297 := kb_ BK297 hb; clear hb hbox hg; have hnb16 := NB300_297.out; have hnc16 := NB297_300.out; have hcz17_0 := cz_ BK300 0 (.int .i64 0); have hcz17_1 := cz_ BK300 1 (.string (⟨#[]⟩ : ByteArray)); have hfz17_0 := blk_frozen BK300.out 0; have hfz17_1 := blk_frozen BK300.out 1; have hcz18_0 := cz_ BK297 0 (.slice (some ad299) l0_0.length c0_0); have hcz18_1 := cz_ BK297 1 (.int .i64 a0_1); have hfz18_0 := blk_frozen BK297.out 0; have hfz18_1 := blk_frozen BK297.out 1) | (go_at_call 68; (with_reducible refine (midrangebase_Within.calls ((rd_T46 l0_0 x4_1).f0) 1 (wrap64 (a0_1 - 1)) true _ A11.out).mono ?_); rintro e w' ⟨rfl, ⟨nd, rfl⟩⟩; (try first | exact ⟨rfl, _, World.drewN_drewN _ _ _⟩ | exact ⟨rfl, _, Eq.trans (World.drewN_drewN _ _ _) (congrArg (World.drewN _) (Nat.add_assoc _ _ _))⟩))))
       (try simp only [Act.put, List.setIfInBounds_toArray, List.set_cons_zero, List.set_cons_succ])
       go_cut [47] (fun v47 wc => ∃ (kq : Nat) (x47_12 : Bool), v47 = .bool x47_12 ∧ Aside0 (midrangeref04_Check.j1 kq x4_1 x47_12 l0_0 a0_1 ((rd_T46 l0_0 x4_1).f0) ((rd_T46 l0_0 x4_1).f1) = some (r1, r2)) ∧ Aside0 (kq ≤ k1) ∧ Aside0 (wc.heap[gb297]? = some (.cells #[(.slice (some ad299) l0_0.length c0_0), .int .i64 a0_1] 24 (0, 0))) ∧ Aside0 (wc.heap[gb300]? = some (.cells #[.int .i64 ((rd_T46 l0_0 x4_1).f0), .string ((rd_T46 l0_0 x4_1).f1)] 46 (0, 0))) ∧ Aside0 (Below w.heap.size w wc))
       case first =>
        have H := HC13.out
        clear HC13
        by_cases c19 : x4_1 > 0
        ·
         rw [if_pos c19] at H
         have c19b0 : decide (0 < x4_1) = true := decide_eq_true c19
         clear c19
         (first | rw [c19b0] | (simp only [i64_w, i32_w]; rw [c19b0]) | skip)
         obtain ⟨ji20, hji20⟩ : ∃ j_ : Int, (wrap64 (x4_1 - 1)) = j_ := ⟨_, rfl⟩
         replace H : (if 0 ≤ (ji20) then (if (ji20) < (l0_0.length : Int) then (midrangeref04_Check.j1 k1 x4_1 (decide (((rd_T46 l0_0 x4_1).f0) ≤ ((rd_T46 l0_0 (ji20)).f0))) l0_0 a0_1 ((rd_T46 l0_0 x4_1).f0) ((rd_T46 l0_0 x4_1).f1)) else (none)) else (none)) = some (r1, r2) := by first | (rw [hji20] at H; exact H) | (simp only [hji20] at H ⊢; exact H)
         have hji20w : (IntKind.i64.wrap (x4_1 - 1)) = ji20 := (i64_w _).trans hji20
         by_cases c21 : 0 ≤ (ji20)
         ·
          rw [if_pos c21] at H
          have c21b0 : decide (0 ≤ (ji20)) = true := decide_eq_true c21
          clear c21
          by_cases c22 : (ji20) < (l0_0.length : Int)
          ·
           rw [if_pos c22] at H
           have c22b0 : decide ((ji20) < (l0_0.length : Int)) = true := decide_eq_true c22
           clear c22
           have H' := Aside0.mk H
           clear H
           have hnb23 := NB300_297.out
           have hnc23 := NB297_300.out
           have hcz24_0 := cz_ BK300 0 (.int .i64 0)
           have hcz24_1 := cz_ BK300 1 (.string (⟨#[]⟩ : ByteArray))
           have hfz24_0 := blk_frozen BK300.out 0
           have hfz24_1 := blk_frozen BK300.out 1
           have hcz25_0 := cz_ BK297 0 (.slice (some ad299) l0_0.length c0_0)
           have hcz25_1 := cz_ BK297 1 (.int .i64 a0_1)
           have hfz25_0 := blk_frozen BK297.out 0
           have hfz25_1 := blk_frozen BK297.out 1
           have p302 : 0 ≤ ((ji20) : Int) := ct_
           have q302 : (ji20) < (l0_0.length : Int) := ct_
           obtain ⟨ad302, e302, hx302_0, hx302_1⟩ := at_T46 HR0_0.out (ji20) p302 q302
           obtain rfl : ad299 = ad302 := (by injection e302)
           have hn302_0 : ad299.block ≠ gb300 := Nat.ne_of_lt (Nat.lt_of_lt_of_le (by have := World.block_lt_of_cell? _ _ hx302_0; first | rwa [add_block] at this | exact this) GW300.out)
           have hn302_1 : ad299.block ≠ gb300 := Nat.ne_of_lt (Nat.lt_of_lt_of_le (by have := World.block_lt_of_cell? _ _ hx302_0; first | rwa [add_block] at this | exact this) GW300.out)
           replace hx302_0 := pw_cell_below HB.out hx302_0
           replace hx302_1 := pw_cell_below HB.out hx302_1
           replace hx302_0 := (cell_far (p := ⟨gb300, 0, none⟩) (by first | (rw [add_block]; exact hn302_0) | (show (Addr.add _ _).block ≠ _; rw [add_block]; exact hn302_0) | exact hn302_0) (.int .i64 ((rd_T46 l0_0 x4_1).f0))).trans hx302_0
           replace hx302_1 := (cell_far (p := ⟨gb300, 0, none⟩) (by first | (rw [add_block]; exact hn302_0) | (show (Addr.add _ _).block ≠ _; rw [add_block]; exact hn302_0) | exact hn302_0) (.int .i64 ((rd_T46 l0_0 x4_1).f0))).trans hx302_1
           replace hx302_0 := (cell_far (p := ⟨gb300, 1, none⟩) (by first | (rw [add_block]; exact hn302_1) | (show (Addr.add _ _).block ≠ _; rw [add_block]; exact hn302_1) | exact hn302_1) (.string ((rd_T46 l0_0 x4_1).f1))).trans hx302_0
           replace hx302_1 := (cell_far (p := ⟨gb300, 1, none⟩) (by first | (rw [add_block]; exact hn302_1) | (show (Addr.add _ _).block ≠ _; rw [add_block]; exact hn302_1) | exact hn302_1) (.string ((rd_T46 l0_0 x4_1).f1))).trans hx302_1
           (try have hy302_0 := fun (n_ : Nat) => (show ((((w15.drewN n_).setCell ⟨gb300, 0, none⟩ (.int .i64 ((rd_T46 l0_0 x4_1).f0))).setCell ⟨gb300, 1, none⟩ (.string ((rd_T46 l0_0 x4_1).f1)))).cell? _ = some _ from hx302_0))
           (try have hy302_1 := fun (n_ : Nat) => (show ((((w15.drewN n_).setCell ⟨gb300, 0, none⟩ (.int .i64 ((rd_T46 l0_0 x4_1).f0))).setCell ⟨gb300, 1, none⟩ (.string ((rd_T46 l0_0 x4_1).f1)))).cell? _ = some _ from hx302_1))
           clear hn302_0
           clear hn302_1
           replace p302 := eq_true p302
           replace q302 := eq_true q302
           go_wp2
           repeat (go_quiet (fail); try go_wp2)
           go_meet
           case rel => exact ⟨_, (decide (((rd_T46 l0_0 x4_1).f0) ≤ ((rd_T46 l0_0 (ji20)).f0))), (by first | rfl | (simp; done) | (simp only [← hji20] <;> (first | rfl | simp)) | (simp [*]; done)), H', ⟨by have := HK1.out; first | omega | exact Nat.le_refl _⟩, ⟨by (with_reducible repeat (first | refine blk_drewN ?_ _ | refine blk_drew ?_ | refine blk_alloc ?_ _)); refine blk_far ?_ NB297_300.out _; (with_reducible repeat (first | refine blk_drewN ?_ _ | refine blk_drew ?_ | refine blk_alloc ?_ _)); refine blk_far ?_ NB297_300.out _; (with_reducible repeat (first | refine blk_drewN ?_ _ | refine blk_drew ?_ | refine blk_alloc ?_ _)); exact BK297.out⟩, ⟨bq_ BK300⟩, ⟨pb_ HB⟩⟩
          rw [if_neg c22] at H
          exact absurd H (by simp)
         rw [if_neg c21] at H
         exact absurd H (by simp)
        rw [if_neg c19] at H
        have c19b0 : decide (0 < x4_1) = false := decide_eq_false c19
        clear c19
        (first | rw [c19b0] | (simp only [i64_w, i32_w]; rw [c19b0]) | skip)
        have H' := Aside0.mk H
        clear H
        go_wp2
        repeat (go_quiet (fail); try go_wp2)
        go_meet
        case rel => exact ⟨_, (false), rl_, H', ⟨by have := HK1.out; first | omega | exact Nat.le_refl _⟩, ⟨by (with_reducible repeat (first | refine blk_drewN ?_ _ | refine blk_drew ?_ | refine blk_alloc ?_ _)); refine blk_far ?_ NB297_300.out _; (with_reducible repeat (first | refine blk_drewN ?_ _ | refine blk_drew ?_ | refine blk_alloc ?_ _)); refine blk_far ?_ NB297_300.out _; (with_reducible repeat (first | refine blk_drewN ?_ _ | refine blk_drew ?_ | refine blk_alloc ?_ _)); exact BK297.out⟩, ⟨bq_ BK300⟩, ⟨pb_ HB⟩⟩
       case rest =>
        clear HC13
        try clear c1
        try clear c2
        try clear c2b0
        try clear c2b1
        try clear p2
        try clear q2
        try clear hx2
        try clear p3
        try clear q3
        try clear hx3
        try clear c5
        try clear c6
        try clear p6
        try clear c9
        try clear c9b0
        try clear c10
        try clear c10b0
        try clear c12
        try clear c16
        try clear c19
        try clear c19b0
        try clear c21
        try clear c21b0
        try clear c22
        try clear c22b0
        try clear c23
        try clear hcz14_0
        try clear hcz14_1
        try clear hcz17_0
        try clear hcz17_1
        try clear hcz18_0
        try clear hcz18_1
        try clear hcz24_0
        try clear hcz24_1
        try clear hcz25_0
        try clear hcz25_1
        try clear hcz4_0
        try clear hcz4_1
        try clear hcz8_0
        try clear hcz8_1
        try clear hfz14_0
        try clear hfz14_1
        try clear hfz17_0
        try clear hfz17_1
        try clear hfz18_0
        try clear hfz18_1
        try clear hfz24_0
        try clear hfz24_1
        try clear hfz25_0
        try clear hfz25_1
        try clear hfz4_0
        try clear hfz4_1
        try clear hfz8_0
        try clear hfz8_1
        try clear hx299_0
        try clear hx299_1
        try clear hx302_0
        try clear hx302_1
        try clear p2
        try clear p299
        try clear p302
        try clear q299
        try clear q302
        obtain ⟨kq, x47_12, rfl, HA, HJ12, BK297, BK300, HB⟩ := hcut
        cases kq with
        | zero => exact absurd HA.out (by simp [midrangeref04_Check.j1])
        | succ kj12 =>
         have H := HA.out
         clear HA
         simp only [midrangeref04_Check.j1] at H
         by_cases c26 : x47_12 = true
         ·
          subst c26
          have H1 : (some (x4_1, 14)) = some (r1, r2) := by rw [if_pos rfl] at H; exact H
          clear H
          have H := H1
          clear H1
          simp only [Option.some.injEq, Prod.mk.injEq] at H
          obtain ⟨rfl, rfl⟩ := H
          go_wp2
          repeat (go_quiet (fail); try go_wp2)
          go_ret2
          exact ⟨er_, pb_ HB⟩
         replace c26 := Bool.eq_false_iff.mpr c26
         subst c26
         have H1 : (if ((((rd_T46 l0_0 x4_1).f1).size : Int) % 32) = 0 then ((midrangeref04_Pages.f ((rd_T46 l0_0 x4_1).f1)).bind fun t303 => ((midrangebase_Within.f t303 1 8).bind fun t304 => (if t304 = true then (midrangeref04_Check.l0 kj12 (wrap64 (x4_1 + 1)) l0_0 a0_1) else (some (x4_1, 18))))) else (some (x4_1, 18))) = some (r1, r2) := by rw [if_neg (show ¬ (false = true) by decide)] at H; exact H
         clear H
         have H := H1
         clear H1
         by_cases c27 : ((((rd_T46 l0_0 x4_1).f1).size : Int) % 32) = 0
         ·
          rw [if_pos c27] at H
          have c27b0 : (((((rd_T46 l0_0 x4_1).f1).size : Int) % 32) == 0) = true := beq_iff_eq.mpr c27
          have c27b1 : (((((rd_T46 l0_0 x4_1).f1).size : Int) % 32) != 0) = false := bne_eq_false_iff_eq.mpr c27
          clear c27
          replace H := Option.bind_eq_some_iff.mp H
          obtain ⟨t303, A280, H⟩ := H
          replace H : ((midrangebase_Within.f t303 1 8).bind fun t304 => (if t304 = true then (midrangeref04_Check.l0 kj12 (wrap64 (x4_1 + 1)) l0_0 a0_1) else (some (x4_1, 18)))) = some (r1, r2) := H
          have A28 := Aside0.mk A280
          clear A280
          replace H := Option.bind_eq_some_iff.mp H
          obtain ⟨t304, A290, H⟩ := H
          replace H : (if t304 = true then (midrangeref04_Check.l0 kj12 (wrap64 (x4_1 + 1)) l0_0 a0_1) else (some (x4_1, 18))) = some (r1, r2) := H
          have A29 := Aside0.mk A290
          clear A290
          by_cases c30 : t304 = true
          ·
           subst c30
           have H1 : (midrangeref04_Check.l0 kj12 (wrap64 (x4_1 + 1)) l0_0 a0_1) = some (r1, r2) := by rw [if_pos rfl] at H; exact H
           clear H
           have H := H1
           clear H1
           have H' := Aside0.mk H
           clear H
           have hnb31 := NB300_297.out
           have hnc31 := NB297_300.out
           have hcz32_0 := cz_ BK300 0 (.int .i64 ((rd_T46 l0_0 x4_1).f0))
           have hcz32_1 := cz_ BK300 1 (.string ((rd_T46 l0_0 x4_1).f1))
           have hfz32_0 := blk_frozen BK300.out 0
           have hfz32_1 := blk_frozen BK300.out 1
           go_wp2_with (first | (go_at_call 20; (with_reducible refine (midrangeref04_Pages.calls ((rd_T46 l0_0 x4_1).f1) t303 _ A28.out).mono ?_); rintro e w' ⟨rfl, ⟨nd, rfl⟩⟩; (try first | exact ⟨rfl, _, World.drewN_drewN _ _ _⟩ | exact ⟨rfl, _, Eq.trans (World.drewN_drewN _ _ _) (congrArg (World.drewN _) (Nat.add_assoc _ _ _))⟩)) | (go_at_call 68; (with_reducible refine (midrangebase_Within.calls t303 1 8 true _ A29.out).mono ?_); rintro e w' ⟨rfl, ⟨nd, rfl⟩⟩; (try first | exact ⟨rfl, _, World.drewN_drewN _ _ _⟩ | exact ⟨rfl, _, Eq.trans (World.drewN_drewN _ _ _) (congrArg (World.drewN _) (Nat.add_assoc _ _ _))⟩)))
           repeat (go_quiet (first | (go_at_call 20; (with_reducible refine (midrangeref04_Pages.calls ((rd_T46 l0_0 x4_1).f1) t303 _ A28.out).mono ?_); rintro e w' ⟨rfl, ⟨nd, rfl⟩⟩; (try first | exact ⟨rfl, _, World.drewN_drewN _ _ _⟩ | exact ⟨rfl, _, Eq.trans (World.drewN_drewN _ _ _) (congrArg (World.drewN _) (Nat.add_assoc _ _ _))⟩)) | (go_at_call 68; (with_reducible refine (midrangebase_Within.calls t303 1 8 true _ A29.out).mono ?_); rintro e w' ⟨rfl, ⟨nd, rfl⟩⟩; (try first | exact ⟨rfl, _, World.drewN_drewN _ _ _⟩ | exact ⟨rfl, _, Eq.trans (World.drewN_drewN _ _ _) (congrArg (World.drewN _) (Nat.add_assoc _ _ _))⟩))); try go_wp2_with (first | (go_at_call 20; (with_reducible refine (midrangeref04_Pages.calls ((rd_T46 l0_0 x4_1).f1) t303 _ A28.out).mono ?_); rintro e w' ⟨rfl, ⟨nd, rfl⟩⟩; (try first | exact ⟨rfl, _, World.drewN_drewN _ _ _⟩ | exact ⟨rfl, _, Eq.trans (World.drewN_drewN _ _ _) (congrArg (World.drewN _) (Nat.add_assoc _ _ _))⟩)) | (go_at_call 68; (with_reducible refine (midrangebase_Within.calls t303 1 8 true _ A29.out).mono ?_); rintro e w' ⟨rfl, ⟨nd, rfl⟩⟩; (try first | exact ⟨rfl, _, World.drewN_drewN _ _ _⟩ | exact ⟨rfl, _, Eq.trans (World.drewN_drewN _ _ _) (congrArg (World.drewN _) (Nat.add_assoc _ _ _))⟩))))
           go_roundg kj12
           case measure => have := HK1.out; have := HJ12.out; omega
           case rel => exact ⟨(wrap64 (x4_1 + 1)), rl_, H', ⟨by have := HK1.out; have := HJ12.out; omega⟩, ⟨pk_ BK297⟩, ⟨pb_ HB⟩⟩
          replace c30 := Bool.eq_false_iff.mpr c30
          subst c30
          have H1 : (some (x4_1, 18)) = some (r1, r2) := by rw [if_neg (show ¬ (false = true) by decide)] at H; exact H
          clear H
          have H := H1
          clear H1
          simp only [Option.some.injEq, Prod.mk.injEq] at H
          obtain ⟨rfl, rfl⟩ := H
          have hnb33 := NB300_297.out
          have hnc33 := NB297_300.out
          have hcz34_0 := cz_ BK300 0 (.int .i64 ((rd_T46 l0_0 x4_1).f0))
          have hcz34_1 := cz_ BK300 1 (.string ((rd_T46 l0_0 x4_1).f1))
          have hfz34_0 := blk_frozen BK300.out 0
          have hfz34_1 := blk_frozen BK300.out 1
          go_wp2_with (first | (go_at_call 20; (with_reducible refine (midrangeref04_Pages.calls ((rd_T46 l0_0 x4_1).f1) t303 _ A28.out).mono ?_); rintro e w' ⟨rfl, ⟨nd, rfl⟩⟩; (try first | exact ⟨rfl, _, World.drewN_drewN _ _ _⟩ | exact ⟨rfl, _, Eq.trans (World.drewN_drewN _ _ _) (congrArg (World.drewN _) (Nat.add_assoc _ _ _))⟩)) | (go_at_call 68; (with_reducible refine (midrangebase_Within.calls t303 1 8 false _ A29.out).mono ?_); rintro e w' ⟨rfl, ⟨nd, rfl⟩⟩; (try first | exact ⟨rfl, _, World.drewN_drewN _ _ _⟩ | exact ⟨rfl, _, Eq.trans (World.drewN_drewN _ _ _) (congrArg (World.drewN _) (Nat.add_assoc _ _ _))⟩)))
          repeat (go_quiet (first | (go_at_call 20; (with_reducible refine (midrangeref04_Pages.calls ((rd_T46 l0_0 x4_1).f1) t303 _ A28.out).mono ?_); rintro e w' ⟨rfl, ⟨nd, rfl⟩⟩; (try first | exact ⟨rfl, _, World.drewN_drewN _ _ _⟩ | exact ⟨rfl, _, Eq.trans (World.drewN_drewN _ _ _) (congrArg (World.drewN _) (Nat.add_assoc _ _ _))⟩)) | (go_at_call 68; (with_reducible refine (midrangebase_Within.calls t303 1 8 false _ A29.out).mono ?_); rintro e w' ⟨rfl, ⟨nd, rfl⟩⟩; (try first | exact ⟨rfl, _, World.drewN_drewN _ _ _⟩ | exact ⟨rfl, _, Eq.trans (World.drewN_drewN _ _ _) (congrArg (World.drewN _) (Nat.add_assoc _ _ _))⟩))); try go_wp2_with (first | (go_at_call 20; (with_reducible refine (midrangeref04_Pages.calls ((rd_T46 l0_0 x4_1).f1) t303 _ A28.out).mono ?_); rintro e w' ⟨rfl, ⟨nd, rfl⟩⟩; (try first | exact ⟨rfl, _, World.drewN_drewN _ _ _⟩ | exact ⟨rfl, _, Eq.trans (World.drewN_drewN _ _ _) (congrArg (World.drewN _) (Nat.add_assoc _ _ _))⟩)) | (go_at_call 68; (with_reducible refine (midrangebase_Within.calls t303 1 8 false _ A29.out).mono ?_); rintro e w' ⟨rfl, ⟨nd, rfl⟩⟩; (try first | exact ⟨rfl, _, World.drewN_drewN _ _ _⟩ | exact ⟨rfl, _, Eq.trans (World.drewN_drewN _ _ _) (congrArg (World.drewN _) (Nat.add_assoc _ _ _))⟩))))
          go_ret2
          exact ⟨er_, pb_ HB⟩
         rw [if_neg c27] at H
         have c27b0 : (((((rd_T46 l0_0 x4_1).f1).size : Int) % 32) == 0) = false := beq_eq_false_iff_ne.mpr c27
         have c27b1 : (((((rd_T46 l0_0 x4_1).f1).size : Int) % 32) != 0) = true := bne_iff_ne.mpr c27
         simp only [Option.some.injEq, Prod.mk.injEq] at H
         obtain ⟨rfl, rfl⟩ := H
         have hnb35 := NB300_297.out
         have hnc35 := NB297_300.out
         have hcz36_0 := cz_ BK300 0 (.int .i64 ((rd_T46 l0_0 x4_1).f0))
         have hcz36_1 := cz_ BK300 1 (.string ((rd_T46 l0_0 x4_1).f1))
         have hfz36_0 := blk_frozen BK300.out 0
         have hfz36_1 := blk_frozen BK300.out 1
         go_wp2
         repeat (go_quiet (fail); try go_wp2)
         go_ret2
         exact ⟨er_, pb_ HB⟩
      replace c12 := Bool.eq_false_iff.mpr c12
      subst c12
      have H1 : (some (x4_1, 3)) = some (r1, r2) := by rw [if_neg (show ¬ (false = true) by decide)] at H; exact H
      clear H
      have H := H1
      clear H1
      simp only [Option.some.injEq, Prod.mk.injEq] at H
      obtain ⟨rfl, rfl⟩ := H
      have hcz37_0 := cz_ BK297 0 (.slice A0_0 l0_0.length c0_0)
      have hcz37_1 := cz_ BK297 1 (.int .i64 a0_1)
      have hfz37_0 := blk_frozen BK297.out 0
      have hfz37_1 := blk_frozen BK297.out 1
      have p299 : 0 ≤ (x4_1 : Int) := ct_
      have q299 : x4_1 < (l0_0.length : Int) := ct_
      obtain ⟨ad299, e299, hx299_0, hx299_1⟩ := at_T46 HR0_0.out x4_1 p299 q299
      cases e299
      replace hx299_0 := pw_cell_below HB.out hx299_0
      replace hx299_1 := pw_cell_below HB.out hx299_1
      replace p299 := eq_true p299
      replace q299 := eq_true q299
      go_wp2_with (first | ((with_reducible refine gate_dst (N := 5) rfl ?_); refine bx_ 5 #[.int .i64 0, .string (⟨#[]⟩ : ByteArray)] 46 ?_; intro gb300 hg w38 hbox hb; have BK300 := Aside0.mk (hbox); have GW300 := gw_ hg HB; have GE300 := gw_ hg HB; replace HB := sb_ HB hb; have NB297_300 := nl_ hg BK297; have NB300_297 := ng_ hg BK297; replace BK297 := kb_ BK297 hb; clear hb hbox hg; have hnb39 := NB300_297.out; have hnc39 := NB297_300.out; have hcz40_0 := cz_ BK300 0 (.int .i64 0); have hcz40_1 := cz_ BK300 1 (.string (⟨#[]⟩ : ByteArray)); have hfz40_0 := blk_frozen BK300.out 0; have hfz40_1 := blk_frozen BK300.out 1; have hcz41_0 := cz_ BK297 0 (.slice (some ad299) l0_0.length c0_0); have hcz41_1 := cz_ BK297 1 (.int .i64 a0_1); have hfz41_0 := blk_frozen BK297.out 0; have hfz41_1 := blk_frozen BK297.out 1) | (go_at_call 68; (with_reducible refine (midrangebase_Within.calls ((rd_T46 l0_0 x4_1).f0) 1 (wrap64 (a0_1 - 1)) false _ A11.out).mono ?_); rintro e w' ⟨rfl, ⟨nd, rfl⟩⟩; (try first | exact ⟨rfl, _, World.drewN_drewN _ _ _⟩ | exact ⟨rfl, _, Eq.trans (World.drewN_drewN _ _ _) (congrArg (World.drewN _) (Nat.add_assoc _ _ _))⟩)))
      repeat (go_quiet (first | ((with_reducible refine gate_dst (N := 5) rfl ?_); refine bx_ 5 #[.int .i64 0, .string (⟨#[]⟩ : ByteArray)] 46 ?_; intro gb300 hg w38 hbox hb; have BK300 := Aside0.mk (hbox); have GW300 := gw_ hg HB; have GE300 := gw_ hg HB; replace HB := sb_ HB hb; have NB297_300 := nl_ hg BK297; have NB300_297 := ng_ hg BK297; replace BK297 := kb_ BK297 hb; clear hb hbox hg; have hnb39 := NB300_297.out; have hnc39 := NB297_300.out; have hcz40_0 := cz_ BK300 0 (.int .i64 0); have hcz40_1 := cz_ BK300 1 (.string (⟨#[]⟩ : ByteArray)); have hfz40_0 := blk_frozen BK300.out 0; have hfz40_1 := blk_frozen BK300.out 1; have hcz41_0 := cz_ BK297 0 (.slice (some ad299) l0_0.length c0_0); have hcz41_1 := cz_ BK297 1 (.int .i64 a0_1); have hfz41_0 := blk_frozen BK297.out 0; have hfz41_1 := blk_frozen BK297.out 1) | (go_at_call 68; (with_reducible refine (midrangebase_Within.calls ((rd_T46 l0_0 x4_1).f0) 1 (wrap64 (a0_1 - 1)) false _ A11.out).mono ?_); rintro e w' ⟨rfl, ⟨nd, rfl⟩⟩; (try first | exact ⟨rfl, _, World.drewN_drewN _ _ _⟩ | exact ⟨rfl, _, Eq.trans (World.drewN_drewN _ _ _) (congrArg (World.drewN _) (Nat.add_assoc _ _ _))⟩))); try go_wp2_with (first | ((with_reducible refine gate_dst (N := 5) rfl ?_); refine bx_ 5 #[.int .i64 0, .string (⟨#[]⟩ : ByteArray)] 46 ?_; intro gb300 hg w38 hbox hb; have BK300 := Aside0.mk (hbox); have GW300 := gw_ hg HB; have GE300 := gw_ hg HB; replace HB := sb_ HB hb; have NB297_300 := nl_ hg BK297; have NB300_297 := ng_ hg BK297; replace BK297 := kb_ BK297 hb; clear hb hbox hg; have hnb39 := NB300_297.out; have hnc39 := NB297_300.out; have hcz40_0 := cz_ BK300 0 (.int .i64 0); have hcz40_1 := cz_ BK300 1 (.string (⟨#[]⟩ : ByteArray)); have hfz40_0 := blk_frozen BK300.out 0; have hfz40_1 := blk_frozen BK300.out 1; have hcz41_0 := cz_ BK297 0 (.slice (some ad299) l0_0.length c0_0); have hcz41_1 := cz_ BK297 1 (.int .i64 a0_1); have hfz41_0 := blk_frozen BK297.out 0; have hfz41_1 := blk_frozen BK297.out 1) | (go_at_call 68; (with_reducible refine (midrangebase_Within.calls ((rd_T46 l0_0 x4_1).f0) 1 (wrap64 (a0_1 - 1)) false _ A11.out).mono ?_); rintro e w' ⟨rfl, ⟨nd, rfl⟩⟩; (try first | exact ⟨rfl, _, World.drewN_drewN _ _ _⟩ | exact ⟨rfl, _, Eq.trans (World.drewN_drewN _ _ _) (congrArg (World.drewN _) (Nat.add_assoc _ _ _))⟩))))
      go_ret2
      exact ⟨er_, pb_ HB⟩
     rw [if_neg c10] at H
     exact absurd H (by simp)
    rw [if_neg c9] at H
    have c9b0 : decide (x4_1 < (l0_0.length : Int)) = false := decide_eq_false c9
    clear c9
    simp only [Option.some.injEq, Prod.mk.injEq] at H
    obtain ⟨rfl, rfl⟩ := H
    have hcz42_0 := cz_ BK297 0 (.slice A0_0 l0_0.length c0_0)
    have hcz42_1 := cz_ BK297 1 (.int .i64 a0_1)
    have hfz42_0 := blk_frozen BK297.out 0
    have hfz42_1 := blk_frozen BK297.out 1
    go_wp2
    repeat (go_quiet (fail); try go_wp2)
    go_ret2
    exact ⟨er_, pb_ HB⟩
 replace c6 := Bool.eq_false_iff.mpr c6
 subst c6
 have H1 : (some (0, 3)) = some (r1, r2) := by rw [if_neg (show ¬ (false = true) by decide)] at H; exact H
 clear H
 have H := H1
 clear H1
 simp only [Option.some.injEq, Prod.mk.injEq] at H
 obtain ⟨rfl, rfl⟩ := H
 go_enter Tryd.func50, Tryd.ntmps50
 go_wp2_with (first | ((with_reducible refine gate_dst (N := 1) rfl ?_); refine bx_ 1 #[.slice A0_0 l0_0.length c0_0, .int .i64 a0_1] 24 ?_; intro gb297 hg w43 hbox hb; have BK297 := Aside0.mk (hbox); have GW297 := gw_ hg HB; have GE297 := gw_ hg HB; replace HB := sb_ HB hb; clear hb hbox hg; have hcz44_0 := cz_ BK297 0 (.slice A0_0 l0_0.length c0_0); have hcz44_1 := cz_ BK297 1 (.int .i64 a0_1); have hfz44_0 := blk_frozen BK297.out 0; have hfz44_1 := blk_frozen BK297.out 1) | (go_at_call 68; (with_reducible refine (midrangebase_Within.calls a0_1 1 1001 false _ A5.out).mono ?_); rintro e w' ⟨rfl, ⟨nd, rfl⟩⟩; (try first | exact ⟨rfl, _, World.drewN_drewN _ _ _⟩ | exact ⟨rfl, _, Eq.trans (World.drewN_drewN _ _ _) (congrArg (World.drewN _) (Nat.add_assoc _ _ _))⟩)))
 repeat (go_quiet (first | ((with_reducible refine gate_dst (N := 1) rfl ?_); refine bx_ 1 #[.slice A0_0 l0_0.length c0_0, .int .i64 a0_1] 24 ?_; intro gb297 hg w43 hbox hb; have BK297 := Aside0.mk (hbox); have GW297 := gw_ hg HB; have GE297 := gw_ hg HB; replace HB := sb_ HB hb; clear hb hbox hg; have hcz44_0 := cz_ BK297 0 (.slice A0_0 l0_0.length c0_0); have hcz44_1 := cz_ BK297 1 (.int .i64 a0_1); have hfz44_0 := blk_frozen BK297.out 0; have hfz44_1 := blk_frozen BK297.out 1) | (go_at_call 68; (with_reducible refine (midrangebase_Within.calls a0_1 1 1001 false _ A5.out).mono ?_); rintro e w' ⟨rfl, ⟨nd, rfl⟩⟩; (try first | exact ⟨rfl, _, World.drewN_drewN _ _ _⟩ | exact ⟨rfl, _, Eq.trans (World.drewN_drewN _ _ _) (congrArg (World.drewN _) (Nat.add_assoc _ _ _))⟩))); try go_wp2_with (first | ((with_reducible refine gate_dst (N := 1) rfl ?_); refine bx_ 1 #[.slice A0_0 l0_0.length c0_0, .int .i64 a0_1] 24 ?_; intro gb297 hg w43 hbox hb; have BK297 := Aside0.mk (hbox); have GW297 := gw_ hg HB; have GE297 := gw_ hg HB; replace HB := sb_ HB hb; clear hb hbox hg; have hcz44_0 := cz_ BK297 0 (.slice A0_0 l0_0.length c0_0); have hcz44_1 := cz_ BK297 1 (.int .i64 a0_1); have hfz44_0 := blk_frozen BK297.out 0; have hfz44_1 := blk_frozen BK297.out 1) | (go_at_call 68; (with_reducible refine (midrangebase_Within.calls a0_1 1 1001 false _ A5.out).mono ?_); rintro e w' ⟨rfl, ⟨nd, rfl⟩⟩; (try first | exact ⟨rfl, _, World.drewN_drewN _ _ _⟩ | exact ⟨rfl, _, Eq.trans (World.drewN_drewN _ _ _) (congrArg (World.drewN _) (Nat.add_assoc _ _ _))⟩))))
 go_ret2
 exact ⟨er_, pb_ HB⟩
def midrangeref04_Err.f (k : Nat) (l0_0 : List (S46)) (a0_1 : Int) : Option (Int) := (midrangeref04_Check.f k l0_0 a0_1).bind fun bt306 => (some bt306.2)
set_option maxHeartbeats 8000000 in
set_option maxRecDepth 100000 in
theorem midrangeref04_Err.calls (k : Nat) (A0_0 : Option Addr) (c0_0 : Nat) (l0_0 : List (S46)) (a0_1 : Int) (r : Int) (w : World) (hr0_0 : Kd.C k46 w A0_0 l0_0.length l0_0) (hc0_0 : l0_0.length ≤ c0_0) (h : midrangeref04_Err.f k l0_0 a0_1 = some r) :
  Calls Tryd.prog 37 #[.agg #[.slice A0_0 l0_0.length c0_0, .int .i64 a0_1]] w fun e w' => e = .returned (.int .i64 r) ∧ Below w.heap.size w w' := by
 have hu24 := Tryd.underlying24
 have HR0_0 := Aside0.mk hr0_0
 have HC0_0 := Aside0.mk hc0_0
 clear hr0_0 hc0_0
 have HB := Aside0.mk (Below.refl w.heap.size w)
 have H : ((midrangeref04_Check.f k l0_0 a0_1).bind fun bt306 => (some bt306.2)) = some r := h
 clear h
 replace H := Option.bind_eq_some_iff.mp H
 obtain ⟨⟨t306, t307⟩, A20, H⟩ := H
 replace H : (some t307) = some r := H
 have A2 := Aside0.mk A20
 clear A20
 obtain rfl := Option.some.inj H
 go_enter Tryd.func37, Tryd.ntmps37
 go_wp2_with (first | ((with_reducible refine gate_dst (N := 1) rfl ?_); refine bx_ 1 #[.slice A0_0 l0_0.length c0_0, .int .i64 a0_1] 24 ?_; intro gb305 hg w3 hbox hb; have BK305 := Aside0.mk (hbox); have GW305 := gw_ hg HB; have GE305 := gw_ hg HB; replace HB := sb_ HB hb; clear hb hbox hg; have hcz4_0 := cz_ BK305 0 (.slice A0_0 l0_0.length c0_0); have hcz4_1 := cz_ BK305 1 (.int .i64 a0_1); have hfz4_0 := blk_frozen BK305.out 0; have hfz4_1 := blk_frozen BK305.out 1) | ((with_reducible refine gate_callee (f := 50) rfl ?_); refine gl_ 7 Tryd.func50 #[.agg #[.slice A0_0 l0_0.length c0_0, .int .i64 a0_1]] ?_; (with_reducible refine (midrangeref04_Check.calls k _ _ l0_0 a0_1 t306 t307 _ ?side1 ?side2 A2.out).mono ?_); (case side1 => exact pc_ (Kd.C_below HR0_0.out HB.out)); (case side2 => exact HC0_0.out); rintro e w5 ⟨rfl, hb⟩; refine ⟨_, rfl, ?_⟩; replace BK305 := kb_ BK305 hb; replace HB := sb_ HB hb; (try clear hb); (try clear hb2); (try clear hk); (try clear hi)))
 go_ret
 exact ⟨er_, pb_ HB⟩

def midrangeref04_failed.f (a0 : Int) : Option ((List (S46)) × Int × Int × ByteArray × Int) := some (([] : List (S46)), 0, 0, (⟨#[]⟩ : ByteArray), a0)
set_option maxHeartbeats 8000000 in
set_option maxRecDepth 100000 in
theorem midrangeref04_failed.calls (a0 : Int) (r1 : List (S46)) (r2 : Int) (r3 : Int) (r4 : ByteArray) (r5 : Int) (w : World) (h : midrangeref04_failed.f a0 = some (r1, r2, r3, r4, r5)) :
  Calls Tryd.prog 38 #[.int .i64 a0] w fun e w' => ∃ v0_ : Value, e = .returned (.agg #[v0_, .int .i64 r2, .int .i64 r3, .string r4, .int .i64 r5]) ∧ Kd.R k46 46 w' w.heap.size (fun _ => True) v0_ r1 ∧ Below w.heap.size w w' := by
 have hu51 := Tryd.underlying51
 have HB := Aside0.mk (Below.refl w.heap.size w)
 have H : (some (([] : List (S46)), 0, 0, (⟨#[]⟩ : ByteArray), a0)) = some (r1, r2, r3, r4, r5) := h
 clear h
 simp only [Option.some.injEq, Prod.mk.injEq] at H
 obtain ⟨rfl, rfl, rfl, rfl, rfl⟩ := H
 go_enter Tryd.func38, Tryd.ntmps38
 go_wp2_with (first | ((with_reducible refine gate_dst (N := 2) rfl ?_); refine bx_ 2 #[.slice none 0 0, .int .i64 0, .int .i64 0, .string (⟨#[]⟩ : ByteArray), .int .i64 0] 51 ?_; intro gb308 hg w2 hbox hb; have BK308 := Aside0.mk (hbox); have GW308 := gw_ hg HB; have GE308 := gw_ hg HB; replace HB := sb_ HB hb; clear hb hbox hg; have hcz3_0 := cz_ BK308 0 (.slice none 0 0); have hcz3_1 := cz_ BK308 1 (.int .i64 0); have hcz3_2 := cz_ BK308 2 (.int .i64 0); have hcz3_3 := cz_ BK308 3 (.string (⟨#[]⟩ : ByteArray)); have hcz3_4 := cz_ BK308 4 (.int .i64 0); have hfz3_0 := blk_frozen BK308.out 0; have hfz3_1 := blk_frozen BK308.out 1; have hfz3_2 := blk_frozen BK308.out 2; have hfz3_3 := blk_frozen BK308.out 3; have hfz3_4 := blk_frozen BK308.out 4))
 refine bodyPost_ret (results_cell_row rfl _ _ gb308 51 #[.slice none 0 0, .int .i64 0, .int .i64 0, .string (⟨#[]⟩ : ByteArray), .int .i64 a0] (0, 0) _ rfl (bq_ BK308) Tryd.underlying51 rfl (by kernel_rfl)) rfl ?_
 exact ⟨_, er_, by first | exact Kd.R_nil _ _ _ _ _ | exact Kd.N_nil _ _ _ _ _ | exact Kd.V_nil _ _ _ _ _ | exact Kd.Q_nil _ _ _ _ _ | exact Kd.S_nil _ _ _ _ _, pb_ HB⟩

def midrangebase_Count.f (a0 : Bool) : Option (Int) := if a0 = true then (some 1) else (some 0)
set_option maxHeartbeats 8000000 in
set_option maxRecDepth 100000 in
theorem midrangebase_Count.calls (a0 : Bool) (r : Int) (w : World) (h : midrangebase_Count.f a0 = some r) :
  Calls Tryd.prog 69 #[.bool a0] w fun e w' => e = .returned (.int .i64 r) ∧ Drawn0 w w' := by
 have H : (if a0 = true then (some 1) else (some 0)) = some r := h
 clear h
 by_cases c2 : a0 = true
 ·
  subst c2
  have H1 : (some 1) = some r := by rw [if_pos rfl] at H; exact H
  clear H
  have H := H1
  clear H1
  obtain rfl := Option.some.inj H
  go_enter Tryd.func69, Tryd.ntmps69
  go_wp2
  go_ret
  exact ⟨by first | rfl | (simp; done) | (simp [*]; done), by repeat (first | exact Drawn0.refl _ | apply Drawn0.step)⟩
 replace c2 := Bool.eq_false_iff.mpr c2
 subst c2
 have H1 : (some 0) = some r := by rw [if_neg (show ¬ (false = true) by decide)] at H; exact H
 clear H
 have H := H1
 clear H1
 obtain rfl := Option.some.inj H
 go_enter Tryd.func69, Tryd.ntmps69
 go_wp2
 go_ret
 exact ⟨by first | rfl | (simp; done) | (simp [*]; done), by repeat (first | exact Drawn0.refl _ | apply Drawn0.step)⟩
attribute [local go_sem high] eqA26
def midrangeref04_OpErr.f (a0_0 : Int) (a0_1 : Int) (a0_2 : Int) (a0_3 : Int) (a0_4 : ByteArray) : Option (Int) := (midrangebase_Within.f a0_0 0 4).bind fun t310 => (if t310 = true then (if a0_0 = 0 then ((midrangebase_Count.f (!(0 == a0_1) || (!(0 == a0_2) || (!a0_4.toList.isEmpty)))).bind fun t312 => (some (wrap64 (5 * t312)))) else (if a0_0 = 1 then ((midrangebase_Count.f (!(0 == a0_2) || (!a0_4.toList.isEmpty))).bind fun t313 => (some (wrap64 (5 * t313)))) else (if a0_0 = 2 then ((midrangebase_Count.f (!(0 == a0_2) || (!a0_4.toList.isEmpty))).bind fun t314 => (some (wrap64 (5 * t314)))) else (if a0_0 = 3 then ((midrangebase_Count.f (!(0 == a0_2) || (!(0 == a0_3) || (!a0_4.toList.isEmpty)))).bind fun t315 => (some (wrap64 (5 * t315)))) else (if a0_0 = 4 then ((midrangebase_Count.f (!(0 == a0_3))).bind fun t316 => (some (wrap64 (5 * t316)))) else ((midrangebase_Count.f (!(0 == a0_1) || (!(0 == a0_2) || (!(0 == a0_3) || (!a0_4.toList.isEmpty))))).bind fun t317 => (some (wrap64 (5 * t317))))))))) else (some 4))
def midrangeref04_OpErr.T9 : Bool × List (List Nat × List Nat) := (true, [([], []), ([0], [0]), ([], []), ([2], [2]), ([0, 1], []), ([4, 1, 0, 1], [1, 4]), ([0, 1, 2, 3, 4, 5], []), ([6, 3, 5, 0, 1, 2, 3, 4, 5], [3, 6])])
def midrangeref04_OpErr.B9 : List Nat := [0, 1, 0, 4, 3, 19, 63, 127]
theorem midrangeref04_OpErr.tab9 : rtab .any (opsOf Tryd.f51 9) = midrangeref04_OpErr.T9 := by kernel_rfl
theorem midrangeref04_OpErr.bits9 : waitsOk midrangeref04_OpErr.T9.2 midrangeref04_OpErr.B9 = true := by kernel_rfl
def midrangeref04_OpErr.T13 : Bool × List (List Nat × List Nat) := (true, [([], []), ([0], [0]), ([], []), ([2], [2]), ([], []), ([4], [4]), ([0, 1], []), ([6, 1, 0, 1], [1, 6]), ([0, 1, 2, 3, 6, 7], []), ([8, 3, 7, 0, 1, 2, 3, 6, 7], [3, 8]), ([0, 1, 2, 3, 4, 5, 6, 7, 8, 9], []), ([10, 5, 9, 0, 1, 2, 3, 4, 5, 6, 7, 8, 9], [5, 10])])
def midrangeref04_OpErr.B13 : List Nat := [0, 1, 0, 4, 0, 16, 3, 67, 207, 463, 1023, 2047]
theorem midrangeref04_OpErr.tab13 : rtab .any (opsOf Tryd.f51 13) = midrangeref04_OpErr.T13 := by kernel_rfl
theorem midrangeref04_OpErr.bits13 : waitsOk midrangeref04_OpErr.T13.2 midrangeref04_OpErr.B13 = true := by kernel_rfl
set_option maxHeartbeats 8000000 in
set_option maxRecDepth 100000 in
theorem midrangeref04_OpErr.calls (a0_0 : Int) (a0_1 : Int) (a0_2 : Int) (a0_3 : Int) (a0_4 : ByteArray) (r : Int) (w : World) (h : midrangeref04_OpErr.f a0_0 a0_1 a0_2 a0_3 a0_4 = some r) :
  Calls Tryd.prog 51 #[.agg #[.int .i64 a0_0, .int .i64 a0_1, .int .i64 a0_2, .int .i64 a0_3, .string a0_4]] w fun e w' => e = .returned (.int .i64 r) ∧ Below w.heap.size w w' := by
 have hu26 := Tryd.underlying26
 have HB := Aside0.mk (Below.refl w.heap.size w)
 have H : ((midrangebase_Within.f a0_0 0 4).bind fun t310 => (if t310 = true then (if a0_0 = 0 then ((midrangebase_Count.f (!(0 == a0_1) || (!(0 == a0_2) || (!a0_4.toList.isEmpty)))).bind fun t312 => (some (wrap64 (5 * t312)))) else (if a0_0 = 1 then ((midrangebase_Count.f (!(0 == a0_2) || (!a0_4.toList.isEmpty))).bind fun t313 => (some (wrap64 (5 * t313)))) else (if a0_0 = 2 then ((midrangebase_Count.f (!(0 == a0_2) || (!a0_4.toList.isEmpty))).bind fun t314 => (some (wrap64 (5 * t314)))) else (if a0_0 = 3 then ((midrangebase_Count.f (!(0 == a0_2) || (!(0 == a0_3) || (!a0_4.toList.isEmpty)))).bind fun t315 => (some (wrap64 (5 * t315)))) else (if a0_0 = 4 then ((midrangebase_Count.f (!(0 == a0_3))).bind fun t316 => (some (wrap64 (5 * t316)))) else ((midrangebase_Count.f (!(0 == a0_1) || (!(0 == a0_2) || (!(0 == a0_3) || (!a0_4.toList.isEmpty))))).bind fun t317 => (some (wrap64 (5 * t317))))))))) else (some 4))) = some r := h
 clear h
 replace H := Option.bind_eq_some_iff.mp H
 obtain ⟨t310, A20, H⟩ := H
 replace H : (if t310 = true then (if a0_0 = 0 then ((midrangebase_Count.f (!(0 == a0_1) || (!(0 == a0_2) || (!a0_4.toList.isEmpty)))).bind fun t312 => (some (wrap64 (5 * t312)))) else (if a0_0 = 1 then ((midrangebase_Count.f (!(0 == a0_2) || (!a0_4.toList.isEmpty))).bind fun t313 => (some (wrap64 (5 * t313)))) else (if a0_0 = 2 then ((midrangebase_Count.f (!(0 == a0_2) || (!a0_4.toList.isEmpty))).bind fun t314 => (some (wrap64 (5 * t314)))) else (if a0_0 = 3 then ((midrangebase_Count.f (!(0 == a0_2) || (!(0 == a0_3) || (!a0_4.toList.isEmpty)))).bind fun t315 => (some (wrap64 (5 * t315)))) else (if a0_0 = 4 then ((midrangebase_Count.f (!(0 == a0_3))).bind fun t316 => (some (wrap64 (5 * t316)))) else ((midrangebase_Count.f (!(0 == a0_1) || (!(0 == a0_2) || (!(0 == a0_3) || (!a0_4.toList.isEmpty))))).bind fun t317 => (some (wrap64 (5 * t317))))))))) else (some 4)) = some r := H
 have A2 := Aside0.mk A20
 clear A20
 by_cases c3 : t310 = true
 ·
  subst c3
  have H1 : (if a0_0 = 0 then ((midrangebase_Count.f (!(0 == a0_1) || (!(0 == a0_2) || (!a0_4.toList.isEmpty)))).bind fun t312 => (some (wrap64 (5 * t312)))) else (if a0_0 = 1 then ((midrangebase_Count.f (!(0 == a0_2) || (!a0_4.toList.isEmpty))).bind fun t313 => (some (wrap64 (5 * t313)))) else (if a0_0 = 2 then ((midrangebase_Count.f (!(0 == a0_2) || (!a0_4.toList.isEmpty))).bind fun t314 => (some (wrap64 (5 * t314)))) else (if a0_0 = 3 then ((midrangebase_Count.f (!(0 == a0_2) || (!(0 == a0_3) || (!a0_4.toList.isEmpty)))).bind fun t315 => (some (wrap64 (5 * t315)))) else (if a0_0 = 4 then ((midrangebase_Count.f (!(0 == a0_3))).bind fun t316 => (some (wrap64 (5 * t316)))) else ((midrangebase_Count.f (!(0 == a0_1) || (!(0 == a0_2) || (!(0 == a0_3) || (!a0_4.toList.isEmpty))))).bind fun t317 => (some (wrap64 (5 * t317))))))))) = some r := by rw [if_pos rfl] at H; exact H
  clear H
  have H := H1
  clear H1
  by_cases c4 : a0_0 = 0
  ·
   rw [if_pos c4] at H
   have c4b0 : (a0_0 == 0) = true := beq_iff_eq.mpr c4
   have c4b1 : (a0_0 != 0) = false := bne_eq_false_iff_eq.mpr c4
   clear c4
   replace H := Option.bind_eq_some_iff.mp H
   obtain ⟨t312, A50, H⟩ := H
   replace H : (some (wrap64 (5 * t312))) = some r := H
   have A5 := Aside0.mk A50
   clear A50
   obtain rfl := Option.some.inj H
   go_enter Tryd.func51, Tryd.ntmps51
   go_wp2_with (first | ((with_reducible refine gate_dst (N := 1) rfl ?_); refine bx_ 1 #[.int .i64 a0_0, .int .i64 a0_1, .int .i64 a0_2, .int .i64 a0_3, .string a0_4] 26 ?_; intro gb309 hg w6 hbox hb; have BK309 := Aside0.mk (hbox); have GW309 := gw_ hg HB; have GE309 := gw_ hg HB; replace HB := sb_ HB hb; clear hb hbox hg; have hcz7_0 := cz_ BK309 0 (.int .i64 a0_0); have hcz7_1 := cz_ BK309 1 (.int .i64 a0_1); have hcz7_2 := cz_ BK309 2 (.int .i64 a0_2); have hcz7_3 := cz_ BK309 3 (.int .i64 a0_3); have hcz7_4 := cz_ BK309 4 (.string a0_4); have hfz7_0 := blk_frozen BK309.out 0; have hfz7_1 := blk_frozen BK309.out 1; have hfz7_2 := blk_frozen BK309.out 2; have hfz7_3 := blk_frozen BK309.out 3; have hfz7_4 := blk_frozen BK309.out 4) | ((with_reducible refine gate_callee (f := 68) rfl ?_); refine gl_ 6 Tryd.func68 #[.int .i64 a0_0, .int .i64 0, .int .i64 4] ?_; (with_reducible refine (midrangebase_Within.calls a0_0 0 4 true _ A2.out).mono ?_); rintro e w' ⟨rfl, ⟨nd, rfl⟩⟩; refine ⟨_, rfl, ?_⟩; (try (rw [drewN_self w6]; generalize hq_ : World.drewN w6 _ = w6; have n0_ : Aside0 (w6.heap[gb309]? = some (.cells #[.int .i64 a0_0, .int .i64 a0_1, .int .i64 a0_2, .int .i64 a0_3, .string a0_4] 26 (0, 0))) := ⟨by rw [← hq_]; exact (pk_ BK309)⟩; have n1_ : Aside0 (Below w.heap.size w w6) := ⟨by rw [← hq_]; exact (pb_ HB)⟩; clear BK309 HB hq_; have BK309 := n0_; have HB := n1_; clear n0_ n1_)); have hcz8_0 := cz_ BK309 0 (.int .i64 a0_0); have hcz8_1 := cz_ BK309 1 (.int .i64 a0_1); have hcz8_2 := cz_ BK309 2 (.int .i64 a0_2); have hcz8_3 := cz_ BK309 3 (.int .i64 a0_3); have hcz8_4 := cz_ BK309 4 (.string a0_4); have hfz8_0 := blk_frozen BK309.out 0; have hfz8_1 := blk_frozen BK309.out 1; have hfz8_2 := blk_frozen BK309.out 2; have hfz8_3 := blk_frozen BK309.out 3; have hfz8_4 := blk_frozen BK309.out 4) | ((with_reducible refine gate_dst (N := 3) rfl ?_); refine bx_ 3 #[.int .i64 0, .int .i64 0, .int .i64 0, .int .i64 0, .string (⟨#[]⟩ : ByteArray)] 26 ?_; intro gb311 hg w9 hbox hb; have BK311 := Aside0.mk (hbox); have GW311 := gw_ hg HB; have GE311 := gw_ hg HB; replace HB := sb_ HB hb; have NB309_311 := nl_ hg BK309; have NB311_309 := ng_ hg BK309; replace BK309 := kb_ BK309 hb; clear hb hbox hg; have hnb10 := NB311_309.out; have hnc10 := NB309_311.out; have hcz11_0 := cz_ BK311 0 (.int .i64 0); have hcz11_1 := cz_ BK311 1 (.int .i64 0); have hcz11_2 := cz_ BK311 2 (.int .i64 0); have hcz11_3 := cz_ BK311 3 (.int .i64 0); have hcz11_4 := cz_ BK311 4 (.string (⟨#[]⟩ : ByteArray)); have hfz11_0 := blk_frozen BK311.out 0; have hfz11_1 := blk_frozen BK311.out 1; have hfz11_2 := blk_frozen BK311.out 2; have hfz11_3 := blk_frozen BK311.out 3; have hfz11_4 := blk_frozen BK311.out 4) | ((with_reducible refine gate_store (t := 26) (p := 3) rfl ?_); refine store_event (t := 26) (p := 3) (v := ?vo_w12) (w1 := (((((w9.setCell ⟨gb311, 0, none⟩ (.int .i64 a0_0)).setCell ⟨gb311, 1, none⟩ (.int .i64 0)).setCell ⟨gb311, 2, none⟩ (.int .i64 0)).setCell ⟨gb311, 3, none⟩ (.int .i64 0)).setCell ⟨gb311, 4, none⟩ (.string (⟨#[]⟩ : ByteArray)))) ?hg ?ho ?hn ?hr ?_; (case ho => rfl); (case hg => rfl); (case hn => rfl); (case hr => first | (go_simp; done) | (go_simp; rfl)); intro w12 hw; have n0_ : Aside0 (w12.heap[gb309]? = some (.cells #[.int .i64 a0_0, .int .i64 a0_1, .int .i64 a0_2, .int .i64 a0_3, .string a0_4] 26 (0, 0))) := ⟨(by rw [hw]; exact (by (with_reducible repeat (first | refine blk_drewN ?_ _ | refine blk_drew ?_ | refine blk_alloc ?_ _)); refine blk_far ?_ NB309_311.out _; (with_reducible repeat (first | refine blk_drewN ?_ _ | refine blk_drew ?_ | refine blk_alloc ?_ _)); refine blk_far ?_ NB309_311.out _; (with_reducible repeat (first | refine blk_drewN ?_ _ | refine blk_drew ?_ | refine blk_alloc ?_ _)); refine blk_far ?_ NB309_311.out _; (with_reducible repeat (first | refine blk_drewN ?_ _ | refine blk_drew ?_ | refine blk_alloc ?_ _)); refine blk_far ?_ NB309_311.out _; (with_reducible repeat (first | refine blk_drewN ?_ _ | refine blk_drew ?_ | refine blk_alloc ?_ _)); refine blk_far ?_ NB309_311.out _; (with_reducible repeat (first | refine blk_drewN ?_ _ | refine blk_drew ?_ | refine blk_alloc ?_ _)); exact BK309.out))⟩; have n1_ : Aside0 (w12.heap[gb311]? = some (.cells #[.int .i64 a0_0, .int .i64 0, .int .i64 0, .int .i64 0, .string (⟨#[]⟩ : ByteArray)] 26 (0, 0))) := ⟨(by rw [hw]; exact (bq_ BK311))⟩; have n2_ : Aside0 (Below w.heap.size w w12) := ⟨(by rw [hw]; exact (pb_ HB))⟩; clear hw; clear BK309; clear BK311; clear HB; have BK309 := n0_; have BK311 := n1_; have HB := n2_; clear n0_ n1_ n2_; have hcz13_0 := cz_ BK309 0 (.int .i64 a0_0); have hcz13_1 := cz_ BK309 1 (.int .i64 a0_1); have hcz13_2 := cz_ BK309 2 (.int .i64 a0_2); have hcz13_3 := cz_ BK309 3 (.int .i64 a0_3); have hcz13_4 := cz_ BK309 4 (.string a0_4); have hfz13_0 := blk_frozen BK309.out 0; have hfz13_1 := blk_frozen BK309.out 1; have hfz13_2 := blk_frozen BK309.out 2; have hfz13_3 := blk_frozen BK309.out 3; have hfz13_4 := blk_frozen BK309.out 4; have hcz14_0 := cz_ BK311 0 (.int .i64 a0_0); have hcz14_1 := cz_ BK311 1 (.int .i64 0); have hcz14_2 := cz_ BK311 2 (.int .i64 0); have hcz14_3 := cz_ BK311 3 (.int .i64 0); have hcz14_4 := cz_ BK311 4 (.string (⟨#[]⟩ : ByteArray)); have hfz14_0 := blk_frozen BK311.out 0; have hfz14_1 := blk_frozen BK311.out 1; have hfz14_2 := blk_frozen BK311.out 2; have hfz14_3 := blk_frozen BK311.out 3; have hfz14_4 := blk_frozen BK311.out 4) | ((with_reducible refine gate_callee (f := 69) rfl ?_); refine gl_ 46 Tryd.func69 #[.bool (!(0 == a0_1) || (!(0 == a0_2) || (!a0_4.toList.isEmpty)))] ?_; (with_reducible refine (midrangebase_Count.calls (!(0 == a0_1) || (!(0 == a0_2) || (!a0_4.toList.isEmpty))) t312 _ A5.out).mono ?_); rintro e w' ⟨rfl, ⟨nd, rfl⟩⟩; refine ⟨_, rfl, ?_⟩))
   go_ret
   exact ⟨er_, pb_ HB⟩
  rw [if_neg c4] at H
  have c4b0 : (a0_0 == 0) = false := beq_eq_false_iff_ne.mpr c4
  have c4b1 : (a0_0 != 0) = true := bne_iff_ne.mpr c4
  by_cases c15 : a0_0 = 1
  ·
   rw [if_pos c15] at H
   have c15b0 : (a0_0 == 1) = true := beq_iff_eq.mpr c15
   have c15b1 : (a0_0 != 1) = false := bne_eq_false_iff_eq.mpr c15
   clear c15
   replace H := Option.bind_eq_some_iff.mp H
   obtain ⟨t313, A160, H⟩ := H
   replace H : (some (wrap64 (5 * t313))) = some r := H
   have A16 := Aside0.mk A160
   clear A160
   obtain rfl := Option.some.inj H
   go_enter Tryd.func51, Tryd.ntmps51
   try go_wp2_with (first | ((with_reducible refine gate_dst (N := 1) rfl ?_); refine bx_ 1 #[.int .i64 a0_0, .int .i64 a0_1, .int .i64 a0_2, .int .i64 a0_3, .string a0_4] 26 ?_; intro gb309 hg w17 hbox hb; have BK309 := Aside0.mk (hbox); have GW309 := gw_ hg HB; have GE309 := gw_ hg HB; replace HB := sb_ HB hb; clear hb hbox hg; have hcz18_0 := cz_ BK309 0 (.int .i64 a0_0); have hcz18_1 := cz_ BK309 1 (.int .i64 a0_1); have hcz18_2 := cz_ BK309 2 (.int .i64 a0_2); have hcz18_3 := cz_ BK309 3 (.int .i64 a0_3); have hcz18_4 := cz_ BK309 4 (.string a0_4); have hfz18_0 := blk_frozen BK309.out 0; have hfz18_1 := blk_frozen BK309.out 1; have hfz18_2 := blk_frozen BK309.out 2; have hfz18_3 := blk_frozen BK309.out 3; have hfz18_4 := blk_frozen BK309.out 4) | ((with_reducible refine gate_callee (f := 68) rfl ?_); refine gl_ 6 Tryd.func68 #[.int .i64 a0_0, .int .i64 0, .int .i64 4] ?_; (with_reducible refine (midrangebase_Within.calls a0_0 0 4 true _ A2.out).mono ?_); rintro e w' ⟨rfl, ⟨nd, rfl⟩⟩; refine ⟨_, rfl, ?_⟩; (try (rw [drewN_self w17]; generalize hq_ : World.drewN w17 _ = w17; have n0_ : Aside0 (w17.heap[gb309]? = some (.cells #[.int .i64 a0_0, .int .i64 a0_1, .int .i64 a0_2, .int .i64 a0_3, .string a0_4] 26 (0, 0))) := ⟨by rw [← hq_]; exact (pk_ BK309)⟩; have n1_ : Aside0 (Below w.heap.size w w17) := ⟨by rw [← hq_]; exact (pb_ HB)⟩; clear BK309 HB hq_; have BK309 := n0_; have HB := n1_; clear n0_ n1_)); have hcz19_0 := cz_ BK309 0 (.int .i64 a0_0); have hcz19_1 := cz_ BK309 1 (.int .i64 a0_1); have hcz19_2 := cz_ BK309 2 (.int .i64 a0_2); have hcz19_3 := cz_ BK309 3 (.int .i64 a0_3); have hcz19_4 := cz_ BK309 4 (.string a0_4); have hfz19_0 := blk_frozen BK309.out 0; have hfz19_1 := blk_frozen BK309.out 1; have hfz19_2 := blk_frozen BK309.out 2; have hfz19_3 := blk_frozen BK309.out 3; have hfz19_4 := blk_frozen BK309.out 4) | ((with_reducible refine gate_dst (N := 3) rfl ?_); refine bx_ 3 #[.int .i64 0, .int .i64 0, .int .i64 0, .int .i64 0, .string (⟨#[]⟩ : ByteArray)] 26 ?_; intro gb311 hg w20 hbox hb; have BK311 := Aside0.mk (hbox); have GW311 := gw_ hg HB; have GE311 := gw_ hg HB; replace HB := sb_ HB hb; have NB309_311 := nl_ hg BK309; have NB311_309 := ng_ hg BK309; replace BK309 := kb_ BK309 hb; clear hb hbox hg; have hnb21 := NB311_309.out; have hnc21 := NB309_311.out; have hcz22_0 := cz_ BK311 0 (.int .i64 0); have hcz22_1 := cz_ BK311 1 (.int .i64 0); have hcz22_2 := cz_ BK311 2 (.int .i64 0); have hcz22_3 := cz_ BK311 3 (.int .i64 0); have hcz22_4 := cz_ BK311 4 (.string (⟨#[]⟩ : ByteArray)); have hfz22_0 := blk_frozen BK311.out 0; have hfz22_1 := blk_frozen BK311.out 1; have hfz22_2 := blk_frozen BK311.out 2; have hfz22_3 := blk_frozen BK311.out 3; have hfz22_4 := blk_frozen BK311.out 4; have hcz23_0 := cz_ BK309 0 (.int .i64 a0_0); have hcz23_1 := cz_ BK309 1 (.int .i64 a0_1); have hcz23_2 := cz_ BK309 2 (.int .i64 a0_2); have hcz23_3 := cz_ BK309 3 (.int .i64 a0_3); have hcz23_4 := cz_ BK309 4 (.string a0_4); have hfz23_0 := blk_frozen BK309.out 0; have hfz23_1 := blk_frozen BK309.out 1; have hfz23_2 := blk_frozen BK309.out 2; have hfz23_3 := blk_frozen BK309.out 3; have hfz23_4 := blk_frozen BK309.out 4))
   have n0_ : Aside0 ((((((w20.setCell ⟨gb311, 0, none⟩ (.int .i64 a0_0)).setCell ⟨gb311, 1, none⟩ (.int .i64 0)).setCell ⟨gb311, 2, none⟩ (.int .i64 0)).setCell ⟨gb311, 3, none⟩ (.int .i64 0)).setCell ⟨gb311, 4, none⟩ (.string (⟨#[]⟩ : ByteArray))).heap[gb309]? = some (.cells #[.int .i64 a0_0, .int .i64 a0_1, .int .i64 a0_2, .int .i64 a0_3, .string a0_4] 26 (0, 0))) := ⟨by (with_reducible repeat (first | refine blk_drewN ?_ _ | refine blk_drew ?_ | refine blk_alloc ?_ _)); refine blk_far ?_ NB309_311.out _; (with_reducible repeat (first | refine blk_drewN ?_ _ | refine blk_drew ?_ | refine blk_alloc ?_ _)); refine blk_far ?_ NB309_311.out _; (with_reducible repeat (first | refine blk_drewN ?_ _ | refine blk_drew ?_ | refine blk_alloc ?_ _)); refine blk_far ?_ NB309_311.out _; (with_reducible repeat (first | refine blk_drewN ?_ _ | refine blk_drew ?_ | refine blk_alloc ?_ _)); refine blk_far ?_ NB309_311.out _; (with_reducible repeat (first | refine blk_drewN ?_ _ | refine blk_drew ?_ | refine blk_alloc ?_ _)); refine blk_far ?_ NB309_311.out _; (with_reducible repeat (first | refine blk_drewN ?_ _ | refine blk_drew ?_ | refine blk_alloc ?_ _)); exact BK309.out⟩
   have n1_ : Aside0 ((((((w20.setCell ⟨gb311, 0, none⟩ (.int .i64 a0_0)).setCell ⟨gb311, 1, none⟩ (.int .i64 0)).setCell ⟨gb311, 2, none⟩ (.int .i64 0)).setCell ⟨gb311, 3, none⟩ (.int .i64 0)).setCell ⟨gb311, 4, none⟩ (.string (⟨#[]⟩ : ByteArray))).heap[gb311]? = some (.cells #[.int .i64 a0_0, .int .i64 0, .int .i64 0, .int .i64 0, .string (⟨#[]⟩ : ByteArray)] 26 (0, 0))) := ⟨bq_ BK311⟩
   have n2_ : Aside0 (Below w.heap.size w (((((w20.setCell ⟨gb311, 0, none⟩ (.int .i64 a0_0)).setCell ⟨gb311, 1, none⟩ (.int .i64 0)).setCell ⟨gb311, 2, none⟩ (.int .i64 0)).setCell ⟨gb311, 3, none⟩ (.int .i64 0)).setCell ⟨gb311, 4, none⟩ (.string (⟨#[]⟩ : ByteArray)))) := ⟨pb_ HB⟩
   (try clear BK309)
   (try clear BK311)
   (try clear HB)
   generalize (((((w20.setCell ⟨gb311, 0, none⟩ (.int .i64 a0_0)).setCell ⟨gb311, 1, none⟩ (.int .i64 0)).setCell ⟨gb311, 2, none⟩ (.int .i64 0)).setCell ⟨gb311, 3, none⟩ (.int .i64 0)).setCell ⟨gb311, 4, none⟩ (.string (⟨#[]⟩ : ByteArray))) = w24 at n0_ n1_ n2_ ⊢
   have BK309 := n0_
   have BK311 := n1_
   have HB := n2_
   clear n0_ n1_ n2_
   replace BK309 := Aside0.mk (blk_drew BK309.out)
   replace BK311 := Aside0.mk (blk_drew BK311.out)
   replace HB := Aside0.mk (below_drew1 HB.out)
   refine start_ (n := 8) (S := fun w' => w'.cell? ⟨gb309, 0, none⟩ = some (.int .i64 a0_0) ∧ w'.cell? ⟨gb309, 1, none⟩ = some (.int .i64 a0_1) ∧ w'.cell? ⟨gb309, 2, none⟩ = some (.int .i64 a0_2) ∧ w'.cell? ⟨gb309, 3, none⟩ = some (.int .i64 a0_3) ∧ w'.cell? ⟨gb309, 4, none⟩ = some (.string a0_4)) (ds := []) #[false, false, false, false, false, false, false, false] (by kernel_rfl) rfl rfl ⟨cy_ BK309 0, cy_ BK309 1, cy_ BK309 2, cy_ BK309 3, cy_ BK309 4⟩ (fun hHeld => ?_); refine with_tabW midrangeref04_OpErr.tab9 midrangeref04_OpErr.bits9 (fun HT_ HW_ => ?_)
   generalize w24.drew = w25 at BK309 BK311 HB hHeld ⊢
   refine pu_ 0 21 HT_ ?_
   refine pu_ 2 23 HT_ ?_
   refine tk_ 1 22 HT_ HW_ hHeld rfl (Or.inl ⟨by rfl, by rintro w' ⟨s0, s1, s2, s3, s4⟩; go_simp; with_reducible rfl⟩) ?_
   refine pu_ 4 25 HT_ ?_
   refine tk_ 3 24 HT_ HW_ hHeld rfl (Or.inl ⟨by rfl, by rintro w' ⟨s0, s1, s2, s3, s4⟩; go_simp; with_reducible rfl⟩) ?_
   refine one_ (i := 5) (N := none) #[true, true, true, true, true, true, false, false] rfl rfl (one_of HT_.out (by kernel_rfl)) (by decide) (fun K hK => ?_)
   have hs26 : w25.cell? ⟨gb311, 1, none⟩ = some (.int .i64 0) := (blk_cell BK311.out 1).trans rfl
   have hfs26 := blk_frozen BK311.out 1
   have hns26_0 := NB309_311.out
   have hms26_0 := NB311_309.out
   refine skip_ (w1 := ?_) (by rfl) rfl ?_ ?_
   rotate_left
   ·
    go_simp
    rfl
   refine hK.out _ _ ⟨((cell_far (p := ⟨gb311, _, none⟩) NB309_311.out _).trans (hHeld.1)), ((cell_far (p := ⟨gb311, _, none⟩) NB309_311.out _).trans (hHeld.2.1)), ((cell_far (p := ⟨gb311, _, none⟩) NB309_311.out _).trans (hHeld.2.2.1)), ((cell_far (p := ⟨gb311, _, none⟩) NB309_311.out _).trans (hHeld.2.2.2.1)), ((cell_far (p := ⟨gb311, _, none⟩) NB309_311.out _).trans (hHeld.2.2.2.2))⟩ (fun hHeld => ?_)
   clear hK K
   refine pu_ 6 26 HT_ ?_
   refine one_ (i := 7) (N := none) #[true, true, true, true, true, true, true, true] rfl rfl (one_of HT_.out (by kernel_rfl)) (by decide) (fun K hK => ?_)
   have hs27 : w25.cell? ⟨gb311, 3, none⟩ = some (.int .i64 0) := (blk_cell BK311.out 3).trans rfl
   have hfs27 := blk_frozen BK311.out 3
   have hns27_0 := NB309_311.out
   have hms27_0 := NB311_309.out
   refine skip_ (w1 := ?_) (by rfl) rfl ?_ ?_
   rotate_left
   ·
    go_simp
    rfl
   refine hK.out _ _ ⟨((cell_far (p := ⟨gb311, _, none⟩) NB309_311.out _).trans (hHeld.1)), ((cell_far (p := ⟨gb311, _, none⟩) NB309_311.out _).trans (hHeld.2.1)), ((cell_far (p := ⟨gb311, _, none⟩) NB309_311.out _).trans (hHeld.2.2.1)), ((cell_far (p := ⟨gb311, _, none⟩) NB309_311.out _).trans (hHeld.2.2.2.1)), ((cell_far (p := ⟨gb311, _, none⟩) NB309_311.out _).trans (hHeld.2.2.2.2))⟩ (fun hHeld => ?_)
   clear hK K
   refine done_ (done_of HT_.out (by kernel_rfl)) ?_
   have hcz28_0 := cz_ BK311 0 (.int .i64 a0_0)
   have hcz28_1 := cz_ BK311 1 (.int .i64 0)
   have hcz28_2 := cz_ BK311 2 (.int .i64 0)
   have hcz28_3 := cz_ BK311 3 (.int .i64 0)
   have hcz28_4 := cz_ BK311 4 (.string (⟨#[]⟩ : ByteArray))
   have hfz28_0 := blk_frozen BK311.out 0
   have hfz28_1 := blk_frozen BK311.out 1
   have hfz28_2 := blk_frozen BK311.out 2
   have hfz28_3 := blk_frozen BK311.out 3
   have hfz28_4 := blk_frozen BK311.out 4
   have hcz29_0 := cz_ BK309 0 (.int .i64 a0_0)
   have hcz29_1 := cz_ BK309 1 (.int .i64 a0_1)
   have hcz29_2 := cz_ BK309 2 (.int .i64 a0_2)
   have hcz29_3 := cz_ BK309 3 (.int .i64 a0_3)
   have hcz29_4 := cz_ BK309 4 (.string a0_4)
   have hfz29_0 := blk_frozen BK309.out 0
   have hfz29_1 := blk_frozen BK309.out 1
   have hfz29_2 := blk_frozen BK309.out 2
   have hfz29_3 := blk_frozen BK309.out 3
   have hfz29_4 := blk_frozen BK309.out 4
   try go_wp2_with (first | ((with_reducible refine gate_callee (f := 69) rfl ?_); refine gl_ 46 Tryd.func69 #[.bool (!(0 == a0_2) || (!a0_4.toList.isEmpty))] ?_; (with_reducible refine (midrangebase_Count.calls (!(0 == a0_2) || (!a0_4.toList.isEmpty)) t313 _ A16.out).mono ?_); rintro e w' ⟨rfl, ⟨nd, rfl⟩⟩; refine ⟨_, rfl, ?_⟩))
   go_ret
   exact ⟨er_, pb_ HB⟩
  rw [if_neg c15] at H
  have c15b0 : (a0_0 == 1) = false := beq_eq_false_iff_ne.mpr c15
  have c15b1 : (a0_0 != 1) = true := bne_iff_ne.mpr c15
  by_cases c30 : a0_0 = 2
  ·
   rw [if_pos c30] at H
   have c30b0 : (a0_0 == 2) = true := beq_iff_eq.mpr c30
   have c30b1 : (a0_0 != 2) = false := bne_eq_false_iff_eq.mpr c30
   clear c30
   replace H := Option.bind_eq_some_iff.mp H
   obtain ⟨t314, A310, H⟩ := H
   replace H : (some (wrap64 (5 * t314))) = some r := H
   have A31 := Aside0.mk A310
   clear A310
   obtain rfl := Option.some.inj H
   go_enter Tryd.func51, Tryd.ntmps51
   try go_wp2_with (first | ((with_reducible refine gate_dst (N := 1) rfl ?_); refine bx_ 1 #[.int .i64 a0_0, .int .i64 a0_1, .int .i64 a0_2, .int .i64 a0_3, .string a0_4] 26 ?_; intro gb309 hg w32 hbox hb; have BK309 := Aside0.mk (hbox); have GW309 := gw_ hg HB; have GE309 := gw_ hg HB; replace HB := sb_ HB hb; clear hb hbox hg; have hcz33_0 := cz_ BK309 0 (.int .i64 a0_0); have hcz33_1 := cz_ BK309 1 (.int .i64 a0_1); have hcz33_2 := cz_ BK309 2 (.int .i64 a0_2); have hcz33_3 := cz_ BK309 3 (.int .i64 a0_3); have hcz33_4 := cz_ BK309 4 (.string a0_4); have hfz33_0 := blk_frozen BK309.out 0; have hfz33_1 := blk_frozen BK309.out 1; have hfz33_2 := blk_frozen BK309.out 2; have hfz33_3 := blk_frozen BK309.out 3; have hfz33_4 := blk_frozen BK309.out 4) | ((with_reducible refine gate_callee (f := 68) rfl ?_); refine gl_ 6 Tryd.func68 #[.int .i64 a0_0, .int .i64 0, .int .i64 4] ?_; (with_reducible refine (midrangebase_Within.calls a0_0 0 4 true _ A2.out).mono ?_); rintro e w' ⟨rfl, ⟨nd, rfl⟩⟩; refine ⟨_, rfl, ?_⟩; (try (rw [drewN_self w32]; generalize hq_ : World.drewN w32 _ = w32; have n0_ : Aside0 (w32.heap[gb309]? = some (.cells #[.int .i64 a0_0, .int .i64 a0_1, .int .i64 a0_2, .int .i64 a0_3, .string a0_4] 26 (0, 0))) := ⟨by rw [← hq_]; exact (pk_ BK309)⟩; have n1_ : Aside0 (Below w.heap.size w w32) := ⟨by rw [← hq_]; exact (pb_ HB)⟩; clear BK309 HB hq_; have BK309 := n0_; have HB := n1_; clear n0_ n1_)); have hcz34_0 := cz_ BK309 0 (.int .i64 a0_0); have hcz34_1 := cz_ BK309 1 (.int .i64 a0_1); have hcz34_2 := cz_ BK309 2 (.int .i64 a0_2); have hcz34_3 := cz_ BK309 3 (.int .i64 a0_3); have hcz34_4 := cz_ BK309 4 (.string a0_4); have hfz34_0 := blk_frozen BK309.out 0; have hfz34_1 := blk_frozen BK309.out 1; have hfz34_2 := blk_frozen BK309.out 2; have hfz34_3 := blk_frozen BK309.out 3; have hfz34_4 := blk_frozen BK309.out 4) | ((with_reducible refine gate_dst (N := 3) rfl ?_); refine bx_ 3 #[.int .i64 0, .int .i64 0, .int .i64 0, .int .i64 0, .string (⟨#[]⟩ : ByteArray)] 26 ?_; intro gb311 hg w35 hbox hb; have BK311 := Aside0.mk (hbox); have GW311 := gw_ hg HB; have GE311 := gw_ hg HB; replace HB := sb_ HB hb; have NB309_311 := nl_ hg BK309; have NB311_309 := ng_ hg BK309; replace BK309 := kb_ BK309 hb; clear hb hbox hg; have hnb36 := NB311_309.out; have hnc36 := NB309_311.out; have hcz37_0 := cz_ BK311 0 (.int .i64 0); have hcz37_1 := cz_ BK311 1 (.int .i64 0); have hcz37_2 := cz_ BK311 2 (.int .i64 0); have hcz37_3 := cz_ BK311 3 (.int .i64 0); have hcz37_4 := cz_ BK311 4 (.string (⟨#[]⟩ : ByteArray)); have hfz37_0 := blk_frozen BK311.out 0; have hfz37_1 := blk_frozen BK311.out 1; have hfz37_2 := blk_frozen BK311.out 2; have hfz37_3 := blk_frozen BK311.out 3; have hfz37_4 := blk_frozen BK311.out 4; have hcz38_0 := cz_ BK309 0 (.int .i64 a0_0); have hcz38_1 := cz_ BK309 1 (.int .i64 a0_1); have hcz38_2 := cz_ BK309 2 (.int .i64 a0_2); have hcz38_3 := cz_ BK309 3 (.int .i64 a0_3); have hcz38_4 := cz_ BK309 4 (.string a0_4); have hfz38_0 := blk_frozen BK309.out 0; have hfz38_1 := blk_frozen BK309.out 1; have hfz38_2 := blk_frozen BK309.out 2; have hfz38_3 := blk_frozen BK309.out 3; have hfz38_4 := blk_frozen BK309.out 4))
   have n0_ : Aside0 ((((((w35.setCell ⟨gb311, 0, none⟩ (.int .i64 a0_0)).setCell ⟨gb311, 1, none⟩ (.int .i64 0)).setCell ⟨gb311, 2, none⟩ (.int .i64 0)).setCell ⟨gb311, 3, none⟩ (.int .i64 0)).setCell ⟨gb311, 4, none⟩ (.string (⟨#[]⟩ : ByteArray))).heap[gb309]? = some (.cells #[.int .i64 a0_0, .int .i64 a0_1, .int .i64 a0_2, .int .i64 a0_3, .string a0_4] 26 (0, 0))) := ⟨by (with_reducible repeat (first | refine blk_drewN ?_ _ | refine blk_drew ?_ | refine blk_alloc ?_ _)); refine blk_far ?_ NB309_311.out _; (with_reducible repeat (first | refine blk_drewN ?_ _ | refine blk_drew ?_ | refine blk_alloc ?_ _)); refine blk_far ?_ NB309_311.out _; (with_reducible repeat (first | refine blk_drewN ?_ _ | refine blk_drew ?_ | refine blk_alloc ?_ _)); refine blk_far ?_ NB309_311.out _; (with_reducible repeat (first | refine blk_drewN ?_ _ | refine blk_drew ?_ | refine blk_alloc ?_ _)); refine blk_far ?_ NB309_311.out _; (with_reducible repeat (first | refine blk_drewN ?_ _ | refine blk_drew ?_ | refine blk_alloc ?_ _)); refine blk_far ?_ NB309_311.out _; (with_reducible repeat (first | refine blk_drewN ?_ _ | refine blk_drew ?_ | refine blk_alloc ?_ _)); exact BK309.out⟩
   have n1_ : Aside0 ((((((w35.setCell ⟨gb311, 0, none⟩ (.int .i64 a0_0)).setCell ⟨gb311, 1, none⟩ (.int .i64 0)).setCell ⟨gb311, 2, none⟩ (.int .i64 0)).setCell ⟨gb311, 3, none⟩ (.int .i64 0)).setCell ⟨gb311, 4, none⟩ (.string (⟨#[]⟩ : ByteArray))).heap[gb311]? = some (.cells #[.int .i64 a0_0, .int .i64 0, .int .i64 0, .int .i64 0, .string (⟨#[]⟩ : ByteArray)] 26 (0, 0))) := ⟨bq_ BK311⟩
   have n2_ : Aside0 (Below w.heap.size w (((((w35.setCell ⟨gb311, 0, none⟩ (.int .i64 a0_0)).setCell ⟨gb311, 1, none⟩ (.int .i64 0)).setCell ⟨gb311, 2, none⟩ (.int .i64 0)).setCell ⟨gb311, 3, none⟩ (.int .i64 0)).setCell ⟨gb311, 4, none⟩ (.string (⟨#[]⟩ : ByteArray)))) := ⟨pb_ HB⟩
   (try clear BK309)
   (try clear BK311)
   (try clear HB)
   generalize (((((w35.setCell ⟨gb311, 0, none⟩ (.int .i64 a0_0)).setCell ⟨gb311, 1, none⟩ (.int .i64 0)).setCell ⟨gb311, 2, none⟩ (.int .i64 0)).setCell ⟨gb311, 3, none⟩ (.int .i64 0)).setCell ⟨gb311, 4, none⟩ (.string (⟨#[]⟩ : ByteArray))) = w39 at n0_ n1_ n2_ ⊢
   have BK309 := n0_
   have BK311 := n1_
   have HB := n2_
   clear n0_ n1_ n2_
   replace BK309 := Aside0.mk (blk_drew BK309.out)
   replace BK311 := Aside0.mk (blk_drew BK311.out)
   replace HB := Aside0.mk (below_drew1 HB.out)
   refine start_ (n := 8) (S := fun w' => w'.cell? ⟨gb309, 0, none⟩ = some (.int .i64 a0_0) ∧ w'.cell? ⟨gb309, 1, none⟩ = some (.int .i64 a0_1) ∧ w'.cell? ⟨gb309, 2, none⟩ = some (.int .i64 a0_2) ∧ w'.cell? ⟨gb309, 3, none⟩ = some (.int .i64 a0_3) ∧ w'.cell? ⟨gb309, 4, none⟩ = some (.string a0_4)) (ds := []) #[false, false, false, false, false, false, false, false] (by kernel_rfl) rfl rfl ⟨cy_ BK309 0, cy_ BK309 1, cy_ BK309 2, cy_ BK309 3, cy_ BK309 4⟩ (fun hHeld => ?_); refine with_tabW midrangeref04_OpErr.tab9 midrangeref04_OpErr.bits9 (fun HT_ HW_ => ?_)
   generalize w39.drew = w40 at BK309 BK311 HB hHeld ⊢
   refine pu_ 0 21 HT_ ?_
   refine pu_ 2 23 HT_ ?_
   refine tk_ 1 22 HT_ HW_ hHeld rfl (Or.inl ⟨by rfl, by rintro w' ⟨s0, s1, s2, s3, s4⟩; go_simp; with_reducible rfl⟩) ?_
   refine pu_ 4 25 HT_ ?_
   refine tk_ 3 24 HT_ HW_ hHeld rfl (Or.inl ⟨by rfl, by rintro w' ⟨s0, s1, s2, s3, s4⟩; go_simp; with_reducible rfl⟩) ?_
   refine one_ (i := 5) (N := none) #[true, true, true, true, true, true, false, false] rfl rfl (one_of HT_.out (by kernel_rfl)) (by decide) (fun K hK => ?_)
   have hs41 : w40.cell? ⟨gb311, 1, none⟩ = some (.int .i64 0) := (blk_cell BK311.out 1).trans rfl
   have hfs41 := blk_frozen BK311.out 1
   have hns41_0 := NB309_311.out
   have hms41_0 := NB311_309.out
   refine skip_ (w1 := ?_) (by rfl) rfl ?_ ?_
   rotate_left
   ·
    go_simp
    rfl
   refine hK.out _ _ ⟨((cell_far (p := ⟨gb311, _, none⟩) NB309_311.out _).trans (hHeld.1)), ((cell_far (p := ⟨gb311, _, none⟩) NB309_311.out _).trans (hHeld.2.1)), ((cell_far (p := ⟨gb311, _, none⟩) NB309_311.out _).trans (hHeld.2.2.1)), ((cell_far (p := ⟨gb311, _, none⟩) NB309_311.out _).trans (hHeld.2.2.2.1)), ((cell_far (p := ⟨gb311, _, none⟩) NB309_311.out _).trans (hHeld.2.2.2.2))⟩ (fun hHeld => ?_)
   clear hK K
   refine pu_ 6 26 HT_ ?_
   refine one_ (i := 7) (N := none) #[true, true, true, true, true, true, true, true] rfl rfl (one_of HT_.out (by kernel_rfl)) (by decide) (fun K hK => ?_)
   have hs42 : w40.cell? ⟨gb311, 3, none⟩ = some (.int .i64 0) := (blk_cell BK311.out 3).trans rfl
   have hfs42 := blk_frozen BK311.out 3
   have hns42_0 := NB309_311.out
   have hms42_0 := NB311_309.out
   refine skip_ (w1 := ?_) (by rfl) rfl ?_ ?_
   rotate_left
   ·
    go_simp
    rfl
   refine hK.out _ _ ⟨((cell_far (p := ⟨gb311, _, none⟩) NB309_311.out _).trans (hHeld.1)), ((cell_far (p := ⟨gb311, _, none⟩) NB309_311.out _).trans (hHeld.2.1)), ((cell_far (p := ⟨gb311, _, none⟩) NB309_311.out _).trans (hHeld.2.2.1)), ((cell_far (p := ⟨gb311, _, none⟩) NB309_311.out _).trans (hHeld.2.2.2.1)), ((cell_far (p := ⟨gb311, _, none⟩) NB309_311.out _).trans (hHeld.2.2.2.2))⟩ (fun hHeld => ?_)
   clear hK K
   refine done_ (done_of HT_.out (by kernel_rfl)) ?_
   have hcz43_0 := cz_ BK311 0 (.int .i64 a0_0)
   have hcz43_1 := cz_ BK311 1 (.int .i64 0)
   have hcz43_2 := cz_ BK311 2 (.int .i64 0)
   have hcz43_3 := cz_ BK311 3 (.int .i64 0)
   have hcz43_4 := cz_ BK311 4 (.string (⟨#[]⟩ : ByteArray))
   have hfz43_0 := blk_frozen BK311.out 0
   have hfz43_1 := blk_frozen BK311.out 1
   have hfz43_2 := blk_frozen BK311.out 2
   have hfz43_3 := blk_frozen BK311.out 3
   have hfz43_4 := blk_frozen BK311.out 4
   have hcz44_0 := cz_ BK309 0 (.int .i64 a0_0)
   have hcz44_1 := cz_ BK309 1 (.int .i64 a0_1)
   have hcz44_2 := cz_ BK309 2 (.int .i64 a0_2)
   have hcz44_3 := cz_ BK309 3 (.int .i64 a0_3)
   have hcz44_4 := cz_ BK309 4 (.string a0_4)
   have hfz44_0 := blk_frozen BK309.out 0
   have hfz44_1 := blk_frozen BK309.out 1
   have hfz44_2 := blk_frozen BK309.out 2
   have hfz44_3 := blk_frozen BK309.out 3
   have hfz44_4 := blk_frozen BK309.out 4
   try go_wp2_with (first | ((with_reducible refine gate_callee (f := 69) rfl ?_); refine gl_ 46 Tryd.func69 #[.bool (!(0 == a0_2) || (!a0_4.toList.isEmpty))] ?_; (with_reducible refine (midrangebase_Count.calls (!(0 == a0_2) || (!a0_4.toList.isEmpty)) t314 _ A31.out).mono ?_); rintro e w' ⟨rfl, ⟨nd, rfl⟩⟩; refine ⟨_, rfl, ?_⟩))
   go_ret
   exact ⟨er_, pb_ HB⟩
  rw [if_neg c30] at H
  have c30b0 : (a0_0 == 2) = false := beq_eq_false_iff_ne.mpr c30
  have c30b1 : (a0_0 != 2) = true := bne_iff_ne.mpr c30
  by_cases c45 : a0_0 = 3
  ·
   rw [if_pos c45] at H
   have c45b0 : (a0_0 == 3) = true := beq_iff_eq.mpr c45
   have c45b1 : (a0_0 != 3) = false := bne_eq_false_iff_eq.mpr c45
   clear c45
   replace H := Option.bind_eq_some_iff.mp H
   obtain ⟨t315, A460, H⟩ := H
   replace H : (some (wrap64 (5 * t315))) = some r := H
   have A46 := Aside0.mk A460
   clear A460
   obtain rfl := Option.some.inj H
   go_enter Tryd.func51, Tryd.ntmps51
   go_wp2_with (first | ((with_reducible refine gate_dst (N := 1) rfl ?_); refine bx_ 1 #[.int .i64 a0_0, .int .i64 a0_1, .int .i64 a0_2, .int .i64 a0_3, .string a0_4] 26 ?_; intro gb309 hg w47 hbox hb; have BK309 := Aside0.mk (hbox); have GW309 := gw_ hg HB; have GE309 := gw_ hg HB; replace HB := sb_ HB hb; clear hb hbox hg; have hcz48_0 := cz_ BK309 0 (.int .i64 a0_0); have hcz48_1 := cz_ BK309 1 (.int .i64 a0_1); have hcz48_2 := cz_ BK309 2 (.int .i64 a0_2); have hcz48_3 := cz_ BK309 3 (.int .i64 a0_3); have hcz48_4 := cz_ BK309 4 (.string a0_4); have hfz48_0 := blk_frozen BK309.out 0; have hfz48_1 := blk_frozen BK309.out 1; have hfz48_2 := blk_frozen BK309.out 2; have hfz48_3 := blk_frozen BK309.out 3; have hfz48_4 := blk_frozen BK309.out 4) | ((with_reducible refine gate_callee (f := 68) rfl ?_); refine gl_ 6 Tryd.func68 #[.int .i64 a0_0, .int .i64 0, .int .i64 4] ?_; (with_reducible refine (midrangebase_Within.calls a0_0 0 4 true _ A2.out).mono ?_); rintro e w' ⟨rfl, ⟨nd, rfl⟩⟩; refine ⟨_, rfl, ?_⟩; (try (rw [drewN_self w47]; generalize hq_ : World.drewN w47 _ = w47; have n0_ : Aside0 (w47.heap[gb309]? = some (.cells #[.int .i64 a0_0, .int .i64 a0_1, .int .i64 a0_2, .int .i64 a0_3, .string a0_4] 26 (0, 0))) := ⟨by rw [← hq_]; exact (pk_ BK309)⟩; have n1_ : Aside0 (Below w.heap.size w w47) := ⟨by rw [← hq_]; exact (pb_ HB)⟩; clear BK309 HB hq_; have BK309 := n0_; have HB := n1_; clear n0_ n1_)); have hcz49_0 := cz_ BK309 0 (.int .i64 a0_0); have hcz49_1 := cz_ BK309 1 (.int .i64 a0_1); have hcz49_2 := cz_ BK309 2 (.int .i64 a0_2); have hcz49_3 := cz_ BK309 3 (.int .i64 a0_3); have hcz49_4 := cz_ BK309 4 (.string a0_4); have hfz49_0 := blk_frozen BK309.out 0; have hfz49_1 := blk_frozen BK309.out 1; have hfz49_2 := blk_frozen BK309.out 2; have hfz49_3 := blk_frozen BK309.out 3; have hfz49_4 := blk_frozen BK309.out 4) | ((with_reducible refine gate_dst (N := 3) rfl ?_); refine bx_ 3 #[.int .i64 0, .int .i64 0, .int .i64 0, .int .i64 0, .string (⟨#[]⟩ : ByteArray)] 26 ?_; intro gb311 hg w50 hbox hb; have BK311 := Aside0.mk (hbox); have GW311 := gw_ hg HB; have GE311 := gw_ hg HB; replace HB := sb_ HB hb; have NB309_311 := nl_ hg BK309; have NB311_309 := ng_ hg BK309; replace BK309 := kb_ BK309 hb; clear hb hbox hg; have hnb51 := NB311_309.out; have hnc51 := NB309_311.out; have hcz52_0 := cz_ BK311 0 (.int .i64 0); have hcz52_1 := cz_ BK311 1 (.int .i64 0); have hcz52_2 := cz_ BK311 2 (.int .i64 0); have hcz52_3 := cz_ BK311 3 (.int .i64 0); have hcz52_4 := cz_ BK311 4 (.string (⟨#[]⟩ : ByteArray)); have hfz52_0 := blk_frozen BK311.out 0; have hfz52_1 := blk_frozen BK311.out 1; have hfz52_2 := blk_frozen BK311.out 2; have hfz52_3 := blk_frozen BK311.out 3; have hfz52_4 := blk_frozen BK311.out 4) | ((with_reducible refine gate_store (t := 26) (p := 3) rfl ?_); refine store_event (t := 26) (p := 3) (v := ?vo_w53) (w1 := (((((w50.setCell ⟨gb311, 0, none⟩ (.int .i64 a0_0)).setCell ⟨gb311, 1, none⟩ (.int .i64 0)).setCell ⟨gb311, 2, none⟩ (.int .i64 0)).setCell ⟨gb311, 3, none⟩ (.int .i64 0)).setCell ⟨gb311, 4, none⟩ (.string (⟨#[]⟩ : ByteArray)))) ?hg ?ho ?hn ?hr ?_; (case ho => rfl); (case hg => rfl); (case hn => rfl); (case hr => first | (go_simp; done) | (go_simp; rfl)); intro w53 hw; have n0_ : Aside0 (w53.heap[gb309]? = some (.cells #[.int .i64 a0_0, .int .i64 a0_1, .int .i64 a0_2, .int .i64 a0_3, .string a0_4] 26 (0, 0))) := ⟨(by rw [hw]; exact (by (with_reducible repeat (first | refine blk_drewN ?_ _ | refine blk_drew ?_ | refine blk_alloc ?_ _)); refine blk_far ?_ NB309_311.out _; (with_reducible repeat (first | refine blk_drewN ?_ _ | refine blk_drew ?_ | refine blk_alloc ?_ _)); refine blk_far ?_ NB309_311.out _; (with_reducible repeat (first | refine blk_drewN ?_ _ | refine blk_drew ?_ | refine blk_alloc ?_ _)); refine blk_far ?_ NB309_311.out _; (with_reducible repeat (first | refine blk_drewN ?_ _ | refine blk_drew ?_ | refine blk_alloc ?_ _)); refine blk_far ?_ NB309_311.out _; (with_reducible repeat (first | refine blk_drewN ?_ _ | refine blk_drew ?_ | refine blk_alloc ?_ _)); refine blk_far ?_ NB309_311.out _; (with_reducible repeat (first | refine blk_drewN ?_ _ | refine blk_drew ?_ | refine blk_alloc ?_ _)); exact BK309.out))⟩; have n1_ : Aside0 (w53.heap[gb311]? = some (.cells #[.int .i64 a0_0, .int .i64 0, .int .i64 0, .int .i64 0, .string (⟨#[]⟩ : ByteArray)] 26 (0, 0))) := ⟨(by rw [hw]; exact (bq_ BK311))⟩; have n2_ : Aside0 (Below w.heap.size w w53) := ⟨(by rw [hw]; exact (pb_ HB))⟩; clear hw; clear BK309; clear BK311; clear HB; have BK309 := n0_; have BK311 := n1_; have HB := n2_; clear n0_ n1_ n2_; have hcz54_0 := cz_ BK309 0 (.int .i64 a0_0); have hcz54_1 := cz_ BK309 1 (.int .i64 a0_1); have hcz54_2 := cz_ BK309 2 (.int .i64 a0_2); have hcz54_3 := cz_ BK309 3 (.int .i64 a0_3); have hcz54_4 := cz_ BK309 4 (.string a0_4); have hfz54_0 := blk_frozen BK309.out 0; have hfz54_1 := blk_frozen BK309.out 1; have hfz54_2 := blk_frozen BK309.out 2; have hfz54_3 := blk_frozen BK309.out 3; have hfz54_4 := blk_frozen BK309.out 4; have hcz55_0 := cz_ BK311 0 (.int .i64 a0_0); have hcz55_1 := cz_ BK311 1 (.int .i64 0); have hcz55_2 := cz_ BK311 2 (.int .i64 0); have hcz55_3 := cz_ BK311 3 (.int .i64 0); have hcz55_4 := cz_ BK311 4 (.string (⟨#[]⟩ : ByteArray)); have hfz55_0 := blk_frozen BK311.out 0; have hfz55_1 := blk_frozen BK311.out 1; have hfz55_2 := blk_frozen BK311.out 2; have hfz55_3 := blk_frozen BK311.out 3; have hfz55_4 := blk_frozen BK311.out 4) | ((with_reducible refine gate_callee (f := 69) rfl ?_); refine gl_ 46 Tryd.func69 #[.bool (!(0 == a0_2) || (!(0 == a0_3) || (!a0_4.toList.isEmpty)))] ?_; (with_reducible refine (midrangebase_Count.calls (!(0 == a0_2) || (!(0 == a0_3) || (!a0_4.toList.isEmpty))) t315 _ A46.out).mono ?_); rintro e w' ⟨rfl, ⟨nd, rfl⟩⟩; refine ⟨_, rfl, ?_⟩))
   go_ret
   exact ⟨er_, pb_ HB⟩
  rw [if_neg c45] at H
  have c45b0 : (a0_0 == 3) = false := beq_eq_false_iff_ne.mpr c45
  have c45b1 : (a0_0 != 3) = true := bne_iff_ne.mpr c45
  by_cases c56 : a0_0 = 4
  ·
   rw [if_pos c56] at H
   have c56b0 : (a0_0 == 4) = true := beq_iff_eq.mpr c56
   have c56b1 : (a0_0 != 4) = false := bne_eq_false_iff_eq.mpr c56
   clear c56
   replace H := Option.bind_eq_some_iff.mp H
   obtain ⟨t316, A570, H⟩ := H
   replace H : (some (wrap64 (5 * t316))) = some r := H
   have A57 := Aside0.mk A570
   clear A570
   obtain rfl := Option.some.inj H
   go_enter Tryd.func51, Tryd.ntmps51
   try go_wp2_with (first | ((with_reducible refine gate_dst (N := 1) rfl ?_); refine bx_ 1 #[.int .i64 a0_0, .int .i64 a0_1, .int .i64 a0_2, .int .i64 a0_3, .string a0_4] 26 ?_; intro gb309 hg w58 hbox hb; have BK309 := Aside0.mk (hbox); have GW309 := gw_ hg HB; have GE309 := gw_ hg HB; replace HB := sb_ HB hb; clear hb hbox hg; have hcz59_0 := cz_ BK309 0 (.int .i64 a0_0); have hcz59_1 := cz_ BK309 1 (.int .i64 a0_1); have hcz59_2 := cz_ BK309 2 (.int .i64 a0_2); have hcz59_3 := cz_ BK309 3 (.int .i64 a0_3); have hcz59_4 := cz_ BK309 4 (.string a0_4); have hfz59_0 := blk_frozen BK309.out 0; have hfz59_1 := blk_frozen BK309.out 1; have hfz59_2 := blk_frozen BK309.out 2; have hfz59_3 := blk_frozen BK309.out 3; have hfz59_4 := blk_frozen BK309.out 4) | ((with_reducible refine gate_callee (f := 68) rfl ?_); refine gl_ 6 Tryd.func68 #[.int .i64 a0_0, .int .i64 0, .int .i64 4] ?_; (with_reducible refine (midrangebase_Within.calls a0_0 0 4 true _ A2.out).mono ?_); rintro e w' ⟨rfl, ⟨nd, rfl⟩⟩; refine ⟨_, rfl, ?_⟩; (try (rw [drewN_self w58]; generalize hq_ : World.drewN w58 _ = w58; have n0_ : Aside0 (w58.heap[gb309]? = some (.cells #[.int .i64 a0_0, .int .i64 a0_1, .int .i64 a0_2, .int .i64 a0_3, .string a0_4] 26 (0, 0))) := ⟨by rw [← hq_]; exact (pk_ BK309)⟩; have n1_ : Aside0 (Below w.heap.size w w58) := ⟨by rw [← hq_]; exact (pb_ HB)⟩; clear BK309 HB hq_; have BK309 := n0_; have HB := n1_; clear n0_ n1_)); have hcz60_0 := cz_ BK309 0 (.int .i64 a0_0); have hcz60_1 := cz_ BK309 1 (.int .i64 a0_1); have hcz60_2 := cz_ BK309 2 (.int .i64 a0_2); have hcz60_3 := cz_ BK309 3 (.int .i64 a0_3); have hcz60_4 := cz_ BK309 4 (.string a0_4); have hfz60_0 := blk_frozen BK309.out 0; have hfz60_1 := blk_frozen BK309.out 1; have hfz60_2 := blk_frozen BK309.out 2; have hfz60_3 := blk_frozen BK309.out 3; have hfz60_4 := blk_frozen BK309.out 4) | ((with_reducible refine gate_dst (N := 3) rfl ?_); refine bx_ 3 #[.int .i64 0, .int .i64 0, .int .i64 0, .int .i64 0, .string (⟨#[]⟩ : ByteArray)] 26 ?_; intro gb311 hg w61 hbox hb; have BK311 := Aside0.mk (hbox); have GW311 := gw_ hg HB; have GE311 := gw_ hg HB; replace HB := sb_ HB hb; have NB309_311 := nl_ hg BK309; have NB311_309 := ng_ hg BK309; replace BK309 := kb_ BK309 hb; clear hb hbox hg; have hnb62 := NB311_309.out; have hnc62 := NB309_311.out; have hcz63_0 := cz_ BK311 0 (.int .i64 0); have hcz63_1 := cz_ BK311 1 (.int .i64 0); have hcz63_2 := cz_ BK311 2 (.int .i64 0); have hcz63_3 := cz_ BK311 3 (.int .i64 0); have hcz63_4 := cz_ BK311 4 (.string (⟨#[]⟩ : ByteArray)); have hfz63_0 := blk_frozen BK311.out 0; have hfz63_1 := blk_frozen BK311.out 1; have hfz63_2 := blk_frozen BK311.out 2; have hfz63_3 := blk_frozen BK311.out 3; have hfz63_4 := blk_frozen BK311.out 4; have hcz64_0 := cz_ BK309 0 (.int .i64 a0_0); have hcz64_1 := cz_ BK309 1 (.int .i64 a0_1); have hcz64_2 := cz_ BK309 2 (.int .i64 a0_2); have hcz64_3 := cz_ BK309 3 (.int .i64 a0_3); have hcz64_4 := cz_ BK309 4 (.string a0_4); have hfz64_0 := blk_frozen BK309.out 0; have hfz64_1 := blk_frozen BK309.out 1; have hfz64_2 := blk_frozen BK309.out 2; have hfz64_3 := blk_frozen BK309.out 3; have hfz64_4 := blk_frozen BK309.out 4))
   have n0_ : Aside0 ((((((w61.setCell ⟨gb311, 0, none⟩ (.int .i64 a0_0)).setCell ⟨gb311, 1, none⟩ (.int .i64 0)).setCell ⟨gb311, 2, none⟩ (.int .i64 0)).setCell ⟨gb311, 3, none⟩ (.int .i64 0)).setCell ⟨gb311, 4, none⟩ (.string (⟨#[]⟩ : ByteArray))).heap[gb309]? = some (.cells #[.int .i64 a0_0, .int .i64 a0_1, .int .i64 a0_2, .int .i64 a0_3, .string a0_4] 26 (0, 0))) := ⟨by (with_reducible repeat (first | refine blk_drewN ?_ _ | refine blk_drew ?_ | refine blk_alloc ?_ _)); refine blk_far ?_ NB309_311.out _; (with_reducible repeat (first | refine blk_drewN ?_ _ | refine blk_drew ?_ | refine blk_alloc ?_ _)); refine blk_far ?_ NB309_311.out _; (with_reducible repeat (first | refine blk_drewN ?_ _ | refine blk_drew ?_ | refine blk_alloc ?_ _)); refine blk_far ?_ NB309_311.out _; (with_reducible repeat (first | refine blk_drewN ?_ _ | refine blk_drew ?_ | refine blk_alloc ?_ _)); refine blk_far ?_ NB309_311.out _; (with_reducible repeat (first | refine blk_drewN ?_ _ | refine blk_drew ?_ | refine blk_alloc ?_ _)); refine blk_far ?_ NB309_311.out _; (with_reducible repeat (first | refine blk_drewN ?_ _ | refine blk_drew ?_ | refine blk_alloc ?_ _)); exact BK309.out⟩
   have n1_ : Aside0 ((((((w61.setCell ⟨gb311, 0, none⟩ (.int .i64 a0_0)).setCell ⟨gb311, 1, none⟩ (.int .i64 0)).setCell ⟨gb311, 2, none⟩ (.int .i64 0)).setCell ⟨gb311, 3, none⟩ (.int .i64 0)).setCell ⟨gb311, 4, none⟩ (.string (⟨#[]⟩ : ByteArray))).heap[gb311]? = some (.cells #[.int .i64 a0_0, .int .i64 0, .int .i64 0, .int .i64 0, .string (⟨#[]⟩ : ByteArray)] 26 (0, 0))) := ⟨bq_ BK311⟩
   have n2_ : Aside0 (Below w.heap.size w (((((w61.setCell ⟨gb311, 0, none⟩ (.int .i64 a0_0)).setCell ⟨gb311, 1, none⟩ (.int .i64 0)).setCell ⟨gb311, 2, none⟩ (.int .i64 0)).setCell ⟨gb311, 3, none⟩ (.int .i64 0)).setCell ⟨gb311, 4, none⟩ (.string (⟨#[]⟩ : ByteArray)))) := ⟨pb_ HB⟩
   (try clear BK309)
   (try clear BK311)
   (try clear HB)
   generalize (((((w61.setCell ⟨gb311, 0, none⟩ (.int .i64 a0_0)).setCell ⟨gb311, 1, none⟩ (.int .i64 0)).setCell ⟨gb311, 2, none⟩ (.int .i64 0)).setCell ⟨gb311, 3, none⟩ (.int .i64 0)).setCell ⟨gb311, 4, none⟩ (.string (⟨#[]⟩ : ByteArray))) = w65 at n0_ n1_ n2_ ⊢
   have BK309 := n0_
   have BK311 := n1_
   have HB := n2_
   clear n0_ n1_ n2_
   replace BK309 := Aside0.mk (blk_drew BK309.out)
   replace BK311 := Aside0.mk (blk_drew BK311.out)
   replace HB := Aside0.mk (below_drew1 HB.out)
   refine start_ (n := 12) (S := fun w' => w'.cell? ⟨gb309, 0, none⟩ = some (.int .i64 a0_0) ∧ w'.cell? ⟨gb309, 1, none⟩ = some (.int .i64 a0_1) ∧ w'.cell? ⟨gb309, 2, none⟩ = some (.int .i64 a0_2) ∧ w'.cell? ⟨gb309, 3, none⟩ = some (.int .i64 a0_3) ∧ w'.cell? ⟨gb309, 4, none⟩ = some (.string a0_4)) (ds := []) #[false, false, false, false, false, false, false, false, false, false, false, false] (by kernel_rfl) rfl rfl ⟨cy_ BK309 0, cy_ BK309 1, cy_ BK309 2, cy_ BK309 3, cy_ BK309 4⟩ (fun hHeld => ?_); refine with_tabW midrangeref04_OpErr.tab13 midrangeref04_OpErr.bits13 (fun HT_ HW_ => ?_)
   generalize w65.drew = w66 at BK309 BK311 HB hHeld ⊢
   refine pu_ 0 34 HT_ ?_
   refine pu_ 2 36 HT_ ?_
   refine pu_ 4 38 HT_ ?_
   refine tk_ 1 35 HT_ HW_ hHeld rfl (Or.inl ⟨by rfl, by rintro w' ⟨s0, s1, s2, s3, s4⟩; go_simp; with_reducible rfl⟩) ?_
   refine pu_ 6 40 HT_ ?_
   refine tk_ 3 37 HT_ HW_ hHeld rfl (Or.inl ⟨by rfl, by rintro w' ⟨s0, s1, s2, s3, s4⟩; go_simp; with_reducible rfl⟩) ?_
   refine tk_ 5 39 HT_ HW_ hHeld rfl (Or.inl ⟨by rfl, by rintro w' ⟨s0, s1, s2, s3, s4⟩; go_simp; with_reducible rfl⟩) ?_
   refine one_ (i := 7) (N := none) #[true, true, true, true, true, true, true, true, false, false, false, false] rfl rfl (one_of HT_.out (by kernel_rfl)) (by decide) (fun K hK => ?_)
   have hs67 : w66.cell? ⟨gb311, 1, none⟩ = some (.int .i64 0) := (blk_cell BK311.out 1).trans rfl
   have hfs67 := blk_frozen BK311.out 1
   have hns67_0 := NB309_311.out
   have hms67_0 := NB311_309.out
   refine skip_ (w1 := ?_) (by rfl) rfl ?_ ?_
   rotate_left
   ·
    go_simp
    rfl
   refine hK.out _ _ ⟨((cell_far (p := ⟨gb311, _, none⟩) NB309_311.out _).trans (hHeld.1)), ((cell_far (p := ⟨gb311, _, none⟩) NB309_311.out _).trans (hHeld.2.1)), ((cell_far (p := ⟨gb311, _, none⟩) NB309_311.out _).trans (hHeld.2.2.1)), ((cell_far (p := ⟨gb311, _, none⟩) NB309_311.out _).trans (hHeld.2.2.2.1)), ((cell_far (p := ⟨gb311, _, none⟩) NB309_311.out _).trans (hHeld.2.2.2.2))⟩ (fun hHeld => ?_)
   clear hK K
   refine pu_ 8 41 HT_ ?_
   refine one_ (i := 9) (N := none) #[true, true, true, true, true, true, true, true, true, true, false, false] rfl rfl (one_of HT_.out (by kernel_rfl)) (by decide) (fun K hK => ?_)
   have hs68 : w66.cell? ⟨gb311, 2, none⟩ = some (.int .i64 0) := (blk_cell BK311.out 2).trans rfl
   have hfs68 := blk_frozen BK311.out 2
   have hns68_0 := NB309_311.out
   have hms68_0 := NB311_309.out
   refine skip_ (w1 := ?_) (by rfl) rfl ?_ ?_
   rotate_left
   ·
    go_simp
    rfl
   refine hK.out _ _ ⟨((cell_far (p := ⟨gb311, _, none⟩) NB309_311.out _).trans (hHeld.1)), ((cell_far (p := ⟨gb311, _, none⟩) NB309_311.out _).trans (hHeld.2.1)), ((cell_far (p := ⟨gb311, _, none⟩) NB309_311.out _).trans (hHeld.2.2.1)), ((cell_far (p := ⟨gb311, _, none⟩) NB309_311.out _).trans (hHeld.2.2.2.1)), ((cell_far (p := ⟨gb311, _, none⟩) NB309_311.out _).trans (hHeld.2.2.2.2))⟩ (fun hHeld => ?_)
   clear hK K
   refine pu_ 10 42 HT_ ?_
   refine one_ (i := 11) (N := none) #[true, true, true, true, true, true, true, true, true, true, true, true] rfl rfl (one_of HT_.out (by kernel_rfl)) (by decide) (fun K hK => ?_)
   have hs69 : w66.cell? ⟨gb311, 4, none⟩ = some (.string (⟨#[]⟩ : ByteArray)) := (blk_cell BK311.out 4).trans rfl
   have hfs69 := blk_frozen BK311.out 4
   have hns69_0 := NB309_311.out
   have hms69_0 := NB311_309.out
   refine skip_ (w1 := ?_) (by rfl) rfl ?_ ?_
   rotate_left
   ·
    go_simp
    rfl
   refine hK.out _ _ ⟨((cell_far (p := ⟨gb311, _, none⟩) NB309_311.out _).trans (hHeld.1)), ((cell_far (p := ⟨gb311, _, none⟩) NB309_311.out _).trans (hHeld.2.1)), ((cell_far (p := ⟨gb311, _, none⟩) NB309_311.out _).trans (hHeld.2.2.1)), ((cell_far (p := ⟨gb311, _, none⟩) NB309_311.out _).trans (hHeld.2.2.2.1)), ((cell_far (p := ⟨gb311, _, none⟩) NB309_311.out _).trans (hHeld.2.2.2.2))⟩ (fun hHeld => ?_)
   clear hK K
   refine done_ (done_of HT_.out (by kernel_rfl)) ?_
   have hcz70_0 := cz_ BK311 0 (.int .i64 a0_0)
   have hcz70_1 := cz_ BK311 1 (.int .i64 0)
   have hcz70_2 := cz_ BK311 2 (.int .i64 0)
   have hcz70_3 := cz_ BK311 3 (.int .i64 0)
   have hcz70_4 := cz_ BK311 4 (.string (⟨#[]⟩ : ByteArray))
   have hfz70_0 := blk_frozen BK311.out 0
   have hfz70_1 := blk_frozen BK311.out 1
   have hfz70_2 := blk_frozen BK311.out 2
   have hfz70_3 := blk_frozen BK311.out 3
   have hfz70_4 := blk_frozen BK311.out 4
   have hcz71_0 := cz_ BK309 0 (.int .i64 a0_0)
   have hcz71_1 := cz_ BK309 1 (.int .i64 a0_1)
   have hcz71_2 := cz_ BK309 2 (.int .i64 a0_2)
   have hcz71_3 := cz_ BK309 3 (.int .i64 a0_3)
   have hcz71_4 := cz_ BK309 4 (.string a0_4)
   have hfz71_0 := blk_frozen BK309.out 0
   have hfz71_1 := blk_frozen BK309.out 1
   have hfz71_2 := blk_frozen BK309.out 2
   have hfz71_3 := blk_frozen BK309.out 3
   have hfz71_4 := blk_frozen BK309.out 4
   try go_wp2_with (first | ((with_reducible refine gate_callee (f := 69) rfl ?_); refine gl_ 46 Tryd.func69 #[.bool (!(0 == a0_3))] ?_; (with_reducible refine (midrangebase_Count.calls (!(0 == a0_3)) t316 _ A57.out).mono ?_); rintro e w' ⟨rfl, ⟨nd, rfl⟩⟩; refine ⟨_, rfl, ?_⟩))
   go_ret
   exact ⟨er_, pb_ HB⟩
  rw [if_neg c56] at H
  have c56b0 : (a0_0 == 4) = false := beq_eq_false_iff_ne.mpr c56
  have c56b1 : (a0_0 != 4) = true := bne_iff_ne.mpr c56
  replace H := Option.bind_eq_some_iff.mp H
  obtain ⟨t317, A720, H⟩ := H
  replace H : (some (wrap64 (5 * t317))) = some r := H
  have A72 := Aside0.mk A720
  clear A720
  obtain rfl := Option.some.inj H
  go_enter Tryd.func51, Tryd.ntmps51
  go_wp2_with (first | ((with_reducible refine gate_dst (N := 1) rfl ?_); refine bx_ 1 #[.int .i64 a0_0, .int .i64 a0_1, .int .i64 a0_2, .int .i64 a0_3, .string a0_4] 26 ?_; intro gb309 hg w73 hbox hb; have BK309 := Aside0.mk (hbox); have GW309 := gw_ hg HB; have GE309 := gw_ hg HB; replace HB := sb_ HB hb; clear hb hbox hg; have hcz74_0 := cz_ BK309 0 (.int .i64 a0_0); have hcz74_1 := cz_ BK309 1 (.int .i64 a0_1); have hcz74_2 := cz_ BK309 2 (.int .i64 a0_2); have hcz74_3 := cz_ BK309 3 (.int .i64 a0_3); have hcz74_4 := cz_ BK309 4 (.string a0_4); have hfz74_0 := blk_frozen BK309.out 0; have hfz74_1 := blk_frozen BK309.out 1; have hfz74_2 := blk_frozen BK309.out 2; have hfz74_3 := blk_frozen BK309.out 3; have hfz74_4 := blk_frozen BK309.out 4) | ((with_reducible refine gate_callee (f := 68) rfl ?_); refine gl_ 6 Tryd.func68 #[.int .i64 a0_0, .int .i64 0, .int .i64 4] ?_; (with_reducible refine (midrangebase_Within.calls a0_0 0 4 true _ A2.out).mono ?_); rintro e w' ⟨rfl, ⟨nd, rfl⟩⟩; refine ⟨_, rfl, ?_⟩; (try (rw [drewN_self w73]; generalize hq_ : World.drewN w73 _ = w73; have n0_ : Aside0 (w73.heap[gb309]? = some (.cells #[.int .i64 a0_0, .int .i64 a0_1, .int .i64 a0_2, .int .i64 a0_3, .string a0_4] 26 (0, 0))) := ⟨by rw [← hq_]; exact (pk_ BK309)⟩; have n1_ : Aside0 (Below w.heap.size w w73) := ⟨by rw [← hq_]; exact (pb_ HB)⟩; clear BK309 HB hq_; have BK309 := n0_; have HB := n1_; clear n0_ n1_)); have hcz75_0 := cz_ BK309 0 (.int .i64 a0_0); have hcz75_1 := cz_ BK309 1 (.int .i64 a0_1); have hcz75_2 := cz_ BK309 2 (.int .i64 a0_2); have hcz75_3 := cz_ BK309 3 (.int .i64 a0_3); have hcz75_4 := cz_ BK309 4 (.string a0_4); have hfz75_0 := blk_frozen BK309.out 0; have hfz75_1 := blk_frozen BK309.out 1; have hfz75_2 := blk_frozen BK309.out 2; have hfz75_3 := blk_frozen BK309.out 3; have hfz75_4 := blk_frozen BK309.out 4) | ((with_reducible refine gate_dst (N := 3) rfl ?_); refine bx_ 3 #[.int .i64 0, .int .i64 0, .int .i64 0, .int .i64 0, .string (⟨#[]⟩ : ByteArray)] 26 ?_; intro gb311 hg w76 hbox hb; have BK311 := Aside0.mk (hbox); have GW311 := gw_ hg HB; have GE311 := gw_ hg HB; replace HB := sb_ HB hb; have NB309_311 := nl_ hg BK309; have NB311_309 := ng_ hg BK309; replace BK309 := kb_ BK309 hb; clear hb hbox hg; have hnb77 := NB311_309.out; have hnc77 := NB309_311.out; have hcz78_0 := cz_ BK311 0 (.int .i64 0); have hcz78_1 := cz_ BK311 1 (.int .i64 0); have hcz78_2 := cz_ BK311 2 (.int .i64 0); have hcz78_3 := cz_ BK311 3 (.int .i64 0); have hcz78_4 := cz_ BK311 4 (.string (⟨#[]⟩ : ByteArray)); have hfz78_0 := blk_frozen BK311.out 0; have hfz78_1 := blk_frozen BK311.out 1; have hfz78_2 := blk_frozen BK311.out 2; have hfz78_3 := blk_frozen BK311.out 3; have hfz78_4 := blk_frozen BK311.out 4; have hcz79_0 := cz_ BK309 0 (.int .i64 a0_0); have hcz79_1 := cz_ BK309 1 (.int .i64 a0_1); have hcz79_2 := cz_ BK309 2 (.int .i64 a0_2); have hcz79_3 := cz_ BK309 3 (.int .i64 a0_3); have hcz79_4 := cz_ BK309 4 (.string a0_4); have hfz79_0 := blk_frozen BK309.out 0; have hfz79_1 := blk_frozen BK309.out 1; have hfz79_2 := blk_frozen BK309.out 2; have hfz79_3 := blk_frozen BK309.out 3; have hfz79_4 := blk_frozen BK309.out 4) | ((with_reducible refine gate_callee (f := 69) rfl ?_); refine gl_ 46 Tryd.func69 #[.bool (!(0 == a0_1) || (!(0 == a0_2) || (!(0 == a0_3) || (!a0_4.toList.isEmpty))))] ?_; (with_reducible refine (midrangebase_Count.calls (!(0 == a0_1) || (!(0 == a0_2) || (!(0 == a0_3) || (!a0_4.toList.isEmpty)))) t317 _ A72.out).mono ?_); rintro e w' ⟨rfl, ⟨nd, rfl⟩⟩; refine ⟨_, rfl, ?_⟩))
  go_ret
  exact ⟨er_, pb_ HB⟩
 replace c3 := Bool.eq_false_iff.mpr c3
 subst c3
 have H1 : (some 4) = some r := by rw [if_neg (show ¬ (false = true) by decide)] at H; exact H
 clear H
 have H := H1
 clear H1
 obtain rfl := Option.some.inj H
 go_enter Tryd.func51, Tryd.ntmps51
 go_wp2_with (first | ((with_reducible refine gate_dst (N := 1) rfl ?_); refine bx_ 1 #[.int .i64 a0_0, .int .i64 a0_1, .int .i64 a0_2, .int .i64 a0_3, .string a0_4] 26 ?_; intro gb309 hg w80 hbox hb; have BK309 := Aside0.mk (hbox); have GW309 := gw_ hg HB; have GE309 := gw_ hg HB; replace HB := sb_ HB hb; clear hb hbox hg; have hcz81_0 := cz_ BK309 0 (.int .i64 a0_0); have hcz81_1 := cz_ BK309 1 (.int .i64 a0_1); have hcz81_2 := cz_ BK309 2 (.int .i64 a0_2); have hcz81_3 := cz_ BK309 3 (.int .i64 a0_3); have hcz81_4 := cz_ BK309 4 (.string a0_4); have hfz81_0 := blk_frozen BK309.out 0; have hfz81_1 := blk_frozen BK309.out 1; have hfz81_2 := blk_frozen BK309.out 2; have hfz81_3 := blk_frozen BK309.out 3; have hfz81_4 := blk_frozen BK309.out 4) | ((with_reducible refine gate_callee (f := 68) rfl ?_); refine gl_ 6 Tryd.func68 #[.int .i64 a0_0, .int .i64 0, .int .i64 4] ?_; (with_reducible refine (midrangebase_Within.calls a0_0 0 4 false _ A2.out).mono ?_); rintro e w' ⟨rfl, ⟨nd, rfl⟩⟩; refine ⟨_, rfl, ?_⟩))
 go_ret
 exact ⟨er_, pb_ HB⟩
end Go.Proofs.YtoabahlaicgmjaaDoor.X
end
