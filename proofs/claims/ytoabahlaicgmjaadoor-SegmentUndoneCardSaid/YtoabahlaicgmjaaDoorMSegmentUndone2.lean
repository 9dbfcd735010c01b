-- Texts of this claim joined by merge.py, a program of its author; what this claim does not reach is left out.
import Derived.Test.YtoabahlaicgmjaaDoorMSegmentUndone1
section
namespace Go.Proofs.YtoabahlaicgmjaaDoor.X
open Go.Proofs.YtoabahlaicgmjaaDoor.XW Go.Proofs.YtoabahlaicgmjaaDoor.XS
open Go.RowKit Go.Proofs.YtoabahlaicgmjaaDoorW.PrintWords Go.Proofs.YtoabahlaicgmjaaDoorW.PrintLast Go.Proofs.YtoabahlaicgmjaaDoorW.PrintMore
attribute [local go_sem] max2_int min2_int max_two min_two max_three min_three max_four min_four   -- for this text's walks alone
set_option linter.unusedVariables false
set_option linter.unusedSimpArgs false
mutual
def segment_CheckStore.l0 : Nat → List (S46) → Int → Int → List (S46) → Int → Option (Int × Int)
  | 0, _, _, _, _, _ => none
  | k + 1, x16, x17, x18, x102000, x102001 => if x18 < x17 then (if 0 ≤ x18 then (if x18 < (x16.length : Int) then ((segment_within.f ((rd_T46 x16 x18).f0) 1 (wrap64 (x102001 - 1))).bind fun t105 => (if t105 = true then (if x18 > 0 then (if 0 ≤ (wrap64 (x18 - 1)) then (if (wrap64 (x18 - 1)) < (x102000.length : Int) then (segment_CheckStore.j1 k x18 (((rd_T46 x16 x18).f1).size : Int) x16 x17 x18 (decide (((rd_T46 x16 x18).f0) ≤ ((rd_T46 x102000 (wrap64 (x18 - 1))).f0))) x102000 x102001) else (none)) else (none)) else (segment_CheckStore.j1 k x18 (((rd_T46 x16 x18).f1).size : Int) x16 x17 x18 false x102000 x102001)) else (some (x18, 3)))) else (none)) else (none)) else (some (0, 0))
def segment_CheckStore.j1 : Nat → Int → Int → List (S46) → Int → Int → Bool → List (S46) → Int → Option (Int × Int)
  | 0, _, _, _, _, _, _, _, _ => none
  | k + 1, x4, x6, x16, x17, x18, x35, x102000, x102001 => if x35 = true then (some (x4, 14)) else (if (x6 % 32) = 0 then ((segment_within.f (wrap64 (x6 / 32)) 1 8).bind fun t107 => (if t107 = true then (segment_CheckStore.l0 k x16 x17 (wrap64 (x18 + 1)) x102000 x102001) else (some (x4, 18)))) else (some (x4, 18)))
end
def segment_CheckStore.f (k : Nat) (l0_0 : List (S46)) (a0_1 : Int) : Option (Int × Int) := if (l0_0.length : Int) > 10 then (some (0, 2)) else ((segment_within.f a0_1 1 1001).bind fun t102 => (if t102 = true then (segment_CheckStore.l0 k l0_0 (l0_0.length : Int) 0 l0_0 a0_1) else (some (0, 3))))
theorem segment_CheckStore.mono_l : ∀ k, (∀ y0 y1 y2 y3 y4, LeO (segment_CheckStore.l0 k y0 y1 y2 y3 y4) (segment_CheckStore.l0 (k + 1) y0 y1 y2 y3 y4)) ∧ (∀ y0 y1 y2 y3 y4 y5 y6 y7, LeO (segment_CheckStore.j1 k y0 y1 y2 y3 y4 y5 y6 y7) (segment_CheckStore.j1 (k + 1) y0 y1 y2 y3 y4 y5 y6 y7))
 | 0 => ⟨fun _ _ _ _ _ r h => by simp [segment_CheckStore.l0] at h, fun _ _ _ _ _ _ _ _ r h => by simp [segment_CheckStore.j1] at h⟩
 | k + 1 => by
  obtain ⟨ih0, ih1⟩ := segment_CheckStore.mono_l k
  refine ⟨?_, ?_⟩
  ·
   intro y0 y1 y2 y3 y4
   unfold segment_CheckStore.l0
   repeat' first
   | (with_reducible exact ih0 _ _ _ _ _)
   | (with_reducible exact ih1 _ _ _ _ _ _ _ _)
   | (with_reducible exact LeO.refl _)
   | (with_reducible exact LeO.none _)
   | (with_reducible refine LeO.ite ?_ ?_)
   | (with_reducible refine LeO.bind ?_ (fun _ => ?_))
   | exact ih0 _ _ _ _ _
   | exact ih1 _ _ _ _ _ _ _ _
   | exact LeO.none _
   | refine LeO.ite ?_ ?_
   | refine LeO.bind ?_ (fun _ => ?_)
  intro y0 y1 y2 y3 y4 y5 y6 y7
  unfold segment_CheckStore.j1
  repeat' first
  | (with_reducible exact ih0 _ _ _ _ _)
  | (with_reducible exact ih1 _ _ _ _ _ _ _ _)
  | (with_reducible exact LeO.refl _)
  | (with_reducible exact LeO.none _)
  | (with_reducible refine LeO.ite ?_ ?_)
  | (with_reducible refine LeO.bind ?_ (fun _ => ?_))
  | exact ih0 _ _ _ _ _
  | exact ih1 _ _ _ _ _ _ _ _
  | exact LeO.none _
  | refine LeO.ite ?_ ?_
  | refine LeO.bind ?_ (fun _ => ?_)
theorem segment_CheckStore.mono : ∀ a0 a1 k, LeO (segment_CheckStore.f k a0 a1) (segment_CheckStore.f (k + 1) a0 a1) := by
 intro a0 a1 k
 obtain ⟨ih0, ih1⟩ := segment_CheckStore.mono_l k
 unfold segment_CheckStore.f
 repeat' first
  | (with_reducible exact ih0 _ _ _ _ _)
  | (with_reducible exact ih1 _ _ _ _ _ _ _ _)
  | (with_reducible exact LeO.refl _)
  | (with_reducible exact LeO.none _)
  | (with_reducible refine LeO.ite ?_ ?_)
  | (with_reducible refine LeO.bind ?_ (fun _ => ?_))
  | exact ih0 _ _ _ _ _
  | exact ih1 _ _ _ _ _ _ _ _
  | exact LeO.none _
  | refine LeO.ite ?_ ?_
  | refine LeO.bind ?_ (fun _ => ?_)
set_option maxHeartbeats 8000000 in
set_option maxRecDepth 100000 in
theorem segment_CheckStore.calls (k : Nat) (A0_0 : Option Addr) (c0_0 : Nat) (l0_0 : List (S46)) (a0_1 : Int) (r1 : Int) (r2 : Int) (w : World) (hr0_0 : Kd.C k46 w A0_0 l0_0.length l0_0) (hc0_0 : l0_0.length ≤ c0_0) (h : segment_CheckStore.f k l0_0 a0_1 = some (r1, r2)) :
  Calls Tryd.prog 22 #[.agg #[.slice A0_0 l0_0.length c0_0, .int .i64 a0_1]] w fun e w' => e = .returned (.tuple #[.int .i64 r1, .int .i64 r2]) ∧ Below w.heap.size w w' := by
 have hu24 := Tryd.underlying24
 have hu46 := Tryd.underlying46
 have HR0_0 := Aside0.mk hr0_0
 have HC0_0 := Aside0.mk hc0_0
 clear hr0_0 hc0_0
 have HB := Aside0.mk (Below.refl w.heap.size w)
 have H : (if (l0_0.length : Int) > 10 then (some (0, 2)) else ((segment_within.f a0_1 1 1001).bind fun t102 => (if t102 = true then (segment_CheckStore.l0 k l0_0 (l0_0.length : Int) 0 l0_0 a0_1) else (some (0, 3))))) = some (r1, r2) := h
 clear h
 by_cases c2 : (l0_0.length : Int) > 10
 ·
  rw [if_pos c2] at H
  have c2b0 : decide (10 < (l0_0.length : Int)) = true := decide_eq_true c2
  have c2b1 : decide (10 < l0_0.length) = true := decide_eq_true (by omega)
  clear c2
  simp only [Option.some.injEq, Prod.mk.injEq] at H
  obtain ⟨rfl, rfl⟩ := H
  go_enter Tryd.func22, Tryd.ntmps22
  go_wp2_with (first | ((with_reducible refine gate_dst (N := 1) rfl ?_); refine bx_ 1 #[.slice A0_0 l0_0.length c0_0, .int .i64 a0_1] 24 ?_; intro gb101 hg w3 hbox hb; have BK101 := Aside0.mk (hbox); have GW101 := gw_ hg HB; have GE101 := gw_ hg HB; replace HB := sb_ HB hb; clear hb hbox hg; have hcz4_0 := cz_ BK101 0 (.slice A0_0 l0_0.length c0_0); have hcz4_1 := cz_ BK101 1 (.int .i64 a0_1); have hfz4_0 := blk_frozen BK101.out 0; have hfz4_1 := blk_frozen BK101.out 1))
  repeat (go_quiet (first | ((with_reducible refine gate_dst (N := 1) rfl ?_); refine bx_ 1 #[.slice A0_0 l0_0.length c0_0, .int .i64 a0_1] 24 ?_; intro gb101 hg w3 hbox hb; have BK101 := Aside0.mk (hbox); have GW101 := gw_ hg HB; have GE101 := gw_ hg HB; replace HB := sb_ HB hb; clear hb hbox hg; have hcz4_0 := cz_ BK101 0 (.slice A0_0 l0_0.length c0_0); have hcz4_1 := cz_ BK101 1 (.int .i64 a0_1); have hfz4_0 := blk_frozen BK101.out 0; have hfz4_1 := blk_frozen BK101.out 1)); try go_wp2_with (first | ((with_reducible refine gate_dst (N := 1) rfl ?_); refine bx_ 1 #[.slice A0_0 l0_0.length c0_0, .int .i64 a0_1] 24 ?_; intro gb101 hg w3 hbox hb; have BK101 := Aside0.mk (hbox); have GW101 := gw_ hg HB; have GE101 := gw_ hg HB; replace HB := sb_ HB hb; clear hb hbox hg; have hcz4_0 := cz_ BK101 0 (.slice A0_0 l0_0.length c0_0); have hcz4_1 := cz_ BK101 1 (.int .i64 a0_1); have hfz4_0 := blk_frozen BK101.out 0; have hfz4_1 := blk_frozen BK101.out 1)))
  go_ret2
  exact ⟨er_, pb_ HB⟩
 rw [if_neg c2] at H
 have c2b0 : decide (10 < (l0_0.length : Int)) = false := decide_eq_false c2
 have c2b1 : decide (10 < l0_0.length) = false := decide_eq_false (by omega)
 clear c2
 replace H := Option.bind_eq_some_iff.mp H
 obtain ⟨t102, A50, H⟩ := H
 replace H : (if t102 = true then (segment_CheckStore.l0 k l0_0 (l0_0.length : Int) 0 l0_0 a0_1) else (some (0, 3))) = some (r1, r2) := H
 have A5 := Aside0.mk A50
 clear A50
 by_cases c6 : t102 = true
 ·
  subst c6
  have H1 : (segment_CheckStore.l0 k l0_0 (l0_0.length : Int) 0 l0_0 a0_1) = some (r1, r2) := by rw [if_pos rfl] at H; exact H
  clear H
  have H := H1
  clear H1
  have H' := Aside0.mk H
  clear H
  go_enter Tryd.func22, Tryd.ntmps22
  go_wp2_with (first | ((with_reducible refine gate_dst (N := 1) rfl ?_); refine bx_ 1 #[.slice A0_0 l0_0.length c0_0, .int .i64 a0_1] 24 ?_; intro gb101 hg w7 hbox hb; have BK101 := Aside0.mk (hbox); have GW101 := gw_ hg HB; have GE101 := gw_ hg HB; replace HB := sb_ HB hb; clear hb hbox hg; have hcz8_0 := cz_ BK101 0 (.slice A0_0 l0_0.length c0_0); have hcz8_1 := cz_ BK101 1 (.int .i64 a0_1); have hfz8_0 := blk_frozen BK101.out 0; have hfz8_1 := blk_frozen BK101.out 1) | (go_at_call 25; (with_reducible refine (segment_within.calls a0_1 1 1001 true _ A5.out).mono ?_); rintro e w' ⟨rfl, ⟨nd, rfl⟩⟩; (try first | exact ⟨rfl, _, World.drewN_drewN _ _ _⟩ | exact ⟨rfl, _, Eq.trans (World.drewN_drewN _ _ _) (congrArg (World.drewN _) (Nat.add_assoc _ _ _))⟩)))
  repeat (go_quiet (first | ((with_reducible refine gate_dst (N := 1) rfl ?_); refine bx_ 1 #[.slice A0_0 l0_0.length c0_0, .int .i64 a0_1] 24 ?_; intro gb101 hg w7 hbox hb; have BK101 := Aside0.mk (hbox); have GW101 := gw_ hg HB; have GE101 := gw_ hg HB; replace HB := sb_ HB hb; clear hb hbox hg; have hcz8_0 := cz_ BK101 0 (.slice A0_0 l0_0.length c0_0); have hcz8_1 := cz_ BK101 1 (.int .i64 a0_1); have hfz8_0 := blk_frozen BK101.out 0; have hfz8_1 := blk_frozen BK101.out 1) | (go_at_call 25; (with_reducible refine (segment_within.calls a0_1 1 1001 true _ A5.out).mono ?_); rintro e w' ⟨rfl, ⟨nd, rfl⟩⟩; (try first | exact ⟨rfl, _, World.drewN_drewN _ _ _⟩ | exact ⟨rfl, _, Eq.trans (World.drewN_drewN _ _ _) (congrArg (World.drewN _) (Nat.add_assoc _ _ _))⟩))); try go_wp2_with (first | ((with_reducible refine gate_dst (N := 1) rfl ?_); refine bx_ 1 #[.slice A0_0 l0_0.length c0_0, .int .i64 a0_1] 24 ?_; intro gb101 hg w7 hbox hb; have BK101 := Aside0.mk (hbox); have GW101 := gw_ hg HB; have GE101 := gw_ hg HB; replace HB := sb_ HB hb; clear hb hbox hg; have hcz8_0 := cz_ BK101 0 (.slice A0_0 l0_0.length c0_0); have hcz8_1 := cz_ BK101 1 (.int .i64 a0_1); have hfz8_0 := blk_frozen BK101.out 0; have hfz8_1 := blk_frozen BK101.out 1) | (go_at_call 25; (with_reducible refine (segment_within.calls a0_1 1 1001 true _ A5.out).mono ?_); rintro e w' ⟨rfl, ⟨nd, rfl⟩⟩; (try first | exact ⟨rfl, _, World.drewN_drewN _ _ _⟩ | exact ⟨rfl, _, Eq.trans (World.drewN_drewN _ _ _) (congrArg (World.drewN _) (Nat.add_assoc _ _ _))⟩))))
  go_loopg [18] k (fun kq v18 w' => ∃ (x18_1 : Int), v18 = .int .i64 x18_1 ∧ Aside0 (segment_CheckStore.l0 kq l0_0 (l0_0.length : Int) x18_1 l0_0 a0_1 = some (r1, r2)) ∧ Aside0 (kq ≤ k) ∧ Aside0 (w'.heap[gb101]? = some (.cells #[(.slice A0_0 l0_0.length c0_0), .int .i64 a0_1] 24 (0, 0))) ∧ Aside0 (Below w.heap.size w w'))
  case atStart => exact ⟨(0), rl_, H', ⟨Nat.le_refl _⟩, ⟨pk_ BK101⟩, ⟨pb_ HB⟩⟩
  case round =>
   clear H'
   try clear c2
   try clear c2b0
   try clear c2b1
   try clear p2
   try clear c6
   try clear hcz4_0
   try clear hcz4_1
   try clear hcz8_0
   try clear hcz8_1
   try clear hfz4_0
   try clear hfz4_1
   try clear hfz8_0
   try clear hfz8_1
   obtain ⟨x18_1, rfl, HA, HK1, BK101, HB⟩ := hrel
   cases gk with
   | zero => exact absurd HA.out (by simp [segment_CheckStore.l0])
   | succ k1 =>
    have H := HA.out
    clear HA
    simp only [segment_CheckStore.l0] at H
    by_cases c9 : x18_1 < (l0_0.length : Int)
    ·
     rw [if_pos c9] at H
     have c9b0 : decide (x18_1 < (l0_0.length : Int)) = true := decide_eq_true c9
     clear c9
     by_cases c10 : 0 ≤ x18_1
     ·
      rw [if_pos c10] at H
      have c10b0 : decide (0 ≤ x18_1) = true := decide_eq_true c10
      clear c10
      by_cases c11 : x18_1 < (l0_0.length : Int)
      ·
       rw [if_pos c11] at H
       have c11b0 : decide (x18_1 < (l0_0.length : Int)) = true := decide_eq_true c11
       clear c11
       replace H := Option.bind_eq_some_iff.mp H
       obtain ⟨t105, A120, H⟩ := H
       replace H : (if t105 = true then (if x18_1 > 0 then (if 0 ≤ (wrap64 (x18_1 - 1)) then (if (wrap64 (x18_1 - 1)) < (l0_0.length : Int) then (segment_CheckStore.j1 k1 x18_1 (((rd_T46 l0_0 x18_1).f1).size : Int) l0_0 (l0_0.length : Int) x18_1 (decide (((rd_T46 l0_0 x18_1).f0) ≤ ((rd_T46 l0_0 (wrap64 (x18_1 - 1))).f0))) l0_0 a0_1) else (none)) else (none)) else (segment_CheckStore.j1 k1 x18_1 (((rd_T46 l0_0 x18_1).f1).size : Int) l0_0 (l0_0.length : Int) x18_1 false l0_0 a0_1)) else (some (x18_1, 3))) = some (r1, r2) := H
       have A12 := Aside0.mk A120
       clear A120
       by_cases c13 : t105 = true
       ·
        subst c13
        have H1 : (if x18_1 > 0 then (if 0 ≤ (wrap64 (x18_1 - 1)) then (if (wrap64 (x18_1 - 1)) < (l0_0.length : Int) then (segment_CheckStore.j1 k1 x18_1 (((rd_T46 l0_0 x18_1).f1).size : Int) l0_0 (l0_0.length : Int) x18_1 (decide (((rd_T46 l0_0 x18_1).f0) ≤ ((rd_T46 l0_0 (wrap64 (x18_1 - 1))).f0))) l0_0 a0_1) else (none)) else (none)) else (segment_CheckStore.j1 k1 x18_1 (((rd_T46 l0_0 x18_1).f1).size : Int) l0_0 (l0_0.length : Int) x18_1 false l0_0 a0_1)) = some (r1, r2) := by rw [if_pos rfl] at H; exact H
        clear H
        have H := H1
        clear H1
        have HC14 := Aside0.mk H
        clear H
        have p103 : 0 ≤ (x18_1 : Int) := ct_
        have q103 : x18_1 < (l0_0.length : Int) := ct_
        obtain ⟨ad103, e103, hx103_0, hx103_1⟩ := at_T46 HR0_0.out x18_1 p103 q103
        cases e103
        replace hx103_0 := pw_cell_below HB.out hx103_0
        replace hx103_1 := pw_cell_below HB.out hx103_1
        replace p103 := eq_true p103
        replace q103 := eq_true q103
        go_upto_region 11 with (first | ((with_reducible refine gate_dst (N := 5) rfl ?_); refine bx_ 5 #[.int .i64 0, .string (⟨#[]⟩ : ByteArray)] 46 ?_; intro gb104 hg w15 hbox hb; have BK104 := Aside0.mk (hbox); have GW104 := gw_ hg HB; have GE104 := gw_ hg HB; replace HB := sb_ HB hb; have NB101_104 := nl_ hg BK101; have NB104_101 := ng_ hg BK101; replace BK101 := kb_ BK101 hb; clear hb hbox hg; have hnb16 := NB104_101.out; have hnc16 := NB101_104.out; have hcz17_0 := cz_ BK104 0 (.int .i64 0); have hcz17_1 := cz_ BK104 1 (.string (⟨#[]⟩ : ByteArray)); have hfz17_0 := blk_frozen BK104.out 0; have hfz17_1 := blk_frozen BK104.out 1; have hcz18_0 := cz_ BK101 0 (.slice (some ad103) l0_0.length c0_0); have hcz18_1 := cz_ BK101 1 (.int .i64 a0_1); have hfz18_0 := blk_frozen BK101.out 0; have hfz18_1 := blk_frozen BK101.out 1) | (go_at_call 25; (with_reducible refine (segment_within.calls ((rd_T46 l0_0 x18_1).f0) 1 (wrap64 (a0_1 - 1)) true _ A12.out).mono ?_); rintro e w' ⟨rfl, ⟨nd, rfl⟩⟩; (try first | exact ⟨rfl, _, World.drewN_drewN _ _ _⟩ | exact ⟨rfl, _, Eq.trans (World.drewN_drewN _ _ _) (congrArg (World.drewN _) (Nat.add_assoc _ _ _))⟩)))
        repeat (go_quiet (first | ((with_reducible refine gate_dst (N := 5) rfl ?_); refine bx_ 5 #[.int .i64 0, .string (⟨#[]⟩ : ByteArray)] 46 ?_; intro gb104 hg w15 hbox hb; have BK104 := Aside0.mk (hbox); have GW104 := gw_ hg HB; have GE104 := gw_ hg HB; replace HB := sb_ HB hb; have NB101_104 := nl_ hg BK101; have NB104_101 := ng_ hg BK101; replace BK101 := kb_ BK101 hb; clear hb hbox hg; have hnb16 := NB104_101.out; have hnc16 := NB101_104.out; have hcz17_0 := cz_ BK104 0 (.int .i64 0); have hcz17_1 := cz_ BK104 1 (.string (⟨#[]⟩ : ByteArray)); have hfz17_0 := blk_frozen BK104.out 0; have hfz17_1 := blk_frozen BK104.out 1; have hcz18_0 := cz_ BK101 0 (.slice (some ad103) l0_0.length c0_0); have hcz18_1 := cz_ BK101 1 (.int .i64 a0_1); have hfz18_0 := blk_frozen BK101.out 0; have hfz18_1 := blk_frozen BK101.out 1) | (go_at_call 25; (with_reducible refine (segment_within.calls ((rd_T46 l0_0 x18_1).f0) 1 (wrap64 (a0_1 - 1)) true _ A12.out).mono ?_); rintro e w' ⟨rfl, ⟨nd, rfl⟩⟩; (try first | exact ⟨rfl, _, World.drewN_drewN _ _ _⟩ | exact ⟨rfl, _, Eq.trans (World.drewN_drewN _ _ _) (congrArg (World.drewN _) (Nat.add_assoc _ _ _))⟩))); go_upto_region 11 with (first | ((with_reducible refine gate_dst (N := 5) rfl ?_); refine bx_ 5 #[.int .i64 0, .string (⟨#[]⟩ : ByteArray)] 46 ?_; intro gb104 hg w15 hbox hb; have BK104 := Aside0.mk (hbox); have GW104 := gw_ hg HB; have GE104 := gw_ hg HB; replace HB := sb_ HB hb; have NB101_104 := nl_ hg BK101; have NB104_101 := ng_ hg BK101; replace BK101 := kb_ BK101 hb; clear hb hbox hg; have hnb16 := NB104_101.out; have hnc16 := NB101_104.out; have hcz17_0 := cz_ BK104 0 (.int .i64 0); have hcz17_1 := cz_ BK104 1 (.string (⟨#[]⟩ : ByteArray)); have hfz17_0 := blk_frozen BK104.out 0; have hfz17_1 := blk_frozen BK104.out 1; have hcz18_0 := cz_ BK101 0 (.slice (some ad103) l0_0.length c0_0); have hcz18_1 := cz_ BK101 1 (.int .i64 a0_1); have hfz18_0 := blk_frozen BK101.out 0; have hfz18_1 := blk_frozen BK101.out 1) | (go_at_call 25; (with_reducible refine (segment_within.calls ((rd_T46 l0_0 x18_1).f0) 1 (wrap64 (a0_1 - 1)) true _ A12.out).mono ?_); rintro e w' ⟨rfl, ⟨nd, rfl⟩⟩; (try first | exact ⟨rfl, _, World.drewN_drewN _ _ _⟩ | exact ⟨rfl, _, Eq.trans (World.drewN_drewN _ _ _) (congrArg (World.drewN _) (Nat.add_assoc _ _ _))⟩))))
        (try simp only [Act.put, List.setIfInBounds_toArray, List.set_cons_zero, List.set_cons_succ])
        go_cut [35] (fun v35 wc => ∃ (kq : Nat) (x35_13 : Bool), v35 = .bool x35_13 ∧ Aside0 (segment_CheckStore.j1 kq x18_1 (((rd_T46 l0_0 x18_1).f1).size : Int) l0_0 (l0_0.length : Int) x18_1 x35_13 l0_0 a0_1 = some (r1, r2)) ∧ Aside0 (kq ≤ k1) ∧ Aside0 (wc.heap[gb101]? = some (.cells #[(.slice (some ad103) l0_0.length c0_0), .int .i64 a0_1] 24 (0, 0))) ∧ Aside0 (wc.heap[gb104]? = some (.cells #[.int .i64 ((rd_T46 l0_0 x18_1).f0), .string ((rd_T46 l0_0 x18_1).f1)] 46 (0, 0))) ∧ Aside0 (Below w.heap.size w wc))
        case first =>
         have H := HC14.out
         clear HC14
         by_cases c19 : x18_1 > 0
         ·
          rw [if_pos c19] at H
          have c19b0 : decide (0 < x18_1) = true := decide_eq_true c19
          clear c19
          (first | rw [c19b0] | (simp only [i64_w, i32_w]; rw [c19b0]) | skip)
          obtain ⟨ji20, hji20⟩ : ∃ j_ : Int, (wrap64 (x18_1 - 1)) = j_ := ⟨_, rfl⟩
          replace H : (if 0 ≤ (ji20) then (if (ji20) < (l0_0.length : Int) then (segment_CheckStore.j1 k1 x18_1 (((rd_T46 l0_0 x18_1).f1).size : Int) l0_0 (l0_0.length : Int) x18_1 (decide (((rd_T46 l0_0 x18_1).f0) ≤ ((rd_T46 l0_0 (ji20)).f0))) l0_0 a0_1) else (none)) else (none)) = some (r1, r2) := by first | (rw [hji20] at H; exact H) | (simp only [hji20] at H ⊢; exact H)
          have hji20w : (IntKind.i64.wrap (x18_1 - 1)) = ji20 := (i64_w _).trans hji20
          by_cases c21 : 0 ≤ (ji20)
          ·
           rw [if_pos c21] at H
           have c21b0 : decide (0 ≤ (ji20)) = true := decide_eq_true c21
           clear c21
           by_cases c22 : (ji20) < (l0_0.length : Int)
           ·
            rw [if_pos c22] at H
            have c22b0 : decide ((ji20) < (l0_0.length : Int)) = true := decide_eq_true c22
            clear c22
            have H' := Aside0.mk H
            clear H
            have hnb23 := NB104_101.out
            have hnc23 := NB101_104.out
            have hcz24_0 := cz_ BK104 0 (.int .i64 0)
            have hcz24_1 := cz_ BK104 1 (.string (⟨#[]⟩ : ByteArray))
            have hfz24_0 := blk_frozen BK104.out 0
            have hfz24_1 := blk_frozen BK104.out 1
            have hcz25_0 := cz_ BK101 0 (.slice (some ad103) l0_0.length c0_0)
            have hcz25_1 := cz_ BK101 1 (.int .i64 a0_1)
            have hfz25_0 := blk_frozen BK101.out 0
            have hfz25_1 := blk_frozen BK101.out 1
            have p106 : 0 ≤ ((ji20) : Int) := ct_
            have q106 : (ji20) < (l0_0.length : Int) := ct_
            obtain ⟨ad106, e106, hx106_0, hx106_1⟩ := at_T46 HR0_0.out (ji20) p106 q106
            obtain rfl : ad103 = ad106 := (by injection e106)
            have hn106_0 : ad103.block ≠ gb104 := Nat.ne_of_lt (Nat.lt_of_lt_of_le (by have := World.block_lt_of_cell? _ _ hx106_0; first | rwa [add_block] at this | exact this) GW104.out)
            have hn106_1 : ad103.block ≠ gb104 := Nat.ne_of_lt (Nat.lt_of_lt_of_le (by have := World.block_lt_of_cell? _ _ hx106_0; first | rwa [add_block] at this | exact this) GW104.out)
            replace hx106_0 := pw_cell_below HB.out hx106_0
            replace hx106_1 := pw_cell_below HB.out hx106_1
            replace hx106_0 := (cell_far (p := ⟨gb104, 0, none⟩) (by first | (rw [add_block]; exact hn106_0) | (show (Addr.add _ _).block ≠ _; rw [add_block]; exact hn106_0) | exact hn106_0) (.int .i64 ((rd_T46 l0_0 x18_1).f0))).trans hx106_0
            replace hx106_1 := (cell_far (p := ⟨gb104, 0, none⟩) (by first | (rw [add_block]; exact hn106_0) | (show (Addr.add _ _).block ≠ _; rw [add_block]; exact hn106_0) | exact hn106_0) (.int .i64 ((rd_T46 l0_0 x18_1).f0))).trans hx106_1
            replace hx106_0 := (cell_far (p := ⟨gb104, 1, none⟩) (by first | (rw [add_block]; exact hn106_1) | (show (Addr.add _ _).block ≠ _; rw [add_block]; exact hn106_1) | exact hn106_1) (.string ((rd_T46 l0_0 x18_1).f1))).trans hx106_0
            replace hx106_1 := (cell_far (p := ⟨gb104, 1, none⟩) (by first | (rw [add_block]; exact hn106_1) | (show (Addr.add _ _).block ≠ _; rw [add_block]; exact hn106_1) | exact hn106_1) (.string ((rd_T46 l0_0 x18_1).f1))).trans hx106_1
            (try have hy106_0 := fun (n_ : Nat) => (show ((((w15.drewN n_).setCell ⟨gb104, 0, none⟩ (.int .i64 ((rd_T46 l0_0 x18_1).f0))).setCell ⟨gb104, 1, none⟩ (.string ((rd_T46 l0_0 x18_1).f1)))).cell? _ = some _ from hx106_0))
            (try have hy106_1 := fun (n_ : Nat) => (show ((((w15.drewN n_).setCell ⟨gb104, 0, none⟩ (.int .i64 ((rd_T46 l0_0 x18_1).f0))).setCell ⟨gb104, 1, none⟩ (.string ((rd_T46 l0_0 x18_1).f1)))).cell? _ = some _ from hx106_1))
            clear hn106_0
            clear hn106_1
            replace p106 := eq_true p106
            replace q106 := eq_true q106
            go_wp2
            repeat (go_quiet (fail); try go_wp2)
            go_meet
            case rel => exact ⟨_, (decide (((rd_T46 l0_0 x18_1).f0) ≤ ((rd_T46 l0_0 (ji20)).f0))), (by first | rfl | (simp; done) | (simp only [← hji20] <;> (first | rfl | simp)) | (simp [*]; done)), H', ⟨by have := HK1.out; first | omega | exact Nat.le_refl _⟩, ⟨by (with_reducible repeat (first | refine blk_drewN ?_ _ | refine blk_drew ?_ | refine blk_alloc ?_ _)); refine blk_far ?_ NB101_104.out _; (with_reducible repeat (first | refine blk_drewN ?_ _ | refine blk_drew ?_ | refine blk_alloc ?_ _)); refine blk_far ?_ NB101_104.out _; (with_reducible repeat (first | refine blk_drewN ?_ _ | refine blk_drew ?_ | refine blk_alloc ?_ _)); exact BK101.out⟩, ⟨bq_ BK104⟩, ⟨pb_ HB⟩⟩
           rw [if_neg c22] at H
           exact absurd H (by simp)
          rw [if_neg c21] at H
          exact absurd H (by simp)
         rw [if_neg c19] at H
         have c19b0 : decide (0 < x18_1) = false := decide_eq_false c19
         clear c19
         (first | rw [c19b0] | (simp only [i64_w, i32_w]; rw [c19b0]) | skip)
         have H' := Aside0.mk H
         clear H
         go_wp2
         repeat (go_quiet (fail); try go_wp2)
         go_meet
         case rel => exact ⟨_, (false), rl_, H', ⟨by have := HK1.out; first | omega | exact Nat.le_refl _⟩, ⟨by (with_reducible repeat (first | refine blk_drewN ?_ _ | refine blk_drew ?_ | refine blk_alloc ?_ _)); refine blk_far ?_ NB101_104.out _; (with_reducible repeat (first | refine blk_drewN ?_ _ | refine blk_drew ?_ | refine blk_alloc ?_ _)); refine blk_far ?_ NB101_104.out _; (with_reducible repeat (first | refine blk_drewN ?_ _ | refine blk_drew ?_ | refine blk_alloc ?_ _)); exact BK101.out⟩, ⟨bq_ BK104⟩, ⟨pb_ HB⟩⟩
        case rest =>
         clear HC14
         try clear c1
         try clear p1
         try clear q1
         try clear hx1
         try clear c2
         try clear c2b0
         try clear c2b1
         try clear p2
         try clear c6
         try clear p6
         try clear c9
         try clear c9b0
         try clear c10
         try clear c10b0
         try clear p10
         try clear q10
         try clear hx10
         try clear c11
         try clear c11b0
         try clear c13
         try clear c16
         try clear c19
         try clear c19b0
         try clear c21
         try clear c21b0
         try clear c22
         try clear c22b0
         try clear c23
         try clear hcz17_0
         try clear hcz17_1
         try clear hcz18_0
         try clear hcz18_1
         try clear hcz24_0
         try clear hcz24_1
         try clear hcz25_0
         try clear hcz25_1
         try clear hcz4_0
         try clear hcz4_1
         try clear hcz8_0
         try clear hcz8_1
         try clear hfz17_0
         try clear hfz17_1
         try clear hfz18_0
         try clear hfz18_1
         try clear hfz24_0
         try clear hfz24_1
         try clear hfz25_0
         try clear hfz25_1
         try clear hfz4_0
         try clear hfz4_1
         try clear hfz8_0
         try clear hfz8_1
         try clear hx103_0
         try clear hx103_1
         try clear hx106_0
         try clear hx106_1
         try clear p103
         try clear p106
         try clear p2
         try clear q103
         try clear q106
         obtain ⟨kq, x35_13, rfl, HA, HJ13, BK101, BK104, HB⟩ := hcut
         cases kq with
         | zero => exact absurd HA.out (by simp [segment_CheckStore.j1])
         | succ kj13 =>
          have H := HA.out
          clear HA
          simp only [segment_CheckStore.j1] at H
          by_cases c26 : x35_13 = true
          ·
           subst c26
           have H1 : (some (x18_1, 14)) = some (r1, r2) := by rw [if_pos rfl] at H; exact H
           clear H
           have H := H1
           clear H1
           simp only [Option.some.injEq, Prod.mk.injEq] at H
           obtain ⟨rfl, rfl⟩ := H
           go_wp2
           repeat (go_quiet (fail); try go_wp2)
           go_ret2
           exact ⟨er_, pb_ HB⟩
          replace c26 := Bool.eq_false_iff.mpr c26
          subst c26
          have H1 : (if ((((rd_T46 l0_0 x18_1).f1).size : Int) % 32) = 0 then ((segment_within.f (wrap64 ((((rd_T46 l0_0 x18_1).f1).size : Int) / 32)) 1 8).bind fun t107 => (if t107 = true then (segment_CheckStore.l0 kj13 l0_0 (l0_0.length : Int) (wrap64 (x18_1 + 1)) l0_0 a0_1) else (some (x18_1, 18)))) else (some (x18_1, 18))) = some (r1, r2) := by rw [if_neg (show ¬ (false = true) by decide)] at H; exact H
          clear H
          have H := H1
          clear H1
          by_cases c27 : ((((rd_T46 l0_0 x18_1).f1).size : Int) % 32) = 0
          ·
           rw [if_pos c27] at H
           have c27b0 : (((((rd_T46 l0_0 x18_1).f1).size : Int) % 32) == 0) = true := beq_iff_eq.mpr c27
           have c27b1 : (((((rd_T46 l0_0 x18_1).f1).size : Int) % 32) != 0) = false := bne_eq_false_iff_eq.mpr c27
           clear c27
           replace H := Option.bind_eq_some_iff.mp H
           obtain ⟨t107, A280, H⟩ := H
           replace H : (if t107 = true then (segment_CheckStore.l0 kj13 l0_0 (l0_0.length : Int) (wrap64 (x18_1 + 1)) l0_0 a0_1) else (some (x18_1, 18))) = some (r1, r2) := H
           have A28 := Aside0.mk A280
           clear A280
           by_cases c29 : t107 = true
           ·
            subst c29
            have H1 : (segment_CheckStore.l0 kj13 l0_0 (l0_0.length : Int) (wrap64 (x18_1 + 1)) l0_0 a0_1) = some (r1, r2) := by rw [if_pos rfl] at H; exact H
            clear H
            have H := H1
            clear H1
            have H' := Aside0.mk H
            clear H
            go_wp2_with (first | (go_at_call 25; (with_reducible refine (segment_within.calls (wrap64 ((((rd_T46 l0_0 x18_1).f1).size : Int) / 32)) 1 8 true _ A28.out).mono ?_); rintro e w' ⟨rfl, ⟨nd, rfl⟩⟩; (try first | exact ⟨rfl, _, World.drewN_drewN _ _ _⟩ | exact ⟨rfl, _, Eq.trans (World.drewN_drewN _ _ _) (congrArg (World.drewN _) (Nat.add_assoc _ _ _))⟩)))
            repeat (go_quiet (first | (go_at_call 25; (with_reducible refine (segment_within.calls (wrap64 ((((rd_T46 l0_0 x18_1).f1).size : Int) / 32)) 1 8 true _ A28.out).mono ?_); rintro e w' ⟨rfl, ⟨nd, rfl⟩⟩; (try first | exact ⟨rfl, _, World.drewN_drewN _ _ _⟩ | exact ⟨rfl, _, Eq.trans (World.drewN_drewN _ _ _) (congrArg (World.drewN _) (Nat.add_assoc _ _ _))⟩))); try go_wp2_with (first | (go_at_call 25; (with_reducible refine (segment_within.calls (wrap64 ((((rd_T46 l0_0 x18_1).f1).size : Int) / 32)) 1 8 true _ A28.out).mono ?_); rintro e w' ⟨rfl, ⟨nd, rfl⟩⟩; (try first | exact ⟨rfl, _, World.drewN_drewN _ _ _⟩ | exact ⟨rfl, _, Eq.trans (World.drewN_drewN _ _ _) (congrArg (World.drewN _) (Nat.add_assoc _ _ _))⟩))))
            go_roundg kj13
            case measure => have := HK1.out; have := HJ13.out; omega
            case rel => exact ⟨(wrap64 (x18_1 + 1)), rl_, H', ⟨by have := HK1.out; have := HJ13.out; omega⟩, ⟨pk_ BK101⟩, ⟨pb_ HB⟩⟩
           replace c29 := Bool.eq_false_iff.mpr c29
           subst c29
           have H1 : (some (x18_1, 18)) = some (r1, r2) := by rw [if_neg (show ¬ (false = true) by decide)] at H; exact H
           clear H
           have H := H1
           clear H1
           simp only [Option.some.injEq, Prod.mk.injEq] at H
           obtain ⟨rfl, rfl⟩ := H
           go_wp2_with (first | (go_at_call 25; (with_reducible refine (segment_within.calls (wrap64 ((((rd_T46 l0_0 x18_1).f1).size : Int) / 32)) 1 8 false _ A28.out).mono ?_); rintro e w' ⟨rfl, ⟨nd, rfl⟩⟩; (try first | exact ⟨rfl, _, World.drewN_drewN _ _ _⟩ | exact ⟨rfl, _, Eq.trans (World.drewN_drewN _ _ _) (congrArg (World.drewN _) (Nat.add_assoc _ _ _))⟩)))
           repeat (go_quiet (first | (go_at_call 25; (with_reducible refine (segment_within.calls (wrap64 ((((rd_T46 l0_0 x18_1).f1).size : Int) / 32)) 1 8 false _ A28.out).mono ?_); rintro e w' ⟨rfl, ⟨nd, rfl⟩⟩; (try first | exact ⟨rfl, _, World.drewN_drewN _ _ _⟩ | exact ⟨rfl, _, Eq.trans (World.drewN_drewN _ _ _) (congrArg (World.drewN _) (Nat.add_assoc _ _ _))⟩))); try go_wp2_with (first | (go_at_call 25; (with_reducible refine (segment_within.calls (wrap64 ((((rd_T46 l0_0 x18_1).f1).size : Int) / 32)) 1 8 false _ A28.out).mono ?_); rintro e w' ⟨rfl, ⟨nd, rfl⟩⟩; (try first | exact ⟨rfl, _, World.drewN_drewN _ _ _⟩ | exact ⟨rfl, _, Eq.trans (World.drewN_drewN _ _ _) (congrArg (World.drewN _) (Nat.add_assoc _ _ _))⟩))))
           go_ret2
           exact ⟨er_, pb_ HB⟩
          rw [if_neg c27] at H
          have c27b0 : (((((rd_T46 l0_0 x18_1).f1).size : Int) % 32) == 0) = false := beq_eq_false_iff_ne.mpr c27
          have c27b1 : (((((rd_T46 l0_0 x18_1).f1).size : Int) % 32) != 0) = true := bne_iff_ne.mpr c27
          simp only [Option.some.injEq, Prod.mk.injEq] at H
          obtain ⟨rfl, rfl⟩ := H
          go_wp2
          repeat (go_quiet (fail); try go_wp2)
          go_ret2
          exact ⟨er_, pb_ HB⟩
       replace c13 := Bool.eq_false_iff.mpr c13
       subst c13
       have H1 : (some (x18_1, 3)) = some (r1, r2) := by rw [if_neg (show ¬ (false = true) by decide)] at H; exact H
       clear H
       have H := H1
       clear H1
       simp only [Option.some.injEq, Prod.mk.injEq] at H
       obtain ⟨rfl, rfl⟩ := H
       have p103 : 0 ≤ (x18_1 : Int) := ct_
       have q103 : x18_1 < (l0_0.length : Int) := ct_
       obtain ⟨ad103, e103, hx103_0, hx103_1⟩ := at_T46 HR0_0.out x18_1 p103 q103
       cases e103
       replace hx103_0 := pw_cell_below HB.out hx103_0
       replace hx103_1 := pw_cell_below HB.out hx103_1
       replace p103 := eq_true p103
       replace q103 := eq_true q103
       go_wp2_with (first | ((with_reducible refine gate_dst (N := 5) rfl ?_); refine bx_ 5 #[.int .i64 0, .string (⟨#[]⟩ : ByteArray)] 46 ?_; intro gb104 hg w30 hbox hb; have BK104 := Aside0.mk (hbox); have GW104 := gw_ hg HB; have GE104 := gw_ hg HB; replace HB := sb_ HB hb; have NB101_104 := nl_ hg BK101; have NB104_101 := ng_ hg BK101; replace BK101 := kb_ BK101 hb; clear hb hbox hg; have hnb31 := NB104_101.out; have hnc31 := NB101_104.out; have hcz32_0 := cz_ BK104 0 (.int .i64 0); have hcz32_1 := cz_ BK104 1 (.string (⟨#[]⟩ : ByteArray)); have hfz32_0 := blk_frozen BK104.out 0; have hfz32_1 := blk_frozen BK104.out 1; have hcz33_0 := cz_ BK101 0 (.slice (some ad103) l0_0.length c0_0); have hcz33_1 := cz_ BK101 1 (.int .i64 a0_1); have hfz33_0 := blk_frozen BK101.out 0; have hfz33_1 := blk_frozen BK101.out 1) | (go_at_call 25; (with_reducible refine (segment_within.calls ((rd_T46 l0_0 x18_1).f0) 1 (wrap64 (a0_1 - 1)) false _ A12.out).mono ?_); rintro e w' ⟨rfl, ⟨nd, rfl⟩⟩; (try first | exact ⟨rfl, _, World.drewN_drewN _ _ _⟩ | exact ⟨rfl, _, Eq.trans (World.drewN_drewN _ _ _) (congrArg (World.drewN _) (Nat.add_assoc _ _ _))⟩)))
       repeat (go_quiet (first | ((with_reducible refine gate_dst (N := 5) rfl ?_); refine bx_ 5 #[.int .i64 0, .string (⟨#[]⟩ : ByteArray)] 46 ?_; intro gb104 hg w30 hbox hb; have BK104 := Aside0.mk (hbox); have GW104 := gw_ hg HB; have GE104 := gw_ hg HB; replace HB := sb_ HB hb; have NB101_104 := nl_ hg BK101; have NB104_101 := ng_ hg BK101; replace BK101 := kb_ BK101 hb; clear hb hbox hg; have hnb31 := NB104_101.out; have hnc31 := NB101_104.out; have hcz32_0 := cz_ BK104 0 (.int .i64 0); have hcz32_1 := cz_ BK104 1 (.string (⟨#[]⟩ : ByteArray)); have hfz32_0 := blk_frozen BK104.out 0; have hfz32_1 := blk_frozen BK104.out 1; have hcz33_0 := cz_ BK101 0 (.slice (some ad103) l0_0.length c0_0); have hcz33_1 := cz_ BK101 1 (.int .i64 a0_1); have hfz33_0 := blk_frozen BK101.out 0; have hfz33_1 := blk_frozen BK101.out 1) | (go_at_call 25; (with_reducible refine (segment_within.calls ((rd_T46 l0_0 x18_1).f0) 1 (wrap64 (a0_1 - 1)) false _ A12.out).mono ?_); rintro e w' ⟨rfl, ⟨nd, rfl⟩⟩; (try first | exact ⟨rfl, _, World.drewN_drewN _ _ _⟩ | exact ⟨rfl, _, Eq.trans (World.drewN_drewN _ _ _) (congrArg (World.drewN _) (Nat.add_assoc _ _ _))⟩))); try go_wp2_with (first | ((with_reducible refine gate_dst (N := 5) rfl ?_); refine bx_ 5 #[.int .i64 0, .string (⟨#[]⟩ : ByteArray)] 46 ?_; intro gb104 hg w30 hbox hb; have BK104 := Aside0.mk (hbox); have GW104 := gw_ hg HB; have GE104 := gw_ hg HB; replace HB := sb_ HB hb; have NB101_104 := nl_ hg BK101; have NB104_101 := ng_ hg BK101; replace BK101 := kb_ BK101 hb; clear hb hbox hg; have hnb31 := NB104_101.out; have hnc31 := NB101_104.out; have hcz32_0 := cz_ BK104 0 (.int .i64 0); have hcz32_1 := cz_ BK104 1 (.string (⟨#[]⟩ : ByteArray)); have hfz32_0 := blk_frozen BK104.out 0; have hfz32_1 := blk_frozen BK104.out 1; have hcz33_0 := cz_ BK101 0 (.slice (some ad103) l0_0.length c0_0); have hcz33_1 := cz_ BK101 1 (.int .i64 a0_1); have hfz33_0 := blk_frozen BK101.out 0; have hfz33_1 := blk_frozen BK101.out 1) | (go_at_call 25; (with_reducible refine (segment_within.calls ((rd_T46 l0_0 x18_1).f0) 1 (wrap64 (a0_1 - 1)) false _ A12.out).mono ?_); rintro e w' ⟨rfl, ⟨nd, rfl⟩⟩; (try first | exact ⟨rfl, _, World.drewN_drewN _ _ _⟩ | exact ⟨rfl, _, Eq.trans (World.drewN_drewN _ _ _) (congrArg (World.drewN _) (Nat.add_assoc _ _ _))⟩))))
       go_ret2
       exact ⟨er_, pb_ HB⟩
      rw [if_neg c11] at H
      exact absurd H (by simp)
     rw [if_neg c10] at H
     exact absurd H (by simp)
    rw [if_neg c9] at H
    have c9b0 : decide (x18_1 < (l0_0.length : Int)) = false := decide_eq_false c9
    clear c9
    simp only [Option.some.injEq, Prod.mk.injEq] at H
    obtain ⟨rfl, rfl⟩ := H
    go_wp2
    repeat (go_quiet (fail); try go_wp2)
    go_ret2
    exact ⟨er_, pb_ HB⟩
 replace c6 := Bool.eq_false_iff.mpr c6
 subst c6
 have H1 : (some (0, 3)) = some (r1, r2) := by rw [if_neg (show ¬ (false = true) by decide)] at H; exact H
 clear H
 have H := H1
 clear H1
 simp only [Option.some.injEq, Prod.mk.injEq] at H
 obtain ⟨rfl, rfl⟩ := H
 go_enter Tryd.func22, Tryd.ntmps22
 go_wp2_with (first | ((with_reducible refine gate_dst (N := 1) rfl ?_); refine bx_ 1 #[.slice A0_0 l0_0.length c0_0, .int .i64 a0_1] 24 ?_; intro gb101 hg w34 hbox hb; have BK101 := Aside0.mk (hbox); have GW101 := gw_ hg HB; have GE101 := gw_ hg HB; replace HB := sb_ HB hb; clear hb hbox hg; have hcz35_0 := cz_ BK101 0 (.slice A0_0 l0_0.length c0_0); have hcz35_1 := cz_ BK101 1 (.int .i64 a0_1); have hfz35_0 := blk_frozen BK101.out 0; have hfz35_1 := blk_frozen BK101.out 1) | (go_at_call 25; (with_reducible refine (segment_within.calls a0_1 1 1001 false _ A5.out).mono ?_); rintro e w' ⟨rfl, ⟨nd, rfl⟩⟩; (try first | exact ⟨rfl, _, World.drewN_drewN _ _ _⟩ | exact ⟨rfl, _, Eq.trans (World.drewN_drewN _ _ _) (congrArg (World.drewN _) (Nat.add_assoc _ _ _))⟩)))
 repeat (go_quiet (first | ((with_reducible refine gate_dst (N := 1) rfl ?_); refine bx_ 1 #[.slice A0_0 l0_0.length c0_0, .int .i64 a0_1] 24 ?_; intro gb101 hg w34 hbox hb; have BK101 := Aside0.mk (hbox); have GW101 := gw_ hg HB; have GE101 := gw_ hg HB; replace HB := sb_ HB hb; clear hb hbox hg; have hcz35_0 := cz_ BK101 0 (.slice A0_0 l0_0.length c0_0); have hcz35_1 := cz_ BK101 1 (.int .i64 a0_1); have hfz35_0 := blk_frozen BK101.out 0; have hfz35_1 := blk_frozen BK101.out 1) | (go_at_call 25; (with_reducible refine (segment_within.calls a0_1 1 1001 false _ A5.out).mono ?_); rintro e w' ⟨rfl, ⟨nd, rfl⟩⟩; (try first | exact ⟨rfl, _, World.drewN_drewN _ _ _⟩ | exact ⟨rfl, _, Eq.trans (World.drewN_drewN _ _ _) (congrArg (World.drewN _) (Nat.add_assoc _ _ _))⟩))); try go_wp2_with (first | ((with_reducible refine gate_dst (N := 1) rfl ?_); refine bx_ 1 #[.slice A0_0 l0_0.length c0_0, .int .i64 a0_1] 24 ?_; intro gb101 hg w34 hbox hb; have BK101 := Aside0.mk (hbox); have GW101 := gw_ hg HB; have GE101 := gw_ hg HB; replace HB := sb_ HB hb; clear hb hbox hg; have hcz35_0 := cz_ BK101 0 (.slice A0_0 l0_0.length c0_0); have hcz35_1 := cz_ BK101 1 (.int .i64 a0_1); have hfz35_0 := blk_frozen BK101.out 0; have hfz35_1 := blk_frozen BK101.out 1) | (go_at_call 25; (with_reducible refine (segment_within.calls a0_1 1 1001 false _ A5.out).mono ?_); rintro e w' ⟨rfl, ⟨nd, rfl⟩⟩; (try first | exact ⟨rfl, _, World.drewN_drewN _ _ _⟩ | exact ⟨rfl, _, Eq.trans (World.drewN_drewN _ _ _) (congrArg (World.drewN _) (Nat.add_assoc _ _ _))⟩))))
 go_ret2
 exact ⟨er_, pb_ HB⟩
def api_Segment_23.f (l0 : List (S46)) : Option (List (S46)) := if l0.length < 5864062014805 then some l0 else none
set_option maxHeartbeats 8000000 in
set_option maxRecDepth 100000 in
theorem api_Segment_23.calls (A0 : Option Addr) (c0 : Nat) (l0 : List (S46)) (r : List (S46)) (w : World) (hr0 : Kd.C k46 w A0 l0.length l0) (hc0 : l0.length ≤ c0) (h : api_Segment_23.f l0 = some r) :
  Calls Tryd.prog 23 #[.slice A0 l0.length c0] w fun e w' => ∃ v0_ : Value, e = .returned (v0_) ∧ Kd.R k46 46 w' w.heap.size (fun _ => True) v0_ r ∧ Below w.heap.size w w' := by
 have q22 : ∀ (w : World) (a : Option Addr) (n c n' c' : Nat), (binOp .eql 22 (.slice a n c) (.slice none n' c')).run Tryd.prog w = .ok (.bool a.isNone) w := fun w a n c n' c' => Lib.run_eql_slice_nil w _ _ a n c n' c' Tryd.underlying22
 unfold api_Segment_23.f at h
 by_cases c1 : l0.length < 5864062014805
 case neg => rw [if_neg c1] at h; exact absurd h (by simp)
 rw [if_pos c1] at h
 obtain rfl := Option.some.inj h
 clear h
 have HR := Aside0.mk hr0
 have LM := Aside0.mk c1
 clear hr0 c1 hc0
 cases A0 with
 | none =>
  have hl : l0 = [] := by
   by_cases hp : 0 < l0.length
   ·
    obtain ⟨_, hb, _⟩ := HR.out.2.2 hp
    cases hb
   exact List.length_eq_zero_iff.mp (by omega)
  subst hl
  go_enter Tryd.func23, Tryd.ntmps23
  go_wp2
  go_ret
  exact ⟨_, rfl, Kd.R_nil _ _ _ _ _, Below.refl _ _⟩
 | some a0 =>
  have HB := Aside0.mk (Below.refl w.heap.size w)
  go_enter Tryd.func23, Tryd.ntmps23
  go_wp2_with (at_builtin; refine Kd.R_append_rows k46 (w0 := w) w.heap.size rfl (.tmp 5) (.tmp 6) 22 46 (.agg #[(.int .i64 0), (.string ⟨#[]⟩)]) 24 rfl Tryd.underlying22 info46 rfl (by decide) (by omega) _ [] l0 _ _ _ (fun _ => True) (fun _ => False) rfl rfl ?aO ?aR (fun _ _ h => h) (fun _ h => h.elim) ?aF ?aB ?aS ?aL ?_)
  case aO => exact ⟨fun _ _ => trivial, [], World.ownsRow_made w #[] 0 (Nat.le_refl _) (Nat.zero_le _) rfl, Reps.none _ _⟩
  case aR => exact Kd.C_below HR.out (below_alloc (Below.refl _ _) _)
  case aF => exact fun _ _ => trivial
  case aB => exact below_alloc (Below.refl _ _) _
  case aS => exact below_size (below_alloc (Below.refl _ _) _)
  case aL => have := LM.out; simp only [List.length_nil]; omega
  intro v1 w1 ho hb hg hat
  have HO := Aside0.mk ho
  have HB1 := Aside0.mk hb
  clear ho hb hg hat
  go_wp2
  go_ret
  exact ⟨_, rfl, HO.out, HB1.out⟩
def strings_Repeat.f (a0 : ByteArray) (a1 : Int) : Option ByteArray := if 0 ≤ a1 then (if a1 ≤ 9223372036854775807 then (if a0.size * a1.toNat ≤ 140737488355328 then (some ⟨(Lib.repeatL a0.data.toList a1.toNat).toArray⟩) else (none)) else (none)) else (none)
theorem strings_Repeat.calls (a0 : ByteArray) (a1 : Int) (r : ByteArray) (w : World) (h : strings_Repeat.f a0 a1 = some r) :
  Calls Tryd.prog 45 #[.string a0, .int .i64 a1] w fun e w' => e = .returned (.string r) ∧ Below w.heap.size w w' := by
 unfold strings_Repeat.f at h
 by_cases c1 : 0 ≤ a1
 case neg => rw [if_neg c1] at h; exact absurd h (by simp)
 rw [if_pos c1] at h
 by_cases c2 : a1 ≤ 9223372036854775807
 case neg => rw [if_neg c2] at h; exact absurd h (by simp)
 rw [if_pos c2] at h
 by_cases c3 : a0.size * a1.toNat ≤ 140737488355328
 case neg => rw [if_neg c3] at h; exact absurd h (by simp)
 rw [if_pos c3] at h
 obtain rfl := Option.some.inj h
 have H := Tryd.strings_Repeat a0 a1.toNat w (by omega) c3
 rw [Int.toNat_of_nonneg c1] at H
 exact H

def segment_pages.f (a0 : Int) : Option (ByteArray) := (strings_Repeat.f (⟨#[0]⟩ : ByteArray) (wrap64 (a0 * 32))).bind fun t111 => (some t111)
set_option maxHeartbeats 8000000 in
set_option maxRecDepth 100000 in
theorem segment_pages.calls (a0 : Int) (r : ByteArray) (w : World) (h : segment_pages.f a0 = some r) :
  Calls Tryd.prog 26 #[.int .i64 a0] w fun e w' => e = .returned (.string r) ∧ Below w.heap.size w w' := by
 have HB := Aside0.mk (Below.refl w.heap.size w)
 have H : ((strings_Repeat.f (⟨#[0]⟩ : ByteArray) (wrap64 (a0 * 32))).bind fun t111 => (some t111)) = some r := h
 clear h
 replace H := Option.bind_eq_some_iff.mp H
 obtain ⟨t111, A20, H⟩ := H
 replace H : (some t111) = some r := H
 have A2 := Aside0.mk A20
 clear A20
 obtain rfl := Option.some.inj H
 go_enter Tryd.func26, Tryd.ntmps26
 go_wp2_with (first | ((with_reducible refine gate_callee (f := 45) rfl ?_); refine gl_ 5 Tryd.func45 #[.string (⟨#[0]⟩ : ByteArray), .int .i64 (wrap64 (a0 * 32))] ?_; (with_reducible refine (strings_Repeat.calls (⟨#[0]⟩ : ByteArray) (wrap64 (a0 * 32)) t111 _ A2.out).mono ?_); rintro e w3 ⟨rfl, hb⟩; refine ⟨_, rfl, ?_⟩; replace HB := sb_ HB hb; (try clear hb); (try clear hb2); (try clear hk); (try clear hi)))
 go_ret
 exact ⟨er_, pb_ HB⟩
def segment_Created.j0 : Nat → Int → Bool → List (S46) → Int → Option ((List (S46)) × Int × Int × Int)
  | 0, _, _, _, _ => none
  | k + 1, x1, x25, x113000, x113001 => if x25 = true then (some (([] : List (S46)), 0, 0, 30)) else ((api_Segment_23.f x113000).bind fun t117 => ((segment_pages.f x1).bind fun t120 => (if t117.length < 5864062014805 then (some ((t117 ++ [(⟨x113001, t120⟩ : S46)]), wrap64 (x113001 + 1), x113001, 0)) else (none))))
def segment_Created.f (k : Nat) (l0_0 : List (S46)) (a0_1 : Int) (a1 : Int) : Option ((List (S46)) × Int × Int × Int) := (segment_CheckStore.f k l0_0 a0_1).bind fun bt114 => (if bt114.2 = 0 then ((segment_within.f a1 1 8).bind fun t116 => (if t116 = true then (if (l0_0.length : Int) = 10 then (segment_Created.j0 k a1 ((l0_0.length : Int) == 10) l0_0 a0_1) else (segment_Created.j0 k a1 (decide (a0_1 > 1000)) l0_0 a0_1)) else (some (([] : List (S46)), 0, 0, 3)))) else (some (([] : List (S46)), 0, 0, bt114.2)))
theorem segment_Created.mono_l : ∀ k, (∀ y0 y1 y2 y3, LeO (segment_Created.j0 k y0 y1 y2 y3) (segment_Created.j0 (k + 1) y0 y1 y2 y3))
 | 0 => fun _ _ _ _ r h => by simp [segment_Created.j0] at h
 | k + 1 => by
  have ih0 := segment_Created.mono_l k
  intro y0 y1 y2 y3
  unfold segment_Created.j0
  repeat' first
  | (with_reducible exact ih0 _ _ _ _)
  | (with_reducible exact segment_CheckStore.mono _ _ _)
  | (with_reducible exact LeO.refl _)
  | (with_reducible exact LeO.none _)
  | (with_reducible refine LeO.ite ?_ ?_)
  | (with_reducible refine LeO.bind ?_ (fun _ => ?_))
  | exact ih0 _ _ _ _
  | exact segment_CheckStore.mono _ _ _
  | exact LeO.none _
  | refine LeO.ite ?_ ?_
  | refine LeO.bind ?_ (fun _ => ?_)
theorem segment_Created.mono : ∀ a0 a1 a2 k, LeO (segment_Created.f k a0 a1 a2) (segment_Created.f (k + 1) a0 a1 a2) := by
 intro a0 a1 a2 k
 have ih0 := segment_Created.mono_l k
 unfold segment_Created.f
 repeat' first
  | (with_reducible exact ih0 _ _ _ _)
  | (with_reducible exact segment_CheckStore.mono _ _ _)
  | (with_reducible exact LeO.refl _)
  | (with_reducible exact LeO.none _)
  | (with_reducible refine LeO.ite ?_ ?_)
  | (with_reducible refine LeO.bind ?_ (fun _ => ?_))
  | exact ih0 _ _ _ _
  | exact segment_CheckStore.mono _ _ _
  | exact LeO.none _
  | refine LeO.ite ?_ ?_
  | refine LeO.bind ?_ (fun _ => ?_)
def segment_Created.T9 : Bool × List (List Nat × List Nat) := (true, [([], []), ([0], [0]), ([1], [1]), ([], []), ([3], [3]), ([], []), ([5, 2], [5]), ([4, 6], [4, 6]), ([7], [7]), ([2, 8, 6], [2, 8]), ([9, 9, 0, 1, 2, 3, 4, 5, 6, 7, 8, 9], [9])])
def segment_Created.B9 : List Nat := [0, 1, 3, 0, 8, 0, 39, 127, 255, 511, 1023]
theorem segment_Created.tab9 : rtab .any (opsOf Tryd.f14 9) = segment_Created.T9 := by kernel_rfl
theorem segment_Created.bits9 : waitsOk segment_Created.T9.2 segment_Created.B9 = true := by kernel_rfl
def segment_Created.T10 : Bool × List (List Nat × List Nat) := (true, [([], []), ([], []), ([1], [1]), ([2], [2]), ([0, 3], [0, 3]), ([], []), ([5], [5]), ([4, 0, 1, 2, 3, 4], [4]), ([6, 7, 0, 1, 2, 3, 4, 5, 6, 7], [6]), ([8, 0, 1, 2, 3, 4, 5, 6, 7, 8], [])])
def segment_Created.B10 : List Nat := [0, 0, 2, 6, 15, 0, 32, 31, 255, 511]
theorem segment_Created.tab10 : rtab .any (opsOf Tryd.f14 10) = segment_Created.T10 := by kernel_rfl
theorem segment_Created.bits10 : waitsOk segment_Created.T10.2 segment_Created.B10 = true := by kernel_rfl
set_option maxHeartbeats 8000000 in
set_option maxRecDepth 100000 in
theorem segment_Created.calls (k : Nat) (A0_0 : Option Addr) (c0_0 : Nat) (l0_0 : List (S46)) (a0_1 : Int) (a1 : Int) (r1 : List (S46)) (r2 : Int) (r3 : Int) (r4 : Int) (w : World) (hr0_0 : Kd.C k46 w A0_0 l0_0.length l0_0) (hc0_0 : l0_0.length ≤ c0_0) (h : segment_Created.f k l0_0 a0_1 a1 = some (r1, r2, r3, r4)) :
  Calls Tryd.prog 14 #[.agg #[.slice A0_0 l0_0.length c0_0, .int .i64 a0_1], .int .i64 a1] w fun e w' => ∃ v0_ : Value, e = .returned (.tuple #[.agg #[v0_, .int .i64 r2], .int .i64 r3, .int .i64 r4]) ∧ Kd.R k46 46 w' w.heap.size (fun _ => True) v0_ r1 ∧ Below w.heap.size w w' := by
 have hu24 := Tryd.underlying24
 have hu46 := Tryd.underlying46
 have HR0_0 := Aside0.mk hr0_0
 have HC0_0 := Aside0.mk hc0_0
 clear hr0_0 hc0_0
 have HB := Aside0.mk (Below.refl w.heap.size w)
 have H : ((segment_CheckStore.f k l0_0 a0_1).bind fun bt114 => (if bt114.2 = 0 then ((segment_within.f a1 1 8).bind fun t116 => (if t116 = true then (if (l0_0.length : Int) = 10 then (segment_Created.j0 k a1 ((l0_0.length : Int) == 10) l0_0 a0_1) else (segment_Created.j0 k a1 (decide (a0_1 > 1000)) l0_0 a0_1)) else (some (([] : List (S46)), 0, 0, 3)))) else (some (([] : List (S46)), 0, 0, bt114.2)))) = some (r1, r2, r3, r4) := h
 clear h
 replace H := Option.bind_eq_some_iff.mp H
 obtain ⟨⟨t114, t115⟩, A30, H⟩ := H
 replace H : (if t115 = 0 then ((segment_within.f a1 1 8).bind fun t116 => (if t116 = true then (if (l0_0.length : Int) = 10 then (segment_Created.j0 k a1 ((l0_0.length : Int) == 10) l0_0 a0_1) else (segment_Created.j0 k a1 (decide (a0_1 > 1000)) l0_0 a0_1)) else (some (([] : List (S46)), 0, 0, 3)))) else (some (([] : List (S46)), 0, 0, t115))) = some (r1, r2, r3, r4) := H
 have A3 := Aside0.mk A30
 clear A30
 by_cases c4 : t115 = 0
 ·
  rw [if_pos c4] at H
  have c4b0 : (t115 == 0) = true := beq_iff_eq.mpr c4
  have c4b1 : (t115 != 0) = false := bne_eq_false_iff_eq.mpr c4
  clear c4
  replace H := Option.bind_eq_some_iff.mp H
  obtain ⟨t116, A50, H⟩ := H
  replace H : (if t116 = true then (if (l0_0.length : Int) = 10 then (segment_Created.j0 k a1 ((l0_0.length : Int) == 10) l0_0 a0_1) else (segment_Created.j0 k a1 (decide (a0_1 > 1000)) l0_0 a0_1)) else (some (([] : List (S46)), 0, 0, 3))) = some (r1, r2, r3, r4) := H
  have A5 := Aside0.mk A50
  clear A50
  by_cases c6 : t116 = true
  ·
   subst c6
   have H1 : (if (l0_0.length : Int) = 10 then (segment_Created.j0 k a1 ((l0_0.length : Int) == 10) l0_0 a0_1) else (segment_Created.j0 k a1 (decide (a0_1 > 1000)) l0_0 a0_1)) = some (r1, r2, r3, r4) := by rw [if_pos rfl] at H; exact H
   clear H
   have H := H1
   clear H1
   have HC7 := Aside0.mk H
   clear H
   go_enter Tryd.func14, Tryd.ntmps14
   go_upto_if 25 with (first | ((with_reducible refine gate_dst (N := 2) rfl ?_); refine bx_ 2 #[.slice A0_0 l0_0.length c0_0, .int .i64 a0_1] 24 ?_; intro gb112 hg w8 hbox hb; have BK112 := Aside0.mk (hbox); have GW112 := gw_ hg HB; have GE112 := gw_ hg HB; replace HB := sb_ HB hb; clear hb hbox hg) | ((with_reducible refine gate_dst (N := 4) rfl ?_); refine bx_ 4 #[.slice none 0 0, .int .i64 0] 24 ?_; intro gb113 hg w9 hbox hb; have BK113 := Aside0.mk (hbox); have GW113 := gw_ hg HB; have GE113 := gw_ hg HB; replace HB := sb_ HB hb; have NB112_113 := nl_ hg BK112; have NB113_112 := ng_ hg BK112; replace BK112 := kb_ BK112 hb; clear hb hbox hg; have hnb10 := NB112_113.out; have hnc10 := NB113_112.out; have hcz11_0 := cz_ BK112 0 (.slice A0_0 l0_0.length c0_0); have hcz11_1 := cz_ BK112 1 (.int .i64 a0_1); have hfz11_0 := blk_frozen BK112.out 0; have hfz11_1 := blk_frozen BK112.out 1) | ((with_reducible refine gate_callee (f := 22) rfl ?_); refine gl_ 12 Tryd.func22 #[.agg #[.slice A0_0 l0_0.length c0_0, .int .i64 a0_1]] ?_; (with_reducible refine (segment_CheckStore.calls k _ _ l0_0 a0_1 t114 t115 _ ?side1 ?side2 A3.out).mono ?_); (case side1 => exact pc_ (Kd.C_below HR0_0.out HB.out)); (case side2 => exact HC0_0.out); rintro e w12 ⟨rfl, hb⟩; refine ⟨_, rfl, ?_⟩; replace BK112 := kb_ BK112 hb; replace BK113 := kb_ BK113 hb; replace HB := sb_ HB hb; (try clear hb); (try clear hb2); (try clear hk); (try clear hi)) | ((with_reducible refine gate_callee (f := 25) rfl ?_); refine gl_ 22 Tryd.func25 #[.int .i64 a1, .int .i64 1, .int .i64 8] ?_; (with_reducible refine (segment_within.calls a1 1 8 true _ A5.out).mono ?_); rintro e w' ⟨rfl, ⟨nd, rfl⟩⟩; refine ⟨_, rfl, ?_⟩; have hcz13_0 := cz_ BK112 0 (.slice A0_0 l0_0.length c0_0); have hcz13_1 := cz_ BK112 1 (.int .i64 a0_1); have hfz13_0 := blk_frozen BK112.out 0; have hfz13_1 := blk_frozen BK112.out 1))
   (try simp only [Act.put, List.setIfInBounds_toArray, List.set_cons_zero, List.set_cons_succ])
   go_cut [25] (fun v25 wc => ∃ (kq : Nat) (x25_6 : Bool), v25 = .bool x25_6 ∧ Aside0 (segment_Created.j0 kq a1 x25_6 l0_0 a0_1 = some (r1, r2, r3, r4)) ∧ Aside0 (kq ≤ k) ∧ Aside0 (wc.heap[gb112]? = some (.cells #[(.slice A0_0 l0_0.length c0_0), .int .i64 a0_1] 24 (0, 0))) ∧ Aside0 (wc.heap[gb113]? = some (.cells #[(.slice none 0 0), .int .i64 0] 24 (0, 0))) ∧ Aside0 (Below w.heap.size w wc))
   case first =>
    have H := HC7.out
    clear HC7
    by_cases c14 : (l0_0.length : Int) = 10
    ·
     rw [if_pos c14] at H
     have c14b0 : ((l0_0.length : Int) == 10) = true := beq_iff_eq.mpr c14
     have c14b1 : ((l0_0.length : Int) != 10) = false := bne_eq_false_iff_eq.mpr c14
     clear c14
     (first | rw [c14b0] | (simp only [i64_w, i32_w]; rw [c14b0]) | skip)
     have H' := Aside0.mk H
     clear H
     go_wp2
     go_meet
     case rel => exact ⟨_, (((l0_0.length : Int) == 10)), rl_, H', ⟨by first | omega | exact Nat.le_refl _⟩, ⟨pk_ BK112⟩, ⟨pk_ BK113⟩, ⟨pb_ HB⟩⟩
    rw [if_neg c14] at H
    have c14b0 : ((l0_0.length : Int) == 10) = false := beq_eq_false_iff_ne.mpr c14
    have c14b1 : ((l0_0.length : Int) != 10) = true := bne_iff_ne.mpr c14
    (first | rw [c14b0] | (simp only [i64_w, i32_w]; rw [c14b0]) | skip)
    have H' := Aside0.mk H
    clear H
    have hnb15 := NB112_113.out
    have hnc15 := NB113_112.out
    have hcz16_0 := cz_ BK112 0 (.slice A0_0 l0_0.length c0_0)
    have hcz16_1 := cz_ BK112 1 (.int .i64 a0_1)
    have hfz16_0 := blk_frozen BK112.out 0
    have hfz16_1 := blk_frozen BK112.out 1
    go_wp2
    go_meet
    case rel => exact ⟨_, (decide (a0_1 > 1000)), rl_, H', ⟨by first | omega | exact Nat.le_refl _⟩, ⟨pk_ BK112⟩, ⟨pk_ BK113⟩, ⟨pb_ HB⟩⟩
   case rest =>
    clear HC7
    try clear c1
    try clear c2
    try clear p2
    try clear c4
    try clear c4b0
    try clear c4b1
    try clear c6
    try clear c10
    try clear c14
    try clear c14b0
    try clear c14b1
    try clear c15
    try clear hcz11_0
    try clear hcz11_1
    try clear hcz13_0
    try clear hcz13_1
    try clear hcz16_0
    try clear hcz16_1
    try clear hfz11_0
    try clear hfz11_1
    try clear hfz13_0
    try clear hfz13_1
    try clear hfz16_0
    try clear hfz16_1
    obtain ⟨kq, x25_6, rfl, HA, HJ6, BK112, BK113, HB⟩ := hcut
    cases kq with
    | zero => exact absurd HA.out (by simp [segment_Created.j0])
    | succ kj6 =>
     have H := HA.out
     clear HA
     simp only [segment_Created.j0] at H
     by_cases c17 : x25_6 = true
     ·
      subst c17
      have H1 : (some (([] : List (S46)), 0, 0, 30)) = some (r1, r2, r3, r4) := by rw [if_pos rfl] at H; exact H
      clear H
      have H := H1
      clear H1
      simp only [Option.some.injEq, Prod.mk.injEq] at H
      obtain ⟨rfl, rfl, rfl, rfl⟩ := H
      have hnb18 := NB113_112.out
      have hnc18 := NB112_113.out
      have hcz19_0 := cz_ BK113 0 (.slice none 0 0)
      have hcz19_1 := cz_ BK113 1 (.int .i64 0)
      have hfz19_0 := blk_frozen BK113.out 0
      have hfz19_1 := blk_frozen BK113.out 1
      go_wp2
      refine bodyPost_ret (results_ctt rfl _ _ gb113 24 #[.slice none 0 0, .int .i64 0] (0, 0) _ rfl (bq_ BK113) Tryd.underlying24 rfl (by kernel_rfl)) rfl ?_
      exact ⟨_, er_, by first | exact Kd.R_nil _ _ _ _ _ | exact Kd.N_nil _ _ _ _ _ | exact Kd.V_nil _ _ _ _ _ | exact Kd.Q_nil _ _ _ _ _ | exact Kd.S_nil _ _ _ _ _, pb_ HB⟩
     replace c17 := Bool.eq_false_iff.mpr c17
     subst c17
     have H1 : ((api_Segment_23.f l0_0).bind fun t117 => ((segment_pages.f a1).bind fun t120 => (if t117.length < 5864062014805 then (some ((t117 ++ [(⟨a0_1, t120⟩ : S46)]), wrap64 (a0_1 + 1), a0_1, 0)) else (none)))) = some (r1, r2, r3, r4) := by rw [if_neg (show ¬ (false = true) by decide)] at H; exact H
     clear H
     have H := H1
     clear H1
     replace H := Option.bind_eq_some_iff.mp H
     obtain ⟨t117, A200, H⟩ := H
     replace H : ((segment_pages.f a1).bind fun t120 => (if t117.length < 5864062014805 then (some ((t117 ++ [(⟨a0_1, t120⟩ : S46)]), wrap64 (a0_1 + 1), a0_1, 0)) else (none))) = some (r1, r2, r3, r4) := H
     have A20 := Aside0.mk A200
     clear A200
     replace H := Option.bind_eq_some_iff.mp H
     obtain ⟨t120, A210, H⟩ := H
     replace H : (if t117.length < 5864062014805 then (some ((t117 ++ [(⟨a0_1, t120⟩ : S46)]), wrap64 (a0_1 + 1), a0_1, 0)) else (none)) = some (r1, r2, r3, r4) := H
     have A21 := Aside0.mk A210
     clear A210
     by_cases c22 : t117.length < 5864062014805
     ·
      rw [if_pos c22] at H
      have LMc22 := Aside0.mk c22
      clear c22
      obtain ⟨y121, hy121⟩ : ∃ y_ : List (S46), y_ = (t117 ++ [(⟨a0_1, t120⟩ : S46)]) := ⟨_, rfl⟩
      replace H : (some (y121, wrap64 (a0_1 + 1), a0_1, 0)) = some (r1, r2, r3, r4) := by first | (rw [hy121]; with_reducible exact H) | (have H2_ := (Option.bind_some _ _).symm.trans H; rw [hy121]; with_reducible exact H2_) | (have H2_ := (Option.bind_some _ _).symm.trans H; with_reducible exact H2_) | with_reducible exact H | (rw [hy121]; exact H) | exact H
      have Ny121 := Aside0.mk hy121
      clear hy121
      simp only [Option.some.injEq, Prod.mk.injEq] at H
      obtain ⟨rfl, rfl, rfl, rfl⟩ := H
      try go_wp2
      replace BK112 := Aside0.mk (blk_drew BK112.out)
      replace BK113 := Aside0.mk (blk_drew BK113.out)
      replace HB := Aside0.mk (below_drew1 HB.out)
      refine start_ (n := 11) (S := fun w' => w'.cell? ⟨gb112, 0, none⟩ = some (.slice A0_0 l0_0.length c0_0) ∧ w'.cell? ⟨gb112, 1, none⟩ = some (.int .i64 a0_1)) (ds := []) #[false, false, false, false, false, false, false, false, false, false, false] (by kernel_rfl) rfl rfl ⟨cy_ BK112 0, cy_ BK112 1⟩ (fun hHeld => ?_); refine with_tabW segment_Created.tab9 segment_Created.bits9 (fun HT_ HW_ => ?_)
      generalize wc.drew = w23 at BK112 BK113 HB hHeld ⊢
      refine pu_ 0 34 HT_ ?_
      refine pu_ 3 37 HT_ ?_
      refine pu_ 5 39 HT_ ?_
      refine tk_ 1 35 HT_ HW_ hHeld rfl (Or.inl ⟨by rfl, by rintro w' ⟨s0, s1⟩; go_simp; with_reducible rfl⟩) ?_
      refine tk_ 4 38 HT_ HW_ hHeld rfl (Or.inl ⟨by rfl, by rintro w' ⟨s0, s1⟩; go_simp; with_reducible rfl⟩) ?_
      refine one_ (i := 2) (N := some 36) #[true, true, true, true, true, true, false, false, false, false, false] rfl rfl (one_of HT_.out (by kernel_rfl)) (by decide) (fun K hK => ?_)
      refine goes_ Tryd.func23 (by kernel_rfl) rfl #[.slice A0_0 l0_0.length c0_0] (by rfl) rfl rfl (by (try simp only [List.map_toArray, List.map_cons, List.map_nil]); first | done | rfl | (simp only [List.length_drop, List.length_take]; rfl)) ?_
      with_reducible refine (api_Segment_23.calls _ _ l0_0 t117 _ ?side1 ?side2 A20.out).mono ?_
      (case side1 => exact pc_ (Kd.C_below HR0_0.out HB.out))
      (case side2 => exact HC0_0.out)
      rintro e w24 ⟨v118, rfl, ho0, hb⟩
      refine ⟨_, rfl, ?_⟩
      have HO119 := Aside0.mk (Kd.R_lower ho0 (below_size (pb_ HB)))
      replace BK112 := kb_ BK112 hb
      replace BK113 := kb_ BK113 hb
      replace HB := sb_ HB hb
      (try clear hb)
      (try clear hb2)
      (try clear hk)
      (try clear hi)
      (try clear ho0)
      refine hK.out _ _ ⟨cy_ BK112 0, cy_ BK112 1⟩ (fun hHeld => ?_)
      clear hK K
      refine nn_ 36 ?_
      refine one_ (i := 6) (N := some 40) #[true, true, true, true, true, true, true, false, false, false, false] rfl rfl (one_of HT_.out (by kernel_rfl)) (by decide) (fun K hK => ?_)
      refine goes_ Tryd.func26 (by kernel_rfl) rfl #[.int .i64 a1] (by rfl) rfl rfl (by (try simp only [List.map_toArray, List.map_cons, List.map_nil]); first | done | rfl | (simp only [List.length_drop, List.length_take]; rfl)) ?_
      with_reducible refine (segment_pages.calls a1 t120 _ A21.out).mono ?_
      rintro e w25 ⟨rfl, hb⟩
      refine ⟨_, rfl, ?_⟩
      replace HO119 := Aside0.mk (Kd.R_below (rk_ HO119) hb)
      replace BK112 := kb_ BK112 hb
      replace BK113 := kb_ BK113 hb
      replace HB := sb_ HB hb
      (try clear hb)
      (try clear hb2)
      (try clear hk)
      (try clear hi)
      refine hK.out _ _ ⟨cy_ BK112 0, cy_ BK112 1⟩ (fun hHeld => ?_)
      clear hK K
      refine nn_ 40 ?_
      refine pu_ 7 41 HT_ ?_
      refine one_ (i := 8) (N := some 42) #[true, true, true, true, true, true, true, true, true, false, false] rfl rfl (one_of HT_.out (by kernel_rfl)) (by decide) (fun K hK => ?_)
      refine value_ (w1 := ?_) (v := ?_) (by rfl) rfl ?_ ?_
      rotate_left 2
      ·
       go_simp
       constructor
       · rfl
       rfl
      refine hK.out _ _ ⟨(blk_cell (blk_alloc BK112.out _) 0).trans rfl, (blk_cell (blk_alloc BK112.out _) 1).trans rfl⟩ (fun hHeld => ?_)
      clear hK K
      refine nn_ 42 ?_
      refine one_ (i := 9) (N := some 43) #[true, true, true, true, true, true, true, true, true, true, false] rfl rfl (one_of HT_.out (by kernel_rfl)) (by decide) (fun K hK => ?_)
      refine Kd.R_append_step k46 (w0 := w) w.heap.size (by rfl) (.tmp 36) (.tmp 42) 22 46 (.agg #[(.int .i64 0), (.string ⟨#[]⟩)]) 24 rfl Tryd.underlying22 info46 rfl (by decide) (by omega) v118 t117 (⟨a0_1, t120⟩ : S46) [.int .i64 a0_1, .string t120] (fun _ => True) (fun _ => False) rfl rfl ?aP (fun _ hk => hk.elim) ?aF ?aO ?aB ?aS ?aL ?_
      (case aP => exact k46_mkM _ _ _ (⟨a0_1, t120⟩ : S46))
      (case aB => exact (pb_ HB))
      (case aF => exact (fun _ _ => trivial))
      (case aO => exact (rk_ HO119))
      (case aS => exact (below_size (pb_ HB)))
      (case aL => have := LMc22.out; omega)
      intro v122 w26 ho hb hg hat
      rw [← Ny121.out] at ho
      replace BK112 := Aside0.mk (blk_grown (g := gb112) (o := .cells #[.slice A0_0 l0_0.length c0_0, .int .i64 a0_1] 24 (0, 0)) (pk_ BK112) hg (Kd.R_ne HO119.out BK112.out (by decide)))
      replace BK113 := Aside0.mk (blk_grown (g := gb113) (o := .cells #[.slice none 0 0, .int .i64 0] 24 (0, 0)) (pk_ BK113) hg (Kd.R_ne HO119.out BK113.out (by decide)))
      replace HB := Aside0.mk (hb)
      have HO123 := Aside0.mk (ho)
      clear HO119
      clear ho hb hg hat
      refine hK.out _ _ ⟨cy_ BK112 0, cy_ BK112 1⟩ (fun hHeld => ?_)
      clear hK K
      refine nn_ 43 ?_
      refine pu_ 10 9 HT_ ?_
      refine done_ (done_of HT_.out (by kernel_rfl)) ?_
      try go_wp2
      replace HO123 := rd_ HO123
      replace BK112 := Aside0.mk (blk_drew BK112.out)
      replace BK113 := Aside0.mk (blk_drew BK113.out)
      replace HB := Aside0.mk (below_drew1 HB.out)
      obtain ⟨Ao28, co28, eo28⟩ := Kd.R_slice HO123.out
      (first | subst eo28 | (injection eo28 with f1_ f2_ f3_; have f4_ := f1_.symm; have f5_ := f3_.symm; clear f1_ f2_ f3_; subst f4_; subst f5_))
      refine start_ (n := 10) (S := fun w' => w'.cell? ⟨gb112, 0, none⟩ = some (.slice A0_0 l0_0.length c0_0) ∧ w'.cell? ⟨gb112, 1, none⟩ = some (.int .i64 a0_1)) (ds := []) #[false, false, false, false, false, false, false, false, false, false] (by kernel_rfl) rfl rfl ⟨cy_ BK112 0, cy_ BK112 1⟩ (fun hHeld => ?_); refine with_tabW segment_Created.tab10 segment_Created.bits10 (fun HT_ HW_ => ?_)
      generalize w26.drew = w27 at HO123 BK112 BK113 HB hHeld ⊢
      refine pu_ 0 44 HT_ ?_
      refine pu_ 1 45 HT_ ?_
      refine pu_ 5 49 HT_ ?_
      refine tk_ 2 46 HT_ HW_ hHeld rfl (Or.inl ⟨by rfl, by rintro w' ⟨s0, s1⟩; go_simp; with_reducible rfl⟩) ?_
      refine pu_ 3 47 HT_ ?_
      refine pu_ 4 48 HT_ ?_
      refine tk_ 6 50 HT_ HW_ hHeld rfl (Or.inl ⟨by rfl, by rintro w' ⟨s0, s1⟩; go_simp; with_reducible rfl⟩) ?_
      refine one_ (i := 7) (N := none) #[true, true, true, true, true, true, true, true, false, false] rfl rfl (one_of HT_.out (by kernel_rfl)) (by decide) (fun K hK => ?_)
      have hs29 : w27.cell? ⟨gb113, 0, none⟩ = some (.slice none 0 0) := (blk_cell BK113.out 0).trans rfl
      have hfs29 := blk_frozen BK113.out 0
      have hns29_0 := NB112_113.out
      have hms29_0 := NB113_112.out
      have hs30 : w27.cell? ⟨gb113, 1, none⟩ = some (.int .i64 0) := (blk_cell BK113.out 1).trans rfl
      have hfs30 := blk_frozen BK113.out 1
      have hns30_0 := NB112_113.out
      have hms30_0 := NB113_112.out
      refine skip_ (w1 := ?_) (by rfl) rfl ?_ ?_
      rotate_left
      ·
       go_simp
       rfl
      refine hK.out _ _ ⟨((cell_far (p := ⟨gb113, _, none⟩) NB112_113.out _).trans (((cell_far (p := ⟨gb113, _, none⟩) NB112_113.out _).trans (hHeld.1)))), ((cell_far (p := ⟨gb113, _, none⟩) NB112_113.out _).trans (((cell_far (p := ⟨gb113, _, none⟩) NB112_113.out _).trans (hHeld.2))))⟩ (fun hHeld => ?_)
      clear hK K
      refine pu_ 8 5 HT_ ?_
      refine pu_ 9 6 HT_ ?_
      refine done_ (done_of HT_.out (by kernel_rfl)) ?_
      try go_wp2
      refine bodyPost_ret (results_ctt rfl _ _ gb113 24 #[.slice Ao28 y121.length co28, .int .i64 (wrap64 (a0_1 + 1))] (0, 0) _ rfl (bq_ BK113) Tryd.underlying24 rfl (by kernel_rfl)) rfl ?_
      exact ⟨_, er_, by (with_reducible repeat (first | apply Kd.R_alloc | apply Kd.R_drewN | apply Kd.R_drew)); exact Kd.R_mono (Kd.R_far (p := ⟨gb113, 1, none⟩) (Kd.R_far (p := ⟨gb113, 0, none⟩) (Kd.R_types HO123.out BK113.out (by decide)) (fun _ hk => hk.2) (.slice Ao28 y121.length co28)) (fun _ hk => hk.2) (.int .i64 (wrap64 (a0_1 + 1)))) (fun _ hk => trivial), pb_ HB⟩
     rw [if_neg c22] at H
     exact absurd H (by simp)
  replace c6 := Bool.eq_false_iff.mpr c6
  subst c6
  have H1 : (some (([] : List (S46)), 0, 0, 3)) = some (r1, r2, r3, r4) := by rw [if_neg (show ¬ (false = true) by decide)] at H; exact H
  clear H
  have H := H1
  clear H1
  simp only [Option.some.injEq, Prod.mk.injEq] at H
  obtain ⟨rfl, rfl, rfl, rfl⟩ := H
  go_enter Tryd.func14, Tryd.ntmps14
  go_wp2_with (first | ((with_reducible refine gate_dst (N := 2) rfl ?_); refine bx_ 2 #[.slice A0_0 l0_0.length c0_0, .int .i64 a0_1] 24 ?_; intro gb112 hg w31 hbox hb; have BK112 := Aside0.mk (hbox); have GW112 := gw_ hg HB; have GE112 := gw_ hg HB; replace HB := sb_ HB hb; clear hb hbox hg) | ((with_reducible refine gate_dst (N := 4) rfl ?_); refine bx_ 4 #[.slice none 0 0, .int .i64 0] 24 ?_; intro gb113 hg w32 hbox hb; have BK113 := Aside0.mk (hbox); have GW113 := gw_ hg HB; have GE113 := gw_ hg HB; replace HB := sb_ HB hb; have NB112_113 := nl_ hg BK112; have NB113_112 := ng_ hg BK112; replace BK112 := kb_ BK112 hb; clear hb hbox hg; have hnb33 := NB112_113.out; have hnc33 := NB113_112.out; have hcz34_0 := cz_ BK112 0 (.slice A0_0 l0_0.length c0_0); have hcz34_1 := cz_ BK112 1 (.int .i64 a0_1); have hfz34_0 := blk_frozen BK112.out 0; have hfz34_1 := blk_frozen BK112.out 1) | ((with_reducible refine gate_callee (f := 22) rfl ?_); refine gl_ 12 Tryd.func22 #[.agg #[.slice A0_0 l0_0.length c0_0, .int .i64 a0_1]] ?_; (with_reducible refine (segment_CheckStore.calls k _ _ l0_0 a0_1 t114 t115 _ ?side1 ?side2 A3.out).mono ?_); (case side1 => exact pc_ (Kd.C_below HR0_0.out HB.out)); (case side2 => exact HC0_0.out); rintro e w35 ⟨rfl, hb⟩; refine ⟨_, rfl, ?_⟩; replace BK112 := kb_ BK112 hb; replace BK113 := kb_ BK113 hb; replace HB := sb_ HB hb; (try clear hb); (try clear hb2); (try clear hk); (try clear hi)) | ((with_reducible refine gate_callee (f := 25) rfl ?_); refine gl_ 22 Tryd.func25 #[.int .i64 a1, .int .i64 1, .int .i64 8] ?_; (with_reducible refine (segment_within.calls a1 1 8 false _ A5.out).mono ?_); rintro e w' ⟨rfl, ⟨nd, rfl⟩⟩; refine ⟨_, rfl, ?_⟩; (try (rw [drewN_self w35]; generalize hq_ : World.drewN w35 _ = w35; have n0_ : Aside0 (w35.heap[gb112]? = some (.cells #[.slice A0_0 l0_0.length c0_0, .int .i64 a0_1] 24 (0, 0))) := ⟨by rw [← hq_]; exact (pk_ BK112)⟩; have n1_ : Aside0 (w35.heap[gb113]? = some (.cells #[.slice none 0 0, .int .i64 0] 24 (0, 0))) := ⟨by rw [← hq_]; exact (pk_ BK113)⟩; have n2_ : Aside0 (Below w.heap.size w w35) := ⟨by rw [← hq_]; exact (pb_ HB)⟩; clear BK112 BK113 HB hq_; have BK112 := n0_; have BK113 := n1_; have HB := n2_; clear n0_ n1_ n2_)); have hcz36_0 := cz_ BK113 0 (.slice none 0 0); have hcz36_1 := cz_ BK113 1 (.int .i64 0); have hfz36_0 := blk_frozen BK113.out 0; have hfz36_1 := blk_frozen BK113.out 1))
  refine bodyPost_ret (results_ctt rfl _ _ gb113 24 #[.slice none 0 0, .int .i64 0] (0, 0) _ rfl (bq_ BK113) Tryd.underlying24 rfl (by kernel_rfl)) rfl ?_
  exact ⟨_, er_, by first | exact Kd.R_nil _ _ _ _ _ | exact Kd.N_nil _ _ _ _ _ | exact Kd.V_nil _ _ _ _ _ | exact Kd.Q_nil _ _ _ _ _ | exact Kd.S_nil _ _ _ _ _, pb_ HB⟩
 rw [if_neg c4] at H
 have c4b0 : (t115 == 0) = false := beq_eq_false_iff_ne.mpr c4
 have c4b1 : (t115 != 0) = true := bne_iff_ne.mpr c4
 simp only [Option.some.injEq, Prod.mk.injEq] at H
 obtain ⟨rfl, rfl, rfl, rfl⟩ := H
 go_enter Tryd.func14, Tryd.ntmps14
 go_wp2_with (first | ((with_reducible refine gate_dst (N := 2) rfl ?_); refine bx_ 2 #[.slice A0_0 l0_0.length c0_0, .int .i64 a0_1] 24 ?_; intro gb112 hg w37 hbox hb; have BK112 := Aside0.mk (hbox); have GW112 := gw_ hg HB; have GE112 := gw_ hg HB; replace HB := sb_ HB hb; clear hb hbox hg) | ((with_reducible refine gate_dst (N := 4) rfl ?_); refine bx_ 4 #[.slice none 0 0, .int .i64 0] 24 ?_; intro gb113 hg w38 hbox hb; have BK113 := Aside0.mk (hbox); have GW113 := gw_ hg HB; have GE113 := gw_ hg HB; replace HB := sb_ HB hb; have NB112_113 := nl_ hg BK112; have NB113_112 := ng_ hg BK112; replace BK112 := kb_ BK112 hb; clear hb hbox hg; have hnb39 := NB112_113.out; have hnc39 := NB113_112.out; have hcz40_0 := cz_ BK112 0 (.slice A0_0 l0_0.length c0_0); have hcz40_1 := cz_ BK112 1 (.int .i64 a0_1); have hfz40_0 := blk_frozen BK112.out 0; have hfz40_1 := blk_frozen BK112.out 1) | ((with_reducible refine gate_callee (f := 22) rfl ?_); refine gl_ 12 Tryd.func22 #[.agg #[.slice A0_0 l0_0.length c0_0, .int .i64 a0_1]] ?_; (with_reducible refine (segment_CheckStore.calls k _ _ l0_0 a0_1 t114 t115 _ ?side1 ?side2 A3.out).mono ?_); (case side1 => exact pc_ (Kd.C_below HR0_0.out HB.out)); (case side2 => exact HC0_0.out); rintro e w41 ⟨rfl, hb⟩; refine ⟨_, rfl, ?_⟩; replace BK112 := kb_ BK112 hb; replace BK113 := kb_ BK113 hb; replace HB := sb_ HB hb; (try clear hb); (try clear hb2); (try clear hk); (try clear hi); have hcz42_0 := cz_ BK113 0 (.slice none 0 0); have hcz42_1 := cz_ BK113 1 (.int .i64 0); have hfz42_0 := blk_frozen BK113.out 0; have hfz42_1 := blk_frozen BK113.out 1))
 refine bodyPost_ret (results_ctt rfl _ _ gb113 24 #[.slice none 0 0, .int .i64 0] (0, 0) _ rfl (bq_ BK113) Tryd.underlying24 rfl (by kernel_rfl)) rfl ?_
 exact ⟨_, er_, by first | exact Kd.R_nil _ _ _ _ _ | exact Kd.N_nil _ _ _ _ _ | exact Kd.V_nil _ _ _ _ _ | exact Kd.Q_nil _ _ _ _ _ | exact Kd.S_nil _ _ _ _ _, pb_ HB⟩
-- NOT PRINTED: function 28 (api_Segment_int)

def segment_find_1.f (a0_0 : Int) (a0_1 : ByteArray) (a1 : Int) : Option (Int) := some (wrap64 (a0_0 - a1))
set_option maxHeartbeats 8000000 in
set_option maxRecDepth 100000 in
theorem segment_find_1.calls (a0_0 : Int) (a0_1 : ByteArray) (a1 : Int) (r : Int) (w : World) (h : segment_find_1.f a0_0 a0_1 a1 = some r) :
    Calls Tryd.prog 29 #[.agg #[.int .i64 a0_0, .string a0_1], .int .i64 a1] w fun e w' => e = .returned (.int .i64 r) ∧ Below w.heap.size w w' := by
  have hu46 := Tryd.underlying46
  have HB := Aside0.mk (Below.refl w.heap.size w)
  have H : (some (wrap64 (a0_0 - a1))) = some r := h
  clear h
  obtain rfl := Option.some.inj H
  go_enter Tryd.func29, Tryd.ntmps29
  go_wp2_with (first | ((with_reducible refine gate_dst (N := 2) rfl ?_); refine bx_ 2 #[.int .i64 a0_0, .string a0_1] 46 ?_; intro gb124 hg w3 hbox hb; have BK124 := Aside0.mk (hbox); have GW124 := gw_ hg HB; have GE124 := gw_ hg HB; replace HB := sb_ HB hb; clear hb hbox hg; have hcz4_0 := cz_ BK124 0 (.int .i64 a0_0); have hcz4_1 := cz_ BK124 1 (.string a0_1); have hfz4_0 := blk_frozen BK124.out 0; have hfz4_1 := blk_frozen BK124.out 1))
  go_ret
  exact ⟨er_, pb_ HB⟩
def slices_BinarySearchFunc_at_segment_find_1.l0 : Nat → List (S46) → Int → Int → Int → Int → Option (Int × Bool)
  | 0, _, _, _, _, _ => none
  | k + 1, x0, x1, x8, x9, x10 => if x9 < x10 then (if 0 ≤ (wrap64 ((IntKind.u64.wrap (wrap64 (x9 + x10))) / 2)) then (if (wrap64 ((IntKind.u64.wrap (wrap64 (x9 + x10))) / 2)) < (x0.length : Int) then ((segment_find_1.f ((rd_T46 x0 (wrap64 ((IntKind.u64.wrap (wrap64 (x9 + x10))) / 2))).f0) ((rd_T46 x0 (wrap64 ((IntKind.u64.wrap (wrap64 (x9 + x10))) / 2))).f1) x1).bind fun t126 => (if t126 < 0 then (slices_BinarySearchFunc_at_segment_find_1.l0 k x0 x1 x8 (wrap64 ((wrap64 ((IntKind.u64.wrap (wrap64 (x9 + x10))) / 2)) + 1)) x10) else (slices_BinarySearchFunc_at_segment_find_1.l0 k x0 x1 x8 x9 (wrap64 ((IntKind.u64.wrap (wrap64 (x9 + x10))) / 2))))) else (none)) else (none)) else (if x9 < x8 then (if 0 ≤ x9 then (if x9 < (x0.length : Int) then ((segment_find_1.f ((rd_T46 x0 x9).f0) ((rd_T46 x0 x9).f1) x1).bind fun t128 => (some (x9, (t128 == 0)))) else (none)) else (none)) else (some (x9, false)))
def slices_BinarySearchFunc_at_segment_find_1.f (k : Nat) (l0 : List (S46)) (a1 : Int)  : Option (Int × Bool) := slices_BinarySearchFunc_at_segment_find_1.l0 k l0 a1 (l0.length : Int) 0 (l0.length : Int)
theorem slices_BinarySearchFunc_at_segment_find_1.mono_l : ∀ k, (∀ y0 y1 y2 y3 y4, LeO (slices_BinarySearchFunc_at_segment_find_1.l0 k y0 y1 y2 y3 y4) (slices_BinarySearchFunc_at_segment_find_1.l0 (k + 1) y0 y1 y2 y3 y4))
 | 0 => fun _ _ _ _ _ r h => by simp [slices_BinarySearchFunc_at_segment_find_1.l0] at h
 | k + 1 => by
  have ih0 := slices_BinarySearchFunc_at_segment_find_1.mono_l k
  intro y0 y1 y2 y3 y4
  unfold slices_BinarySearchFunc_at_segment_find_1.l0
  repeat' first
  | (with_reducible exact ih0 _ _ _ _ _)
  | (with_reducible exact LeO.refl _)
  | (with_reducible exact LeO.none _)
  | (with_reducible refine LeO.ite ?_ ?_)
  | (with_reducible refine LeO.bind ?_ (fun _ => ?_))
  | exact ih0 _ _ _ _ _
  | exact LeO.none _
  | refine LeO.ite ?_ ?_
  | refine LeO.bind ?_ (fun _ => ?_)
theorem slices_BinarySearchFunc_at_segment_find_1.mono : ∀ a0 a1 k, LeO (slices_BinarySearchFunc_at_segment_find_1.f k a0 a1) (slices_BinarySearchFunc_at_segment_find_1.f (k + 1) a0 a1) := by
 intro a0 a1 k
 have ih0 := slices_BinarySearchFunc_at_segment_find_1.mono_l k
 unfold slices_BinarySearchFunc_at_segment_find_1.f
 repeat' first
  | (with_reducible exact ih0 _ _ _ _ _)
  | (with_reducible exact LeO.refl _)
  | (with_reducible exact LeO.none _)
  | (with_reducible refine LeO.ite ?_ ?_)
  | (with_reducible refine LeO.bind ?_ (fun _ => ?_))
  | exact ih0 _ _ _ _ _
  | exact LeO.none _
  | refine LeO.ite ?_ ?_
  | refine LeO.bind ?_ (fun _ => ?_)
set_option maxHeartbeats 8000000 in
set_option maxRecDepth 100000 in
theorem slices_BinarySearchFunc_at_segment_find_1.calls (k : Nat) (A0 : Option Addr) (c0 : Nat) (l0 : List (S46)) (a1 : Int)  (r1 : Int) (r2 : Bool) (w : World) (hr0 : Kd.C k46 w A0 l0.length l0) (hc0 : l0.length ≤ c0) (h : slices_BinarySearchFunc_at_segment_find_1.f k l0 a1 = some (r1, r2)) :
  Calls Tryd.prog 28 #[.slice A0 l0.length c0, .int .i64 a1, .func (.func 29) #[] #[]] w fun e w' => e = .returned (.tuple #[.int .i64 r1, .bool r2]) ∧ Below w.heap.size w w' := by
 have hu46 := Tryd.underlying46
 have HR0 := Aside0.mk hr0
 have HC0 := Aside0.mk hc0
 clear hr0 hc0
 have HB := Aside0.mk (Below.refl w.heap.size w)
 have H : (slices_BinarySearchFunc_at_segment_find_1.l0 k l0 a1 (l0.length : Int) 0 (l0.length : Int)) = some (r1, r2) := h
 clear h
 have H' := Aside0.mk H
 clear H
 go_enter Tryd.func28, Tryd.ntmps28
 go_wp2
 go_loopg [9, 10] k (fun kq v9 v10 w' => ∃ (x9_1 : Int) (x10_1 : Int), v9 = .int .i64 x9_1 ∧ v10 = .int .i64 x10_1 ∧ Aside0 (slices_BinarySearchFunc_at_segment_find_1.l0 kq l0 a1 (l0.length : Int) x9_1 x10_1 = some (r1, r2)) ∧ Aside0 (kq ≤ k) ∧ Aside0 (Below w.heap.size w w'))
 case atStart => exact ⟨(0), ((l0.length : Int)), rl_, rl_, H', ⟨Nat.le_refl _⟩, ⟨pb_ HB⟩⟩
 case round =>
  clear H'
  try clear c1
  try clear p2
  obtain ⟨x9_1, x10_1, rfl, rfl, HA, HK1, HB⟩ := hrel
  cases gk with
  | zero => exact absurd HA.out (by simp [slices_BinarySearchFunc_at_segment_find_1.l0])
  | succ k1 =>
   have H := HA.out
   clear HA
   simp only [slices_BinarySearchFunc_at_segment_find_1.l0] at H
   by_cases c4 : x9_1 < x10_1
   ·
    rw [if_pos c4] at H
    have c4b0 : decide (x9_1 < x10_1) = true := decide_eq_true c4
    clear c4
    obtain ⟨ji5, hji5⟩ : ∃ j_ : Int, (wrap64 ((IntKind.u64.wrap (wrap64 (x9_1 + x10_1))) / 2)) = j_ := ⟨_, rfl⟩
    replace H : (if 0 ≤ (ji5) then (if (ji5) < (l0.length : Int) then ((segment_find_1.f ((rd_T46 l0 (ji5)).f0) ((rd_T46 l0 (ji5)).f1) a1).bind fun t126 => (if t126 < 0 then (slices_BinarySearchFunc_at_segment_find_1.l0 k1 l0 a1 (l0.length : Int) (wrap64 ((ji5) + 1)) x10_1) else (slices_BinarySearchFunc_at_segment_find_1.l0 k1 l0 a1 (l0.length : Int) x9_1 ji5))) else (none)) else (none)) = some (r1, r2) := by first | (rw [hji5] at H; exact H) | (simp only [hji5] at H ⊢; exact H)
    have hji5w : (IntKind.i64.wrap ((IntKind.u64.wrap (wrap64 (x9_1 + x10_1))) / 2)) = ji5 := (i64_w _).trans hji5
    by_cases c6 : 0 ≤ (ji5)
    ·
     rw [if_pos c6] at H
     have c6b0 : decide (0 ≤ (ji5)) = true := decide_eq_true c6
     clear c6
     by_cases c7 : (ji5) < (l0.length : Int)
     ·
      rw [if_pos c7] at H
      have c7b0 : decide ((ji5) < (l0.length : Int)) = true := decide_eq_true c7
      clear c7
      replace H := Option.bind_eq_some_iff.mp H
      obtain ⟨t126, A80, H⟩ := H
      replace H : (if t126 < 0 then (slices_BinarySearchFunc_at_segment_find_1.l0 k1 l0 a1 (l0.length : Int) (wrap64 ((ji5) + 1)) x10_1) else (slices_BinarySearchFunc_at_segment_find_1.l0 k1 l0 a1 (l0.length : Int) x9_1 ji5)) = some (r1, r2) := H
      have A8 := Aside0.mk A80
      clear A80
      by_cases c9 : t126 < 0
      ·
       rw [if_pos c9] at H
       have c9b0 : decide (t126 < 0) = true := decide_eq_true c9
       clear c9
       have H' := Aside0.mk H
       clear H
       have p125 : 0 ≤ ((ji5) : Int) := ct_
       have q125 : (ji5) < (l0.length : Int) := ct_
       obtain ⟨ad125, e125, hx125_0, hx125_1⟩ := at_T46 HR0.out (ji5) p125 q125
       cases e125
       replace hx125_0 := pw_cell_below HB.out hx125_0
       replace hx125_1 := pw_cell_below HB.out hx125_1
       replace p125 := eq_true p125
       replace q125 := eq_true q125
       go_wp2_with (first | (go_at_call 29; (with_reducible refine (segment_find_1.calls ((rd_T46 l0 (ji5)).f0) ((rd_T46 l0 (ji5)).f1) a1 t126 _ A8.out).mono ?_); rintro e w10 ⟨rfl, hb⟩; replace HB := sb_ HB hb; (try clear hb); (try clear hb2); (try clear hk); (try clear hi)))
       go_roundg k1
       case measure => have := HK1.out; omega
       case rel => exact ⟨(wrap64 ((ji5) + 1)), (x10_1), (by first | rfl | (simp; done) | (simp only [← hji5] <;> (first | rfl | simp)) | (simp [*]; done)), rl_, H', ⟨by have := HK1.out; omega⟩, ⟨pb_ HB⟩⟩
      rw [if_neg c9] at H
      have c9b0 : decide (t126 < 0) = false := decide_eq_false c9
      clear c9
      have H' := Aside0.mk H
      clear H
      have p125 : 0 ≤ ((ji5) : Int) := ct_
      have q125 : (ji5) < (l0.length : Int) := ct_
      obtain ⟨ad125, e125, hx125_0, hx125_1⟩ := at_T46 HR0.out (ji5) p125 q125
      cases e125
      replace hx125_0 := pw_cell_below HB.out hx125_0
      replace hx125_1 := pw_cell_below HB.out hx125_1
      replace p125 := eq_true p125
      replace q125 := eq_true q125
      go_wp2_with (first | (go_at_call 29; (with_reducible refine (segment_find_1.calls ((rd_T46 l0 (ji5)).f0) ((rd_T46 l0 (ji5)).f1) a1 t126 _ A8.out).mono ?_); rintro e w11 ⟨rfl, hb⟩; replace HB := sb_ HB hb; (try clear hb); (try clear hb2); (try clear hk); (try clear hi)))
      go_roundg k1
      case measure => have := HK1.out; omega
      case rel => exact ⟨(x9_1), (ji5), rl_, (by first | rfl | (simp; done) | (simp only [← hji5] <;> (first | rfl | simp)) | (simp [*]; done)), H', ⟨by have := HK1.out; omega⟩, ⟨pb_ HB⟩⟩
     rw [if_neg c7] at H
     exact absurd H (by simp)
    rw [if_neg c6] at H
    exact absurd H (by simp)
   rw [if_neg c4] at H
   have c4b0 : decide (x9_1 < x10_1) = false := decide_eq_false c4
   clear c4
   by_cases c12 : x9_1 < (l0.length : Int)
   ·
    rw [if_pos c12] at H
    have c12b0 : decide (x9_1 < (l0.length : Int)) = true := decide_eq_true c12
    clear c12
    by_cases c13 : 0 ≤ x9_1
    ·
     rw [if_pos c13] at H
     have c13b0 : decide (0 ≤ x9_1) = true := decide_eq_true c13
     clear c13
     by_cases c14 : x9_1 < (l0.length : Int)
     ·
      rw [if_pos c14] at H
      have c14b0 : decide (x9_1 < (l0.length : Int)) = true := decide_eq_true c14
      clear c14
      replace H := Option.bind_eq_some_iff.mp H
      obtain ⟨t128, A150, H⟩ := H
      replace H : (some (x9_1, (t128 == 0))) = some (r1, r2) := H
      have A15 := Aside0.mk A150
      clear A150
      simp only [Option.some.injEq, Prod.mk.injEq] at H
      obtain ⟨rfl, rfl⟩ := H
      have p127 : 0 ≤ (x9_1 : Int) := ct_
      have q127 : x9_1 < (l0.length : Int) := ct_
      obtain ⟨ad127, e127, hx127_0, hx127_1⟩ := at_T46 HR0.out x9_1 p127 q127
      cases e127
      replace hx127_0 := pw_cell_below HB.out hx127_0
      replace hx127_1 := pw_cell_below HB.out hx127_1
      replace p127 := eq_true p127
      replace q127 := eq_true q127
      go_wp2_with (first | (go_at_call 29; (with_reducible refine (segment_find_1.calls ((rd_T46 l0 x9_1).f0) ((rd_T46 l0 x9_1).f1) a1 t128 _ A15.out).mono ?_); rintro e w16 ⟨rfl, hb⟩; replace HB := sb_ HB hb; (try clear hb); (try clear hb2); (try clear hk); (try clear hi)))
      go_ret2
      exact ⟨er_, pb_ HB⟩
     rw [if_neg c14] at H
     exact absurd H (by simp)
    rw [if_neg c13] at H
    exact absurd H (by simp)
   rw [if_neg c12] at H
   have c12b0 : decide (x9_1 < (l0.length : Int)) = false := decide_eq_false c12
   clear c12
   simp only [Option.some.injEq, Prod.mk.injEq] at H
   obtain ⟨rfl, rfl⟩ := H
   go_wp2
   go_ret2
   exact ⟨er_, pb_ HB⟩
def segment_find.f (k : Nat) (l0_0 : List (S46)) (a0_1 : Int) (a1 : Int) : Option (Int × Int) := (segment_CheckStore.f k l0_0 a0_1).bind fun bt130 => (if bt130.2 = 0 then ((slices_BinarySearchFunc_at_segment_find_1.f k l0_0 a1).bind fun bt132 => (if bt132.2 = true then (some (bt132.1, 0)) else ((segment_within.f a1 1 (wrap64 (a0_1 - 1))).bind fun t134 => (if t134 = true then (some (0, 24)) else (some (0, 11)))))) else (some (0, bt130.2)))
theorem segment_find.mono : ∀ a0 a1 a2 k, LeO (segment_find.f k a0 a1 a2) (segment_find.f (k + 1) a0 a1 a2) := by
 intro a0 a1 a2 k
 unfold segment_find.f
 repeat' first
  | (with_reducible exact segment_CheckStore.mono _ _ _)
  | (with_reducible exact slices_BinarySearchFunc_at_segment_find_1.mono _ _ _)
  | (with_reducible exact LeO.refl _)
  | (with_reducible exact LeO.none _)
  | (with_reducible refine LeO.ite ?_ ?_)
  | (with_reducible refine LeO.bind ?_ (fun _ => ?_))
  | exact segment_CheckStore.mono _ _ _
  | exact slices_BinarySearchFunc_at_segment_find_1.mono _ _ _
  | exact LeO.none _
  | refine LeO.ite ?_ ?_
  | refine LeO.bind ?_ (fun _ => ?_)
set_option maxHeartbeats 8000000 in
set_option maxRecDepth 100000 in
theorem segment_find.calls (k : Nat) (A0_0 : Option Addr) (c0_0 : Nat) (l0_0 : List (S46)) (a0_1 : Int) (a1 : Int) (r1 : Int) (r2 : Int) (w : World) (hr0_0 : Kd.C k46 w A0_0 l0_0.length l0_0) (hc0_0 : l0_0.length ≤ c0_0) (h : segment_find.f k l0_0 a0_1 a1 = some (r1, r2)) :
  Calls Tryd.prog 16 #[.agg #[.slice A0_0 l0_0.length c0_0, .int .i64 a0_1], .int .i64 a1] w fun e w' => e = .returned (.tuple #[.int .i64 r1, .int .i64 r2]) ∧ Below w.heap.size w w' := by
 have hu24 := Tryd.underlying24
 have HR0_0 := Aside0.mk hr0_0
 have HC0_0 := Aside0.mk hc0_0
 clear hr0_0 hc0_0
 have HB := Aside0.mk (Below.refl w.heap.size w)
 have H : ((segment_CheckStore.f k l0_0 a0_1).bind fun bt130 => (if bt130.2 = 0 then ((slices_BinarySearchFunc_at_segment_find_1.f k l0_0 a1).bind fun bt132 => (if bt132.2 = true then (some (bt132.1, 0)) else ((segment_within.f a1 1 (wrap64 (a0_1 - 1))).bind fun t134 => (if t134 = true then (some (0, 24)) else (some (0, 11)))))) else (some (0, bt130.2)))) = some (r1, r2) := h
 clear h
 replace H := Option.bind_eq_some_iff.mp H
 obtain ⟨⟨t130, t131⟩, A30, H⟩ := H
 replace H : (if t131 = 0 then ((slices_BinarySearchFunc_at_segment_find_1.f k l0_0 a1).bind fun bt132 => (if bt132.2 = true then (some (bt132.1, 0)) else ((segment_within.f a1 1 (wrap64 (a0_1 - 1))).bind fun t134 => (if t134 = true then (some (0, 24)) else (some (0, 11)))))) else (some (0, t131))) = some (r1, r2) := H
 have A3 := Aside0.mk A30
 clear A30
 by_cases c4 : t131 = 0
 ·
  rw [if_pos c4] at H
  have c4b0 : (t131 == 0) = true := beq_iff_eq.mpr c4
  have c4b1 : (t131 != 0) = false := bne_eq_false_iff_eq.mpr c4
  clear c4
  replace H := Option.bind_eq_some_iff.mp H
  obtain ⟨⟨t132, t133⟩, A50, H⟩ := H
  replace H : (if t133 = true then (some (t132, 0)) else ((segment_within.f a1 1 (wrap64 (a0_1 - 1))).bind fun t134 => (if t134 = true then (some (0, 24)) else (some (0, 11))))) = some (r1, r2) := H
  have A5 := Aside0.mk A50
  clear A50
  by_cases c6 : t133 = true
  ·
   subst c6
   have H1 : (some (t132, 0)) = some (r1, r2) := by rw [if_pos rfl] at H; exact H
   clear H
   have H := H1
   clear H1
   simp only [Option.some.injEq, Prod.mk.injEq] at H
   obtain ⟨rfl, rfl⟩ := H
   go_enter Tryd.func16, Tryd.ntmps16
   go_wp2_with (first | ((with_reducible refine gate_dst (N := 2) rfl ?_); refine bx_ 2 #[.slice A0_0 l0_0.length c0_0, .int .i64 a0_1] 24 ?_; intro gb129 hg w7 hbox hb; have BK129 := Aside0.mk (hbox); have GW129 := gw_ hg HB; have GE129 := gw_ hg HB; replace HB := sb_ HB hb; clear hb hbox hg; have hcz8_0 := cz_ BK129 0 (.slice A0_0 l0_0.length c0_0); have hcz8_1 := cz_ BK129 1 (.int .i64 a0_1); have hfz8_0 := blk_frozen BK129.out 0; have hfz8_1 := blk_frozen BK129.out 1) | ((with_reducible refine gate_callee (f := 22) rfl ?_); refine gl_ 12 Tryd.func22 #[.agg #[.slice A0_0 l0_0.length c0_0, .int .i64 a0_1]] ?_; (with_reducible refine (segment_CheckStore.calls k _ _ l0_0 a0_1 t130 t131 _ ?side1 ?side2 A3.out).mono ?_); (case side1 => exact pc_ (Kd.C_below HR0_0.out HB.out)); (case side2 => exact HC0_0.out); rintro e w9 ⟨rfl, hb⟩; refine ⟨_, rfl, ?_⟩; replace BK129 := kb_ BK129 hb; replace HB := sb_ HB hb; (try clear hb); (try clear hb2); (try clear hk); (try clear hi); have hcz10_0 := cz_ BK129 0 (.slice A0_0 l0_0.length c0_0); have hcz10_1 := cz_ BK129 1 (.int .i64 a0_1); have hfz10_0 := blk_frozen BK129.out 0; have hfz10_1 := blk_frozen BK129.out 1) | ((with_reducible refine gate_callee (f := 28) rfl ?_); refine gl_ 22 Tryd.func28 #[.slice A0_0 l0_0.length c0_0, .int .i64 a1, .func (.func 29) #[] #[]] ?_; (with_reducible refine (slices_BinarySearchFunc_at_segment_find_1.calls k _ _ l0_0 a1  t132 true _ ?side1 ?side2 A5.out).mono ?_); (case side1 => exact pc_ (Kd.C_below HR0_0.out HB.out)); (case side2 => exact HC0_0.out); rintro e w11 ⟨rfl, hb⟩; refine ⟨_, rfl, ?_⟩; replace BK129 := kb_ BK129 hb; replace HB := sb_ HB hb; (try clear hb); (try clear hb2); (try clear hk); (try clear hi)))
   go_ret2
   exact ⟨er_, pb_ HB⟩
  replace c6 := Bool.eq_false_iff.mpr c6
  subst c6
  have H1 : ((segment_within.f a1 1 (wrap64 (a0_1 - 1))).bind fun t134 => (if t134 = true then (some (0, 24)) else (some (0, 11)))) = some (r1, r2) := by rw [if_neg (show ¬ (false = true) by decide)] at H; exact H
  clear H
  have H := H1
  clear H1
  replace H := Option.bind_eq_some_iff.mp H
  obtain ⟨t134, A120, H⟩ := H
  replace H : (if t134 = true then (some (0, 24)) else (some (0, 11))) = some (r1, r2) := H
  have A12 := Aside0.mk A120
  clear A120
  by_cases c13 : t134 = true
  ·
   subst c13
   have H1 : (some (0, 24)) = some (r1, r2) := by rw [if_pos rfl] at H; exact H
   clear H
   have H := H1
   clear H1
   simp only [Option.some.injEq, Prod.mk.injEq] at H
   obtain ⟨rfl, rfl⟩ := H
   go_enter Tryd.func16, Tryd.ntmps16
   go_wp2_with (first | ((with_reducible refine gate_dst (N := 2) rfl ?_); refine bx_ 2 #[.slice A0_0 l0_0.length c0_0, .int .i64 a0_1] 24 ?_; intro gb129 hg w14 hbox hb; have BK129 := Aside0.mk (hbox); have GW129 := gw_ hg HB; have GE129 := gw_ hg HB; replace HB := sb_ HB hb; clear hb hbox hg; have hcz15_0 := cz_ BK129 0 (.slice A0_0 l0_0.length c0_0); have hcz15_1 := cz_ BK129 1 (.int .i64 a0_1); have hfz15_0 := blk_frozen BK129.out 0; have hfz15_1 := blk_frozen BK129.out 1) | ((with_reducible refine gate_callee (f := 22) rfl ?_); refine gl_ 12 Tryd.func22 #[.agg #[.slice A0_0 l0_0.length c0_0, .int .i64 a0_1]] ?_; (with_reducible refine (segment_CheckStore.calls k _ _ l0_0 a0_1 t130 t131 _ ?side1 ?side2 A3.out).mono ?_); (case side1 => exact pc_ (Kd.C_below HR0_0.out HB.out)); (case side2 => exact HC0_0.out); rintro e w16 ⟨rfl, hb⟩; refine ⟨_, rfl, ?_⟩; replace BK129 := kb_ BK129 hb; replace HB := sb_ HB hb; (try clear hb); (try clear hb2); (try clear hk); (try clear hi); have hcz17_0 := cz_ BK129 0 (.slice A0_0 l0_0.length c0_0); have hcz17_1 := cz_ BK129 1 (.int .i64 a0_1); have hfz17_0 := blk_frozen BK129.out 0; have hfz17_1 := blk_frozen BK129.out 1) | ((with_reducible refine gate_callee (f := 28) rfl ?_); refine gl_ 22 Tryd.func28 #[.slice A0_0 l0_0.length c0_0, .int .i64 a1, .func (.func 29) #[] #[]] ?_; (with_reducible refine (slices_BinarySearchFunc_at_segment_find_1.calls k _ _ l0_0 a1  t132 false _ ?side1 ?side2 A5.out).mono ?_); (case side1 => exact pc_ (Kd.C_below HR0_0.out HB.out)); (case side2 => exact HC0_0.out); rintro e w18 ⟨rfl, hb⟩; refine ⟨_, rfl, ?_⟩; replace BK129 := kb_ BK129 hb; replace HB := sb_ HB hb; (try clear hb); (try clear hb2); (try clear hk); (try clear hi); have hcz19_0 := cz_ BK129 0 (.slice A0_0 l0_0.length c0_0); have hcz19_1 := cz_ BK129 1 (.int .i64 a0_1); have hfz19_0 := blk_frozen BK129.out 0; have hfz19_1 := blk_frozen BK129.out 1) | ((with_reducible refine gate_callee (f := 25) rfl ?_); refine gl_ 33 Tryd.func25 #[.int .i64 a1, .int .i64 1, .int .i64 (wrap64 (a0_1 - 1))] ?_; (with_reducible refine (segment_within.calls a1 1 (wrap64 (a0_1 - 1)) true _ A12.out).mono ?_); rintro e w' ⟨rfl, ⟨nd, rfl⟩⟩; refine ⟨_, rfl, ?_⟩))
   go_ret2
   exact ⟨er_, pb_ HB⟩
  replace c13 := Bool.eq_false_iff.mpr c13
  subst c13
  have H1 : (some (0, 11)) = some (r1, r2) := by rw [if_neg (show ¬ (false = true) by decide)] at H; exact H
  clear H
  have H := H1
  clear H1
  simp only [Option.some.injEq, Prod.mk.injEq] at H
  obtain ⟨rfl, rfl⟩ := H
  go_enter Tryd.func16, Tryd.ntmps16
  go_wp2_with (first | ((with_reducible refine gate_dst (N := 2) rfl ?_); refine bx_ 2 #[.slice A0_0 l0_0.length c0_0, .int .i64 a0_1] 24 ?_; intro gb129 hg w20 hbox hb; have BK129 := Aside0.mk (hbox); have GW129 := gw_ hg HB; have GE129 := gw_ hg HB; replace HB := sb_ HB hb; clear hb hbox hg; have hcz21_0 := cz_ BK129 0 (.slice A0_0 l0_0.length c0_0); have hcz21_1 := cz_ BK129 1 (.int .i64 a0_1); have hfz21_0 := blk_frozen BK129.out 0; have hfz21_1 := blk_frozen BK129.out 1) | ((with_reducible refine gate_callee (f := 22) rfl ?_); refine gl_ 12 Tryd.func22 #[.agg #[.slice A0_0 l0_0.length c0_0, .int .i64 a0_1]] ?_; (with_reducible refine (segment_CheckStore.calls k _ _ l0_0 a0_1 t130 t131 _ ?side1 ?side2 A3.out).mono ?_); (case side1 => exact pc_ (Kd.C_below HR0_0.out HB.out)); (case side2 => exact HC0_0.out); rintro e w22 ⟨rfl, hb⟩; refine ⟨_, rfl, ?_⟩; replace BK129 := kb_ BK129 hb; replace HB := sb_ HB hb; (try clear hb); (try clear hb2); (try clear hk); (try clear hi); have hcz23_0 := cz_ BK129 0 (.slice A0_0 l0_0.length c0_0); have hcz23_1 := cz_ BK129 1 (.int .i64 a0_1); have hfz23_0 := blk_frozen BK129.out 0; have hfz23_1 := blk_frozen BK129.out 1) | ((with_reducible refine gate_callee (f := 28) rfl ?_); refine gl_ 22 Tryd.func28 #[.slice A0_0 l0_0.length c0_0, .int .i64 a1, .func (.func 29) #[] #[]] ?_; (with_reducible refine (slices_BinarySearchFunc_at_segment_find_1.calls k _ _ l0_0 a1  t132 false _ ?side1 ?side2 A5.out).mono ?_); (case side1 => exact pc_ (Kd.C_below HR0_0.out HB.out)); (case side2 => exact HC0_0.out); rintro e w24 ⟨rfl, hb⟩; refine ⟨_, rfl, ?_⟩; replace BK129 := kb_ BK129 hb; replace HB := sb_ HB hb; (try clear hb); (try clear hb2); (try clear hk); (try clear hi); have hcz25_0 := cz_ BK129 0 (.slice A0_0 l0_0.length c0_0); have hcz25_1 := cz_ BK129 1 (.int .i64 a0_1); have hfz25_0 := blk_frozen BK129.out 0; have hfz25_1 := blk_frozen BK129.out 1) | ((with_reducible refine gate_callee (f := 25) rfl ?_); refine gl_ 33 Tryd.func25 #[.int .i64 a1, .int .i64 1, .int .i64 (wrap64 (a0_1 - 1))] ?_; (with_reducible refine (segment_within.calls a1 1 (wrap64 (a0_1 - 1)) false _ A12.out).mono ?_); rintro e w' ⟨rfl, ⟨nd, rfl⟩⟩; refine ⟨_, rfl, ?_⟩))
  go_ret2
  exact ⟨er_, pb_ HB⟩
 rw [if_neg c4] at H
 have c4b0 : (t131 == 0) = false := beq_eq_false_iff_ne.mpr c4
 have c4b1 : (t131 != 0) = true := bne_iff_ne.mpr c4
 simp only [Option.some.injEq, Prod.mk.injEq] at H
 obtain ⟨rfl, rfl⟩ := H
 go_enter Tryd.func16, Tryd.ntmps16
 go_wp2_with (first | ((with_reducible refine gate_dst (N := 2) rfl ?_); refine bx_ 2 #[.slice A0_0 l0_0.length c0_0, .int .i64 a0_1] 24 ?_; intro gb129 hg w26 hbox hb; have BK129 := Aside0.mk (hbox); have GW129 := gw_ hg HB; have GE129 := gw_ hg HB; replace HB := sb_ HB hb; clear hb hbox hg; have hcz27_0 := cz_ BK129 0 (.slice A0_0 l0_0.length c0_0); have hcz27_1 := cz_ BK129 1 (.int .i64 a0_1); have hfz27_0 := blk_frozen BK129.out 0; have hfz27_1 := blk_frozen BK129.out 1) | ((with_reducible refine gate_callee (f := 22) rfl ?_); refine gl_ 12 Tryd.func22 #[.agg #[.slice A0_0 l0_0.length c0_0, .int .i64 a0_1]] ?_; (with_reducible refine (segment_CheckStore.calls k _ _ l0_0 a0_1 t130 t131 _ ?side1 ?side2 A3.out).mono ?_); (case side1 => exact pc_ (Kd.C_below HR0_0.out HB.out)); (case side2 => exact HC0_0.out); rintro e w28 ⟨rfl, hb⟩; refine ⟨_, rfl, ?_⟩; replace BK129 := kb_ BK129 hb; replace HB := sb_ HB hb; (try clear hb); (try clear hb2); (try clear hk); (try clear hi)))
 go_ret2
 exact ⟨er_, pb_ HB⟩
def api_Segment_27.f (l0 : List (S46)) (a1 : Int) (a2 : Int) : Option (List (S46)) := if a2 = a1 + 1 then (if 0 ≤ a1 then (if a1 < (l0.length : Int) then (some (l0.eraseIdx a1.toNat)) else (none)) else (none)) else (none)
set_option maxHeartbeats 8000000 in
set_option maxRecDepth 100000 in
theorem api_Segment_27.calls (P0_ : Nat → Prop) (u9000_ : Value) (l0 : List (S46)) (a1 : Int) (a2 : Int) (r : List (S46)) (w0 w : World) (hB : Below w0.heap.size w0 w) (ho0 : Kd.R k46 46 w w0.heap.size P0_ u9000_ l0) (h : api_Segment_27.f l0 a1 a2 = some r) :
  Calls Tryd.prog 27 #[u9000_, .int .i64 a1, .int .i64 a2] w fun e w' => ∃ v0_ : Value, e = .returned (v0_) ∧ Kd.R k46 46 w' w0.heap.size (fun k_ => (P0_ k_ ∨ w.heap.size ≤ k_)) v0_ r ∧ Below w0.heap.size w0 w' ∧ Kept w w' (fun k_ => P0_ k_) := by
 unfold api_Segment_27.f at h
 by_cases c1 : a2 = a1 + 1
 case neg => rw [if_neg c1] at h; exact absurd h (by simp)
 rw [if_pos c1] at h
 by_cases c2 : 0 ≤ a1
 case neg => rw [if_neg c2] at h; exact absurd h (by simp)
 rw [if_pos c2] at h
 by_cases c3 : a1 < (l0.length : Int)
 case neg => rw [if_neg c3] at h; exact absurd h (by simp)
 rw [if_pos c3] at h
 obtain rfl := Option.some.inj h
 clear h
 obtain ⟨k, rfl⟩ : ∃ k : Nat, a1 = (k : Int) := ⟨a1.toNat, by omega⟩
 obtain rfl : a2 = ((k + 1 : Nat) : Int) := by omega
 clear c1 c2
 have hk : k < l0.length := by omega
 clear c3
 obtain ⟨m, hm⟩ : ∃ m, l0.length = m + 1 := ⟨l0.length - 1, by omega⟩
 obtain ⟨g, cap, rfl, hg1, hg2, _⟩ := Kd.R_form ho0 (by omega)
 rw [hm] at ho0 hk ⊢
 have hcap := (Kd.R_reads' ho0).2.1
 have hcm : cap ≤ 9223372036854775807 := by
  obtain ⟨inner, hown⟩ := Kd.R_own ho0
  rcases hown.2 with ⟨hv', _⟩ | ⟨g', cap', cur, hv', hb, hh, hle, hcm, hcs, htake⟩
  · cases hv'
  injection hv' with _ _ hc
  subst hc
  exact hcm
 obtain ⟨i0, hi, hsz⟩ : ∃ i0, Tryd.prog.info? 46 = some i0 ∧ i0.size = k46.sz := Option.map_eq_some_iff.1 (by kernel_rfl)
 have hA : (if cap = k + 1 then some (⟨g, 0, none⟩ : Addr) else some ⟨g, (k + 1) * 2, none⟩) = if cap = k + 1 then some (⟨g, 0, none⟩ : Addr) else (some (⟨g, 0, none⟩ : Addr)).map (·.add ((k + 1) * k46.sz)) := by
  rw [Option.map_some, add_plain]
  rfl
 obtain ⟨w1, hr1, hR1, hG1⟩ := Kd.R_delete_run (P := Tryd.prog) k46 w0.heap.size 22 22 46 i0 Tryd.underlying22 hi hsz (W := w.drew) (show Kd.R k46 46 w.drew w0.heap.size P0_ _ l0 from ho0) hk hA (cap - (k + 1))
 rw [Nat.add_sub_cancel, Nat.add_sub_add_right] at hr1
 rw [Nat.add_sub_cancel] at hR1
 obtain ⟨w2, hr2, hR2, hG2⟩ := R_clear_run (P := Tryd.prog) k46 w0.heap.size 22 0 46 (.agg #[(.int .i64 0), (.string ⟨#[]⟩)]) Tryd.underlying22 (fun w => by kernel_rfl) (by rfl) (by decide) hR1 (by omega) (cap - m)
 have HR2 := Aside0.mk hR2
 replace hr2 : (Builtin.clear_ #[22] 0 #[.slice (some ⟨g, m * 2, none⟩) 1 (cap - m)]).run Tryd.prog w1 = .ok (.tuple #[]) w2 := hr2
 have HG := Aside0.mk (show Kept w w2 (fun k_ => P0_ k_) from Kept.of_grown hG2 (Kept.of_grown hG1 (Kept.drew (Kept.refl w _)) (fun k e => .inl (hR1.1 k (by rw [← e]; simp [Value.ownBlock])))) (fun k e => .inl (hR1.1 k (by rw [← e]; simp [Value.ownBlock]))))
 have HBW := Aside0.mk (show Below w0.heap.size w0 w2 from ((below_drew hB).grown hG1 (by exact hB.size) (fun k e => by injection e with e; omega)).grown hG2 (by have := hG1.size; have := hB.size; exact Nat.le_trans hB.size hG1.size) (fun k e => by injection e with e; omega))
 have HE := Aside0.mk hm
 clear hR1 hR2 hG1 hG2 ho0 hB hi hsz hm hA hg1 hg2 hcm
 have hkc : k ≤ cap := by omega
 have hp1 : (0 : Int) ≤ (k : Int) + 1 := by omega
 have hkm0 : k ≤ m := by omega
 have hkm : k + 1 ≤ m + 1 := by omega
 have hmc : m ≤ cap := by omega
 have hmc1 : m + 1 ≤ cap := by omega
 have hkc1 : k + 1 ≤ cap := by omega
 go_enter Tryd.func27, Tryd.ntmps27
 go_wp2_with fail
 go_region_law (refine step_append_run rfl (.tmp 22) (.tmp 25) 22 rfl (by simp [Act.eval, Act.put]) (by simp [Act.eval, Act.put]) hr1 ?_)
 go_wp2_with ((with_reducible refine gate_builtin (b := .clear) (xs := #[.tmp 31]) rfl ?_); refine list_clear_run rfl (.tmp 31) 22 rfl (by simp [Act.eval]) hr2 ?_)
 all_goals
  go_ret
  have HR3 := Kd.R_mono (ok' := fun k_ => (P0_ k_ ∨ w.heap.size ≤ k_)) HR2.out (fun k hk => .inl hk)
  first
  | exact ⟨_, rfl, HR3, HBW.out, HG.out⟩
  | (rw [show cap = k + 1 by assumption] at HR3; exact ⟨_, rfl, HR3, HBW.out, HG.out⟩)
end Go.Proofs.YtoabahlaicgmjaaDoor.X
end
